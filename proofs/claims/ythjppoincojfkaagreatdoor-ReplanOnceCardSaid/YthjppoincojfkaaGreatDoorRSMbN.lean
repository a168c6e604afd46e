import Derived.Test.YthjppoincojfkaaGreatDoorRSMbB
set_option linter.all false
set_option maxRecDepth 100000
set_option maxHeartbeats 64000000
namespace Go.Proofs.YthjppoincojfkaaGreatDoor
open Go Go.Abs
def Om:ByteArray:=⟨#[32]⟩
def jS{α:Type}(l:List α):l=[]\/∃L b,l=L++[b]:=by
 rcases zzhc l with h|⟨L,b,h⟩
 ·exact .inl h
 exact .inr ⟨L,b,by rw[h,zzhd]⟩
def Lh(ey:List ByteArray)(w:ByteArray):List ByteArray:=match ey.getLast? with
 |some r=>if r.size+1+w.size<=32 then ey.dropLast++[r++(Om++w)]else ey++[w]
 |none=>[w]
theorem ym(w:ByteArray):Lh [] w=[w]:=rfl
def rA(pre:List ByteArray)(r w:ByteArray):Lh (pre++[r]) w=if r.size+1+w.size<=32 then pre++[r++(Om++w)]else pre++[r]++[w]:=by simp[Lh]
def lay:List ByteArray->List ByteArray->Option (List ByteArray)
 |ey,[]=>some ey
 |ey,w::r=>if 32<w.size then none else lay (Lh ey w) r
def Dt:∀(a b ey:List ByteArray),lay ey (a++b)=(lay ey a).bind fun x=>lay x b
 |[],_,_=>rfl
 |w::r,b,ey=>by
  simp only[zzae,lay];split
  ·rfl
  exact Dt r b _
def Du(s:ByteArray):∀(n i:Nat)(first:Option Nat),(YZ s n i first).length<=n+1
 |0,i,first=>by rw[YZ];cases first<;>simp[sZ]
 |n+1,i,first=>by
  rw[YZ];split
  ·have:=Du s n (i+1) (some (first.getD i));omega
  have:=Du s n (i+1) none;rw[zzak];have h2:(sZ s i first).length<=1:=by cases first<;>simp[sZ]
  omega
def Y9(a b:ByteArray):(a++b).size=a.size+b.size:=zd
def aeV{ey:List ByteArray}{w:ByteArray}(h:∀r∈ey,r.size<=32)(hw:w.size<=32):∀r∈Lh ey w,r.size<=32:=by
 rcases jS ey with rfl|⟨pre,r,rfl⟩
 ·intro x hx;simp[ym]at hx;subst hx;exact hw
 rw[rA];split
 ·intro x hx;rcases zzao.1 hx with hx|hx
  ·exact h x (by simp[hx])
  simp only[zzcg]at hx;subst hx;rw[Y9,Y9];have:Om.size=1:=rfl;omega
 intro x hx;rcases zzao.1 hx with hx|hx
 ·exact h x hx
 simp only[zzcg]at hx;subst hx;exact hw
def Zs(ey:List ByteArray)(w:ByteArray):(Lh ey w).length<=ey.length+1:=by
 rcases jS ey with rfl|⟨pre,r,rfl⟩
 ·simp[ym]
 rw[rA];split<;>simp
def mz(s:ByteArray):Option (List ByteArray):=if 200<s.size\/YY s=false then none else match lay [] (nN s)with
 |some l=>if l=[]\/4<l.length then none else some l
 |none=>none
def Ku(l:List ByteArray):P2:=l.map AV.str
def Li(r:ByteArray):P2:=[.str r]
def mA:Option (List ByteArray)->AV
 |none=>.aS [.sl .nil [],.bool false]
 |some l=>.aS [.sl .ro (l.map Li),.bool true]
def RV(ey:List ByteArray)(V:AV)(rest:T5):Prop:=(ey=[]/\V=.sl .nil [])\/(ey≠[]/\∃k,V=.bs (k+3) 0 ey.length 1/\k<rest.length/\Qh rest k=Ku ey)
def asm(q:List ByteArray)(i:Nat)(m:AM):Prop:=∃(ey:List ByteArray)(rest:T5)(V:AV),lay [] (q.take i)=some ey/\(∀r∈ey,r.size<=32)/\ey.length<=i/\m.boxes=[.sl .nil []]::[.bool false]::[V]::rest/\RV ey V rest
def axt(q:List ByteArray)(ex:Exit)(m:AM):Prop:=ex=.ret/\lay [] q=none/\∃rest,m.boxes=[.sl .nil []]::[.bool false]::rest
def Bt(s:ByteArray):UV:=fun d f _=>if f=999999 then(if d=49 then .aJ 0 []else .junk)else if f=158 then .bool (YY s)else .fn 211 [] [.ep [.str s] 0]
def Lj(l:List ByteArray):aY 1 l.length (Ku l)=l.map Li:=by
 induction l with
 |nil=>rfl
 |cons a r ih=>
  show aY 1 (r.length+1) (AV.str a::Ku r)=_;rw[yf];simp[ih,Li]
def GJ(m:AM)(d:Nat)(l:List ByteArray):(Ku l).map (bA m (d+1))=Ku l:=by
 induction l with
 |nil=>rfl
 |cons a r ih=>simp[Ku]at ih |-
def RV.ext{ey:List ByteArray}{V:AV}{rest:T5}(h:RV ey V rest)(ex:T5):RV ey V (rest++ex):=by
 obtain h|⟨h1,k,h2,h3,h4⟩:=h
 ·exact .inl h
 exact .inr ⟨h1,k,h2,by simp;omega,by rw[Qn h3,h4]⟩
def Q9(s:ByteArray):Pure Tryz.prog aD 100 [.str s] (mA (mz s)):=by
 refine Qp ME (Bt s) zd ?_;by_cases h2:200<s.size
 ·have Nv:(200:Int)<(s.size:Int):=zE
  have:mz s=none:=by rw[mz,if_pos (.inl h2)]
  rw[this];simp[Es,r8,Nv,mA]
 have Nv:¬(200:Int)<(s.size:Int):=zE
 have kp:=yh s zE;have kw:=Lc s;have kit:=Ld s zE;cases hp:YY s with
 |false=>
  rw[hp]at kp;have:mz s=none:=by rw[mz,if_pos (.inr hp)]
  rw[this];simp[Es,r8,Nv,mA,Bt,hp];exact kp
 |true=>
  rw[hp]at kp
  have zU:mz s=match lay [] (nN s)with
   |some l=>if l=[]\/4<l.length then none else some l
   |none=>none:=by rw[mz,if_neg (by simp[hp];omega)]
  rw[zU];have hql:(nN s).length<=201:=by have:=Du s s.size 0 none;unfold nN;omega
  generalize nN s=q at kit hql;simp[Es,Nv,Bt,hp];refine⟨kp,kw,?_⟩;refine jx (xs:=q.map fun w=>[.str w]) zd kit (by intro x hx;simp at hx;obtain⟨a,_,rfl⟩:=hx;rfl) (asm q) (axt q) ?_ ?_ ?_ ?_ ?_ ?_
  ·exact⟨[],[],.sl .nil [],rfl,fun _ h=>(by cases h),zd,zd,.inl ⟨rfl,rfl⟩⟩
  ·rintro i m m' ⟨ey,rest,V,g1,g2,g3,g4,g5⟩ ⟨⟨b2,e2⟩,_,_⟩;exact⟨ey,rest++b2,V,g1,g2,g3,by rw[e2,g4];simp,g5.ext b2⟩
  ·rintro ex m m' ⟨g1,g2,rest,g3⟩ ⟨⟨b2,e2⟩,_,_⟩;exact⟨g1,g2,rest++b2,by rw[e2,g3];simp⟩
  ·rintro l1 i m x hg hr ⟨ey,rest,V,g1,g2,g3,g4,g5⟩ hx K' k1 k2 k3
   obtain⟨w,hy,rfl⟩:∃w,q[i]?=some w/\[AV.str w]=x:=by
    rw[zzbm]at hx;cases hq:q[i]? with
    |none=>rw[hq]at hx;cases hx
    |some y=>rw[hq]at hx;exact⟨y,rfl,Option.some.inj hx⟩
   have ah:i<q.length:=(zza.1 hy).1;have bB:q.take (i+1)=q.take i++[w]:=by rw[zzb,hy];rfl
   have gP:lay [] (q.take (i+1))=if 32<w.size then none else some (Lh ey w):=by
    rw[bB,Dt,g1];simp[lay]
   rw[Jm]at g4;obtain⟨mb,ml,ms,mn⟩:=m;simp only at g4 hr;subst g4;by_cases hw:32<w.size
   ·have hw':(32:Int)<(w.size:Int):=zE
    simp[Zr,hr,hw'];refine k2 _ ⟨rfl,?_,_,rfl⟩;have hq:q=q.take (i+1)++q.drop (i+1):=(zzec _ _).symm;rw[hq,Dt,gP,if_pos hw];rfl
   have hw':¬(32:Int)<(w.size:Int):=zE
   rw[if_neg hw]at gP;have hsz:=aeV g2 (by omega:w.size<=32);have dA:=Zs ey w;obtain⟨h0,hV⟩|⟨h0,k,hV,dF,ef⟩:=g5
   ·subst h0;subst hV;have tN:IntKind.i64.wrap (-1)= -1:=by rw[Ql]<;>omega
    simp[Zr,hr,hw',Bt,tN];refine k1 _ ⟨[w],rest++[[.str w]],.bs (rest.length+3) 0 1 1,by rw[gP,ym],fun r h=>by simp at h;subst h;omega,zd,zd,.inr ⟨zd,rest.length,rfl,zd,by simp[Ku]⟩⟩
   subst hV;obtain⟨pre,r,rfl⟩:=(jS ey).resolve_left h0;have cE:pre.length+1<=i:=by simpa using g3
   have tN:IntKind.i64.wrap (pre.length:Int)=(pre.length:Int):=by rw[Ql]<;>omega
   have fT:(Ku (pre++[r])).length=pre.length+1:=by simp[Ku]
   have azc:=g2 r zd;have hsC:Ku (pre++[r])=Ku pre++[.str r]:=by simp[Ku]
   have uu:(Ku pre).length=pre.length:=by simp[Ku]
   have ZA:(Ku (pre++[r])).take (pre.length+1)=Ku (pre++[r]):=zzau zE;have ei:(Ku (pre++[r])).drop pre.length=[.str r]:=by rw[hsC,<- uu,zzfz]
   have gU:IntKind.i64.wrap ((r.size:Int)+1)=(r.size:Int)+1:=by rw[Ql]<;>omega
   have eL:IntKind.i64.wrap ((r.size:Int)+1+(w.size:Int))=(r.size:Int)+1+(w.size:Int):=by rw[Ql]<;>omega
   rw[rA]at gP hsz dA;by_cases hc:r.size+1+w.size<=32
   ·rw[if_pos hc]at gP hsz dA;have uv:(r.size:Int)+1+(w.size:Int)<=32:=zE
    have bS:(Ku (pre++[r])).set pre.length (.str (r++(Om++w)))=Ku (pre++[r++(Om++w)]):=by
     rw[hsC,<- uu,zzdi _ _ (zzab _)];simp[Ku]
    simp only[Om]at bS;simp[Zr,hr,hw',Bt,tN,ef,ei,fT,gU,eL,uv,bS]
    have hrk:Qh (rest.set k (Ku (pre++[r++(Om++w)]))) k=Ku (pre++[r++(Om++w)]):=by
     simp[Qh,zzax,-Yb,dF]
    have hs1:Om.size=1:=rfl;refine⟨zE,(by show Om.size+w.size<=_;omega),(by show r.size+(Om.size+w.size)<=_;omega),zE,dF,k1 _ ⟨pre++[r++(Om++w)],rest.set k (Ku (pre++[r++(Om++w)])),.bs (k+3) 0 (pre.length+1) 1,gP,hsz,by simp;omega,by simp[Om],.inr ⟨zd,k,zd,Nm dF,hrk⟩⟩⟩
   rw[if_neg hc]at gP hsz dA;have uv:¬(r.size:Int)+1+(w.size:Int)<=32:=zE
   simp[Zr,hr,hw',Bt,tN,ef,ei,fT,gU,eL,uv];have aO:¬Ku (pre++[r])=[]:=fun h=>by rw[h]at fT;simp at fT
   have hR:(rest.set k []).length=rest.length:=zd
   refine⟨zE,⟨⟨dF,aO⟩,zE⟩,k1 _ ⟨pre++[r]++[w],rest.set k []++[Ku (pre++[r])++[.str w]],.bs (rest.length+3) 0 (pre.length+1+1) 1,gP,hsz,by simp;omega,by simp[ZA],.inr ⟨zd,rest.length,zd,zd,?_⟩⟩⟩;rw[<- hR,ZB];simp[Ku]
  ·rintro m ⟨ey,rest,V,g1,g2,g3,g4,g5⟩;rw[zzbv,zzbu]at g1;rw[g1];obtain⟨mb,ml,ms,mn⟩:=m;simp only at g4;subst g4;obtain⟨h0,hV⟩|⟨h0,k,hV,dF,ef⟩:=g5
   ·subst h0;subst hV;simp[r8,mA]
   subst hV;have aH:¬ey.length=0:=fun h=>h0 (zzbx.1 h);have fT:(Ku ey).length=ey.length:=by simp[Ku]
   by_cases h4:4<ey.length
   ·have SR:(4:Int)<(ey.length:Int):=zE
    simp[r8,mA,h0,h4,SR]
   have SR:¬(4:Int)<(ey.length:Int):=zE
   have hmp:=fun m=>GJ m 4 ey;have axu:=fun m=>GJ m 3 ey;have iu:=Lj ey;simp[r8,mA,h0,h4,SR,ef,axu,iu,fT]
  rintro ex m ⟨rfl,g2,rest,g3⟩;rw[g2];simp[r8,g3,mA]
open Go Go.Abs
def iG(c:Cue):Bool:=if c.id<1\/4611686018427387903<c.id then false else if c.to=0 then decide (c.fr=0/\c.pr=0/\c.tx=eB)else
 if c.fr<0\/c.to<=c.fr\/100000000<c.to then false else if c.pr<0\/3<c.pr then false else(mz c.tx).isSome
def s5(c:Cue):Pure Tryz.prog aD 49 [.agg (Qk c)] (.bool (iG c)):=by
 have k:=Q9 c.tx;refine Qp Tf (fun _ _ _=>mA (mz c.tx)) zd ?_;by_cases h1:c.id<1
 ·simp[tI,tJ,Qk,h1,iG]
 by_cases h2:4611686018427387903<c.id
 ·simp[tI,tJ,Qk,h1,h2,iG]
 by_cases h3:c.to=0
 ·simp[tI,tJ,Qk,h1,h2,h3,iG];rw[zzda];simp[GD]
 by_cases h4:c.fr<0
 ·simp[tI,tJ,Qk,h1,h2,h3,h4,iG]
 by_cases h5:c.to<=c.fr
 ·simp[tI,tJ,Qk,h1,h2,h3,h4,h5,iG]
 by_cases h6:100000000<c.to
 ·simp[tI,tJ,Qk,h1,h2,h3,h4,h5,h6,iG]
 by_cases h7:c.pr<0
 ·simp[tI,tJ,Qk,h1,h2,h3,h4,h5,h6,h7,iG]
 by_cases h8:3<c.pr
 ·simp[tI,tJ,Qk,h1,h2,h3,h4,h5,h6,h7,h8,iG]
 cases hr:mz c.tx with
 |none=>
  rw[hr]at k;simp[tI,tJ,Qk,h1,h2,h3,h4,h5,h6,h7,h8,iG,hr,mA];exact k
 |some l=>
  rw[hr]at k;simp[tI,tJ,Qk,h1,h2,h3,h4,h5,h6,h7,h8,iG,hr,mA];exact k
def SS:En:=⟨0,0,0,0,0,0,[]⟩
def ZC:Cl:=⟨0,0,0,0,0,0,0,0⟩
def ZD:Cue:=⟨0,0,0,0,eB⟩
def Kb(o:Od):Od:=if o.ki=1 then{o with n:=0,en:=0}else if o.ki=2 then{o with en:=0}else if o.ki=3 then{o with nw:=SS}else if o.ki=4 then{o with cl:=ZC}else{o with cu:=ZD}
def okB(o:Od):Bool:=if o.ki=1 then uW o.en else if o.ki=2 then uW o.en else if o.ki=3 then pV o.nw else if o.ki=4 then Zc o.cl else iG o.cu
def Vq(o:Od):Bool:=if o.sq<0\/200<o.sq\/o.ch< -1\/40<=o.ch then false else if o.fr<0\/100000000<o.fr then false else
 if o.ki<1\/5<o.ki then false else if o.ki=1/\(o.n< -100000000\/100000000<o.n)then false else okB o&&Qcw (Kb o)
def jT(a b:Bool):UV:=fun _ f _=>if f=46 then .bool b else .bool a
def tc(o:Od)(hl:o.nw.al.length<=8796093022208):Pure Tryz.prog aD 22 [.agg (Qq o)] (.bool (Vq o)):=by
 have kb:=La (Kb o);have kk:o.ki=3\/Pure Tryz.prog aD 46 [.agg (Qq (Kb o))] (.bool (Qcw (Kb o))):=.inr kb;refine Qp S4 (jT (okB o) (Qcw (Kb o))) zd ?_;by_cases a1:o.sq<0
 ·simp[eU,eV,Qq,Qd,Qg,Qk,a1,Vq]
 by_cases a2:200<o.sq
 ·simp[eU,eV,Qq,Qd,Qg,Qk,a1,a2,Vq]
 by_cases a3:o.ch< -1
 ·simp[eU,eV,Qq,Qd,Qg,Qk,a1,a2,a3,Vq]
 by_cases a4:40<=o.ch
 ·simp[eU,eV,Qq,Qd,Qg,Qk,a1,a2,a3,a4,Vq]
 by_cases a5:o.fr<0
 ·simp[eU,eV,Qq,Qd,Qg,Qk,a1,a2,a3,a4,a5,Vq]
 by_cases a6:100000000<o.fr
 ·simp[eU,eV,Qq,Qd,Qg,Qk,a1,a2,a3,a4,a5,a6,Vq]
 have hA:¬(o.sq<0\/200<o.sq\/o.ch< -1\/40<=o.ch):=zE
 have hB:¬(o.fr<0\/100000000<o.fr):=zE
 have hv:Vq o=if o.ki<1\/5<o.ki then false else if o.ki=1/\(o.n< -100000000\/100000000<o.n)then false else okB o&&Qcw (Kb o):=by rw[Vq,if_neg hA,if_neg hB]
 rw[hv];by_cases k1:o.ki=1
 ·have c1:¬(o.ki<1\/5<o.ki):=zE
  rw[if_neg c1];by_cases b1:o.n< -100000000
  ·rw[if_pos ⟨k1,.inl b1⟩];simp[eU,eV,Qq,Qd,Qg,Qk,a1,a2,a3,a4,a5,a6,k1,b1]
  by_cases b2:100000000<o.n
  ·rw[if_pos ⟨k1,.inr b2⟩];simp[eU,eV,Qq,Qd,Qg,Qk,a1,a2,a3,a4,a5,a6,k1,b1,b2]
  rw[if_neg zE];have q:=Wl o.en;have hk:okB o=uW o.en:=by rw[okB,if_pos k1]
  have hr:Kb o={o with n:=0,en:=0}:=by rw[Kb,if_pos k1]
  rw[hr]at kb |-
  rw[hk];simp only[Qq,Qd,Qg,Qk,k1]at kb;cases hi:uW o.en with
  |false=>
   rw[hi]at q;simp[eU,eV,Qq,Qd,Qg,Qk,a1,a2,a3,a4,a5,a6,k1,b1,b2,jT];exact q
  |true=>
   rw[hi]at q;simp[eU,eV,Qq,Qd,Qg,Qk,a1,a2,a3,a4,a5,a6,k1,b1,b2,jT];exact⟨q,kb⟩
 by_cases k2:o.ki=2
 ·have c1:¬(o.ki<1\/5<o.ki):=zE
  rw[if_neg c1,if_neg zE];have q:=Wl o.en;have hk:okB o=uW o.en:=by rw[okB,if_neg k1,if_pos k2]
  have hr:Kb o={o with en:=0}:=by rw[Kb,if_neg k1,if_pos k2]
  rw[hr]at kb |-
  rw[hk];simp only[Qq,Qd,Qg,Qk,k2,zzae,zzai]at kb;try simp only[Qd,Qg,Qk]at q
  cases hi:uW o.en with
  |false=>
   rw[hi]at q;simp[eU,eV,Qq,Qd,Qg,Qk,a1,a2,a3,a4,a5,a6,k2,jT];exact q
  |true=>
   rw[hi]at q;simp[eU,eV,Qq,Qd,Qg,Qk,a1,a2,a3,a4,a5,a6,k2,jT];exact⟨q,kb⟩
 by_cases k3:o.ki=3
 ·have c1:¬(o.ki<1\/5<o.ki):=zE
  rw[if_neg c1,if_neg zE];have q:=ud o.nw hl;have hk:okB o=pV o.nw:=by rw[okB,if_neg k1,if_neg k2,if_pos k3]
  have hr:Kb o={o with nw:=SS}:=by rw[Kb,if_neg k1,if_neg k2,if_pos k3]
  rw[hr]at kb |-
  rw[hk];simp only[Qq,Qd,Qg,Qk,k3,SS,zzcs,zzae,zzai]at kb;have kb:=Xz (l:=[.agg [I o.sq,I o.ch,I o.fr,I 3,I o.en,I o.n,I 0,I 0,I 0,I 0,I 0,I 0,.sl .nil [],I o.cl.ki,I o.cl.it,I o.cl.fr,I o.cl.to,I o.cl.re,I o.cl.n,I o.cl.a,I o.cl.b,I o.cu.id,I o.cu.fr,I o.cu.to,I o.cu.pr,.str o.cu.tx]]) kb ⟨jN ⟨Ps,Ps,Ps,Ps,Ps,Ps,Ps,Ps,Ps,Ps,Ps,Ps,Wk.sl _ _,Ps,Ps,Ps,Ps,Ps,Ps,Ps,Ps,Ps,Ps,Ps,Ps,Ps,trivial⟩,trivial⟩;try simp only[Qd]at q
  cases hi:pV o.nw with
  |false=>
   rw[hi]at q;simp[eU,eV,Qq,Qd,Qg,Qk,a1,a2,a3,a4,a5,a6,k3,jT];exact q
  |true=>
   rw[hi]at q;simp[eU,eV,Qq,Qd,Qg,Qk,a1,a2,a3,a4,a5,a6,k3,jT,SS];exact⟨q,kb⟩
 by_cases k4:o.ki=4
 ·have c1:¬(o.ki<1\/5<o.ki):=zE
  rw[if_neg c1,if_neg zE];have q:=We o.cl;have hk:okB o=Zc o.cl:=by rw[okB,if_neg k1,if_neg k2,if_neg k3,if_pos k4]
  have hr:Kb o={o with cl:=ZC}:=by rw[Kb,if_neg k1,if_neg k2,if_neg k3,if_pos k4]
  rw[hr]at kb |-
  rw[hk];simp only[Qq,Qd,Qg,Qk,k4,ZC,zzae,zzai]at kb;try simp only[Qg]at q
  cases hi:Zc o.cl with
  |false=>
   rw[hi]at q;simp[eU,eV,Qq,Qd,Qg,Qk,a1,a2,a3,a4,a5,a6,k4,jT];exact q
  |true=>
   rw[hi]at q;simp[eU,eV,Qq,Qd,Qg,Qk,a1,a2,a3,a4,a5,a6,k4,jT,ZC];exact⟨q,kb⟩
 by_cases k5:o.ki=5
 ·have c1:¬(o.ki<1\/5<o.ki):=zE
  rw[if_neg c1,if_neg zE];have q:=s5 o.cu;have hk:okB o=iG o.cu:=by rw[okB,if_neg k1,if_neg k2,if_neg k3,if_neg k4]
  have hr:Kb o={o with cu:=ZD}:=by rw[Kb,if_neg k1,if_neg k2,if_neg k3,if_neg k4]
  rw[hr]at kb |-
  rw[hk];simp only[Qq,Qd,Qg,Qk,k5,ZD,zzae,zzai]at kb;simp only[Qk]at q;cases hi:iG o.cu with
  |false=>
   rw[hi]at q;simp[eU,eV,Qq,Qd,Qg,Qk,a1,a2,a3,a4,a5,a6,k5,jT];exact q
  |true=>
   rw[hi]at q;simp[eU,eV,Qq,Qd,Qg,Qk,a1,a2,a3,a4,a5,a6,k5,jT,ZD];exact⟨q,kb⟩
 rw[if_pos zE];simp[eU,eV,Qq,Qd,Qg,Qk,a1,a2,a3,a4,a5,a6,k1,k2,k3,k4,k5]
open Go Go.Abs
def Uu(g:Pg)(o:Od):Bool:=Vq o&&(decide (o.ch= -1)||decide (o.ch=g.p.ch))
def td(g:Pg)(o:Od)(hl:o.nw.al.length<=8796093022208):Pure Tryz.prog aD 41 [.agg (Qj g),.agg (Qq o)] (.bool (Uu g o)):=by
 have k:=tc o hl;simp only[Qq,Qd,Qg,Qk,zzae,zzai]at k;refine Qp ajZ (fun _ _ _=>.bool (Vq o)) zd ?_;cases hv:Vq o with
 |false=>
  rw[hv]at k;simp[abv,abw,Qj,Qa,Qq,Qd,Qg,Qk,hv,Uu];exact k
 |true=>
  rw[hv]at k;by_cases h1:o.ch= -1
  ·simp[abv,abw,Qj,Qa,Qq,Qd,Qg,Qk,hv,Uu,h1];rw[h1]at k;exact k
  simp[abv,abw,Qj,Qa,Qq,Qd,Qg,Qk,hv,Uu,h1];refine⟨k,?_⟩;rw[zzda];simp[h1]
def Ur{α:Type}(P:α->Bool):List α->Nat->Int
 |[],_=> -1
 |x::r,i=>if P x=true then i else Ur P r (i+1)
def Qdh{α:Type}{P:α->Bool}:∀{L:List α}{i:Nat},L.find? P=none->Ur P L i= -1
 |[],_,_=>rfl
 |a::r,i,h=>by
  rw[zzfd]at h;split at h
  ·cases h
  rename_i hn;rw[Ur,if_neg (by simp[hn])];exact Qdh h
def Wm{α:Type}{P:α->Bool}{a:α}:∀{L:List α}{i:Nat},L.find? P=some a->∃k:Nat,Ur P L i=((i+k:Nat):Int)/\L[k]?=some a/\P a=true
 |[],_,h=>by cases h
 |b::r,i,h=>by
  rw[zzfd]at h;split at h
  ·rename_i hb;cases h;exact⟨0,by simp[Ur,hb],rfl,hb⟩
  rename_i hn;obtain⟨k,h1,h2,h3⟩:=Wm (i:=i+1) h;exact⟨k+1,by rw[Ur,if_neg (by simp[hn]),h1];omega,Nm h2,h3⟩
def yo(L:List bn)(P:bn->Bool)(k:FuncId)(first cap:P2)(hl:L.length<=1000000000)(h1:∀m,first.map (bA m 6)=first)(h2:∀m,cap.map (bA m 6)=cap)
  (hp:∀e∈L,Pure Tryz.prog aD k (first++.agg (Qf e)::cap) (.bool (P e)))(orc:UV)(ho:∀d e,e∈L->orc d k (first++.agg (Qf e)::cap)=.bool (P e)):
  Pure Tryz.prog aD 78 [.sl .ro (L.map Qf),.fn k first cap] (I (Ur P L 0)):=by
 refine Qp Ts orc zd ?_;simp[aks];refine Qi r6 (fun f m=>∃i:Nat,f 8=I i/\i<=L.length/\Ur P (L.drop i) i=Ur P L 0/\m=⟨[],[],fun _=>.gone,0⟩) (fun f _=>L.length-(numOf (f 8)).toNat) ?_ ?_
 ·exact⟨0,zd,zE,zd,rfl⟩
 rintro f m ⟨i,f8,hi,hr,rfl⟩;rcases zzaa i L.length with ah|bq
 ·obtain⟨a,ha⟩:=aV ah;have ai:Qh (L.map Qf) i=Qf a:=Qu (by simp[ha]);have aa:(i:Int)<(L.length:Int):=zE
  have hw:=bO i zE;have hd:L.drop i=a::L.drop (i+1):=by rw[zzag ah,(zza.1 ha).2]
  have kJ:=hp a (zzad ha);have ZE:=fun d=>ho d a (zzad ha);rw[hd,Ur]at hr;simp only[Qf]at kJ ZE;cases hP:P a with
  |true=>
   rw[hP]at kJ ZE;rw[if_pos hP]at hr;simp[f8,r6,abH,aa,ai,Qf,h1,h2,ZE];exact⟨kJ,hr⟩
  |false=>
   rw[hP]at kJ ZE;rw[if_neg (by simp[hP])]at hr;simp[f8,r6,aa,ai,Qf,h1,h2,ZE,hw];refine⟨kJ,aQ,⟨i+1,zd,zE,hr⟩,zE⟩
 obtain rfl:i=L.length:=zE
 rw[zzbt,Ur]at hr;simp[f8,r6,abH];exact hr
def Ra(e:bn)(f:Int)(h:Jt e)(hf:nO f):Pure Tryz.prog aD 212 [.agg [I f],.agg (Qf e)] (.bool (ua f e)):=by
 refine Qp adj (fun _ _ _=>.junk) zd ?_;obtain⟨⟨a1,a2⟩,⟨a3,a4⟩,_⟩:=h;obtain⟨a5,a6⟩:=hf;by_cases h1:e.st<=f
 ·have w1:=wu e.st zE zE;have w2:=wu f zE zE;have w3:=wu (f-e.st) zE zE;have w4:=wu e.fr zE zE;by_cases h2:0<e.fr
  ·have:(f-e.st<e.fr)=(f<e.st+e.fr):=by apply propext;omega
   simp[Nh,Ni,Qf,h1,h2,ua,w1,w2,w3,w4,this]
  have:¬f<e.st+e.fr:=zE
  simp[Nh,Ni,Qf,h1,h2,ua,this]
 simp[Nh,Ni,Qf,h1,ua]
def Ll(e:bn)(row:P2)(id:Int):Pure Tryz.prog aD 213 [.agg (Qf e),.ep (I id::row) 0] (.bool (decide (e.id=id))):=by
 refine Qp adk (fun _ _ _=>.junk) zd ?_;simp[ahL,ahM,Qf];rw[zzda];simp
def tf(n:Int):Prop:= -9223372036854775808<=n/\n<=9223372036854775807
open Go Go.Abs
def GK(L:List En)(P:En->Bool)(k:FuncId)(first cap:P2)(hl:L.length<=1000000000)(h1:∀m,first.map (bA m 6)=first)(h2:∀m,cap.map (bA m 6)=cap)
  (hp:∀e∈L,Pure Tryz.prog aD k (first++.agg (Qd e)::cap) (.bool (P e)))(orc:UV)(ho:∀d e,e∈L->orc d k (first++.agg (Qd e)::cap)=.bool (P e)):
  Pure Tryz.prog aD 148 [.sl .ro (L.map Qd),.fn k first cap] (I (Ur P L 0)):=by
 refine Qp Cb orc zd ?_;simp[MU];refine Qi eW (fun f m=>∃i:Nat,f 8=I i/\i<=L.length/\Ur P (L.drop i) i=Ur P L 0/\m=⟨[],[],fun _=>.gone,0⟩) (fun f _=>L.length-(numOf (f 8)).toNat) ?_ ?_
 ·exact⟨0,zd,zE,zd,rfl⟩
 rintro f m ⟨i,f8,hi,hr,rfl⟩;rcases zzaa i L.length with ah|bq
 ·obtain⟨a,ha⟩:=aV ah;have ai:Qh (L.map Qd) i=Qd a:=Qu (by simp[ha]);have aa:(i:Int)<(L.length:Int):=zE
  have hw:=bO i zE;have hd:L.drop i=a::L.drop (i+1):=by rw[zzag ah,(zza.1 ha).2]
  have kJ:=hp a (zzad ha);have ZE:=fun d=>ho d a (zzad ha);rw[hd,Ur]at hr;simp only[Qd]at kJ ZE;cases hP:P a with
  |true=>
   rw[hP]at kJ ZE;rw[if_pos hP]at hr;simp[f8,eW,Au,aa,ai,Qd,h1,h2,ZE];exact⟨kJ,hr⟩
  |false=>
   rw[hP]at kJ ZE;rw[if_neg (by simp[hP])]at hr;simp[f8,eW,aa,ai,Qd,h1,h2,ZE,hw];refine⟨kJ,aQ,?_⟩
   ·exact⟨⟨i+1,zd,zE,hr⟩,zE⟩
 obtain rfl:i=L.length:=zE
 rw[zzbt,Ur]at hr;simp[f8,eW,Au];exact hr
def GL(e:En)(id:Int):Pure Tryz.prog aD 201 [.agg (Qd e),.ep [I id] 0] (.bool (decide (e.id=id))):=by
 refine Qp ada (fun _ _ _=>.junk) zd ?_;simp[ahD,ahE,Qd];rw[zzda];simp
def Qr(g:Pg)(f:Int)(mid:Nat):P2:=Qj g++[I f,.mp mid]
def Je(g:Pg)(id:Int):Int:=Ur (fun e:En=>decide (e.id=id)) g.p.ens 0
def Rb(Y:YT)(m:AM)(g:Pg)(f:Int)(mid:Nat)(id:Int)(hl:g.p.ens.length<=1000000000):aB Tryz.prog aD Y 141 [.agg (Qr g f mid),I id] m (fun r m'=>m'=m/\r=I (Je g id)):=by
 obtain⟨mb,ml,ms,mn⟩:=m;have k:=GK g.p.ens (fun e:En=>decide (e.id=id)) 201 [] [.ep [I id] 0] hl (fun _=>rfl) (fun _=>zd) (fun e _=>GL e id) (fun _ _ xs=>match xs with|.agg (.int _ n::_)::_=>.bool (decide (n=id))|_=>.junk) (fun _ e _=>rfl);refine aB.read (Xl aco (fun _ _ _=>I (Je g id)) zd ?_);simp[agU,agV,Qr,Qj,Qa,Je];exact⟨k,.int _ _⟩
def nP{p:Prop}(h:p:=by repeat'(first|exact Idle.int _ _|exact Idle.bool _|exact Idle.str _|exact Idle.ro _|exact Idle.nil _|exact Idle.full _|exact List.forall_mem_nil _|refine List.forall_mem_cons.2 ⟨?_,?_⟩|refine Idle.aS ?_|refine Idle.agg ?_)):p:=h
def fP(bx:T5)(mid:Nat)(b:QR):Prop:=mid<bx.length/\Qh bx mid=[.aJ 0 (bG .bool b)]
def fP.ext{bx:T5}{mid:Nat}{b:QR}(h:fP bx mid b)(ex:T5):Qh (bx++ex) mid=[.aJ 0 (bG .bool b)]:=by rw[Qn h.1,h.2]
def gG(b:QR)(id:Int):Bool:=(af id b).getD false
def Ul(g:Pg)(f:Int)(b:QR):Option bn:=match g.ev.find? (ua f)with
 |none=>none
 |some e=>if e.id=0 then none else if gG b e.id=true then some e else none
def rB(g:Pg)(id:Int):Int:=match g.ev.find? (fun e=>decide (e.id=id))with
 |none=>0
 |some e=>e.st
def uX(f:Int)(e:bn):bn:={e with st:=f,fr:=e.fr-(f-e.st),i:=e.i+(f-e.st)}
def Um(g:Pg)(f:Int)(b:QR):AV:=match Ul g f b with
 |none=>.aS [.agg [I 0,I 0,I 0,I 0,I 0,I 0,.sl .nil []],I 0,.bool false]
 |some e=>.aS [.agg (Qf (uX f e)),I (rB g e.id),.bool true]
def ZF(Y:YT)(m:AM)(g:Pg)(f:Int)(mid:Nat)(b:QR)(hl:g.ev.length<=1000000000)(hs:∀e∈g.ev,Jt e)(hf:nO f)(hb:fP m.boxes mid b):
  aB Tryz.prog aD Y 160 [.agg (Qr g f mid)] m (fun r m'=>m'=m/\r=Um g f b):=by
 obtain⟨mb,ml,ms,mn⟩:=m;have hB:∀ex,Qh (mb++ex) mid=[.aJ 0 (bG .bool b)]:=hb.ext;have hN:∀n:Nat,¬(n:Int)<0:=fun n=>zE
 have k1:=yo g.ev (ua f) 212 [.agg [I f]] [] hl (fun _=>zd) (fun _=>zd) (fun e he=>Ra e f (hs e he) hf) (fun _ _ xs=>match xs with|[_,.agg [_,_,.int _ st,.int _ fr,_,_,_]]=>.bool (ua f ⟨0,0,st,fr,0,0,[],false⟩)|_=>.junk) (fun _ e _=>rfl)
 have k2:∀(row:P2)(id:Int),Pure Tryz.prog aD 78 [.sl .ro (g.ev.map Qf),.fn 213 [] [.ep (I id::row) 0]] (I (Ur (fun e=>decide (e.id=id)) g.ev 0)):=fun row id=>
  yo g.ev (fun e=>decide (e.id=id)) 213 [] [.ep (I id::row) 0] hl (fun _=>zd) (fun _=>zd) (fun e _=>Ll e row id) (fun _ _ xs=>match xs with|.agg (.int _ n::_)::_=>.bool (decide (n=id))|_=>.junk) (fun _ e _=>rfl)
 cases h1:g.ev.find? (ua f)with
 |none=>
  rw[Qdh h1]at k1;refine aB.read (Xl MZ (fun _ _ _=>I (-1)) zd ?_);simp[Av,Aw,Qr,Qj,Qa,Um,Ul,h1];exact⟨k1,nP⟩
 |some e=>
  obtain⟨n,g1,g2,g3⟩:=Wm (i:=0) h1;have k2':=k2;have hn:n<g.ev.length:=(zza.1 g2).1;have dD:=zzad g2
  have hex:(g.ev.find? fun e'=>decide (e'.id=e.id)).isSome=true:=by
   rw[List.find?_isSome];exact⟨e,dD,zd⟩
  obtain⟨e2,he2⟩:=zzbz.1 hex;obtain⟨n2,q1,q2,q3⟩:=Wm (i:=0) he2;have vV:n2<g.ev.length:=(zza.1 q2).1;rw[g1,zzbs]at k1;have r1:Qh (g.ev.map Qf) n=Qf e:=Qu (by simp[g2]);have r2:Qh (g.ev.map Qf) n2=Qf e2:=Qu (by simp[q2]);have qq:(n:Int)<(g.ev.length:Int):=zE
  have axv:(n2:Int)<(g.ev.length:Int):=zE
  obtain⟨⟨a1,a2⟩,⟨a3,a4⟩,⟨a5,a6⟩,_⟩:=hs e dD;obtain⟨f1,f2⟩:=hf;have hon:e.st<=f/\f<e.st+e.fr:=by simpa[ua]using g3
  have w1:IntKind.i64.wrap (f-e.st)=f-e.st:=by rw[Ql]<;>omega
  have w2:IntKind.i64.wrap (e.fr-(f-e.st))=e.fr-(f-e.st):=by rw[Ql]<;>omega
  have w3:IntKind.i64.wrap (e.i+(f-e.st))=e.i+(f-e.st):=by rw[Ql]<;>omega
  refine aB.read (Xl MZ (fun d _ _=>if d=15 then I n else I n2) zd ?_);have aL:e2.id=e.id:=by simpa using q3
  by_cases h0:e.id=0
  ·simp[Av,Aw,Qr,Qj,Qa,Um,Ul,h1,Qf,qq,r1,h0];exact⟨k1,nP⟩
  rcases Xv AV.bool e.id b 0 with⟨b1,b2,_⟩|⟨u,u',b1,b2,_⟩
  ·simp[Av,Aw,Qr,Qj,Qa,Um,Ul,h1,Qf,qq,r1,h0,gG,b1,b2,hB,hN];exact⟨k1,nP⟩
  cases u with
  |false=>
   simp[Av,Aw,Qr,Qj,Qa,Um,Ul,h1,Qf,qq,r1,h0,gG,b1,b2,hB,hN];exact⟨k1,nP⟩
  |true=>
   have k2:=k2 [I e.it,I e.st,I e.fr,I e.i,I e.re,.sl .ro (e.al.map Qe)] e.id;rw[q1,zzbs]at k2;simp[Av,Aw,Qr,Qj,Qa,Um,Ul,h1,Qf,qq,r1,h0,gG,b1,b2,hB,hN,w1,w2,w3,uX,rB,he2];refine⟨k1,k2,Uh ?_⟩;simp[axv,r2,Qf];exact nP
open Go Go.Abs
def Un(p:Pl)(V:AV):P2:=[I p.ch,I p.nu,I p.de,I p.of,.sl .ro (p.sh.map Qe),I p.ep,I p.rg,I p.ln,I p.fi,.sl .ro (p.aN.map Qm),V,.sl .ro (p.bks.map Xi),.sl .ro (p.cls.map Qg)]
def aiI(p:Pl)(mb:T5)(ml:Pa)(ms:Nat->LS)(mn:Nat)(m0:P2)(f:Nat->AV)(m:AM):Prop:=∃(i:Nat)(bx:T5),f 22=I i/\i<=p.ens.length/\m=⟨mb++(Un p (.bs (mb.length+2) 0 p.ens.length 7)::m0::(p.ens.map Qd).flatten::bx),ml,ms,mn⟩
def yp(Y:YT)(m:AM)(p:Pl)(h:Br p)(hn:p.ens≠[])(K:So)
  (hK:∀c0 c1 bx,K (.agg (Un p (.bs (m.boxes.length+2) 0 p.ens.length 7))) {m with boxes:=m.boxes++(c0::c1::(p.ens.map Qd).flatten::bx)}):aB Tryz.prog aD Y 66 [.agg (Qa p)] m K:=by
 obtain⟨mb,ml,ms,mn⟩:=m;obtain⟨h1,h2,h3,h4,h5,h6⟩:=h;have k1:=pR p.sh zE;have k2:=pS p.aN zE;have k4:=pT p.bks zE;have k5:=Dn p.cls zE;have hsz:=kX (f:=Qd) (sz:=7) (fun _=>rfl) p.ens;refine Xl vn (Km p) zd ?_;have aO:p.ens.map Qd≠[]:=by simpa using hn
 simp[IY,Qa,Km,hn];refine⟨k1,k2,yg _ _ hsz (by simpa using by omega) aO _ _ ?_⟩;simp;obtain⟨F,hF⟩:∃F,(p.ens.map Qd).flatten=F:=⟨_,rfl⟩;have hFl:F.length=p.ens.length*7:=by rw[<- hF,jR hsz];simp
 have bV:Zl F=true:=by rw[<- hF];exact kW (fun _=>rfl) _
 have hmp:∀m,F.map (bA m 4)=F:=fun m=>Va m 3 bV;rw[hF]at hK |-
 refine Qi ez (aiI p mb ml ms mn [I 0,I 0,I 0,I 0,.sl .nil [],I 0,I 0,I 0,I 0,.sl .nil [],.sl .nil [],.sl .nil [],.sl .nil []]) (fun f _=>p.ens.length-(numOf (f 22)).toNat) ?_ ?_
 ·exact⟨0,[],zd,zE,by rw[hF];simp[Un]⟩
 rintro f m ⟨i,bx,f22,hi,rfl⟩;rw[hF];rcases zzaa i p.ens.length with ah|bq
 ·obtain⟨e,he⟩:=aV ah;have aa:(i:Int)<(p.ens.length:Int):=zE
  have hw:=bO i zE;obtain⟨⟨r,hd⟩,bY⟩:=uV hsz (i:=i) (row:=Qd e) (by simp[he]);rw[hF]at hd bY;simp only[Qd,zzae,zzai]at hd bY;have GC:=Wt e (h6 e (zzad he));simp only[Qd]at GC;simp[-setA,jP,jQ,f22,ez,aa,hd,bY,hFl,hw,Km,Un];refine⟨GC,zE,aQ,⟨i+1,bx++[[I e.id,I e.it,I e.fr,I e.ea,I e.la,I e.bo,.sl .ro (e.al.map Qe)]],zd,zE,by rw[hF];simp[Un]⟩,zE⟩
 obtain rfl:i=p.ens.length:=zE
 simp[f22,ez,IZ,Km,Un];simp[Un]at hK;exact⟨k4,k5,hK _ _ _⟩
open Go Go.Abs
def lQ(g:Pg)(f:Int):Prop:=g.ev.length<=1000000000/\(∀e∈g.ev,Jt e)/\nO f/\g.p.ens.length<=1000000000
def Ln(Y:YT)(m:AM)(g:Pg)(f:Int)(mid:Nat)(id:Int)(h:lQ g f)(K:So)(hK:K (I (Je g id)) m):aB Tryz.prog aD Y 141 [.agg (Qr g f mid),I id] m K:=
 aB.mono (Rb Y m g f mid id h.2.2.2) (by rintro r m' ⟨rfl,rfl⟩;exact hK)
def aiJ(Y:YT)(m:AM)(g:Pg)(f:Int)(mid:Nat)(b:QR)(h:lQ g f)(hb:fP m.boxes mid b)(K:So)(hK:K (Um g f b) m):aB Tryz.prog aD Y 160 [.agg (Qr g f mid)] m K:=
 aB.mono (ZF Y m g f mid b h.1 h.2.1 h.2.2.1 hb) (by rintro r m' ⟨rfl,rfl⟩;exact hK)
def Bu(g:Pg)(f:Int)(b:QR)(id:Int):Option Int:=match Ul g f b with
 |none=>none
 |some e=>if e.id=id then some (rB g e.id)else none
def Rf(o:Option Int):AV:=.aS [I (o.getD 0),.bool o.isSome]
def aeW(Y:YT)(m:AM)(g:Pg)(f:Int)(mid:Nat)(b:QR)(id:Int)(h:lQ g f)(hb:fP m.boxes mid b):
  aB Tryz.prog aD Y 143 [.agg (Qr g f mid),I id] m (fun r m'=>m'=m/\r=Rf (Bu g f b id)):=by
 obtain⟨mb,ml,ms,mn⟩:=m;have hB:∀ex,fP (mb++ex) mid b:=fun ex=>⟨by have:=hb.1;simp at this |-;omega,hb.ext ex⟩;have k:=fun ex K hK=>aiJ Y ⟨mb++ex,ml,ms,mn⟩ g f mid b h (hB ex) K hK;simp only[Qr,Qj,Qa,zzae,zzai]at k;refine aB.read (Xl acq (fun _ _ _=>.gd false .junk) zd ?_);simp[agW,agX,Qr,Qj,Qa];refine k _ _ ?_;cases hp:Ul g f b with
 |none=>
  simp[Um,hp,Bu,Rf];exact nP
 |some e=>
  by_cases hi:e.id=id
  ·simp[Um,hp,Bu,Rf,Qf,uX,hi];exact nP
  simp[Um,hp,Bu,Rf,Qf,uX,hi];exact nP
def al1(Y:YT)(m:AM)(g:Pg)(f:Int)(mid:Nat)(b:QR)(id:Int)(h:lQ g f)(hb:fP m.boxes mid b)(K:So)(hK:K (Rf (Bu g f b id)) m):aB Tryz.prog aD Y 143 [.agg (Qr g f mid),I id] m K:=
 aB.mono (aeW Y m g f mid b id h hb) (by rintro r m' ⟨rfl,rfl⟩;exact hK)
def Dv(g:Pg)(f:Int)(b:QR)(id:Int):Bool:=gG b id&&!(Bu g f b id).isSome
def aeX(Y:YT)(m:AM)(g:Pg)(f:Int)(mid:Nat)(b:QR)(id:Int)(h:lQ g f)(hb:fP m.boxes mid b):
  aB Tryz.prog aD Y 145 [.agg (Qr g f mid),I id] m (fun r m'=>m'=m/\r=.bool (Dv g f b id)):=by
 obtain⟨mb,ml,ms,mn⟩:=m;have hB:∀ex,fP (mb++ex) mid b:=fun ex=>⟨by have:=hb.1;simp at this |-;omega,hb.ext ex⟩;have hR:∀ex,Qh (mb++ex) mid=[.aJ 0 (bG .bool b)]:=hb.ext;have k:=fun ex K hK=>al1 Y ⟨mb++ex,ml,ms,mn⟩ g f mid b id h (hB ex) K hK;simp only[Qr,Qj,Qa,zzae,zzai]at k;refine aB.read (Xl acs (fun _ _ _=>.gd false .junk) zd ?_);simp[agY,agZ,Qr,Qj,Qa];refine k _ _ ?_;rcases Xv AV.bool id b 0 with⟨b1,b2,_⟩|⟨u,u',b1,b2,_⟩
 ·simp[Rf,Dv,gG,b1,b2,hR];exact nP
 cases u<;>simp[Rf,Dv,gG,b1,b2,hR]<;>exact nP
def asn(Y:YT)(m:AM)(g:Pg)(f:Int)(mid:Nat)(b:QR)(id:Int)(h:lQ g f)(hb:fP m.boxes mid b)(K:So)(hK:K (.bool (Dv g f b id)) m):aB Tryz.prog aD Y 145 [.agg (Qr g f mid),I id] m K:=
 aB.mono (aeX Y m g f mid b id h hb) (by rintro r m' ⟨rfl,rfl⟩;exact hK)
open Go Go.Abs
def Yc(n:Int):Int:=max (-9223372036854775808) (min 9223372036854775807 n)
def Rg(a b:Int)(ha:tf a)(hb:tf b):Pure Tryz.prog aD 142 [I a,I b] (I (Yc (a+b))):=by
 refine Qp acp (fun _ _ _=>.junk) zd ?_;unfold tf at ha hb;by_cases c1:0<b
 ·have w1:IntKind.i64.wrap (9223372036854775807-b)=9223372036854775807-b:=by rw[Ql]<;>omega
  have c2:¬b<0:=zE
  by_cases d1:9223372036854775807-b<a
  ·have:Yc (a+b)=9223372036854775807:=by unfold Yc;omega
   simp[Ap,Aq,c1,d1,w1,this]
  have w:IntKind.i64.wrap (a+b)=a+b:=by rw[Ql]<;>omega
  have:Yc (a+b)=a+b:=by unfold Yc;omega
  simp[Ap,Aq,c1,c2,d1,w,w1,this]
 by_cases c2:b<0
 ·have w2:IntKind.i64.wrap (-9223372036854775808-b)= -9223372036854775808-b:=by rw[Ql]<;>omega
  by_cases d1:a< -9223372036854775808-b
  ·have:Yc (a+b)= -9223372036854775808:=by unfold Yc;omega
   simp[Ap,Aq,c1,c2,d1,w2,this]
  have w:IntKind.i64.wrap (a+b)=a+b:=by rw[Ql]<;>omega
  have:Yc (a+b)=a+b:=by unfold Yc;omega
  simp[Ap,Aq,c1,c2,d1,w,w2,this]
 have w:IntKind.i64.wrap (a+b)=a+b:=by rw[Ql]<;>omega
 have:Yc (a+b)=a+b:=by unfold Yc;omega
 simp[Ap,Aq,c1,c2,w,this]
def Qej(a b:Int)(ha:tf a)(hb:tf b):Pure Tryz.prog aD 144 [I a,I b] (I (Yc (a-b))):=by
 refine Qp acr (fun _ _ _=>.junk) zd ?_;unfold tf at ha hb;by_cases c1:b<0
 ·have w1:IntKind.i64.wrap (9223372036854775807+b)=9223372036854775807+b:=by rw[Ql]<;>omega
  have c2:¬0<b:=zE
  by_cases d1:9223372036854775807+b<a
  ·have:Yc (a-b)=9223372036854775807:=by unfold Yc;omega
   simp[Ar,As,c1,d1,w1,this]
  have w:IntKind.i64.wrap (a-b)=a-b:=by rw[Ql]<;>omega
  have:Yc (a-b)=a-b:=by unfold Yc;omega
  simp[Ar,As,c1,c2,d1,w,w1,this]
 by_cases c2:0<b
 ·have w2:IntKind.i64.wrap (-9223372036854775808+b)= -9223372036854775808+b:=by rw[Ql]<;>omega
  by_cases d1:a< -9223372036854775808+b
  ·have:Yc (a-b)= -9223372036854775808:=by unfold Yc;omega
   simp[Ar,As,c1,c2,d1,w2,this]
  have w:IntKind.i64.wrap (a-b)=a-b:=by rw[Ql]<;>omega
  have:Yc (a-b)=a-b:=by unfold Yc;omega
  simp[Ar,As,c1,c2,d1,w,w2,this]
 have w:IntKind.i64.wrap (a-b)=a-b:=by rw[Ql]<;>omega
 have:Yc (a-b)=a-b:=by unfold Yc;omega
 simp[Ar,As,c1,c2,w,this]
def aso:P2->AV
 |[.int _ x,.int _ y]=>I (Yc (x-y))
 |_=>.junk
def Qdz(n:Int):tf (Yc n):=by unfold tf Yc;omega
def Lo:∀{ens:List En}{i:Nat}{e:En},ens[i]?=some e->∃pre r:P2,pre.length=i*7/\(ens.map Qd).flatten=pre++(Qd e++r)/\∀e',((ens.set i e').map Qd).flatten=pre++(Qd e'++r)
 |[],i,e,h=>by simp at h
 |a::r,0,e,h=>by
  simp at h;subst h;exact⟨[],(r.map Qd).flatten,rfl,zd,fun e'=>zd⟩
 |a::r,i+1,e,h=>by
  obtain⟨pre,s,h1,h2,h3⟩:=Lo (ens:=r) (i:=i) (e:=e) (Nm h);exact⟨Qd a++pre,s,by simp[Qd,h1];omega,by simp[h2],fun e'=>by have:=h3 e';simp only[zzea,zzas,zzcj,this,zzbf]⟩
def Bv(pre X Y:P2)(n:Nat)(k:Nat)(h:pre.length=n):setA (pre++X) (n+k) Y=pre++setA X k Y:=by
 subst h;induction pre with
 |nil=>simp
 |cons a r ih=>rw[zzae,zzaz,show r.length+1+k=r.length+k+1 by omega,yd,ih];rfl
def Bw(pre X:P2)(n:Nat)(k:Nat)(h:pre.length=n):(pre++X).drop (n+k)=X.drop k:=by
 subst h;simp[List.drop_append]
def Xp(p:Pl)(V W:AV)(d:Int):P2:=[I p.ch,I p.nu,I p.de,I p.of,.sl .ro (p.sh.map Qe),I p.ep,I p.rg,I p.ln,I p.fi,.sl .ro (p.aN.map Qm),V,.sl .ro (p.bks.map Xi),W,I d]
def uY:P2:=[I 0,I 0,I 0,I 0,.sl .nil [],I 0,I 0,I 0,I 0,.sl .nil [],.sl .nil [],.sl .nil [],.sl .nil [],I 0]
def ue(g:Pg)(f:Int)(b:QR)(o:Od)(e:En):Int:=match Bu g f b o.en with
 |none=>Yc (e.fr+o.n)
 |some st=>if Yc (e.fr+o.n)<Yc (f-st)then Yc (f-st)else Yc (e.fr+o.n)
def Rh(g:Pg)(f:Int)(b:QR)(o:Od)(e:En):En:={e with fr:=ue g f b o e,la:=if Yc (g.p.ln-ue g f b o e)<e.la then Yc (g.p.ln-ue g f b o e)else e.la}
def rC(g:Pg)(f:Int)(b:QR)(o:Od):Option (Pl×Int):=match g.p.ens[(Je g o.en).toNat]? with
 |none=>none
 |some e=>if Je g o.en<0 then none else some ({g.p with ens:=g.p.ens.set (Je g o.en).toNat (Rh g f b o e)},ue g f b o e)
def Dw{g:Pg}{f:Int}(h:lQ g f)(id:Int):0<=rB g id/\rB g id<=1000000:=by
 unfold rB;cases hf:g.ev.find? (fun e=>decide (e.id=id))with
 |none=>simp
 |some e=>exact(h.2.1 e (zzdt hf)).1
def aeY(Y:YT)(m:AM)(g:Pg)(f:Int)(mid:Nat)(b:QR)(o:Od)(h:lQ g f)(hp:Br g.p)(hb:fP m.boxes mid b)(hn:tf o.n)(dA:tf g.p.ln)(hes:∀e∈g.p.ens,tf e.fr)(K:So)
  (h0:rC g f b o=none->∀ex,K (.aS [.agg uY,.bool false]) {m with boxes:=m.boxes++ex})
  (h1:∀q d,rC g f b o=some (q,d)->∀ex k,m.boxes.length<=k->k<(m.boxes++ex).length->Qh (m.boxes++ex) k=(q.ens.map Qd).flatten->K (.aS [.agg (Xp q (.bs k 0 q.ens.length 7) (.sl .ro (q.cls.map Qg)) d),.bool true]) {m with boxes:=m.boxes++ex}):
  aB Tryz.prog aD Y 89 [.agg (Qr g f mid),.agg (Qq o)] m K:=by
 obtain⟨mb,ml,ms,mn⟩:=m;have hB:∀ex,fP (mb++ex) mid b:=fun ex=>⟨by have:=hb.1;simp at this |-;omega,hb.ext ex⟩;have kp:=fun ex K hK=>Ln Y ⟨mb++ex,ml,ms,mn⟩ g f mid o.en h K hK;have ki:=fun ex K hK=>al1 Y ⟨mb++ex,ml,ms,mn⟩ g f mid b o.en h (hB ex) K hK;simp only[Qr,Qj,Qa,zzae,zzai]at kp ki;cases hf:g.p.ens.find? (fun e=>decide (e.id=o.en))with
 |none=>
  have uu:Je g o.en= -1:=Qdh hf
  have hx:rC g f b o=none:=by
   unfold rC;rw[uu];split
   ·rfl
   simp
  refine Xl Tw (fun _ _ _=>.gd false .junk) zd ?_;simp[akH,akI,Qr,Qj,Qa,Qq,Qd,Qg,Qk];refine kp _ _ ?_;simp[uu];have:=h0 hx;simp[uY]at this;exact this _
 |some e=>
  obtain⟨n,g1,g2,g3⟩:=Wm (i:=0) hf;have uu:Je g o.en=(n:Int):=by unfold Je;rw[g1];omega
  have ah:n<g.p.ens.length:=(zza.1 g2).1;have aO:g.p.ens≠[]:=by rintro e0;rw[e0]at ah;simp at ah
  have AI:¬(n:Int)<0:=zE
  have bZ:(n:Int)<(g.p.ens.length:Int):=zE
  have hx:rC g f b o=some ({g.p with ens:=g.p.ens.set n (Rh g f b o e)},ue g f b o e):=by
   unfold rC;rw[uu];simp[g2,AI]
  obtain⟨pre,r,q1,q2,q3⟩:=Lo g2;have hd:=fun X k=>Bw pre X (n*7) k q1;have bY:=fun X Y k=>Bv pre X Y (n*7) k q1;have h1:=h1 _ _ hx;rw[q3]at h1;have kO:=fun ex K hK=>yp Y ⟨mb++ex,ml,ms,mn⟩ g.p hp aO K hK;simp only[Qa]at kO;rw[q2]at kO;have axw:=Rg e.fr o.n (hes e (zzad g2)) hn;refine Xl Tw (fun _ f l=>if f=142 then I (Yc (e.fr+o.n))else if f=144 then aso l else .gd false .junk) zd ?_;simp[akH,akI,Qr,Qj,Qa,Qq,Qd,Qg,Qk];refine kp _ _ ?_;simp[uu,AI];refine kO _ _ fun c0 c1 bx=>?_;have zm:min 1 (pre.length+(r.length+7)-(n*7+2))=1:=zE
  have hm4:min 1 (pre.length+(r.length+7)-(n*7+4))=1:=zE
  simp[-setA,jP,jQ,Un,bZ,Qd,zzan,hd,zm,aso];refine⟨axw,ki _ _ ?_⟩;have hL:=fun V=>Qej g.p.ln (Yc V) dA (Qdz V);cases hi:Bu g f b o.en with
  |none=>
   simp[-setA,jP,yd,jQ,Rf,zzan,hd,bY,hm4];have QK:ue g f b o e=Yc (e.fr+o.n):=by simp only[ue,hi]
   simp only[QK,Rh,zzch,Qd,zzae,zzai]at h1;refine⟨zE,hL _,zE,?_⟩;exact h1 _ (mb.length+5) zd zd zd
  |some st=>
   have asp:Bu g f b o.en=some st->0<=st/\st<=1000000:=fun hh=>by
    unfold Bu at hh;split at hh
    ·cases hh
    split at hh
    ·cases hh;exact Dw h _
    cases hh
   have hsb:=asp hi;have hfs:=h.2.2.1;have kd:=Qej f st (by unfold nO at hfs;unfold tf;omega) (by unfold tf;omega);simp[-setA,jP,yd,jQ,Rf,zzan,hd,bY,hm4];have QK:ue g f b o e=if Yc (e.fr+o.n)<Yc (f-st)then Yc (f-st)else Yc (e.fr+o.n):=by simp only[ue,hi]
   simp only[QK,Rh,zzch,Qd,zzae,zzai]at h1;refine⟨kd,zE,?_,zE,?_⟩
   ·have:=hL (max (Yc (e.fr+o.n)) (Yc (f-st)));split
    ·exact Qej _ _ dA (Qdz _)
    exact Qej _ _ dA (Qdz _)
   exact h1 _ (mb.length+5) zd zd zd
open Go Go.Abs
def eF(l:List En):P2:=(l.map Qd).flatten
@[simp] theorem avg:eF []=[]:=rfl
@[simp] theorem asq(e:En)(l:List En):eF (e::l)=I e.id::I e.it::I e.fr::I e.ea::I e.la::I e.bo::.sl .ro (e.al.map Qe)::eF l:=rfl
def Jb:∀l,(eF l).length=l.length*7
 |[]=>rfl
 |s::r=>by simp[Jb r];omega
def pW:∀a b,eF (a++b)=eF a++eF b
 |[],_=>rfl
 |s::r,b=>by simp[pW r b]
def GM:∀(l:List En)(i:Nat),(eF l).drop (i*7)=eF (l.drop i)
 |[],i=>zd
 |s::r,0=>zd
 |s::r,i+1=>by rw[show(i+1)*7=i*7+1+1+1+1+1+1+1 by omega];simp[GM r i]
def Dx{l:List En}{i:Nat}{s:En}(h:l[i]?=some s):(eF l).drop (i*7)=I s.id::I s.it::I s.fr::I s.ea::I s.la::I s.bo::.sl .ro (s.al.map Qe)::eF (l.drop (i+1)):=by
 rw[GM];have ah:=(zza.1 h).1;rw[zzag ah,(zza.1 h).2];rfl
def aeZ(l:List En)(i:Nat)(s:En)(h:i<l.length):setA (eF l) (i*7) [I s.id,I s.it,I s.fr,I s.ea,I s.la,I s.bo,.sl .ro (s.al.map Qe)]=eF (l.set i s):=by
 obtain⟨pre,r,h1,h2,h3⟩:=Lo (ens:=l) (i:=i) (zzaf h);unfold eF;rw[h2,h3,<- h1];exact GA pre _ r _ rfl
def Lp(l:List En):Zl (eF l)=true:=kW (fun _=>rfl) l
def Ri(l:List En):aY 7 l.length (eF l)=l.map Qd:=by
 have:=Qbr (kX (f:=Qd) (sz:=7) (fun _=>rfl) l);simpa[eF]using this
def rE(row:P2):∀n,(bF n row).length=n*row.length
 |0=>by simp[bF]
 |n+1=>by simp[bF,rE row n,zzbr];omega
def nQ:P2:=[I 0,I 0,I 0,I 0,I 0,I 0,.sl .nil []]
def GN:∀n,Zl (bF n nQ)=true
 |0=>rfl
 |n+1=>by have:=GN n;unfold Zl at this |-;rw[bF,zzfe,this];rfl
def mB(x:Int)(e:En):Bool:=decide (e.id=x)
def yq(e:En)(a0 a1 a2 a3:AV)(x:Int)(r:P2):Pure Tryz.prog aD 147 [.agg (Qd e),.ep (a0::a1::a2::a3::I x::r) 0] (.bool (mB x e)):=by
 refine Qp acv (fun _ _ _=>.junk) zd ?_;simp[ag0,ag1,Qd,mB];rw[zzda];simp
def ae0{x:Int}{l:List En}(h:Ur (mB x) l 0= -1):l.filter (fun e=>!mB x e)=l:=by
 cases hf:l.find? (mB x)with
 |some a=>obtain⟨k,h1,_⟩:=Wm (i:=0) hf;rw[h1]at h;omega
 |none=>
  rw[List.find?_eq_none]at hf;rw[zzfw];intro a ha;simpa using hf a ha
def On{x:Int}:∀{l:List En}{i:Nat},Ur (mB x) l i≠ -1->∃k:Nat,Ur (mB x) l i=((i+k:Nat):Int)/\k<l.length/\(l.take (k+1)).filter (fun e=>!mB x e)=l.take k
 |[],_,h=>absurd rfl h
 |s::r,i,h=>by
  simp only[Ur]at h |-
  split
  ·rename_i hs;exact⟨0,rfl,zd,by simp[hs]⟩
  rename_i hs;rw[if_neg hs]at h;obtain⟨k,h1,h2,h3⟩:=On h;exact⟨k+1,by rw[h1];congr 1;omega,Nm h2,by simp only[zzel,zzcx];simp[hs,h3]⟩
def yt(k:Int)(x:Int):UV:=fun _ f l=>if f=148 then I k else match l with
 |.agg (.int _ n::_)::_=>.bool (decide (n=x))
 |_=>.junk
def ZG(Y:YT)(l:List En)(hl:l.length<=1000000000)(B:T5)(L:Pa)(st:Nat->LS)(n id:Nat)(aL:id<B.length)(aO:l≠[])(hB:Qh B id=eF l)
  (kk:Nat)(a0 a1 a2 a3:AV)(x:Int)(r:P2)(hkk:kk<B.length)(fh:kk≠id)(hk:Qh B kk=a0::a1::a2::a3::I x::r)(bV:Zl (a0::a1::a2::a3::I x::r)=true)(K:So)
  (hK:∀(B':T5)(z:P2),bC (·=id) B B'->Qh B' id=eF (l.filter fun e=>!mB x e)++z->(l.filter fun e=>!mB x e).length*7+z.length=l.length*7->Zl z=true->K (.bs id 0 (l.filter fun e=>!mB x e).length 7) ⟨B',L,st,n⟩):
  aB Tryz.prog aD Y 146 [.bs id 0 l.length 7,.fn 147 [] [.ptr kk 0]] ⟨B,L,st,n⟩ K:=by
 have Lq:=GK l (mB x) 147 [] [.ep (a0::a1::a2::a3::I x::r) 0] hl (fun _=>rfl) (fun _=>zd) (fun e _=>yq e a0 a1 a2 a3 x r) (yt 0 x) (fun _ e _=>by simp[yt,Qd,mB]);have gE:=Va ⟨B,L,st,n⟩ 4 (Lp l);have iu:=Ri l;have aH:=Jb l
 have hkc:∀B' d,Qh B' kk=Qh B kk->bA ⟨B',L,st,n⟩ (d+2) (.ptr kk 0)=.ep (a0::a1::a2::a3::I x::r) 0:=fun B' d h=>by
  rw[pX,Yb,h,hk,Va _ _ bV]
 refine Xl acu (yt (Ur (mB x) l 0) x) zd ?_;by_cases dF:Ur (mB x) l 0= -1
 ·have hf:=ae0 dF;rw[dF]at Lq;have:=hK B [] (bC.refl _ _) (by rw[hf];simpa using hB) (by rw[hf];simp) rfl;rw[hf]at this;have hc:=fun d=>hkc B d rfl;simp[-pX,MT,TU,yt,dF,hB,gE,iu,aH,hc];exact⟨Lq,this⟩
 obtain⟨k,W4,ef,Bx⟩:=On dF;rw[zzbs]at W4;have Eg:¬(k:Int)= -1:=zE
 have sF:=bO k zE;rw[W4]at Lq;have hc:=fun d=>hkc B d rfl;simp[-pX,MT,TU,yt,W4,Eg,hB,gE,iu,aH,sF,hc];refine⟨Lq,?_⟩
 refine Qi B9 (fun f m=>∃(i j:Nat)(B':T5)(L':List En),f 5=I i/\f 6=I j/\i<j/\j<=l.length/\m=⟨B',L,st,n⟩/\bC (·=id) B B'/\Qh B' id=eF L'/\L'.length=l.length/\L'.take i=(l.take j).filter (fun e=>!mB x e)/\L'.drop j=l.drop j)
  (fun f m=>l.length-(numOf (f 6)).toNat) ?_ ?_
 ·exact⟨k,k+1,B,l,zd,zd,zE,zE,rfl,bC.refl _ _,hB,rfl,Bx.symm,rfl⟩
 rintro f m ⟨i,j,B',L',h5,h6,eG,hj,rfl,nB,eS,tU,ht,hd⟩;have cI:id<B'.length:=zzba aL nB.1;have axx:kk<B'.length:=zzba hkk nB.1;have jv:=Jb L';have hkB:Qh B' kk=Qh B kk:=nB.2 kk hkk fh;have fA:∀ex d,bA ⟨B'++ex,L,st,n⟩ (d+2) (.ptr kk 0)=.ep (a0::a1::a2::a3::I x::r) 0:=fun ex d=>hkc _ d (by rw[Qn axx,hkB]);rcases zzaa j l.length with ah|bq
 ·obtain⟨s,hs⟩:=aV ah
  have dM:L'[j]?=some s:=by
   have:=congrArg (fun x=>x[0]?) hd;simpa[hs]using this
  have hg:=Dx dM;have dH:(j:Int)<(l.length:Int):=zE
  have aa:(i:Int)<(l.length:Int):=zE
  have wZ:i<l.length:=zE
  have sU:=bO j zE;have XO:=bO i zE;have hp:=yq s a0 a1 a2 a3 x r;simp only[Qd]at hp;have bS:=aeZ L' i s zE;have iq:∀x,Qh (B'++x) id=eF L':=fun x=>by rw[Qn cI,eS]
  have lM:∀x v,(B'++x).set id v=B'.set id v++x:=fun x v=>Yi v cI
  have bB:(l.take (j+1)).filter (fun e=>!mB x e)=(l.take j).filter (fun e=>!mB x e)++[s].filter (fun e=>!mB x e):=by
   rw[zzb,hs,zzde];rfl
  have hdj:L'.drop (j+1)=l.drop (j+1):=by
   have:=congrArg (List.drop 1) hd;simpa[zze,zzff]using this
  by_cases he:s.id=x
  ·have GO:mB x s=true:=by simp[mB,he]
   rw[GO]at hp;simp[-setA,jP,jQ,-pX,fA,h5,h6,dH,eS,iq,hg,B9,yt,he,sU];rw[he]at hp;refine⟨hp,aQ,⟨i,rfl,j+1,zd,zE,zE,nB.app _,?_⟩,zE⟩
   ·refine⟨L',rfl,tU,?_,hdj⟩;rw[bB,ht];simp[GO]
  have GO:mB x s=false:=by simp[mB,he]
  rw[GO]at hp;simp[-setA,jP,jQ,-pX,fA,h5,h6,dH,aa,eS,iq,lM,hg,B9,yt,he,sU,XO,bS,jv,tU];refine⟨hp,⟨zE,zE⟩,aQ,⟨i+1,zd,j+1,zd,zE,zE,(nB.set (.inl rfl) _).app _,?_⟩,zE⟩
  ·refine⟨L'.set i s,by rw[Qn (Nm cI),Yf _ cI],Nm tU,?_,?_⟩
   ·rw[bB,<- ht,zzb,zzbg zE,zzfu zE];simp[GO]
   rw[zzfv zE];exact hdj
 obtain rfl:j=l.length:=zE
 rw[zzbu]at ht;have fu:(l.filter (fun e=>!mB x e)).length=i:=by rw[<- ht,zzaq];omega
 have N0:¬((l.length:Nat):Int)<(l.length:Int):=zE
 have bQ:(i:Int)<=(l.length:Int):=zE
 have aa:(i:Int)<(l.length:Int):=zE
 have wZ:i<l.length:=eG
 have fK:eF L'≠[]:=by
  intro h;have:=congrArg List.length h;rw[jv,tU]at this;simp at this;omega
 have qs:setA (eF L') (i*7) (bF (l.length-i) [I 0,I 0,I 0,I 0,I 0,I 0,.sl .nil []])=eF (l.filter (fun e=>!mB x e))++bF (l.length-i) nQ:=by
  have e1:L'=L'.take i++L'.drop i:=zd
  conv=>lhs;rw[e1]
  rw[pW,<- ht];have e2:(eF (L'.take i)).length=i*7:=by rw[Jb,zzaq];congr 1;omega
  rw[<- e2];exact o6 _ _ _ (by rw[rE,Jb];simp;omega)
 simp[-setA,h5,h6,N0,eS,aa,bQ,B9,cI,fK,jv,tU,qs];refine⟨zE,?_⟩;have:=hK (B'.set id (eF (l.filter (fun e=>!mB x e))++bF (l.length-i) nQ)) (bF (l.length-i) nQ) (nB.set (.inl rfl) _) (Yf _ cI) (by rw[rE,fu];simp[nQ];omega) (GN _);rw[fu]at this;exact this
open Go Go.Abs
def bC.form{id:Nat}{B B':T5}(h:bC (·=id) B B')(aL:id<B.length):B'=B.set id (Qh B' id)++B'.drop B.length:=by
 have hl:=h.1;apply zzdb;intro j;rcases zzaa j B.length with hj|hj
 ·rw[zzaj (Nm hj),Jj (B:=B') zE];by_cases AD:j=id
  ·subst AD;rw[zzbg aL]
  rw[zzbn zE,Jj hj,h.2 j hj AD]
 rw[zzap (Nm hj),zzch,zzbl];congr 1;omega
def Rj(Y:YT)(l:List En)(hl:l.length<=1000000000)(B:T5)(L:Pa)(st:Nat->LS)(n id:Nat)(aL:id<B.length)(aO:l≠[])(hB:Qh B id=eF l)
  (kk:Nat)(a0 a1 a2 a3:AV)(x:Int)(r:P2)(hkk:kk<B.length)(fh:kk≠id)(hk:Qh B kk=a0::a1::a2::a3::I x::r)(bV:Zl (a0::a1::a2::a3::I x::r)=true)(K:So)
  (hK:∀(ex:T5)(z:P2),Zl z=true->K (.bs id 0 (l.filter fun e=>!mB x e).length 7) ⟨B.set id (eF (l.filter fun e=>!mB x e)++z)++ex,L,st,n⟩):
  aB Tryz.prog aD Y 146 [.bs id 0 l.length 7,.fn 147 [] [.ptr kk 0]] ⟨B,L,st,n⟩ K:=
 ZG Y l hl B L st n id aL aO hB kk a0 a1 a2 a3 x r hkk fh hk bV K fun B' z h1 h2 _ h4=>by
  have:=bC.form h1 aL;rw[h2]at this;rw[this];exact hK _ z h4
def yu(g:Pg)(o:Od):Option Pl:=if Je g o.en<0 then none else some {g.p with ens:=g.p.ens.filter fun e=>!mB o.en e}
def ZH(Y:YT)(m:AM)(g:Pg)(f:Int)(mid:Nat)(o:Od)(h:lQ g f)(hp:Br g.p)(K:So)
  (h0:yu g o=none->∀ex,K (.aS [.agg uY,.bool false]) {m with boxes:=m.boxes++ex})
  (h1:∀q,yu g o=some q->∀ex k z,m.boxes.length<=k->k<(m.boxes++ex).length->Qh (m.boxes++ex) k=eF q.ens++z->Zl z=true->K (.aS [.agg (Xp q (.bs k 0 q.ens.length 7) (.sl .ro (q.cls.map Qg)) 0),.bool true]) {m with boxes:=m.boxes++ex}):
  aB Tryz.prog aD Y 91 [.agg (Qr g f mid),.agg (Qq o)] m K:=by
 obtain⟨mb,ml,ms,mn⟩:=m;have kp:=fun ex K hK=>Ln Y ⟨mb++ex,ml,ms,mn⟩ g f mid o.en h K hK;simp only[Qr,Qj,Qa,zzae,zzai]at kp;by_cases CG:Je g o.en<0
 ·have hx:yu g o=none:=by unfold yu;rw[if_pos CG]
  refine Xl Tz (fun _ _ _=>.gd false .junk) zd ?_;simp[akK,akL,Qr,Qj,Qa,Qq,Qd,Qg,Qk];refine kp _ _ ?_;simp[CG];have:=h0 hx;simp[uY]at this;exact this _
 have hx:yu g o=some {g.p with ens:=g.p.ens.filter fun e=>!mB o.en e}:=by unfold yu;rw[if_neg CG]
 have aO:g.p.ens≠[]:=by
  intro e;unfold Je at CG;rw[e]at CG;simp[Ur]at CG
 have h1:=h1 _ hx;have kO:=fun ex K hK=>yp Y ⟨mb++ex,ml,ms,mn⟩ g.p hp aO K hK;simp only[Qa]at kO;have kD:=fun B id aL hB kk a0 a1 a2 a3 r hkk fh hk bV=>Rj Y g.p.ens h.2.2.2 B ml ms mn id aL aO hB kk a0 a1 a2 a3 o.en r hkk fh hk bV;refine Xl Tz (fun _ _ _=>.gd false .junk) zd ?_;simp[akK,akL,Qr,Qj,Qa,Qq,Qd,Qg,Qk];refine kp _ _ ?_;simp[CG];refine kO _ _ fun c0 c1 bx=>?_;simp[Un,zzan];refine kD _ _ zd ?_ (mb.length+1) (I o.sq) (I o.ch) (I o.fr) (I o.ki) _ zd zE (by simp;rfl) ?_ _ ?_
 ·simp[eF]
 ·simp[Zl,GP]
 intro ex z hz;simp[zzan];refine⟨zE,?_⟩;exact h1 _ (mb.length+5) z zd zd zd hz
open Go Go.Abs
def GQ(Y:YT)(l:List Cl)(h:l.length<=1000000000)(m:AM)(K:So)(hK:K (.sl (.own m.lens.length 8) (l.map Qg)) {m with lens:=m.lens++[l.length]}):aB Tryz.prog aD Y 121 [.sl .ro (l.map Qg)] m K:=by
 refine Xl ML (fun _ _ _=>.junk) zd ?_;simp[TL,TM];exact⟨⟨fun _ _=>rfl,zE⟩,hK⟩
def Jf(p:Pl)(V W:AV):P2:=[I p.ch,I p.nu,I p.de,I p.of,.sl .ro (p.sh.map Qe),I p.ep,I p.rg,I p.ln,I p.fi,.sl .ro (p.aN.map Qm),V,.sl .ro (p.bks.map Xi),W]
def yw(p:Pl):UV:=fun d f l=>if f=121 then .gd false .junk else Km p d f l
def ZI(Y:YT)(m:AM)(p:Pl)(h:Br p)(hn:p.ens≠[])(K:So)
  (hK:∀c0 c1 bx,K (.agg (Jf p (.bs (m.boxes.length+2) 0 p.ens.length 7) (.sl (.own m.lens.length 8) (p.cls.map Qg)))) {m with boxes:=m.boxes++(c0::c1::(p.ens.map Qd).flatten::bx),lens:=m.lens++[p.cls.length]}):aB Tryz.prog aD Y 66 [.agg (Qa p)] m K:=by
 obtain⟨mb,ml,ms,mn⟩:=m;obtain⟨h1,h2,h3,h4,h5,h6⟩:=h;have k1:=pR p.sh zE;have k2:=pS p.aN zE;have k4:=pT p.bks zE;have hsz:=kX (f:=Qd) (sz:=7) (fun _=>rfl) p.ens;refine Xl vn (yw p) zd ?_;have aO:p.ens.map Qd≠[]:=by simpa using hn
 simp[IY,Qa,yw,Km,hn];refine⟨k1,k2,yg _ _ hsz (by simpa using by omega) aO _ _ ?_⟩;simp;obtain⟨F,hF⟩:∃F,(p.ens.map Qd).flatten=F:=⟨_,rfl⟩;have hFl:F.length=p.ens.length*7:=by rw[<- hF,jR hsz];simp
 have bV:Zl F=true:=by rw[<- hF];exact kW (fun _=>rfl) _
 have hmp:∀m,F.map (bA m 4)=F:=fun m=>Va m 3 bV;rw[hF]at hK |-
 refine Qi ez (aiI p mb ml ms mn [I 0,I 0,I 0,I 0,.sl .nil [],I 0,I 0,I 0,I 0,.sl .nil [],.sl .nil [],.sl .nil [],.sl .nil []]) (fun f _=>p.ens.length-(numOf (f 22)).toNat) ?_ ?_
 ·exact⟨0,[],zd,zE,by rw[hF];simp[Un]⟩
 rintro f m ⟨i,bx,f22,hi,rfl⟩;rw[hF];rcases zzaa i p.ens.length with ah|bq
 ·obtain⟨e,he⟩:=aV ah;have aa:(i:Int)<(p.ens.length:Int):=zE
  have hw:=bO i zE;obtain⟨⟨r,hd⟩,bY⟩:=uV hsz (i:=i) (row:=Qd e) (by simp[he]);rw[hF]at hd bY;simp only[Qd,zzae,zzai]at hd bY;have GC:=Wt e (h6 e (zzad he));simp only[Qd]at GC;simp[-setA,jP,jQ,f22,ez,aa,hd,bY,hFl,hw,yw,Km,Un];refine⟨GC,zE,aQ,⟨i+1,bx++[[I e.id,I e.it,I e.fr,I e.ea,I e.la,I e.bo,.sl .ro (e.al.map Qe)]],zd,zE,by rw[hF];simp[Un]⟩,zE⟩
 obtain rfl:i=p.ens.length:=zE
 simp[f22,ez,IZ,yw,Km,Un];simp[Jf]at hK;refine⟨k4,GQ _ _ zE _ _ ?_⟩;simp;exact hK _ _ _
def Rk(Y:YT)(m:AM)(p:Pl)(h:Br p)(hn:p.ens=[])(K:So)
  (hK:∀c0 c1,K (.agg (Jf p (.sl .ro []) (.sl (.own m.lens.length 8) (p.cls.map Qg)))) {m with boxes:=m.boxes++[c0,c1],lens:=m.lens++[p.cls.length]}):aB Tryz.prog aD Y 66 [.agg (Qa p)] m K:=by
 obtain⟨mb,ml,ms,mn⟩:=m;obtain⟨h1,h2,h3,h4,h5,h6⟩:=h;have k1:=pR p.sh zE;have k2:=pS p.aN zE;have k4:=pT p.bks zE;have k3:=GB;refine Xl vn (yw p) zd ?_;simp[IY,Qa,yw,Km,hn];refine⟨k1,k2,k3,?_⟩;refine Qi ez (fun f m=>f 22=I 0/\m=⟨mb++[[I p.ch,I p.nu,I p.de,I p.of,.sl .ro (p.sh.map Qe),I p.ep,I p.rg,I p.ln,I p.fi,.sl .ro (p.aN.map Qm),.sl .ro [],.sl .ro (p.bks.map Xi),.sl .ro (p.cls.map Qg)],[I 0,I 0,I 0,I 0,.sl .nil [],I 0,I 0,I 0,I 0,.sl .nil [],.sl .nil [],.sl .nil [],.sl .nil []]],ml,ms,mn⟩) (fun f _=>0) ?_ ?_
 ·exact⟨zd,zd⟩
 rintro f m ⟨f22,rfl⟩;simp[f22,ez,IZ,yw,Km];refine⟨k4,GQ _ _ zE _ _ ?_⟩;simp;simp[Jf]at hK;exact hK _ _
def Dy(rt:Rt):Prop:=∀m d x,bA m (d+1) (.sl rt x)=.sl .ro x
def Dy.ro:Dy .ro:=fun _ _ _=>rfl
def Dy.own(k s:Nat):Dy (.own k s):=fun _ _ _=>rfl
def mC(bx:T5)(V:AV)(l:List En):Prop:=(∃rt,V=.sl rt (l.map Qd)/\Dy rt)\/∃k z,V=.bs k 0 l.length 7/\k<bx.length/\Qh bx k=eF l++z/\Zl z=true
def GR(n:Nat)(V:AV):Prop:=∀k o l s,V=.bs k o l s->n<=k
def GR.sl(n:Nat)(rt:Rt)(rows:T5):GR n (.sl rt rows):=fun _ _ _ _ h=>by cases h
def GR.bs{n k o l s:Nat}(h:n<=k):GR n (.bs k o l s):=fun _ _ _ _ e=>by cases e;exact h
def Dz(g:Pg)(o:Od):Pl:={g.p with cls:=g.p.cls++[o.cl]}
def ZJ(Y:YT)(m:AM)(g:Pg)(f:Int)(mid:Nat)(o:Od)(hp:Br g.p)(K:So)
  (h1:∀ex V,mC (m.boxes++ex) V g.p.ens->GR m.boxes.length V->K (.aS [.agg (Xp (Dz g o) V (.sl (.own m.lens.length 8) ((Dz g o).cls.map Qg)) 0),.bool true]) {m with boxes:=m.boxes++ex,lens:=m.lens++[g.p.cls.length+1]}):
  aB Tryz.prog aD Y 87 [.agg (Qr g f mid),.agg (Qq o)] m K:=by
 obtain⟨mb,ml,ms,mn⟩:=m;have hc:=hp.2.2.2.2.1
 have ai:∀row:P2,((∃a,a∈g.p.cls/\Qg a=row)\/row=Qg o.cl)->row.length=8:=by
  rintro row (⟨a,_,rfl⟩|rfl)<;>rfl
 simp only[Dz,Xp,zzci,zzas,zzcs]at h1;by_cases aO:g.p.ens=[]
 ·have kO:=fun ex K hK=>Rk Y ⟨mb++ex,ml,ms,mn⟩ g.p hp aO K hK;simp only[Qa]at kO;refine Xl Tv (fun _ _ l=>.gd false .junk) zd ?_;simp[akE,akF,Qr,Qj,Qa,Qq,Qd,Qg,Qk];refine kO _ _ fun c0 c1=>?_;simp[Jf];refine⟨⟨ai,zE⟩,?_⟩;exact h1 _ _ (.inl ⟨.ro,by rw[aO];rfl,Dy.ro⟩) (GR.sl _ _ _)
 have kO:=fun ex K hK=>ZI Y ⟨mb++ex,ml,ms,mn⟩ g.p hp aO K hK;simp only[Qa]at kO;refine Xl Tv (fun _ _ l=>.gd false .junk) zd ?_;simp[akE,akF,Qr,Qj,Qa,Qq,Qd,Qg,Qk];refine kO _ _ fun c0 c1 bx=>?_;simp[Jf,zzan];refine⟨⟨ai,zE⟩,?_⟩;exact h1 _ _ (.inr ⟨mb.length+5,[],rfl,zd,by simp[eF],rfl⟩) (GR.bs zd)
open Go Go.Abs
def mC.ext{bx:T5}{V:AV}{l:List En}(h:mC bx V l)(ex:T5):mC (bx++ex) V l:=by
 obtain h|⟨k,z,h1,h2,h3,h4⟩:=h
 ·exact .inl h
 exact .inr ⟨k,z,h1,by simp;omega,by rw[Qn h2,h3],h4⟩
def Rl(Y:YT)(m:AM)(V:AV)(L:List En)(id:Int)(hV:mC m.boxes V L)(hl:L.length<=1000000000):aB Tryz.prog aD Y 62 [V,I id,.fn 63 [] []] m (fun r m'=>m'=m/\r=sN (Xw id L)):=by
 obtain⟨mb,ml,ms,mn⟩:=m;refine aB.read ?_;obtain⟨rt,rfl,aX⟩|⟨k,z,rfl,hk,hB,hz⟩:=hV
 ·refine Xl IW (fun _ f l=>if f=63 then(match l with|[.agg (c::_)]=>c|_=>.junk)else .junk) zd ?_;simp[abC];refine Qi gM (fun f m=>∃(i:Nat)(bx:T5),f 13=I i/\i<=L.length/\Xw id (L.drop i)=Xw id L/\m=⟨mb++([I 0,I 0,I 0,I 0,I 0,I 0,.sl .nil []]::bx),ml,ms,mn⟩) (fun f _=>L.length-(numOf (f 13)).toNat) ?_ ?_
  ·exact⟨0,[],zd,zE,rfl,rfl⟩
  rintro f m ⟨i,bx,eT,hi,hf,rfl⟩;rcases zzaa i L.length with ah|bq
  ·obtain⟨x,hx⟩:=aV ah;have ai:Qh (L.map Qd) i=Qd x:=Qu (by simp[hx]);have aa:(i:Int)<(L.length:Int):=zE
   have hw:=bO i zE;have hd:L.drop i=x::L.drop (i+1):=by rw[zzag ah,(zza.1 hx).2]
   have Cu:=nK x;rw[hd,Xw]at hf;by_cases aL:x.id=id
   ·rw[if_pos aL]at hf;simp[eT,aa,ai,Qd,aL,gM,IV,<- hf,sN];refine⟨by simpa[Qd,aL]using Cu,nP⟩
   rw[if_neg aL]at hf;simp[eT,aa,ai,Qd,aL,gM,hw];refine⟨Cu,aQ,⟨i+1,zd,zE,hf⟩,zE⟩
  rw[zzal bq]at hf;have bQ:¬(i:Int)<(L.length:Int):=zE
  simp[eT,bQ,gM,IV,<- hf,sN,Xw];exact nP
 have hR:∀ex,Qh (mb++ex) k=eF L++z:=fun ex=>by rw[Qn hk];exact hB
 refine Xl IW (fun _ f l=>if f=63 then(match l with|[.agg (c::_)]=>c|_=>.junk)else .junk) zd ?_;simp[abC];refine Qi gM (fun f m=>∃(i:Nat)(bx:T5),f 13=I i/\i<=L.length/\Xw id (L.drop i)=Xw id L/\m=⟨mb++([I 0,I 0,I 0,I 0,I 0,I 0,.sl .nil []]::bx),ml,ms,mn⟩) (fun f _=>L.length-(numOf (f 13)).toNat) ?_ ?_
 ·exact⟨0,[],zd,zE,rfl,rfl⟩
 rintro f m ⟨i,bx,eT,hi,hf,rfl⟩;rcases zzaa i L.length with ah|bq
 ·obtain⟨x,hx⟩:=aV ah;have hg:=Dx hx
  have ai:∀ex,(Qh (mb++ex) k).drop (i*7)=I x.id::I x.it::I x.fr::I x.ea::I x.la::I x.bo::.sl .ro (x.al.map Qe)::(eF (L.drop (i+1))++z):=fun ex=>by
   rw[hR,zzdy (by rw[Jb];omega),hg];rfl
  have aa:(i:Int)<(L.length:Int):=zE
  have hw:=bO i zE;have hd:L.drop i=x::L.drop (i+1):=by rw[zzag ah,(zza.1 hx).2]
  have Cu:=nK x;rw[hd,Xw]at hf;by_cases aL:x.id=id
  ·rw[if_pos aL]at hf;simp[eT,aa,ai,Qd,aL,gM,IV,<- hf,sN];refine⟨by simpa[Qd,aL]using Cu,nP⟩
  rw[if_neg aL]at hf;simp[eT,aa,ai,aL,gM,hw];refine⟨Cu,aQ,⟨i+1,zd,zE,hf⟩,zE⟩
 rw[zzal bq]at hf;have bQ:¬(i:Int)<(L.length:Int):=zE
 simp[eT,bQ,gM,IV,<- hf,sN,Xw];exact nP
def al2(Y:YT)(m:AM)(V:AV)(L:List En)(id:Int)(hV:mC m.boxes V L)(hl:L.length<=1000000000)(K:So)(hK:K (sN (Xw id L)) m):aB Tryz.prog aD Y 62 [V,I id,.fn 63 [] []] m K:=
 aB.mono (Rl Y m V L id hV hl) (by rintro r m' ⟨rfl,rfl⟩;exact hK)
open Go Go.Abs
def nR:∀(l:List En)(z:P2),aY 7 l.length (eF l++z)=l.map Qd
 |[],z=>rfl
 |e::r,z=>by
  have:=nR r z;simp[Qd,this]
def mC.bA{bx:T5}{V:AV}{l:List En}(h:mC bx V l)(ex:T5)(ml:Pa)(ms:Nat->LS)(mn:Nat)(d:Nat):Abs.bA ⟨bx++ex,ml,ms,mn⟩ (d+2) V=.sl .ro (l.map Qd):=by
 obtain⟨rt,rfl,aX⟩|⟨k,z,rfl,hk,hB,hz⟩:=h
 ·exact aX _ _ _
 have bV:Zl (eF l++z)=true:=by have:=Lp l;unfold Zl at this hz |-;rw[zzfe,this,hz];rfl
 rw[ZK,Yb,Qn hk,hB,Va _ _ bV,if_pos (by rw[zzak,Jb];omega),zzdc,nR]
def mC.cell{bx:T5}{V:AV}{l:List En}(h:mC bx V l):Qx V=true:=by
 rcases h with⟨rt,rfl,aX⟩|⟨k,z,rfl,hk,hB,hz⟩<;>rfl
def Lr(Y:YT)(m:AM)(q:Pl)(V:AV)(rt:Rt)(id:Int)(hV:mC m.boxes V q.ens)(hl:q.ens.length<=1000000000)(ha:∀e∈q.ens,e.al.length<=8796093022208):
  aB Tryz.prog aD Y 29 [.agg (Jf q V (.sl rt (q.cls.map Qg))),I id] m (fun r m'=>m'=m/\r=sN (Xw id q.ens)):=by
 obtain⟨mb,ml,ms,mn⟩:=m;have hc:=hV.cell;have kf:=fun ex K hK=>al2 Y ⟨mb++ex,ml,ms,mn⟩ V q.ens id (hV.ext ex) hl K hK;refine aB.read (Xl S6 (fun _ f l=>if f=62 then .gd false .junk else l.headD .junk) zd ?_);simp[abq,abr,Jf,hc];refine kf _ _ ?_;cases hf:Xw id q.ens with
 |none=>
  simp[sN];exact⟨jI,nP⟩
 |some x=>
  have hx:x∈q.ens:=by
   have:∀l:List En,Xw id l=some x->x∈l:=by
    intro l;induction l with
    |nil=>intro h;cases h
    |cons y r ih=>
     intro h;simp only[Xw]at h;split at h
     ·cases h;simp
     simp[ih h]
   exact this _ hf
  have qs:=Qck x.al (ha x hx);simp[sN,Qd];exact⟨qs,nP⟩
def Oo(Y:YT)(m:AM)(q:Pl)(V:AV)(rt:Rt)(id:Int)(hV:mC m.boxes V q.ens)(hl:q.ens.length<=1000000000)(ha:∀e∈q.ens,e.al.length<=8796093022208)(K:So)(hK:K (sN (Xw id q.ens)) m):
  aB Tryz.prog aD Y 29 [.agg (Jf q V (.sl rt (q.cls.map Qg))),I id] m K:=
 aB.mono (Lr Y m q V rt id hV hl ha) (by rintro r m' ⟨rfl,rfl⟩;exact hK)
def Ls(Y:YT)(m:AM)(g:Pg)(f:Int)(mid:Nat)(o:Od)(q:Pl)(V:AV)(rt:Rt)(d:Int)(hV:mC m.boxes V q.ens):
  aB Tryz.prog aD Y 88 [.agg (Qr g f mid),.agg (Qq o),.agg (Xp q V (.sl rt (q.cls.map Qg)) d)] m (fun r m'=>m'=m/\r=.bool true):=by
 obtain⟨mb,ml,ms,mn⟩:=m;have hc:=hV.cell;refine aB.read (Xl akG (fun _ _ _=>.junk) zd ?_);simp[apm,apn,Qr,Qj,Qa,Qq,Qd,Qg,Qk,Xp,hc];exact nP
def GU(Y:YT)(m:AM)(g:Pg)(f:Int)(mid:Nat)(b:QR)(o:Od)(q:Pl)(V:AV)(rt:Rt)(d:Int)(hV:mC m.boxes V q.ens)(h:lQ g f)(hb:fP m.boxes mid b):
  aB Tryz.prog aD Y 92 [.agg (Qr g f mid),.agg (Qq o),.agg (Xp q V (.sl rt (q.cls.map Qg)) d)] m (fun r m'=>m'=m/\r=.bool !(Dv g f b o.en)):=by
 obtain⟨mb,ml,ms,mn⟩:=m;have hc:=hV.cell;have hB:∀ex,fP (mb++ex) mid b:=fun ex=>⟨by have:=hb.1;simp at this |-;omega,hb.ext ex⟩;have k:=fun ex K hK=>asn Y ⟨mb++ex,ml,ms,mn⟩ g f mid b o.en h (hB ex) K hK;simp only[Qr,Qj,Qa,zzae,zzai]at k;refine aB.read (Xl akM (fun _ _ _=>.gd false .junk) zd ?_);simp[apo,apq,Qr,Qj,Qa,Qq,Qd,Qg,Qk,Xp,hc];refine k _ _ ?_;simp;exact nP
