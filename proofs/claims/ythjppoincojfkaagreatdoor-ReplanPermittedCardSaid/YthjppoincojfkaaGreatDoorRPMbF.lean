import Derived.Test.YthjppoincojfkaaGreatDoorRPMbB
set_option linter.all false
set_option maxRecDepth 100000
set_option maxHeartbeats 64000000
namespace Go.Proofs.YthjppoincojfkaaGreatDoor
open Go Go.Abs
def Ol:ByteArray:=⟨#[32]⟩
def jN{α:Type}(l:List α):l=[]\/∃L b,l=L++[b]:=by
 rcases zzhf l with h|⟨L,b,h⟩
 ·exact .inl h
 exact .inr ⟨L,b,by rw[h,zzhg]⟩
def Lg(ew:List ByteArray)(w:ByteArray):List ByteArray:=match ew.getLast? with
 |some r=>if r.size+1+w.size<=32 then ew.dropLast++[r++(Ol++w)]else ew++[w]
 |none=>[w]
theorem xZ(w:ByteArray):Lg [] w=[w]:=rfl
def rB(pre:List ByteArray)(r w:ByteArray):Lg (pre++[r]) w=if r.size+1+w.size<=32 then pre++[r++(Ol++w)]else pre++[r]++[w]:=by simp[Lg]
def lay:List ByteArray->List ByteArray->Option (List ByteArray)
 |ew,[]=>some ew
 |ew,w::r=>if 32<w.size then none else lay (Lg ew w) r
def Dr:∀(a b ew:List ByteArray),lay ew (a++b)=(lay ew a).bind fun x=>lay x b
 |[],_,_=>rfl
 |w::r,b,ew=>by
  simp only[zzae,lay];split
  ·rfl
  exact Dr r b _
def Ds(s:ByteArray):∀(n i:Nat)(first:Option Nat),(YZ s n i first).length<=n+1
 |0,i,first=>by rw[YZ];cases first<;>simp[sW]
 |n+1,i,first=>by
  rw[YZ];split
  ·have:=Ds s n (i+1) (some (first.getD i));omega
  have:=Ds s n (i+1) none;rw[zzak];have h2:(sW s i first).length<=1:=by cases first<;>simp[sW]
  omega
def Y9(a b:ByteArray):(a++b).size=a.size+b.size:=zd
def ae9{ew:List ByteArray}{w:ByteArray}(h:∀r∈ew,r.size<=32)(hw:w.size<=32):∀r∈Lg ew w,r.size<=32:=by
 rcases jN ew with rfl|⟨pre,r,rfl⟩
 ·intro x hx;simp[xZ]at hx;subst hx;exact hw
 rw[rB];split
 ·intro x hx;rcases zzam.1 hx with hx|hx
  ·exact h x (by simp[hx])
  simp only[zzca]at hx;subst hx;rw[Y9,Y9];have:Ol.size=1:=rfl;omega
 intro x hx;rcases zzam.1 hx with hx|hx
 ·exact h x hx
 simp only[zzca]at hx;subst hx;exact hw
def Zs(ew:List ByteArray)(w:ByteArray):(Lg ew w).length<=ew.length+1:=by
 rcases jN ew with rfl|⟨pre,r,rfl⟩
 ·simp[xZ]
 rw[rB];split<;>simp
def mF(s:ByteArray):Option (List ByteArray):=if 200<s.size\/YY s=false then none else match lay [] (nQ s)with
 |some l=>if l=[]\/4<l.length then none else some l
 |none=>none
def Wd(l:List ByteArray):P2:=l.map AV.str
def Lh(r:ByteArray):P2:=[.str r]
def mG:Option (List ByteArray)->AV
 |none=>.aS [.sl .nil [],.bool false]
 |some l=>.aS [.sl .ro (l.map Lh),.bool true]
def RV(ew:List ByteArray)(V:AV)(rest:T5):Prop:=(ew=[]/\V=.sl .nil [])\/(ew≠[]/\∃k,V=.bs (k+3) 0 ew.length 1/\k<rest.length/\Qh rest k=Wd ew)
def atd(q:List ByteArray)(i:Nat)(m:AM):Prop:=∃(ew:List ByteArray)(rest:T5)(V:AV),lay [] (q.take i)=some ew/\(∀r∈ew,r.size<=32)/\ew.length<=i/\m.boxes=[.sl .nil []]::[.bool false]::[V]::rest/\RV ew V rest
def axV(q:List ByteArray)(ex:Exit)(m:AM):Prop:=ex=.ret/\lay [] q=none/\∃rest,m.boxes=[.sl .nil []]::[.bool false]::rest
def Bn(s:ByteArray):UV:=fun d f _=>if f=999999 then(if d=49 then .aJ 0 []else .junk)else if f=158 then .bool (YY s)else .fn 211 [] [.ep [.str s] 0]
def Li(l:List ByteArray):aY 1 l.length (Wd l)=l.map Lh:=by
 induction l with
 |nil=>rfl
 |cons a r ih=>
  show aY 1 (r.length+1) (AV.str a::Wd r)=_;rw[wE];simp[ih,Lh]
def GJ(m:AM)(d:Nat)(l:List ByteArray):(Wd l).map (bz m (d+1))=Wd l:=by
 induction l with
 |nil=>rfl
 |cons a r ih=>simp[Wd]at ih |-
def RV.ext{ew:List ByteArray}{V:AV}{rest:T5}(h:RV ew V rest)(ex:T5):RV ew V (rest++ex):=by
 obtain h|⟨h1,k,h2,h3,h4⟩:=h
 ·exact .inl h
 exact .inr ⟨h1,k,h2,by simp;omega,by rw[Qn h3,h4]⟩
def Q3(s:ByteArray):Pure Tryz.prog aD 100 [.str s] (mG (mF s)):=by
 refine Qp MG (Bn s) zd ?_;by_cases h2:200<s.size
 ·have Nx:(200:Int)<(s.size:Int):=zE
  have:mF s=none:=by rw[mF,if_pos (.inl h2)]
  rw[this];simp[Em,rX,Nx,mG]
 have Nx:¬(200:Int)<(s.size:Int):=zE
 have kp:=xW s zE;have kw:=Lc s;have kit:=Ld s zE;cases hp:YY s with
 |false=>
  rw[hp]at kp;have:mF s=none:=by rw[mF,if_pos (.inr hp)]
  rw[this];simp[Em,rX,Nx,mG,Bn,hp];exact kp
 |true=>
  rw[hp]at kp
  have zH:mF s=match lay [] (nQ s)with
   |some l=>if l=[]\/4<l.length then none else some l
   |none=>none:=by rw[mF,if_neg (by simp[hp];omega)]
  rw[zH];have hql:(nQ s).length<=201:=by have:=Ds s s.size 0 none;unfold nQ;omega
  generalize nQ s=q at kit hql;simp[Em,Nx,Bn,hp];refine⟨kp,kw,?_⟩;refine je (xs:=q.map fun w=>[.str w]) zd kit (by intro x hx;simp at hx;obtain⟨a,_,rfl⟩:=hx;rfl) (atd q) (axV q) ?_ ?_ ?_ ?_ ?_ ?_
  ·exact⟨[],[],.sl .nil [],rfl,fun _ h=>(by cases h),zd,zd,.inl ⟨rfl,rfl⟩⟩
  ·rintro i m m' ⟨ew,rest,V,g1,g2,g3,g4,g5⟩ ⟨⟨b2,e2⟩,_,_⟩;exact⟨ew,rest++b2,V,g1,g2,g3,by rw[e2,g4];simp,g5.ext b2⟩
  ·rintro ex m m' ⟨g1,g2,rest,g3⟩ ⟨⟨b2,e2⟩,_,_⟩;exact⟨g1,g2,rest++b2,by rw[e2,g3];simp⟩
  ·rintro l1 i m x hg hr ⟨ew,rest,V,g1,g2,g3,g4,g5⟩ hx K' k1 k2 k3
   obtain⟨w,hy,rfl⟩:∃w,q[i]?=some w/\[AV.str w]=x:=by
    rw[zzbm]at hx;cases hq:q[i]? with
    |none=>rw[hq]at hx;cases hx
    |some y=>rw[hq]at hx;exact⟨y,rfl,Option.some.inj hx⟩
   have ai:i<q.length:=(zza.1 hy).1;have bA:q.take (i+1)=q.take i++[w]:=by rw[zzb,hy];rfl
   have gJ:lay [] (q.take (i+1))=if 32<w.size then none else some (Lg ew w):=by
    rw[bA,Dr,g1];simp[lay]
   rw[Jm]at g4;obtain⟨mb,ml,ms,mn⟩:=m;simp only at g4 hr;subst g4;by_cases hw:32<w.size
   ·have hw':(32:Int)<(w.size:Int):=zE
    simp[Zq,hr,hw'];refine k2 _ ⟨rfl,?_,_,rfl⟩;have hq:q=q.take (i+1)++q.drop (i+1):=(zzdo _ _).symm;rw[hq,Dr,gJ,if_pos hw];rfl
   have hw':¬(32:Int)<(w.size:Int):=zE
   rw[if_neg hw]at gJ;have hsz:=ae9 g2 (by omega:w.size<=32);have dD:=Zs ew w;obtain⟨h0,hV⟩|⟨h0,k,hV,dA,ef⟩:=g5
   ·subst h0;subst hV;have tI:IntKind.i64.wrap (-1)= -1:=by rw[Ql]<;>omega
    simp[Zq,hr,hw',Bn,tI];refine k1 _ ⟨[w],rest++[[.str w]],.bs (rest.length+3) 0 1 1,by rw[gJ,xZ],fun r h=>by simp at h;subst h;omega,zd,zd,.inr ⟨zd,rest.length,rfl,zd,by simp[Wd]⟩⟩
   subst hV;obtain⟨pre,r,rfl⟩:=(jN ew).resolve_left h0;have cn:pre.length+1<=i:=by simpa using g3
   have tI:IntKind.i64.wrap (pre.length:Int)=(pre.length:Int):=by rw[Ql]<;>omega
   have iB:(Wd (pre++[r])).length=pre.length+1:=by simp[Wd]
   have azf:=g2 r zd;have hsC:Wd (pre++[r])=Wd pre++[.str r]:=by simp[Wd]
   have sg:(Wd pre).length=pre.length:=by simp[Wd]
   have ZA:(Wd (pre++[r])).take (pre.length+1)=Wd (pre++[r]):=zzat zE;have fc:(Wd (pre++[r])).drop pre.length=[.str r]:=by rw[hsC,<- sg,zzga]
   have lM:IntKind.i64.wrap ((r.size:Int)+1)=(r.size:Int)+1:=by rw[Ql]<;>omega
   have fQ:IntKind.i64.wrap ((r.size:Int)+1+(w.size:Int))=(r.size:Int)+1+(w.size:Int):=by rw[Ql]<;>omega
   rw[rB]at gJ hsz dD;by_cases hc:r.size+1+w.size<=32
   ·rw[if_pos hc]at gJ hsz dD;have uh:(r.size:Int)+1+(w.size:Int)<=32:=zE
    have bR:(Wd (pre++[r])).set pre.length (.str (r++(Ol++w)))=Wd (pre++[r++(Ol++w)]):=by
     rw[hsC,<- sg,zzdc _ _ (zzab _)];simp[Wd]
    simp only[Ol]at bR;simp[Zq,hr,hw',Bn,tI,ef,fc,iB,lM,fQ,uh,bR]
    have hrk:Qh (rest.set k (Wd (pre++[r++(Ol++w)]))) k=Wd (pre++[r++(Ol++w)]):=by
     simp[Qh,zzax,-Yb,dA]
    have hs1:Ol.size=1:=rfl;refine⟨zE,(by show Ol.size+w.size<=_;omega),(by show r.size+(Ol.size+w.size)<=_;omega),zE,dA,k1 _ ⟨pre++[r++(Ol++w)],rest.set k (Wd (pre++[r++(Ol++w)])),.bs (k+3) 0 (pre.length+1) 1,gJ,hsz,by simp;omega,by simp[Ol],.inr ⟨zd,k,zd,Nm dA,hrk⟩⟩⟩
   rw[if_neg hc]at gJ hsz dD;have uh:¬(r.size:Int)+1+(w.size:Int)<=32:=zE
   simp[Zq,hr,hw',Bn,tI,ef,fc,iB,lM,fQ,uh];have aO:¬Wd (pre++[r])=[]:=fun h=>by rw[h]at iB;simp at iB
   have hR:(rest.set k []).length=rest.length:=zd
   refine⟨zE,⟨⟨dA,aO⟩,zE⟩,k1 _ ⟨pre++[r]++[w],rest.set k []++[Wd (pre++[r])++[.str w]],.bs (rest.length+3) 0 (pre.length+1+1) 1,gJ,hsz,by simp;omega,by simp[ZA],.inr ⟨zd,rest.length,zd,zd,?_⟩⟩⟩;rw[<- hR,Wr];simp[Wd]
  ·rintro m ⟨ew,rest,V,g1,g2,g3,g4,g5⟩;rw[zzbv,zzbz]at g1;rw[g1];obtain⟨mb,ml,ms,mn⟩:=m;simp only at g4;subst g4;obtain⟨h0,hV⟩|⟨h0,k,hV,dA,ef⟩:=g5
   ·subst h0;subst hV;simp[rX,mG]
   subst hV;have aH:¬ew.length=0:=fun h=>h0 (zzc.1 h);have iB:(Wd ew).length=ew.length:=by simp[Wd]
   by_cases h4:4<ew.length
   ·have SE:(4:Int)<(ew.length:Int):=zE
    simp[rX,mG,h0,h4,SE]
   have SE:¬(4:Int)<(ew.length:Int):=zE
   have hmp:=fun m=>GJ m 4 ew;have axW:=fun m=>GJ m 3 ew;have gX:=Li ew;simp[rX,mG,h0,h4,SE,ef,axW,gX,iB]
  rintro ex m ⟨rfl,g2,rest,g3⟩;rw[g2];simp[rX,g3,mG]
open Go Go.Abs
def ir(c:Cue):Bool:=if c.id<1\/4611686018427387903<c.id then false else if c.to=0 then decide (c.fr=0/\c.pr=0/\c.tx=eB)else
 if c.fr<0\/c.to<=c.fr\/100000000<c.to then false else if c.pr<0\/3<c.pr then false else(mF c.tx).isSome
def sX(c:Cue):Pure Tryz.prog aD 49 [.agg (Qk c)] (.bool (ir c)):=by
 have k:=Q3 c.tx;refine Qp S3 (fun _ _ _=>mG (mF c.tx)) zd ?_;by_cases h1:c.id<1
 ·simp[tD,tE,Qk,h1,ir]
 by_cases h2:4611686018427387903<c.id
 ·simp[tD,tE,Qk,h1,h2,ir]
 by_cases h3:c.to=0
 ·simp[tD,tE,Qk,h1,h2,h3,ir];rw[zzcy];simp[GF]
 by_cases h4:c.fr<0
 ·simp[tD,tE,Qk,h1,h2,h3,h4,ir]
 by_cases h5:c.to<=c.fr
 ·simp[tD,tE,Qk,h1,h2,h3,h4,h5,ir]
 by_cases h6:100000000<c.to
 ·simp[tD,tE,Qk,h1,h2,h3,h4,h5,h6,ir]
 by_cases h7:c.pr<0
 ·simp[tD,tE,Qk,h1,h2,h3,h4,h5,h6,h7,ir]
 by_cases h8:3<c.pr
 ·simp[tD,tE,Qk,h1,h2,h3,h4,h5,h6,h7,h8,ir]
 cases hr:mF c.tx with
 |none=>
  rw[hr]at k;simp[tD,tE,Qk,h1,h2,h3,h4,h5,h6,h7,h8,ir,hr,mG];exact k
 |some l=>
  rw[hr]at k;simp[tD,tE,Qk,h1,h2,h3,h4,h5,h6,h7,h8,ir,hr,mG];exact k
def SG:En:=⟨0,0,0,0,0,0,[]⟩
def ZB:Cl:=⟨0,0,0,0,0,0,0,0⟩
def ZC:Cue:=⟨0,0,0,0,eB⟩
def Kb(o:Od):Od:=if o.ki=1 then{o with n:=0,en:=0}else if o.ki=2 then{o with en:=0}else if o.ki=3 then{o with nw:=SG}else if o.ki=4 then{o with cl:=ZB}else{o with cu:=ZC}
def okB(o:Od):Bool:=if o.ki=1 then uM o.en else if o.ki=2 then uM o.en else if o.ki=3 then pZ o.nw else if o.ki=4 then Zc o.cl else ir o.cu
def Vp(o:Od):Bool:=if o.sq<0\/200<o.sq\/o.ch< -1\/40<=o.ch then false else if o.fr<0\/100000000<o.fr then false else
 if o.ki<1\/5<o.ki then false else if o.ki=1/\(o.n< -100000000\/100000000<o.n)then false else okB o&&Qcy (Kb o)
def jO(a b:Bool):UV:=fun _ f _=>if f=46 then .bool b else .bool a
def sY(o:Od)(hl:o.nw.al.length<=8796093022208):Pure Tryz.prog aD 22 [.agg (Qq o)] (.bool (Vp o)):=by
 have kb:=La (Kb o);have kk:o.ki=3\/Pure Tryz.prog aD 46 [.agg (Qq (Kb o))] (.bool (Qcy (Kb o))):=.inr kb;refine Qp SQ (jO (okB o) (Qcy (Kb o))) zd ?_;by_cases a1:o.sq<0
 ·simp[eS,eT,Qq,Qd,Qg,Qk,a1,Vp]
 by_cases a2:200<o.sq
 ·simp[eS,eT,Qq,Qd,Qg,Qk,a1,a2,Vp]
 by_cases a3:o.ch< -1
 ·simp[eS,eT,Qq,Qd,Qg,Qk,a1,a2,a3,Vp]
 by_cases a4:40<=o.ch
 ·simp[eS,eT,Qq,Qd,Qg,Qk,a1,a2,a3,a4,Vp]
 by_cases a5:o.fr<0
 ·simp[eS,eT,Qq,Qd,Qg,Qk,a1,a2,a3,a4,a5,Vp]
 by_cases a6:100000000<o.fr
 ·simp[eS,eT,Qq,Qd,Qg,Qk,a1,a2,a3,a4,a5,a6,Vp]
 have hA:¬(o.sq<0\/200<o.sq\/o.ch< -1\/40<=o.ch):=zE
 have hB:¬(o.fr<0\/100000000<o.fr):=zE
 have hv:Vp o=if o.ki<1\/5<o.ki then false else if o.ki=1/\(o.n< -100000000\/100000000<o.n)then false else okB o&&Qcy (Kb o):=by rw[Vp,if_neg hA,if_neg hB]
 rw[hv];by_cases k1:o.ki=1
 ·have c1:¬(o.ki<1\/5<o.ki):=zE
  rw[if_neg c1];by_cases b1:o.n< -100000000
  ·rw[if_pos ⟨k1,.inl b1⟩];simp[eS,eT,Qq,Qd,Qg,Qk,a1,a2,a3,a4,a5,a6,k1,b1]
  by_cases b2:100000000<o.n
  ·rw[if_pos ⟨k1,.inr b2⟩];simp[eS,eT,Qq,Qd,Qg,Qk,a1,a2,a3,a4,a5,a6,k1,b1,b2]
  rw[if_neg zE];have q:=Wn o.en;have hk:okB o=uM o.en:=by rw[okB,if_pos k1]
  have hr:Kb o={o with n:=0,en:=0}:=by rw[Kb,if_pos k1]
  rw[hr]at kb |-
  rw[hk];simp only[Qq,Qd,Qg,Qk,k1]at kb;cases hi:uM o.en with
  |false=>
   rw[hi]at q;simp[eS,eT,Qq,Qd,Qg,Qk,a1,a2,a3,a4,a5,a6,k1,b1,b2,jO];exact q
  |true=>
   rw[hi]at q;simp[eS,eT,Qq,Qd,Qg,Qk,a1,a2,a3,a4,a5,a6,k1,b1,b2,jO];exact⟨q,kb⟩
 by_cases k2:o.ki=2
 ·have c1:¬(o.ki<1\/5<o.ki):=zE
  rw[if_neg c1,if_neg zE];have q:=Wn o.en;have hk:okB o=uM o.en:=by rw[okB,if_neg k1,if_pos k2]
  have hr:Kb o={o with en:=0}:=by rw[Kb,if_neg k1,if_pos k2]
  rw[hr]at kb |-
  rw[hk];simp only[Qq,Qd,Qg,Qk,k2,zzae,zzai]at kb;try simp only[Qd,Qg,Qk]at q
  cases hi:uM o.en with
  |false=>
   rw[hi]at q;simp[eS,eT,Qq,Qd,Qg,Qk,a1,a2,a3,a4,a5,a6,k2,jO];exact q
  |true=>
   rw[hi]at q;simp[eS,eT,Qq,Qd,Qg,Qk,a1,a2,a3,a4,a5,a6,k2,jO];exact⟨q,kb⟩
 by_cases k3:o.ki=3
 ·have c1:¬(o.ki<1\/5<o.ki):=zE
  rw[if_neg c1,if_neg zE];have q:=tW o.nw hl;have hk:okB o=pZ o.nw:=by rw[okB,if_neg k1,if_neg k2,if_pos k3]
  have hr:Kb o={o with nw:=SG}:=by rw[Kb,if_neg k1,if_neg k2,if_pos k3]
  rw[hr]at kb |-
  rw[hk];simp only[Qq,Qd,Qg,Qk,k3,SG,zzcs,zzae,zzai]at kb;have kb:=Xz (l:=[.agg [I o.sq,I o.ch,I o.fr,I 3,I o.en,I o.n,I 0,I 0,I 0,I 0,I 0,I 0,.sl .nil [],I o.cl.ki,I o.cl.it,I o.cl.fr,I o.cl.to,I o.cl.re,I o.cl.n,I o.cl.a,I o.cl.b,I o.cu.id,I o.cu.fr,I o.cu.to,I o.cu.pr,.str o.cu.tx]]) kb ⟨jv ⟨Ps,Ps,Ps,Ps,Ps,Ps,Ps,Ps,Ps,Ps,Ps,Ps,Wk.sl _ _,Ps,Ps,Ps,Ps,Ps,Ps,Ps,Ps,Ps,Ps,Ps,Ps,Ps,trivial⟩,trivial⟩;try simp only[Qd]at q
  cases hi:pZ o.nw with
  |false=>
   rw[hi]at q;simp[eS,eT,Qq,Qd,Qg,Qk,a1,a2,a3,a4,a5,a6,k3,jO];exact q
  |true=>
   rw[hi]at q;simp[eS,eT,Qq,Qd,Qg,Qk,a1,a2,a3,a4,a5,a6,k3,jO,SG];exact⟨q,kb⟩
 by_cases k4:o.ki=4
 ·have c1:¬(o.ki<1\/5<o.ki):=zE
  rw[if_neg c1,if_neg zE];have q:=Wi o.cl;have hk:okB o=Zc o.cl:=by rw[okB,if_neg k1,if_neg k2,if_neg k3,if_pos k4]
  have hr:Kb o={o with cl:=ZB}:=by rw[Kb,if_neg k1,if_neg k2,if_neg k3,if_pos k4]
  rw[hr]at kb |-
  rw[hk];simp only[Qq,Qd,Qg,Qk,k4,ZB,zzae,zzai]at kb;try simp only[Qg]at q
  cases hi:Zc o.cl with
  |false=>
   rw[hi]at q;simp[eS,eT,Qq,Qd,Qg,Qk,a1,a2,a3,a4,a5,a6,k4,jO];exact q
  |true=>
   rw[hi]at q;simp[eS,eT,Qq,Qd,Qg,Qk,a1,a2,a3,a4,a5,a6,k4,jO,ZB];exact⟨q,kb⟩
 by_cases k5:o.ki=5
 ·have c1:¬(o.ki<1\/5<o.ki):=zE
  rw[if_neg c1,if_neg zE];have q:=sX o.cu;have hk:okB o=ir o.cu:=by rw[okB,if_neg k1,if_neg k2,if_neg k3,if_neg k4]
  have hr:Kb o={o with cu:=ZC}:=by rw[Kb,if_neg k1,if_neg k2,if_neg k3,if_neg k4]
  rw[hr]at kb |-
  rw[hk];simp only[Qq,Qd,Qg,Qk,k5,ZC,zzae,zzai]at kb;simp only[Qk]at q;cases hi:ir o.cu with
  |false=>
   rw[hi]at q;simp[eS,eT,Qq,Qd,Qg,Qk,a1,a2,a3,a4,a5,a6,k5,jO];exact q
  |true=>
   rw[hi]at q;simp[eS,eT,Qq,Qd,Qg,Qk,a1,a2,a3,a4,a5,a6,k5,jO,ZC];exact⟨q,kb⟩
 rw[if_pos zE];simp[eS,eT,Qq,Qd,Qg,Qk,a1,a2,a3,a4,a5,a6,k1,k2,k3,k4,k5]
open Go Go.Abs
def Uj(g:Pg)(o:Od):Bool:=Vp o&&(decide (o.ch= -1)||decide (o.ch=g.p.ch))
def sZ(g:Pg)(o:Od)(hl:o.nw.al.length<=8796093022208):Pure Tryz.prog aD 41 [.agg (Qm g),.agg (Qq o)] (.bool (Uj g o)):=by
 have k:=sY o hl;simp only[Qq,Qd,Qg,Qk,zzae,zzai]at k;refine Qp aj4 (fun _ _ _=>.bool (Vp o)) zd ?_;cases hv:Vp o with
 |false=>
  rw[hv]at k;simp[aby,abz,Qm,Qa,Qq,Qd,Qg,Qk,hv,Uj];exact k
 |true=>
  rw[hv]at k;by_cases h1:o.ch= -1
  ·simp[aby,abz,Qm,Qa,Qq,Qd,Qg,Qk,hv,Uj,h1];rw[h1]at k;exact k
  simp[aby,abz,Qm,Qa,Qq,Qd,Qg,Qk,hv,Uj,h1];refine⟨k,?_⟩;rw[zzcy];simp[h1]
def Uf{α:Type}(P:α->Bool):List α->Nat->Int
 |[],_=> -1
 |x::r,i=>if P x=true then i else Uf P r (i+1)
def Qbj{α:Type}{P:α->Bool}:∀{L:List α}{i:Nat},L.find? P=none->Uf P L i= -1
 |[],_,_=>rfl
 |a::r,i,h=>by
  rw[zzec]at h;split at h
  ·cases h
  rename_i hn;rw[Uf,if_neg (by simp[hn])];exact Qbj h
def Ke{α:Type}{P:α->Bool}{a:α}:∀{L:List α}{i:Nat},L.find? P=some a->∃k:Nat,Uf P L i=((i+k:Nat):Int)/\L[k]?=some a/\P a=true
 |[],_,h=>by cases h
 |b::r,i,h=>by
  rw[zzec]at h;split at h
  ·rename_i hb;cases h;exact⟨0,by simp[Uf,hb],rfl,hb⟩
  rename_i hn;obtain⟨k,h1,h2,h3⟩:=Ke (i:=i+1) h;exact⟨k+1,by rw[Uf,if_neg (by simp[hn]),h1];omega,Nm h2,h3⟩
def x8(L:List bC)(P:bC->Bool)(k:FuncId)(first cap:P2)(hl:L.length<=1000000000)(h1:∀m,first.map (bz m 6)=first)(h2:∀m,cap.map (bz m 6)=cap)
  (hp:∀e∈L,Pure Tryz.prog aD k (first++.agg (Qe e)::cap) (.bool (P e)))(orc:UV)(ho:∀d e,e∈L->orc d k (first++.agg (Qe e)::cap)=.bool (P e)):
  Pure Tryz.prog aD 78 [.sl .ro (L.map Qe),.fn k first cap] (I (Uf P L 0)):=by
 refine Qp Tf orc zd ?_;simp[akx];refine Qi rV (fun f m=>∃i:Nat,f 8=I i/\i<=L.length/\Uf P (L.drop i) i=Uf P L 0/\m=⟨[],[],fun _=>.gone,0⟩) (fun f _=>L.length-(numOf (f 8)).toNat) ?_ ?_
 ·exact⟨0,zd,zE,zd,rfl⟩
 rintro f m ⟨i,f8,hi,hr,rfl⟩;rcases zzaa i L.length with ai|bq
 ·obtain⟨a,ha⟩:=aV ai;have ah:Qh (L.map Qe) i=Qe a:=Qu (by simp[ha]);have aa:(i:Int)<(L.length:Int):=zE
  have hw:=bP i zE;have hd:L.drop i=a::L.drop (i+1):=by rw[zzag ai,(zza.1 ha).2]
  have ku:=hp a (zzad ha);have ZD:=fun d=>ho d a (zzad ha);rw[hd,Uf]at hr;simp only[Qe]at ku ZD;cases hP:P a with
  |true=>
   rw[hP]at ku ZD;rw[if_pos hP]at hr;simp[f8,rV,abK,aa,ah,Qe,h1,h2,ZD];exact⟨ku,hr⟩
  |false=>
   rw[hP]at ku ZD;rw[if_neg (by simp[hP])]at hr;simp[f8,rV,aa,ah,Qe,h1,h2,ZD,hw];refine⟨ku,aQ,⟨i+1,zd,zE,hr⟩,zE⟩
 obtain rfl:i=L.length:=zE
 rw[zzbu,Uf]at hr;simp[f8,rV,abK];exact hr
def Q4(e:bC)(f:Int)(h:Kz e)(hf:nT f):Pure Tryz.prog aD 212 [.agg [I f],.agg (Qe e)] (.bool (Kr f e)):=by
 refine Qp adm (fun _ _ _=>.junk) zd ?_;obtain⟨⟨a1,a2⟩,⟨a3,a4⟩,_⟩:=h;obtain⟨a5,a6⟩:=hf;by_cases h1:e.st<=f
 ·have w1:=wu e.st zE zE;have w2:=wu f zE zE;have w3:=wu (f-e.st) zE zE;have w4:=wu e.fr zE zE;by_cases h2:0<e.fr
  ·have:(f-e.st<e.fr)=(f<e.st+e.fr):=by apply propext;omega
   simp[Nj,Nk,Qe,h1,h2,Kr,w1,w2,w3,w4,this]
  have:¬f<e.st+e.fr:=zE
  simp[Nj,Nk,Qe,h1,h2,Kr,this]
 simp[Nj,Nk,Qe,h1,Kr]
def Lj(e:bC)(row:P2)(id:Int):Pure Tryz.prog aD 213 [.agg (Qe e),.ep (I id::row) 0] (.bool (decide (e.id=id))):=by
 refine Qp adn (fun _ _ _=>.junk) zd ?_;simp[ahS,ahT,Qe];rw[zzcy];simp
def s5(n:Int):Prop:= -9223372036854775808<=n/\n<=9223372036854775807
open Go Go.Abs
def GK(L:List En)(P:En->Bool)(k:FuncId)(first cap:P2)(hl:L.length<=1000000000)(h1:∀m,first.map (bz m 6)=first)(h2:∀m,cap.map (bz m 6)=cap)
  (hp:∀e∈L,Pure Tryz.prog aD k (first++.agg (Qd e)::cap) (.bool (P e)))(orc:UV)(ho:∀d e,e∈L->orc d k (first++.agg (Qd e)::cap)=.bool (P e)):
  Pure Tryz.prog aD 148 [.sl .ro (L.map Qd),.fn k first cap] (I (Uf P L 0)):=by
 refine Qp BZ orc zd ?_;simp[MW];refine Qi eU (fun f m=>∃i:Nat,f 8=I i/\i<=L.length/\Uf P (L.drop i) i=Uf P L 0/\m=⟨[],[],fun _=>.gone,0⟩) (fun f _=>L.length-(numOf (f 8)).toNat) ?_ ?_
 ·exact⟨0,zd,zE,zd,rfl⟩
 rintro f m ⟨i,f8,hi,hr,rfl⟩;rcases zzaa i L.length with ai|bq
 ·obtain⟨a,ha⟩:=aV ai;have ah:Qh (L.map Qd) i=Qd a:=Qu (by simp[ha]);have aa:(i:Int)<(L.length:Int):=zE
  have hw:=bP i zE;have hd:L.drop i=a::L.drop (i+1):=by rw[zzag ai,(zza.1 ha).2]
  have ku:=hp a (zzad ha);have ZD:=fun d=>ho d a (zzad ha);rw[hd,Uf]at hr;simp only[Qd]at ku ZD;cases hP:P a with
  |true=>
   rw[hP]at ku ZD;rw[if_pos hP]at hr;simp[f8,eU,Aj,aa,ah,Qd,h1,h2,ZD];exact⟨ku,hr⟩
  |false=>
   rw[hP]at ku ZD;rw[if_neg (by simp[hP])]at hr;simp[f8,eU,aa,ah,Qd,h1,h2,ZD,hw];refine⟨ku,aQ,?_⟩
   ·exact⟨⟨i+1,zd,zE,hr⟩,zE⟩
 obtain rfl:i=L.length:=zE
 rw[zzbu,Uf]at hr;simp[f8,eU,Aj];exact hr
def GL(e:En)(id:Int):Pure Tryz.prog aD 201 [.agg (Qd e),.ep [I id] 0] (.bool (decide (e.id=id))):=by
 refine Qp adf (fun _ _ _=>.junk) zd ?_;simp[ahK,ahL,Qd];rw[zzcy];simp
def Qr(g:Pg)(f:Int)(mid:Nat):P2:=Qm g++[I f,.mp mid]
def Yi(g:Pg)(id:Int):Int:=Uf (fun e:En=>decide (e.id=id)) g.p.ens 0
def Q5(Y:YT)(m:AM)(g:Pg)(f:Int)(mid:Nat)(id:Int)(hl:g.p.ens.length<=1000000000):aB Tryz.prog aD Y 141 [.agg (Qr g f mid),I id] m (fun r m'=>m'=m/\r=I (Yi g id)):=by
 obtain⟨mb,ml,ms,mn⟩:=m;have k:=GK g.p.ens (fun e:En=>decide (e.id=id)) 201 [] [.ep [I id] 0] hl (fun _=>rfl) (fun _=>zd) (fun e _=>GL e id) (fun _ _ xs=>match xs with|.agg (.int _ n::_)::_=>.bool (decide (n=id))|_=>.junk) (fun _ e _=>rfl);refine aB.read (Xn acr (fun _ _ _=>I (Yi g id)) zd ?_);simp[ag1,ag2,Qr,Qm,Qa,Yi];exact⟨k,.int _ _⟩
def nU{p:Prop}(h:p:=by repeat'(first|exact Idle.int _ _|exact Idle.bool _|exact Idle.str _|exact Idle.ro _|exact Idle.nil _|exact Idle.full _|exact List.forall_mem_nil _|refine List.forall_mem_cons.2 ⟨?_,?_⟩|refine Idle.aS ?_|refine Idle.agg ?_)):p:=h
def fL(bx:T5)(mid:Nat)(b:QR):Prop:=mid<bx.length/\Qh bx mid=[.aJ 0 (bG .bool b)]
def fL.ext{bx:T5}{mid:Nat}{b:QR}(h:fL bx mid b)(ex:T5):Qh (bx++ex) mid=[.aJ 0 (bG .bool b)]:=by rw[Qn h.1,h.2]
def oA(b:QR)(id:Int):Bool:=(af id b).getD false
def Yz(g:Pg)(f:Int)(b:QR):Option bC:=match g.ev.find? (Kr f)with
 |none=>none
 |some e=>if e.id=0 then none else if oA b e.id=true then some e else none
def nV(g:Pg)(id:Int):Int:=match g.ev.find? (fun e=>decide (e.id=id))with
 |none=>0
 |some e=>e.st
def Wp(f:Int)(e:bC):bC:={e with st:=f,fr:=e.fr-(f-e.st),i:=e.i+(f-e.st)}
def Ur(g:Pg)(f:Int)(b:QR):AV:=match Yz g f b with
 |none=>.aS [.agg [I 0,I 0,I 0,I 0,I 0,I 0,.sl .nil []],I 0,.bool false]
 |some e=>.aS [.agg (Qe (Wp f e)),I (nV g e.id),.bool true]
def ZE(Y:YT)(m:AM)(g:Pg)(f:Int)(mid:Nat)(b:QR)(hl:g.ev.length<=1000000000)(hs:∀e∈g.ev,Kz e)(hf:nT f)(hb:fL m.boxes mid b):
  aB Tryz.prog aD Y 160 [.agg (Qr g f mid)] m (fun r m'=>m'=m/\r=Ur g f b):=by
 obtain⟨mb,ml,ms,mn⟩:=m;have hB:∀ex,Qh (mb++ex) mid=[.aJ 0 (bG .bool b)]:=hb.ext;have hN:∀n:Nat,¬(n:Int)<0:=fun n=>zE
 have k1:=x8 g.ev (Kr f) 212 [.agg [I f]] [] hl (fun _=>zd) (fun _=>zd) (fun e he=>Q4 e f (hs e he) hf) (fun _ _ xs=>match xs with|[_,.agg [_,_,.int _ st,.int _ fr,_,_,_]]=>.bool (Kr f ⟨0,0,st,fr,0,0,[],false⟩)|_=>.junk) (fun _ e _=>rfl)
 have k2:∀(row:P2)(id:Int),Pure Tryz.prog aD 78 [.sl .ro (g.ev.map Qe),.fn 213 [] [.ep (I id::row) 0]] (I (Uf (fun e=>decide (e.id=id)) g.ev 0)):=fun row id=>
  x8 g.ev (fun e=>decide (e.id=id)) 213 [] [.ep (I id::row) 0] hl (fun _=>zd) (fun _=>zd) (fun e _=>Lj e row id) (fun _ _ xs=>match xs with|.agg (.int _ n::_)::_=>.bool (decide (n=id))|_=>.junk) (fun _ e _=>rfl)
 cases h1:g.ev.find? (Kr f)with
 |none=>
  rw[Qbj h1]at k1;refine aB.read (Xn M1 (fun _ _ _=>I (-1)) zd ?_);simp[Ak,Al,Qr,Qm,Qa,Ur,Yz,h1];exact⟨k1,nU⟩
 |some e=>
  obtain⟨n,g1,g2,g3⟩:=Ke (i:=0) h1;have k2':=k2;have hn:n<g.ev.length:=(zza.1 g2).1;have dz:=zzad g2
  have hex:(g.ev.find? fun e'=>decide (e'.id=e.id)).isSome=true:=by
   rw[List.find?_isSome];exact⟨e,dz,zd⟩
  obtain⟨e2,he2⟩:=zzcf.1 hex;obtain⟨n2,q1,q2,q3⟩:=Ke (i:=0) he2;have y6:n2<g.ev.length:=(zza.1 q2).1;rw[g1,zzbs]at k1;have r1:Qh (g.ev.map Qe) n=Qe e:=Qu (by simp[g2]);have r2:Qh (g.ev.map Qe) n2=Qe e2:=Qu (by simp[q2]);have qt:(n:Int)<(g.ev.length:Int):=zE
  have axX:(n2:Int)<(g.ev.length:Int):=zE
  obtain⟨⟨a1,a2⟩,⟨a3,a4⟩,⟨a5,a6⟩,_⟩:=hs e dz;obtain⟨f1,f2⟩:=hf;have hon:e.st<=f/\f<e.st+e.fr:=by simpa[Kr]using g3
  have w1:IntKind.i64.wrap (f-e.st)=f-e.st:=by rw[Ql]<;>omega
  have w2:IntKind.i64.wrap (e.fr-(f-e.st))=e.fr-(f-e.st):=by rw[Ql]<;>omega
  have w3:IntKind.i64.wrap (e.i+(f-e.st))=e.i+(f-e.st):=by rw[Ql]<;>omega
  refine aB.read (Xn M1 (fun d _ _=>if d=15 then I n else I n2) zd ?_);have aL:e2.id=e.id:=by simpa using q3
  by_cases h0:e.id=0
  ·simp[Ak,Al,Qr,Qm,Qa,Ur,Yz,h1,Qe,qt,r1,h0];exact⟨k1,nU⟩
  rcases Xw AV.bool e.id b 0 with⟨b1,b2,_⟩|⟨u,u',b1,b2,_⟩
  ·simp[Ak,Al,Qr,Qm,Qa,Ur,Yz,h1,Qe,qt,r1,h0,oA,b1,b2,hB,hN];exact⟨k1,nU⟩
  cases u with
  |false=>
   simp[Ak,Al,Qr,Qm,Qa,Ur,Yz,h1,Qe,qt,r1,h0,oA,b1,b2,hB,hN];exact⟨k1,nU⟩
  |true=>
   have k2:=k2 [I e.it,I e.st,I e.fr,I e.i,I e.re,.sl .ro (e.al.map Qf)] e.id;rw[q1,zzbs]at k2;simp[Ak,Al,Qr,Qm,Qa,Ur,Yz,h1,Qe,qt,r1,h0,oA,b1,b2,hB,hN,w1,w2,w3,Wp,nV,he2];refine⟨k1,k2,Um ?_⟩;simp[axX,r2,Qe];exact nU
