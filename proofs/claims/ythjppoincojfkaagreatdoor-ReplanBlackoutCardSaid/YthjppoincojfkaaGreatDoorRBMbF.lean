import Derived.Test.YthjppoincojfkaaGreatDoorRBMbB
set_option linter.all false
set_option maxRecDepth 100000
set_option maxHeartbeats 64000000
namespace Go.Proofs.YthjppoincojfkaaGreatDoor
open Go Go.Abs
def Ob:ByteArray:=⟨#[32]⟩
def jR{α:Type}(l:List α):l=[]\/∃L b,l=L++[b]:=by
 rcases zzhe l with h|⟨L,b,h⟩
 ·exact .inl h
 exact .inr ⟨L,b,by rw[h,zzhf]⟩
def K9(ey:List ByteArray)(w:ByteArray):List ByteArray:=match ey.getLast? with
 |some r=>if r.size+1+w.size<=32 then ey.dropLast++[r++(Ob++w)]else ey++[w]
 |none=>[w]
theorem ya(w:ByteArray):K9 [] w=[w]:=rfl
def rB(pre:List ByteArray)(r w:ByteArray):K9 (pre++[r]) w=if r.size+1+w.size<=32 then pre++[r++(Ob++w)]else pre++[r]++[w]:=by simp[K9]
def lay:List ByteArray->List ByteArray->Option (List ByteArray)
 |ey,[]=>some ey
 |ey,w::r=>if 32<w.size then none else lay (K9 ey w) r
def Ds:∀(a b ey:List ByteArray),lay ey (a++b)=(lay ey a).bind fun x=>lay x b
 |[],_,_=>rfl
 |w::r,b,ey=>by
  simp only[zzae,lay];split
  ·rfl
  exact Ds r b _
def Dt(s:ByteArray):∀(n i:Nat)(first:Option Nat),(YY s n i first).length<=n+1
 |0,i,first=>by rw[YY];cases first<;>simp[sR]
 |n+1,i,first=>by
  rw[YY];split
  ·have:=Dt s n (i+1) (some (first.getD i));omega
  have:=Dt s n (i+1) none;rw[zzak];have h2:(sR s i first).length<=1:=by cases first<;>simp[sR]
  omega
def Y8(a b:ByteArray):(a++b).size=a.size+b.size:=zd
def aeU{ey:List ByteArray}{w:ByteArray}(h:∀r∈ey,r.size<=32)(hw:w.size<=32):∀r∈K9 ey w,r.size<=32:=by
 rcases jR ey with rfl|⟨pre,r,rfl⟩
 ·intro x hx;simp[ya]at hx;subst hx;exact hw
 rw[rB];split
 ·intro x hx;rcases zzam.1 hx with hx|hx
  ·exact h x (by simp[hx])
  simp only[zzcf]at hx;subst hx;rw[Y8,Y8];have:Ob.size=1:=rfl;omega
 intro x hx;rcases zzam.1 hx with hx|hx
 ·exact h x hx
 simp only[zzcf]at hx;subst hx;exact hw
def Y9(ey:List ByteArray)(w:ByteArray):(K9 ey w).length<=ey.length+1:=by
 rcases jR ey with rfl|⟨pre,r,rfl⟩
 ·simp[ya]
 rw[rB];split<;>simp
def mD(s:ByteArray):Option (List ByteArray):=if 200<s.size\/YX s=false then none else match lay [] (nP s)with
 |some l=>if l=[]\/4<l.length then none else some l
 |none=>none
def Ku(l:List ByteArray):P2:=l.map AV.str
def La(r:ByteArray):P2:=[.str r]
def mE:Option (List ByteArray)->AV
 |none=>.aS [.sl .nil [],.bool false]
 |some l=>.aS [.sl .ro (l.map La),.bool true]
def RV(ey:List ByteArray)(V:AV)(rest:T5):Prop:=(ey=[]/\V=.sl .nil [])\/(ey≠[]/\∃k,V=.bs (k+3) 0 ey.length 1/\k<rest.length/\Qj rest k=Ku ey)
def as2(q:List ByteArray)(i:Nat)(m:AM):Prop:=∃(ey:List ByteArray)(rest:T5)(V:AV),lay [] (q.take i)=some ey/\(∀r∈ey,r.size<=32)/\ey.length<=i/\m.boxes=[.sl .nil []]::[.bool false]::[V]::rest/\RV ey V rest
def axx(q:List ByteArray)(ex:Exit)(m:AM):Prop:=ex=.ret/\lay [] q=none/\∃rest,m.boxes=[.sl .nil []]::[.bool false]::rest
def Bm(s:ByteArray):UV:=fun d f _=>if f=999999 then(if d=49 then .aJ 0 []else .junk)else if f=158 then .bool (YX s)else .fn 211 [] [.ep [.str s] 0]
def Lb(l:List ByteArray):aY 1 l.length (Ku l)=l.map La:=by
 induction l with
 |nil=>rfl
 |cons a r ih=>
  show aY 1 (r.length+1) (AV.str a::Ku r)=_;rw[wH];simp[ih,La]
def GD(m:AM)(d:Nat)(l:List ByteArray):(Ku l).map (bz m (d+1))=Ku l:=by
 induction l with
 |nil=>rfl
 |cons a r ih=>simp[Ku]at ih |-
def RV.ext{ey:List ByteArray}{V:AV}{rest:T5}(h:RV ey V rest)(ex:T5):RV ey V (rest++ex):=by
 obtain h|⟨h1,k,h2,h3,h4⟩:=h
 ·exact .inl h
 exact .inr ⟨h1,k,h2,by simp;omega,by rw[Qn h3,h4]⟩
def Q2(s:ByteArray):Pure Tryz.prog aD 100 [.str s] (mE (mD s)):=by
 refine Qp Mv (Bm s) zd ?_;by_cases h2:200<s.size
 ·have No:(200:Int)<(s.size:Int):=zE
  have:mD s=none:=by rw[mD,if_pos (.inl h2)]
  rw[this];simp[Ee,rU,No,mE]
 have No:¬(200:Int)<(s.size:Int):=zE
 have kp:=xZ s zE;have kw:=K6 s;have kit:=K7 s zE;cases hp:YX s with
 |false=>
  rw[hp]at kp;have:mD s=none:=by rw[mD,if_pos (.inr hp)]
  rw[this];simp[Ee,rU,No,mE,Bm,hp];exact kp
 |true=>
  rw[hp]at kp
  have zI:mD s=match lay [] (nP s)with
   |some l=>if l=[]\/4<l.length then none else some l
   |none=>none:=by rw[mD,if_neg (by simp[hp];omega)]
  rw[zI];have hql:(nP s).length<=201:=by have:=Dt s s.size 0 none;unfold nP;omega
  generalize nP s=q at kit hql;simp[Ee,No,Bm,hp];refine⟨kp,kw,?_⟩;refine ji (xs:=q.map fun w=>[.str w]) zd kit (by intro x hx;simp at hx;obtain⟨a,_,rfl⟩:=hx;rfl) (as2 q) (axx q) ?_ ?_ ?_ ?_ ?_ ?_
  ·exact⟨[],[],.sl .nil [],rfl,fun _ h=>(by cases h),zd,zd,.inl ⟨rfl,rfl⟩⟩
  ·rintro i m m' ⟨ey,rest,V,g1,g2,g3,g4,g5⟩ ⟨⟨b2,e2⟩,_,_⟩;exact⟨ey,rest++b2,V,g1,g2,g3,by rw[e2,g4];simp,g5.ext b2⟩
  ·rintro ex m m' ⟨g1,g2,rest,g3⟩ ⟨⟨b2,e2⟩,_,_⟩;exact⟨g1,g2,rest++b2,by rw[e2,g3];simp⟩
  ·rintro l1 i m x hg hr ⟨ey,rest,V,g1,g2,g3,g4,g5⟩ hx K' k1 k2 k3
   obtain⟨w,hy,rfl⟩:∃w,q[i]?=some w/\[AV.str w]=x:=by
    rw[zzbm]at hx;cases hq:q[i]? with
    |none=>rw[hq]at hx;cases hx
    |some y=>rw[hq]at hx;exact⟨y,rfl,Option.some.inj hx⟩
   have ai:i<q.length:=(zza.1 hy).1;have bA:q.take (i+1)=q.take i++[w]:=by rw[zzax,hy];rfl
   have gM:lay [] (q.take (i+1))=if 32<w.size then none else some (K9 ey w):=by
    rw[bA,Ds,g1];simp[lay]
   rw[Jm]at g4;obtain⟨mb,ml,ms,mn⟩:=m;simp only at g4 hr;subst g4;by_cases hw:32<w.size
   ·have hw':(32:Int)<(w.size:Int):=zE
    simp[Zp,hr,hw'];refine k2 _ ⟨rfl,?_,_,rfl⟩;have hq:q=q.take (i+1)++q.drop (i+1):=(zzdy _ _).symm;rw[hq,Ds,gM,if_pos hw];rfl
   have hw':¬(32:Int)<(w.size:Int):=zE
   rw[if_neg hw]at gM;have hsz:=aeU g2 (by omega:w.size<=32);have dG:=Y9 ey w;obtain⟨h0,hV⟩|⟨h0,k,hV,dB,ef⟩:=g5
   ·subst h0;subst hV;have tK:IntKind.i64.wrap (-1)= -1:=by rw[Ql]<;>omega
    simp[Zp,hr,hw',Bm,tK];refine k1 _ ⟨[w],rest++[[.str w]],.bs (rest.length+3) 0 1 1,by rw[gM,ya],fun r h=>by simp at h;subst h;omega,zd,zd,.inr ⟨zd,rest.length,rfl,zd,by simp[Ku]⟩⟩
   subst hV;obtain⟨pre,r,rfl⟩:=(jR ey).resolve_left h0;have cm:pre.length+1<=i:=by simpa using g3
   have tK:IntKind.i64.wrap (pre.length:Int)=(pre.length:Int):=by rw[Ql]<;>omega
   have iC:(Ku (pre++[r])).length=pre.length+1:=by simp[Ku]
   have ayQ:=g2 r zd;have hsC:Ku (pre++[r])=Ku pre++[.str r]:=by simp[Ku]
   have uk:(Ku pre).length=pre.length:=by simp[Ku]
   have Zs:(Ku (pre++[r])).take (pre.length+1)=Ku (pre++[r]):=zzas zE;have fk:(Ku (pre++[r])).drop pre.length=[.str r]:=by rw[hsC,<- uk,zzg]
   have dU:IntKind.i64.wrap ((r.size:Int)+1)=(r.size:Int)+1:=by rw[Ql]<;>omega
   have fE:IntKind.i64.wrap ((r.size:Int)+1+(w.size:Int))=(r.size:Int)+1+(w.size:Int):=by rw[Ql]<;>omega
   rw[rB]at gM hsz dG;by_cases hc:r.size+1+w.size<=32
   ·rw[if_pos hc]at gM hsz dG;have tI:(r.size:Int)+1+(w.size:Int)<=32:=zE
    have bR:(Ku (pre++[r])).set pre.length (.str (r++(Ob++w)))=Ku (pre++[r++(Ob++w)]):=by
     rw[hsC,<- uk,zzdd _ _ (zzab _)];simp[Ku]
    simp only[Ob]at bR;simp[Zp,hr,hw',Bm,tK,ef,fk,iC,dU,fE,tI,bR]
    have hrk:Qj (rest.set k (Ku (pre++[r++(Ob++w)]))) k=Ku (pre++[r++(Ob++w)]):=by
     simp[Qj,zzav,-Ya,dB]
    have hs1:Ob.size=1:=rfl;refine⟨zE,(by show Ob.size+w.size<=_;omega),(by show r.size+(Ob.size+w.size)<=_;omega),zE,dB,k1 _ ⟨pre++[r++(Ob++w)],rest.set k (Ku (pre++[r++(Ob++w)])),.bs (k+3) 0 (pre.length+1) 1,gM,hsz,by simp;omega,by simp[Ob],.inr ⟨zd,k,zd,Nm dB,hrk⟩⟩⟩
   rw[if_neg hc]at gM hsz dG;have tI:¬(r.size:Int)+1+(w.size:Int)<=32:=zE
   simp[Zp,hr,hw',Bm,tK,ef,fk,iC,dU,fE,tI];have aN:¬Ku (pre++[r])=[]:=fun h=>by rw[h]at iC;simp at iC
   have hR:(rest.set k []).length=rest.length:=zd
   refine⟨zE,⟨⟨dB,aN⟩,zE⟩,k1 _ ⟨pre++[r]++[w],rest.set k []++[Ku (pre++[r])++[.str w]],.bs (rest.length+3) 0 (pre.length+1+1) 1,gM,hsz,by simp;omega,by simp[Zs],.inr ⟨zd,rest.length,zd,zd,?_⟩⟩⟩;rw[<- hR,Wc];simp[Ku]
  ·rintro m ⟨ey,rest,V,g1,g2,g3,g4,g5⟩;rw[zzbt,zzbw]at g1;rw[g1];obtain⟨mb,ml,ms,mn⟩:=m;simp only at g4;subst g4;obtain⟨h0,hV⟩|⟨h0,k,hV,dB,ef⟩:=g5
   ·subst h0;subst hV;simp[rU,mE]
   subst hV;have aH:¬ey.length=0:=fun h=>h0 (zzc.1 h);have iC:(Ku ey).length=ey.length:=by simp[Ku]
   by_cases h4:4<ey.length
   ·have Su:(4:Int)<(ey.length:Int):=zE
    simp[rU,mE,h0,h4,Su]
   have Su:¬(4:Int)<(ey.length:Int):=zE
   have hmp:=fun m=>GD m 4 ey;have axy:=fun m=>GD m 3 ey;have ic:=Lb ey;simp[rU,mE,h0,h4,Su,ef,axy,ic,iC]
  rintro ex m ⟨rfl,g2,rest,g3⟩;rw[g2];simp[rU,g3,mE]
open Go Go.Abs
def iy(c:Cue):Bool:=if c.id<1\/4611686018427387903<c.id then false else if c.to=0 then decide (c.fr=0/\c.pr=0/\c.tx=eB)else
 if c.fr<0\/c.to<=c.fr\/100000000<c.to then false else if c.pr<0\/3<c.pr then false else(mD c.tx).isSome
def sS(c:Cue):Pure Tryz.prog aD 49 [.agg (Qm c)] (.bool (iy c)):=by
 have k:=Q2 c.tx;refine Qp SV (fun _ _ _=>mE (mD c.tx)) zd ?_;by_cases h1:c.id<1
 ·simp[tD,tE,Qm,h1,iy]
 by_cases h2:4611686018427387903<c.id
 ·simp[tD,tE,Qm,h1,h2,iy]
 by_cases h3:c.to=0
 ·simp[tD,tE,Qm,h1,h2,h3,iy];rw[zzcy];simp[Gz]
 by_cases h4:c.fr<0
 ·simp[tD,tE,Qm,h1,h2,h3,h4,iy]
 by_cases h5:c.to<=c.fr
 ·simp[tD,tE,Qm,h1,h2,h3,h4,h5,iy]
 by_cases h6:100000000<c.to
 ·simp[tD,tE,Qm,h1,h2,h3,h4,h5,h6,iy]
 by_cases h7:c.pr<0
 ·simp[tD,tE,Qm,h1,h2,h3,h4,h5,h6,h7,iy]
 by_cases h8:3<c.pr
 ·simp[tD,tE,Qm,h1,h2,h3,h4,h5,h6,h7,h8,iy]
 cases hr:mD c.tx with
 |none=>
  rw[hr]at k;simp[tD,tE,Qm,h1,h2,h3,h4,h5,h6,h7,h8,iy,hr,mE];exact k
 |some l=>
  rw[hr]at k;simp[tD,tE,Qm,h1,h2,h3,h4,h5,h6,h7,h8,iy,hr,mE];exact k
def Iz:En:=⟨0,0,0,0,0,0,[]⟩
def Sx:Cl:=⟨0,0,0,0,0,0,0,0⟩
def Q3:Cue:=⟨0,0,0,0,eB⟩
def Jb(o:Od):Od:=if o.ki=1 then{o with n:=0,en:=0}else if o.ki=2 then{o with en:=0}else if o.ki=3 then{o with nw:=Iz}else if o.ki=4 then{o with cl:=Sx}else{o with cu:=Q3}
def okB(o:Od):Bool:=if o.ki=1 then uO o.en else if o.ki=2 then uO o.en else if o.ki=3 then pW o.nw else if o.ki=4 then Xu o.cl else iy o.cu
def Vj(o:Od):Bool:=if o.sq<0\/200<o.sq\/o.ch< -1\/40<=o.ch then false else if o.fr<0\/100000000<o.fr then false else
 if o.ki<1\/5<o.ki then false else if o.ki=1/\(o.n< -100000000\/100000000<o.n)then false else okB o&&Sw (Jb o)
def jS(a b:Bool):UV:=fun _ f _=>if f=46 then .bool b else .bool a
def sU(o:Od)(hl:o.nw.al.length<=8796093022208):Pure Tryz.prog aD 22 [.agg (Qq o)] (.bool (Vj o)):=by
 have kb:=K4 (Jb o);have kk:o.ki=3\/Pure Tryz.prog aD 46 [.agg (Qq (Jb o))] (.bool (Sw (Jb o))):=.inr kb;refine Qp SI (jS (okB o) (Sw (Jb o))) zd ?_;by_cases a1:o.sq<0
 ·simp[eV,eW,Qq,Qd,Qi,Qm,a1,Vj]
 by_cases a2:200<o.sq
 ·simp[eV,eW,Qq,Qd,Qi,Qm,a1,a2,Vj]
 by_cases a3:o.ch< -1
 ·simp[eV,eW,Qq,Qd,Qi,Qm,a1,a2,a3,Vj]
 by_cases a4:40<=o.ch
 ·simp[eV,eW,Qq,Qd,Qi,Qm,a1,a2,a3,a4,Vj]
 by_cases a5:o.fr<0
 ·simp[eV,eW,Qq,Qd,Qi,Qm,a1,a2,a3,a4,a5,Vj]
 by_cases a6:100000000<o.fr
 ·simp[eV,eW,Qq,Qd,Qi,Qm,a1,a2,a3,a4,a5,a6,Vj]
 have hA:¬(o.sq<0\/200<o.sq\/o.ch< -1\/40<=o.ch):=zE
 have hB:¬(o.fr<0\/100000000<o.fr):=zE
 have hv:Vj o=if o.ki<1\/5<o.ki then false else if o.ki=1/\(o.n< -100000000\/100000000<o.n)then false else okB o&&Sw (Jb o):=by rw[Vj,if_neg hA,if_neg hB]
 rw[hv];by_cases k1:o.ki=1
 ·have c1:¬(o.ki<1\/5<o.ki):=zE
  rw[if_neg c1];by_cases b1:o.n< -100000000
  ·rw[if_pos ⟨k1,.inl b1⟩];simp[eV,eW,Qq,Qd,Qi,Qm,a1,a2,a3,a4,a5,a6,k1,b1]
  by_cases b2:100000000<o.n
  ·rw[if_pos ⟨k1,.inr b2⟩];simp[eV,eW,Qq,Qd,Qi,Qm,a1,a2,a3,a4,a5,a6,k1,b1,b2]
  rw[if_neg zE];have q:=Wi o.en;have hk:okB o=uO o.en:=by rw[okB,if_pos k1]
  have hr:Jb o={o with n:=0,en:=0}:=by rw[Jb,if_pos k1]
  rw[hr]at kb |-
  rw[hk];simp only[Qq,Qd,Qi,Qm,k1]at kb;cases hi:uO o.en with
  |false=>
   rw[hi]at q;simp[eV,eW,Qq,Qd,Qi,Qm,a1,a2,a3,a4,a5,a6,k1,b1,b2,jS];exact q
  |true=>
   rw[hi]at q;simp[eV,eW,Qq,Qd,Qi,Qm,a1,a2,a3,a4,a5,a6,k1,b1,b2,jS];exact⟨q,kb⟩
 by_cases k2:o.ki=2
 ·have c1:¬(o.ki<1\/5<o.ki):=zE
  rw[if_neg c1,if_neg zE];have q:=Wi o.en;have hk:okB o=uO o.en:=by rw[okB,if_neg k1,if_pos k2]
  have hr:Jb o={o with en:=0}:=by rw[Jb,if_neg k1,if_pos k2]
  rw[hr]at kb |-
  rw[hk];simp only[Qq,Qd,Qi,Qm,k2,zzae,zzai]at kb;try simp only[Qd,Qi,Qm]at q
  cases hi:uO o.en with
  |false=>
   rw[hi]at q;simp[eV,eW,Qq,Qd,Qi,Qm,a1,a2,a3,a4,a5,a6,k2,jS];exact q
  |true=>
   rw[hi]at q;simp[eV,eW,Qq,Qd,Qi,Qm,a1,a2,a3,a4,a5,a6,k2,jS];exact⟨q,kb⟩
 by_cases k3:o.ki=3
 ·have c1:¬(o.ki<1\/5<o.ki):=zE
  rw[if_neg c1,if_neg zE];have q:=ud o.nw hl;have hk:okB o=pW o.nw:=by rw[okB,if_neg k1,if_neg k2,if_pos k3]
  have hr:Jb o={o with nw:=Iz}:=by rw[Jb,if_neg k1,if_neg k2,if_pos k3]
  rw[hr]at kb |-
  rw[hk];simp only[Qq,Qd,Qi,Qm,k3,Iz,zzcr,zzae,zzai]at kb;have kb:=Xw (l:=[.agg [I o.sq,I o.ch,I o.fr,I 3,I o.en,I o.n,I 0,I 0,I 0,I 0,I 0,I 0,.sl .nil [],I o.cl.ki,I o.cl.it,I o.cl.fr,I o.cl.to,I o.cl.re,I o.cl.n,I o.cl.a,I o.cl.b,I o.cu.id,I o.cu.fr,I o.cu.to,I o.cu.pr,.str o.cu.tx]]) kb ⟨Qdv ⟨Ps,Ps,Ps,Ps,Ps,Ps,Ps,Ps,Ps,Ps,Ps,Ps,Wk.sl _ _,Ps,Ps,Ps,Ps,Ps,Ps,Ps,Ps,Ps,Ps,Ps,Ps,Ps,trivial⟩,trivial⟩;try simp only[Qd]at q
  cases hi:pW o.nw with
  |false=>
   rw[hi]at q;simp[eV,eW,Qq,Qd,Qi,Qm,a1,a2,a3,a4,a5,a6,k3,jS];exact q
  |true=>
   rw[hi]at q;simp[eV,eW,Qq,Qd,Qi,Qm,a1,a2,a3,a4,a5,a6,k3,jS,Iz];exact⟨q,kb⟩
 by_cases k4:o.ki=4
 ·have c1:¬(o.ki<1\/5<o.ki):=zE
  rw[if_neg c1,if_neg zE];have q:=Kz o.cl;have hk:okB o=Xu o.cl:=by rw[okB,if_neg k1,if_neg k2,if_neg k3,if_pos k4]
  have hr:Jb o={o with cl:=Sx}:=by rw[Jb,if_neg k1,if_neg k2,if_neg k3,if_pos k4]
  rw[hr]at kb |-
  rw[hk];simp only[Qq,Qd,Qi,Qm,k4,Sx,zzae,zzai]at kb;try simp only[Qi]at q
  cases hi:Xu o.cl with
  |false=>
   rw[hi]at q;simp[eV,eW,Qq,Qd,Qi,Qm,a1,a2,a3,a4,a5,a6,k4,jS];exact q
  |true=>
   rw[hi]at q;simp[eV,eW,Qq,Qd,Qi,Qm,a1,a2,a3,a4,a5,a6,k4,jS,Sx];exact⟨q,kb⟩
 by_cases k5:o.ki=5
 ·have c1:¬(o.ki<1\/5<o.ki):=zE
  rw[if_neg c1,if_neg zE];have q:=sS o.cu;have hk:okB o=iy o.cu:=by rw[okB,if_neg k1,if_neg k2,if_neg k3,if_neg k4]
  have hr:Jb o={o with cu:=Q3}:=by rw[Jb,if_neg k1,if_neg k2,if_neg k3,if_neg k4]
  rw[hr]at kb |-
  rw[hk];simp only[Qq,Qd,Qi,Qm,k5,Q3,zzae,zzai]at kb;simp only[Qm]at q;cases hi:iy o.cu with
  |false=>
   rw[hi]at q;simp[eV,eW,Qq,Qd,Qi,Qm,a1,a2,a3,a4,a5,a6,k5,jS];exact q
  |true=>
   rw[hi]at q;simp[eV,eW,Qq,Qd,Qi,Qm,a1,a2,a3,a4,a5,a6,k5,jS,Q3];exact⟨q,kb⟩
 rw[if_pos zE];simp[eV,eW,Qq,Qd,Qi,Qm,a1,a2,a3,a4,a5,a6,k1,k2,k3,k4,k5]
open Go Go.Abs
def Us(g:Pg)(o:Od):Bool:=Vj o&&(decide (o.ch= -1)||decide (o.ch=g.p.ch))
def sV(g:Pg)(o:Od)(hl:o.nw.al.length<=8796093022208):Pure Tryz.prog aD 41 [.agg (Qg g),.agg (Qq o)] (.bool (Us g o)):=by
 have k:=sU o hl;simp only[Qq,Qd,Qi,Qm,zzae,zzai]at k;refine Qp ajI (fun _ _ _=>.bool (Vj o)) zd ?_;cases hv:Vj o with
 |false=>
  rw[hv]at k;simp[abj,abk,Qg,Qa,Qq,Qd,Qi,Qm,hv,Us];exact k
 |true=>
  rw[hv]at k;by_cases h1:o.ch= -1
  ·simp[abj,abk,Qg,Qa,Qq,Qd,Qi,Qm,hv,Us,h1];rw[h1]at k;exact k
  simp[abj,abk,Qg,Qa,Qq,Qd,Qi,Qm,hv,Us,h1];refine⟨k,?_⟩;rw[zzcy];simp[h1]
def Uo{α:Type}(P:α->Bool):List α->Nat->Int
 |[],_=> -1
 |x::r,i=>if P x=true then i else Uo P r (i+1)
def Qdc{α:Type}{P:α->Bool}:∀{L:List α}{i:Nat},L.find? P=none->Uo P L i= -1
 |[],_,_=>rfl
 |a::r,i,h=>by
  rw[zzen]at h;split at h
  ·cases h
  rename_i hn;rw[Uo,if_neg (by simp[hn])];exact Qdc h
def Wj{α:Type}{P:α->Bool}{a:α}:∀{L:List α}{i:Nat},L.find? P=some a->∃k:Nat,Uo P L i=((i+k:Nat):Int)/\L[k]?=some a/\P a=true
 |[],_,h=>by cases h
 |b::r,i,h=>by
  rw[zzen]at h;split at h
  ·rename_i hb;cases h;exact⟨0,by simp[Uo,hb],rfl,hb⟩
  rename_i hn;obtain⟨k,h1,h2,h3⟩:=Wj (i:=i+1) h;exact⟨k+1,by rw[Uo,if_neg (by simp[hn]),h1];omega,Nm h2,h3⟩
def yb(L:List bF)(P:bF->Bool)(k:FuncId)(first cap:P2)(hl:L.length<=1000000000)(h1:∀m,first.map (bz m 6)=first)(h2:∀m,cap.map (bz m 6)=cap)
  (hp:∀e∈L,Pure Tryz.prog aD k (first++.agg (Qe e)::cap) (.bool (P e)))(orc:UV)(ho:∀d e,e∈L->orc d k (first++.agg (Qe e)::cap)=.bool (P e)):
  Pure Tryz.prog aD 78 [.sl .ro (L.map Qe),.fn k first cap] (I (Uo P L 0)):=by
 refine Qp S8 orc zd ?_;simp[akb];refine Qk rT (fun f m=>∃i:Nat,f 8=I i/\i<=L.length/\Uo P (L.drop i) i=Uo P L 0/\m=⟨[],[],fun _=>.gone,0⟩) (fun f _=>L.length-(numOf (f 8)).toNat) ?_ ?_
 ·exact⟨0,zd,zE,zd,rfl⟩
 rintro f m ⟨i,f8,hi,hr,rfl⟩;rcases zzaa i L.length with ai|bn
 ·obtain⟨a,ha⟩:=aV ai;have ah:Qj (L.map Qe) i=Qe a:=Qu (by simp[ha]);have aa:(i:Int)<(L.length:Int):=zE
  have hw:=bO i zE;have hd:L.drop i=a::L.drop (i+1):=by rw[zzah ai,(zza.1 ha).2]
  have kJ:=hp a (zzad ha);have ZA:=fun d=>ho d a (zzad ha);rw[hd,Uo]at hr;simp only[Qe]at kJ ZA;cases hP:P a with
  |true=>
   rw[hP]at kJ ZA;rw[if_pos hP]at hr;simp[f8,rT,abw,aa,ah,Qe,h1,h2,ZA];exact⟨kJ,hr⟩
  |false=>
   rw[hP]at kJ ZA;rw[if_neg (by simp[hP])]at hr;simp[f8,rT,aa,ah,Qe,h1,h2,ZA,hw];refine⟨kJ,aQ,⟨i+1,zd,zE,hr⟩,zE⟩
 obtain rfl:i=L.length:=zE
 rw[zzbx,Uo]at hr;simp[f8,rT,abw];exact hr
def Q4(e:bF)(f:Int)(h:Kt e)(hf:nR f):Pure Tryz.prog aD 212 [.agg [I f],.agg (Qe e)] (.bool (xS f e)):=by
 refine Qp ac6 (fun _ _ _=>.junk) zd ?_;obtain⟨⟨a1,a2⟩,⟨a3,a4⟩,_⟩:=h;obtain⟨a5,a6⟩:=hf;by_cases h1:e.st<=f
 ·have w1:=wu e.st zE zE;have w2:=wu f zE zE;have w3:=wu (f-e.st) zE zE;have w4:=wu e.fr zE zE;by_cases h2:0<e.fr
  ·have:(f-e.st<e.fr)=(f<e.st+e.fr):=by apply propext;omega
   simp[M7,M8,Qe,h1,h2,xS,w1,w2,w3,w4,this]
  have:¬f<e.st+e.fr:=zE
  simp[M7,M8,Qe,h1,h2,xS,this]
 simp[M7,M8,Qe,h1,xS]
def Lc(e:bF)(row:P2)(id:Int):Pure Tryz.prog aD 213 [.agg (Qe e),.ep (I id::row) 0] (.bool (decide (e.id=id))):=by
 refine Qp ac7 (fun _ _ _=>.junk) zd ?_;simp[ahy,ahz,Qe];rw[zzcy];simp
def sW(n:Int):Prop:= -9223372036854775808<=n/\n<=9223372036854775807
open Go Go.Abs
def GF(L:List En)(P:En->Bool)(k:FuncId)(first cap:P2)(hl:L.length<=1000000000)(h1:∀m,first.map (bz m 6)=first)(h2:∀m,cap.map (bz m 6)=cap)
  (hp:∀e∈L,Pure Tryz.prog aD k (first++.agg (Qd e)::cap) (.bool (P e)))(orc:UV)(ho:∀d e,e∈L->orc d k (first++.agg (Qd e)::cap)=.bool (P e)):
  Pure Tryz.prog aD 148 [.sl .ro (L.map Qd),.fn k first cap] (I (Uo P L 0)):=by
 refine Qp BW orc zd ?_;simp[ML];refine Qk eX (fun f m=>∃i:Nat,f 8=I i/\i<=L.length/\Uo P (L.drop i) i=Uo P L 0/\m=⟨[],[],fun _=>.gone,0⟩) (fun f _=>L.length-(numOf (f 8)).toNat) ?_ ?_
 ·exact⟨0,zd,zE,zd,rfl⟩
 rintro f m ⟨i,f8,hi,hr,rfl⟩;rcases zzaa i L.length with ai|bn
 ·obtain⟨a,ha⟩:=aV ai;have ah:Qj (L.map Qd) i=Qd a:=Qu (by simp[ha]);have aa:(i:Int)<(L.length:Int):=zE
  have hw:=bO i zE;have hd:L.drop i=a::L.drop (i+1):=by rw[zzah ai,(zza.1 ha).2]
  have kJ:=hp a (zzad ha);have ZA:=fun d=>ho d a (zzad ha);rw[hd,Uo]at hr;simp only[Qd]at kJ ZA;cases hP:P a with
  |true=>
   rw[hP]at kJ ZA;rw[if_pos hP]at hr;simp[f8,eX,Aj,aa,ah,Qd,h1,h2,ZA];exact⟨kJ,hr⟩
  |false=>
   rw[hP]at kJ ZA;rw[if_neg (by simp[hP])]at hr;simp[f8,eX,aa,ah,Qd,h1,h2,ZA,hw];refine⟨kJ,aQ,?_⟩
   ·exact⟨⟨i+1,zd,zE,hr⟩,zE⟩
 obtain rfl:i=L.length:=zE
 rw[zzbx,Uo]at hr;simp[f8,eX,Aj];exact hr
def GG(e:En)(id:Int):Pure Tryz.prog aD 201 [.agg (Qd e),.ep [I id] 0] (.bool (decide (e.id=id))):=by
 refine Qp acZ (fun _ _ _=>.junk) zd ?_;simp[ahq,ahr,Qd];rw[zzcy];simp
def Qr(g:Pg)(f:Int)(mid:Nat):P2:=Qg g++[I f,.mp mid]
def Jd(g:Pg)(id:Int):Int:=Uo (fun e:En=>decide (e.id=id)) g.p.ens 0
def Q5(Y:YT)(m:AM)(g:Pg)(f:Int)(mid:Nat)(id:Int)(hl:g.p.ens.length<=1000000000):aB Tryz.prog aD Y 141 [.agg (Qr g f mid),I id] m (fun r m'=>m'=m/\r=I (Jd g id)):=by
 obtain⟨mb,ml,ms,mn⟩:=m;have k:=GF g.p.ens (fun e:En=>decide (e.id=id)) 201 [] [.ep [I id] 0] hl (fun _=>rfl) (fun _=>zd) (fun e _=>GG e id) (fun _ _ xs=>match xs with|.agg (.int _ n::_)::_=>.bool (decide (n=id))|_=>.junk) (fun _ e _=>rfl);refine aB.read (Xn ab9 (fun _ _ _=>I (Jd g id)) zd ?_);simp[agH,agI,Qr,Qg,Qa,Jd];exact⟨k,.int _ _⟩
def nS{p:Prop}(h:p:=by repeat'(first|exact Idle.int _ _|exact Idle.bool _|exact Idle.str _|exact Idle.ro _|exact Idle.nil _|exact Idle.full _|exact List.forall_mem_nil _|refine List.forall_mem_cons.2 ⟨?_,?_⟩|refine Idle.aS ?_|refine Idle.agg ?_)):p:=h
def fQ(bx:T5)(mid:Nat)(b:QR):Prop:=mid<bx.length/\Qj bx mid=[.aJ 0 (bG .bool b)]
def fQ.ext{bx:T5}{mid:Nat}{b:QR}(h:fQ bx mid b)(ex:T5):Qj (bx++ex) mid=[.aJ 0 (bG .bool b)]:=by rw[Qn h.1,h.2]
def za(b:QR)(id:Int):Bool:=(af id b).getD false
def Ji(g:Pg)(f:Int)(b:QR):Option bF:=match g.ev.find? (xS f)with
 |none=>none
 |some e=>if e.id=0 then none else if za b e.id=true then some e else none
def rC(g:Pg)(id:Int):Int:=match g.ev.find? (fun e=>decide (e.id=id))with
 |none=>0
 |some e=>e.st
def sX(f:Int)(e:bF):bF:={e with st:=f,fr:=e.fr-(f-e.st),i:=e.i+(f-e.st)}
def Ul(g:Pg)(f:Int)(b:QR):AV:=match Ji g f b with
 |none=>.aS [.agg [I 0,I 0,I 0,I 0,I 0,I 0,.sl .nil []],I 0,.bool false]
 |some e=>.aS [.agg (Qe (sX f e)),I (rC g e.id),.bool true]
def ZB(Y:YT)(m:AM)(g:Pg)(f:Int)(mid:Nat)(b:QR)(hl:g.ev.length<=1000000000)(hs:∀e∈g.ev,Kt e)(hf:nR f)(hb:fQ m.boxes mid b):
  aB Tryz.prog aD Y 160 [.agg (Qr g f mid)] m (fun r m'=>m'=m/\r=Ul g f b):=by
 obtain⟨mb,ml,ms,mn⟩:=m;have hB:∀ex,Qj (mb++ex) mid=[.aJ 0 (bG .bool b)]:=hb.ext;have hN:∀n:Nat,¬(n:Int)<0:=fun n=>zE
 have k1:=yb g.ev (xS f) 212 [.agg [I f]] [] hl (fun _=>zd) (fun _=>zd) (fun e he=>Q4 e f (hs e he) hf) (fun _ _ xs=>match xs with|[_,.agg [_,_,.int _ st,.int _ fr,_,_,_]]=>.bool (xS f ⟨0,0,st,fr,0,0,[],false⟩)|_=>.junk) (fun _ e _=>rfl)
 have k2:∀(row:P2)(id:Int),Pure Tryz.prog aD 78 [.sl .ro (g.ev.map Qe),.fn 213 [] [.ep (I id::row) 0]] (I (Uo (fun e=>decide (e.id=id)) g.ev 0)):=fun row id=>
  yb g.ev (fun e=>decide (e.id=id)) 213 [] [.ep (I id::row) 0] hl (fun _=>zd) (fun _=>zd) (fun e _=>Lc e row id) (fun _ _ xs=>match xs with|.agg (.int _ n::_)::_=>.bool (decide (n=id))|_=>.junk) (fun _ e _=>rfl)
 cases h1:g.ev.find? (xS f)with
 |none=>
  rw[Qdc h1]at k1;refine aB.read (Xn MQ (fun _ _ _=>I (-1)) zd ?_);simp[Ak,Al,Qr,Qg,Qa,Ul,Ji,h1];exact⟨k1,nS⟩
 |some e=>
  obtain⟨n,g1,g2,g3⟩:=Wj (i:=0) h1;have k2':=k2;have hn:n<g.ev.length:=(zza.1 g2).1;have dA:=zzad g2
  have hex:(g.ev.find? fun e'=>decide (e'.id=e.id)).isSome=true:=by
   rw[List.find?_isSome];exact⟨e,dA,zd⟩
  obtain⟨e2,KY⟩:=zzcd.1 hex;obtain⟨n2,q1,q2,q3⟩:=Wj (i:=0) KY;have zn:n2<g.ev.length:=(zza.1 q2).1;rw[g1,zzbs]at k1;have r1:Qj (g.ev.map Qe) n=Qe e:=Qu (by simp[g2]);have r2:Qj (g.ev.map Qe) n2=Qe e2:=Qu (by simp[q2]);have qi:(n:Int)<(g.ev.length:Int):=zE
  have axz:(n2:Int)<(g.ev.length:Int):=zE
  obtain⟨⟨a1,a2⟩,⟨a3,a4⟩,⟨a5,a6⟩,_⟩:=hs e dA;obtain⟨f1,f2⟩:=hf;have hon:e.st<=f/\f<e.st+e.fr:=by simpa[xS]using g3
  have w1:IntKind.i64.wrap (f-e.st)=f-e.st:=by rw[Ql]<;>omega
  have w2:IntKind.i64.wrap (e.fr-(f-e.st))=e.fr-(f-e.st):=by rw[Ql]<;>omega
  have w3:IntKind.i64.wrap (e.i+(f-e.st))=e.i+(f-e.st):=by rw[Ql]<;>omega
  refine aB.read (Xn MQ (fun d _ _=>if d=15 then I n else I n2) zd ?_);have aL:e2.id=e.id:=by simpa using q3
  by_cases h0:e.id=0
  ·simp[Ak,Al,Qr,Qg,Qa,Ul,Ji,h1,Qe,qi,r1,h0];exact⟨k1,nS⟩
  rcases Xy AV.bool e.id b 0 with⟨b1,b2,_⟩|⟨u,u',b1,b2,_⟩
  ·simp[Ak,Al,Qr,Qg,Qa,Ul,Ji,h1,Qe,qi,r1,h0,za,b1,b2,hB,hN];exact⟨k1,nS⟩
  cases u with
  |false=>
   simp[Ak,Al,Qr,Qg,Qa,Ul,Ji,h1,Qe,qi,r1,h0,za,b1,b2,hB,hN];exact⟨k1,nS⟩
  |true=>
   have k2:=k2 [I e.it,I e.st,I e.fr,I e.i,I e.re,.sl .ro (e.al.map Qf)] e.id;rw[q1,zzbs]at k2;simp[Ak,Al,Qr,Qg,Qa,Ul,Ji,h1,Qe,qi,r1,h0,za,b1,b2,hB,hN,w1,w2,w3,sX,rC,KY];refine⟨k1,k2,Uh ?_⟩;simp[axz,r2,Qe];exact nS
