import Derived.Test.YthjppoincojfkaaGreatDoorRTMbB
set_option linter.all false
set_option maxRecDepth 100000
set_option maxHeartbeats 64000000
namespace Go.Proofs.YthjppoincojfkaaGreatDoor
open Go Go.Abs
def Oo:ByteArray:=⟨#[32]⟩
def jv{α:Type}(l:List α):l=[]\/∃L b,l=L++[b]:=by
 rcases zzfc l with h|⟨L,b,h⟩
 ·exact .inl h
 exact .inr ⟨L,b,by rw[h,zzef]⟩
def Ld(ek:List ByteArray)(w:ByteArray):List ByteArray:=match ek.getLast? with
 |some r=>if r.size+1+w.size<=32 then ek.dropLast++[r++(Oo++w)]else ek++[w]
 |none=>[w]
theorem xZ(w:ByteArray):Ld [] w=[w]:=rfl
def rj(pre:List ByteArray)(r w:ByteArray):Ld (pre++[r]) w=if r.size+1+w.size<=32 then pre++[r++(Oo++w)]else pre++[r]++[w]:=by simp[Ld]
def lay:List ByteArray->List ByteArray->Option (List ByteArray)
 |ek,[]=>some ek
 |ek,w::r=>if 32<w.size then none else lay (Ld ek w) r
def Dp:∀(a b ek:List ByteArray),lay ek (a++b)=(lay ek a).bind fun x=>lay x b
 |[],_,_=>rfl
 |w::r,b,ek=>by
  simp only[zzae,lay];split
  ·rfl
  exact Dp r b _
def Dq(s:ByteArray):∀(n i:Nat)(first:Option Nat),(Y8 s n i first).length<=n+1
 |0,i,first=>by rw[Y8];cases first<;>simp[sS]
 |n+1,i,first=>by
  rw[Y8];split
  ·have:=Dq s n (i+1) (some (first.getD i));omega
  have:=Dq s n (i+1) none;rw[zzal];have h2:(sS s i first).length<=1:=by cases first<;>simp[sS]
  omega
def ZF(a b:ByteArray):(a++b).size=a.size+b.size:=zd
def afd{ek:List ByteArray}{w:ByteArray}(h:∀r∈ek,r.size<=32)(hw:w.size<=32):∀r∈Ld ek w,r.size<=32:=by
 rcases jv ek with rfl|⟨pre,r,rfl⟩
 ·intro x hx;simp[xZ]at hx;subst hx;exact hw
 rw[rj];split
 ·intro x hx;rcases zzaj.1 hx with hx|hx
  ·exact h x (by simp[hx])
  simp only[zzbx]at hx;subst hx;rw[ZF,ZF];have:Oo.size=1:=rfl;omega
 intro x hx;rcases zzaj.1 hx with hx|hx
 ·exact h x hx
 simp only[zzbx]at hx;subst hx;exact hw
def ZG(ek:List ByteArray)(w:ByteArray):(Ld ek w).length<=ek.length+1:=by
 rcases jv ek with rfl|⟨pre,r,rfl⟩
 ·simp[xZ]
 rw[rj];split<;>simp
def lX(s:ByteArray):Option (List ByteArray):=if 200<s.size\/Y7 s=false then none else match lay [] (nF s)with
 |some l=>if l=[]\/4<l.length then none else some l
 |none=>none
def Kr(l:List ByteArray):P2:=l.map AV.str
def Le(r:ByteArray):P2:=[.str r]
def lY:Option (List ByteArray)->AV
 |none=>.aS [.sl .nil [],.bool false]
 |some l=>.aS [.sl .ro (l.map Le),.bool true]
def RV(ek:List ByteArray)(V:AV)(rest:T5):Prop:=(ek=[]/\V=.sl .nil [])\/(ek≠[]/\∃k,V=.bs (k+3) 0 ek.length 1/\k<rest.length/\Qi rest k=Kr ek)
def asF(q:List ByteArray)(i:Nat)(m:AM):Prop:=∃(ek:List ByteArray)(rest:T5)(V:AV),lay [] (q.take i)=some ek/\(∀r∈ek,r.size<=32)/\ek.length<=i/\m.boxes=[.sl .nil []]::[.bool false]::[V]::rest/\RV ek V rest
def axH(q:List ByteArray)(ex:Exit)(m:AM):Prop:=ex=.ret/\lay [] q=none/\∃rest,m.boxes=[.sl .nil []]::[.bool false]::rest
def Bo(s:ByteArray):UV:=fun d f _=>if f=999999 then(if d=49 then .aJ 0 []else .junk)else if f=158 then .bool (Y7 s)else .fn 211 [] [.ep [.str s] 0]
def Lg(l:List ByteArray):aZ 1 l.length (Kr l)=l.map Le:=by
 induction l with
 |nil=>rfl
 |cons a r ih=>
  show aZ 1 (r.length+1) (AV.str a::Kr r)=_;rw[xU];simp[ih,Le]
def GI(m:AM)(d:Nat)(l:List ByteArray):(Kr l).map (bB m (d+1))=Kr l:=by
 induction l with
 |nil=>rfl
 |cons a r ih=>simp[Kr]at ih |-
def RV.ext{ek:List ByteArray}{V:AV}{rest:T5}(h:RV ek V rest)(ex:T5):RV ek V (rest++ex):=by
 obtain h|⟨h1,k,h2,h3,h4⟩:=h
 ·exact .inl h
 exact .inr ⟨h1,k,h2,by simp;omega,by rw[Qn h3,h4]⟩
def Rk(s:ByteArray):Pure Tryz.prog aD 100 [.str s] (lY (lX s)):=by
 refine Qp MG (Bo s) zd ?_;by_cases h2:200<s.size
 ·have Nw:(200:Int)<(s.size:Int):=zE
  have:lX s=none:=by rw[lX,ac (.inl h2)]
  rw[this];simp[Ew,rZ,Nw,lY]
 have Nw:¬(200:Int)<(s.size:Int):=zE
 have kp:=xW s zE;have kw:=K9 s;have kit:=La s zE;cases hp:Y7 s with
 |false=>
  rw[hp]at kp;have:lX s=none:=by rw[lX,ac (.inr hp)]
  rw[this];simp[Ew,rZ,Nw,lY,Bo,hp];exact kp
 |true=>
  rw[hp]at kp
  have zL:lX s=match lay [] (nF s)with
   |some l=>if l=[]\/4<l.length then none else some l
   |none=>none:=by rw[lX,ab (by simp[hp];omega)]
  rw[zL];have hql:(nF s).length<=201:=by have:=Dq s s.size 0 none;unfold nF;omega
  generalize nF s=q at kit hql;simp[Ew,Nw,Bo,hp];refine⟨kp,kw,?_⟩;refine je (xs:=q.map fun w=>[.str w]) zd kit (by intro x hx;simp at hx;obtain⟨a,_,rfl⟩:=hx;rfl) (asF q) (axH q) ?_ ?_ ?_ ?_ ?_ ?_
  ·exact⟨[],[],.sl .nil [],rfl,fun _ h=>(by cases h),zd,zd,.inl ⟨rfl,rfl⟩⟩
  ·rintro i m m' ⟨ek,rest,V,g1,g2,g3,g4,g5⟩ ⟨⟨b2,e2⟩,_,_⟩;exact⟨ek,rest++b2,V,g1,g2,g3,by rw[e2,g4];simp,g5.ext b2⟩
  ·rintro ex m m' ⟨g1,g2,rest,g3⟩ ⟨⟨b2,e2⟩,_,_⟩;exact⟨g1,g2,rest++b2,by rw[e2,g3];simp⟩
  ·rintro l1 i m x hg hr ⟨ek,rest,V,g1,g2,g3,g4,g5⟩ hx K' k1 k2 k3
   obtain⟨w,hy,rfl⟩:∃w,q[i]?=some w/\[AV.str w]=x:=by
    rw[zzbn]at hx;cases hq:q[i]? with
    |none=>rw[hq]at hx;cases hx
    |some y=>rw[hq]at hx;exact⟨y,rfl,ap hx⟩
   have ah:i<q.length:=(zza.1 hy).1;have bz:q.take (i+1)=q.take i++[w]:=by rw[zzay,hy];rfl
   have gK:lay [] (q.take (i+1))=if 32<w.size then none else some (Ld ek w):=by
    rw[bz,Dp,g1];simp[lay]
   rw[Jp]at g4;obtain⟨mb,ml,ms,mn⟩:=m;simp only at g4 hr;subst g4;by_cases hw:32<w.size
   ·have hw':(32:Int)<(w.size:Int):=zE
    simp[Zt,hr,hw'];refine k2 _ ⟨rfl,?_,_,rfl⟩;have hq:q=q.take (i+1)++q.drop (i+1):=(zzdt _ _).symm;rw[hq,Dp,gK,ac hw];rfl
   have hw':¬(32:Int)<(w.size:Int):=zE
   rw[ab hw]at gK;have hsz:=afd g2 (by omega:w.size<=32);have dQ:=ZG ek w;obtain⟨h0,hV⟩|⟨h0,k,hV,dK,eE⟩:=g5
   ·subst h0;subst hV;have sv:IntKind.i64.wrap (-1)= -1:=by rw[Ql]<;>omega
    simp[Zt,hr,hw',Bo,sv];refine k1 _ ⟨[w],rest++[[.str w]],.bs (rest.length+3) 0 1 1,by rw[gK,xZ],fun r h=>by simp at h;subst h;omega,zd,zd,.inr ⟨zd,rest.length,rfl,zd,by simp[Kr]⟩⟩
   subst hV;obtain⟨pre,r,rfl⟩:=(jv ek).resolve_left h0;have cw:pre.length+1<=i:=by simpa using g3
   have sv:IntKind.i64.wrap (pre.length:Int)=(pre.length:Int):=by rw[Ql]<;>omega
   have fU:(Kr (pre++[r])).length=pre.length+1:=by simp[Kr]
   have azo:=g2 r zd;have hsC:Kr (pre++[r])=Kr pre++[.str r]:=by simp[Kr]
   have ug:(Kr pre).length=pre.length:=by simp[Kr]
   have ZH:(Kr (pre++[r])).take (pre.length+1)=Kr (pre++[r]):=zzau zE;have fk:(Kr (pre++[r])).drop pre.length=[.str r]:=by rw[hsC,<- ug,zzgi]
   have lq:IntKind.i64.wrap ((r.size:Int)+1)=(r.size:Int)+1:=by rw[Ql]<;>omega
   have fV:IntKind.i64.wrap ((r.size:Int)+1+(w.size:Int))=(r.size:Int)+1+(w.size:Int):=by rw[Ql]<;>omega
   rw[rj]at gK hsz dQ;by_cases hc:r.size+1+w.size<=32
   ·rw[ac hc]at gK hsz dQ;have uh:(r.size:Int)+1+(w.size:Int)<=32:=zE
    have bR:(Kr (pre++[r])).set pre.length (.str (r++(Oo++w)))=Kr (pre++[r++(Oo++w)]):=by
     rw[hsC,<- ug,zzdh _ _ (zzab _)];simp[Kr]
    simp only[Oo]at bR;simp[Zt,hr,hw',Bo,sv,eE,fk,fU,lq,fV,uh,bR]
    have hrk:Qi (rest.set k (Kr (pre++[r++(Oo++w)]))) k=Kr (pre++[r++(Oo++w)]):=by
     simp[Qi,zzaw,-Yd,dK]
    have hs1:Oo.size=1:=rfl;refine⟨zE,(by show Oo.size+w.size<=_;omega),(by show r.size+(Oo.size+w.size)<=_;omega),zE,dK,k1 _ ⟨pre++[r++(Oo++w)],rest.set k (Kr (pre++[r++(Oo++w)])),.bs (k+3) 0 (pre.length+1) 1,gK,hsz,by simp;omega,by simp[Oo],.inr ⟨zd,k,zd,Nm dK,hrk⟩⟩⟩
   rw[ab hc]at gK hsz dQ;have uh:¬(r.size:Int)+1+(w.size:Int)<=32:=zE
   simp[Zt,hr,hw',Bo,sv,eE,fk,fU,lq,fV,uh];have aO:¬Kr (pre++[r])=[]:=fun h=>by rw[h]at fU;simp at fU
   have hR:(rest.set k []).length=rest.length:=zd
   refine⟨zE,⟨⟨dK,aO⟩,zE⟩,k1 _ ⟨pre++[r]++[w],rest.set k []++[Kr (pre++[r])++[.str w]],.bs (rest.length+3) 0 (pre.length+1+1) 1,gK,hsz,by simp;omega,by simp[ZH],.inr ⟨zd,rest.length,zd,zd,?_⟩⟩⟩;rw[<- hR,ZI];simp[Kr]
  ·rintro m ⟨ek,rest,V,g1,g2,g3,g4,g5⟩;rw[zzbw,zzbu]at g1;rw[g1];obtain⟨mb,ml,ms,mn⟩:=m;simp only at g4;subst g4;obtain⟨h0,hV⟩|⟨h0,k,hV,dK,eE⟩:=g5
   ·subst h0;subst hV;simp[rZ,lY]
   subst hV;have aH:¬ek.length=0:=fun h=>h0 (zzcd.1 h);have fU:(Kr ek).length=ek.length:=by simp[Kr]
   by_cases h4:4<ek.length
   ·have SR:(4:Int)<(ek.length:Int):=zE
    simp[rZ,lY,h0,h4,SR]
   have SR:¬(4:Int)<(ek.length:Int):=zE
   have hmp:=fun m=>GI m 4 ek;have axI:=fun m=>GI m 3 ek;have gY:=Lg ek;simp[rZ,lY,h0,h4,SR,eE,axI,gY,fU]
  rintro ex m ⟨rfl,g2,rest,g3⟩;rw[g2];simp[rZ,g3,lY]
def iw(c:Cue):Bool:=if c.id<1\/4611686018427387903<c.id then false else if c.to=0 then decide (c.fr=0/\c.pr=0/\c.tx=eB)else
 if c.fr<0\/c.to<=c.fr\/100000000<c.to then false else if c.pr<0\/3<c.pr then false else(lX c.tx).isSome
def sU(c:Cue):Pure Tryz.prog aD 49 [.agg (Qh c)] (.bool (iw c)):=by
 have k:=Rk c.tx;refine Qp Tk (fun _ _ _=>lY (lX c.tx)) zd ?_;by_cases h1:c.id<1
 ·simp[tD,tE,Qh,h1,iw]
 by_cases h2:4611686018427387903<c.id
 ·simp[tD,tE,Qh,h1,h2,iw]
 by_cases h3:c.to=0
 ·simp[tD,tE,Qh,h1,h2,h3,iw];rw[zzcr];simp[GC]
 by_cases h4:c.fr<0
 ·simp[tD,tE,Qh,h1,h2,h3,h4,iw]
 by_cases h5:c.to<=c.fr
 ·simp[tD,tE,Qh,h1,h2,h3,h4,h5,iw]
 by_cases h6:100000000<c.to
 ·simp[tD,tE,Qh,h1,h2,h3,h4,h5,h6,iw]
 by_cases h7:c.pr<0
 ·simp[tD,tE,Qh,h1,h2,h3,h4,h5,h6,h7,iw]
 by_cases h8:3<c.pr
 ·simp[tD,tE,Qh,h1,h2,h3,h4,h5,h6,h7,h8,iw]
 cases hr:lX c.tx with
 |none=>
  rw[hr]at k;simp[tD,tE,Qh,h1,h2,h3,h4,h5,h6,h7,h8,iw,hr,lY];exact k
 |some l=>
  rw[hr]at k;simp[tD,tE,Qh,h1,h2,h3,h4,h5,h6,h7,h8,iw,hr,lY];exact k
def SS:En:=⟨0,0,0,0,0,0,[]⟩
def ZJ:Cl:=⟨0,0,0,0,0,0,0,0⟩
def ZK:Cue:=⟨0,0,0,0,eB⟩
def Ka(o:Od):Od:=if o.ki=1 then{o with n:=0,en:=0}else if o.ki=2 then{o with en:=0}else if o.ki=3 then{o with nw:=SS}else if o.ki=4 then{o with cl:=ZJ}else{o with cu:=ZK}
def okB(o:Od):Bool:=if o.ki=1 then uP o.en else if o.ki=2 then uP o.en else if o.ki=3 then pM o.nw else if o.ki=4 then Zd o.cl else iw o.cu
def Zz(o:Od):Bool:=if o.sq<0\/200<o.sq\/o.ch< -1\/40<=o.ch then false else if o.fr<0\/100000000<o.fr then false else
 if o.ki<1\/5<o.ki then false else if o.ki=1/\(o.n< -100000000\/100000000<o.n)then false else okB o&&Qcr (Ka o)
def jx(a b:Bool):UV:=fun _ f _=>if f=46 then .bool b else .bool a
def sV(o:Od)(hl:o.nw.al.length<=8796093022208):Pure Tryz.prog aD 22 [.agg (Qq o)] (.bool (Zz o)):=by
 have kb:=K7 (Ka o);have kk:o.ki=3\/Pure Tryz.prog aD 46 [.agg (Qq (Ka o))] (.bool (Qcr (Ka o))):=.inr kb;refine Qp S9 (jx (okB o) (Qcr (Ka o))) zd ?_;by_cases a1:o.sq<0
 ·simp[eT,eU,Qq,Qd,Qg,Qh,a1,Zz]
 by_cases a2:200<o.sq
 ·simp[eT,eU,Qq,Qd,Qg,Qh,a1,a2,Zz]
 by_cases a3:o.ch< -1
 ·simp[eT,eU,Qq,Qd,Qg,Qh,a1,a2,a3,Zz]
 by_cases a4:40<=o.ch
 ·simp[eT,eU,Qq,Qd,Qg,Qh,a1,a2,a3,a4,Zz]
 by_cases a5:o.fr<0
 ·simp[eT,eU,Qq,Qd,Qg,Qh,a1,a2,a3,a4,a5,Zz]
 by_cases a6:100000000<o.fr
 ·simp[eT,eU,Qq,Qd,Qg,Qh,a1,a2,a3,a4,a5,a6,Zz]
 have hA:¬(o.sq<0\/200<o.sq\/o.ch< -1\/40<=o.ch):=zE
 have hB:¬(o.fr<0\/100000000<o.fr):=zE
 have hv:Zz o=if o.ki<1\/5<o.ki then false else if o.ki=1/\(o.n< -100000000\/100000000<o.n)then false else okB o&&Qcr (Ka o):=by rw[Zz,ab hA,ab hB]
 rw[hv];by_cases k1:o.ki=1
 ·have c1:¬(o.ki<1\/5<o.ki):=zE
  rw[ab c1];by_cases b1:o.n< -100000000
  ·rw[ac ⟨k1,.inl b1⟩];simp[eT,eU,Qq,Qd,Qg,Qh,a1,a2,a3,a4,a5,a6,k1,b1]
  by_cases b2:100000000<o.n
  ·rw[ac ⟨k1,.inr b2⟩];simp[eT,eU,Qq,Qd,Qg,Qh,a1,a2,a3,a4,a5,a6,k1,b1,b2]
  rw[ab zE];have q:=We o.en;have hk:okB o=uP o.en:=by rw[okB,ac k1]
  have hr:Ka o={o with n:=0,en:=0}:=by rw[Ka,ac k1]
  rw[hr]at kb |-
  rw[hk];simp only[Qq,Qd,Qg,Qh,k1]at kb;cases hi:uP o.en with
  |false=>
   rw[hi]at q;simp[eT,eU,Qq,Qd,Qg,Qh,a1,a2,a3,a4,a5,a6,k1,b1,b2,jx];exact q
  |true=>
   rw[hi]at q;simp[eT,eU,Qq,Qd,Qg,Qh,a1,a2,a3,a4,a5,a6,k1,b1,b2,jx];exact⟨q,kb⟩
 by_cases k2:o.ki=2
 ·have c1:¬(o.ki<1\/5<o.ki):=zE
  rw[ab c1,ab zE];have q:=We o.en;have hk:okB o=uP o.en:=by rw[okB,ab k1,ac k2]
  have hr:Ka o={o with en:=0}:=by rw[Ka,ab k1,ac k2]
  rw[hr]at kb |-
  rw[hk];simp only[Qq,Qd,Qg,Qh,k2,zzae,zzag]at kb;try simp only[Qd,Qg,Qh]at q
  cases hi:uP o.en with
  |false=>
   rw[hi]at q;simp[eT,eU,Qq,Qd,Qg,Qh,a1,a2,a3,a4,a5,a6,k2,jx];exact q
  |true=>
   rw[hi]at q;simp[eT,eU,Qq,Qd,Qg,Qh,a1,a2,a3,a4,a5,a6,k2,jx];exact⟨q,kb⟩
 by_cases k3:o.ki=3
 ·have c1:¬(o.ki<1\/5<o.ki):=zE
  rw[ab c1,ab zE];have q:=tQ o.nw hl;have hk:okB o=pM o.nw:=by rw[okB,ab k1,ab k2,ac k3]
  have hr:Ka o={o with nw:=SS}:=by rw[Ka,ab k1,ab k2,ac k3]
  rw[hr]at kb |-
  rw[hk];simp only[Qq,Qd,Qg,Qh,k3,SS,zzct,zzae,zzag]at kb;have kb:=Zb (l:=[.agg [I o.sq,I o.ch,I o.fr,I 3,I o.en,I o.n,I 0,I 0,I 0,I 0,I 0,I 0,.sl .nil [],I o.cl.ki,I o.cl.it,I o.cl.fr,I o.cl.to,I o.cl.re,I o.cl.n,I o.cl.a,I o.cl.b,I o.cu.id,I o.cu.fr,I o.cu.to,I o.cu.pr,.str o.cu.tx]]) kb ⟨Qdq ⟨Ps,Ps,Ps,Ps,Ps,Ps,Ps,Ps,Ps,Ps,Ps,Ps,Wk.sl _ _,Ps,Ps,Ps,Ps,Ps,Ps,Ps,Ps,Ps,Ps,Ps,Ps,Ps,trivial⟩,trivial⟩;try simp only[Qd]at q
  cases hi:pM o.nw with
  |false=>
   rw[hi]at q;simp[eT,eU,Qq,Qd,Qg,Qh,a1,a2,a3,a4,a5,a6,k3,jx];exact q
  |true=>
   rw[hi]at q;simp[eT,eU,Qq,Qd,Qg,Qh,a1,a2,a3,a4,a5,a6,k3,jx,SS];exact⟨q,kb⟩
 by_cases k4:o.ki=4
 ·have c1:¬(o.ki<1\/5<o.ki):=zE
  rw[ab c1,ab zE];have q:=Kv o.cl;have hk:okB o=Zd o.cl:=by rw[okB,ab k1,ab k2,ab k3,ac k4]
  have hr:Ka o={o with cl:=ZJ}:=by rw[Ka,ab k1,ab k2,ab k3,ac k4]
  rw[hr]at kb |-
  rw[hk];simp only[Qq,Qd,Qg,Qh,k4,ZJ,zzae,zzag]at kb;try simp only[Qg]at q
  cases hi:Zd o.cl with
  |false=>
   rw[hi]at q;simp[eT,eU,Qq,Qd,Qg,Qh,a1,a2,a3,a4,a5,a6,k4,jx];exact q
  |true=>
   rw[hi]at q;simp[eT,eU,Qq,Qd,Qg,Qh,a1,a2,a3,a4,a5,a6,k4,jx,ZJ];exact⟨q,kb⟩
 by_cases k5:o.ki=5
 ·have c1:¬(o.ki<1\/5<o.ki):=zE
  rw[ab c1,ab zE];have q:=sU o.cu;have hk:okB o=iw o.cu:=by rw[okB,ab k1,ab k2,ab k3,ab k4]
  have hr:Ka o={o with cu:=ZK}:=by rw[Ka,ab k1,ab k2,ab k3,ab k4]
  rw[hr]at kb |-
  rw[hk];simp only[Qq,Qd,Qg,Qh,k5,ZK,zzae,zzag]at kb;simp only[Qh]at q;cases hi:iw o.cu with
  |false=>
   rw[hi]at q;simp[eT,eU,Qq,Qd,Qg,Qh,a1,a2,a3,a4,a5,a6,k5,jx];exact q
  |true=>
   rw[hi]at q;simp[eT,eU,Qq,Qd,Qg,Qh,a1,a2,a3,a4,a5,a6,k5,jx,ZK];exact⟨q,kb⟩
 rw[ac zE];simp[eT,eU,Qq,Qd,Qg,Qh,a1,a2,a3,a4,a5,a6,k1,k2,k3,k4,k5]
def Ug(g:Pg)(o:Od):Bool:=Zz o&&(decide (o.ch= -1)||decide (o.ch=g.p.ch))
def sW(g:Pg)(o:Od)(hl:o.nw.al.length<=8796093022208):Pure Tryz.prog aD 41 [.agg (Qk g),.agg (Qq o)] (.bool (Ug g o)):=by
 have k:=sV o hl;simp only[Qq,Qd,Qg,Qh,zzae,zzag]at k;refine Qp akg (fun _ _ _=>.bool (Zz o)) zd ?_;cases hv:Zz o with
 |false=>
  rw[hv]at k;simp[abN,abO,Qk,Qa,Qq,Qd,Qg,Qh,hv,Ug];exact k
 |true=>
  rw[hv]at k;by_cases h1:o.ch= -1
  ·simp[abN,abO,Qk,Qa,Qq,Qd,Qg,Qh,hv,Ug,h1];rw[h1]at k;exact k
  simp[abN,abO,Qk,Qa,Qq,Qd,Qg,Qh,hv,Ug,h1];refine⟨k,?_⟩;rw[zzcr];simp[h1]
def Uu{α:Type}(P:α->Bool):List α->Nat->Int
 |[],_=> -1
 |x::r,i=>if P x=true then i else Uu P r (i+1)
def Qcz{α:Type}{P:α->Bool}:∀{L:List α}{i:Nat},L.find? P=none->Uu P L i= -1
 |[],_,_=>rfl
 |a::r,i,h=>by
  rw[zzfk]at h;split at h
  ·cases h
  rename_i hn;rw[Uu,ab (by simp[hn])];exact Qcz h
def Wh{α:Type}{P:α->Bool}{a:α}:∀{L:List α}{i:Nat},L.find? P=some a->∃k:Nat,Uu P L i=((i+k:Nat):Int)/\L[k]?=some a/\P a=true
 |[],_,h=>by cases h
 |b::r,i,h=>by
  rw[zzfk]at h;split at h
  ·rename_i hb;cases h;exact⟨0,by simp[Uu,hb],rfl,hb⟩
  rename_i hn;obtain⟨k,h1,h2,h3⟩:=Wh (i:=i+1) h;exact⟨k+1,by rw[Uu,ab (by simp[hn]),h1];omega,Nm h2,h3⟩
def ya(L:List aW)(P:aW->Bool)(k:FuncId)(first cap:P2)(hl:L.length<=1000000000)(h1:∀m,first.map (bB m 6)=first)(h2:∀m,cap.map (bB m 6)=cap)
  (hp:∀e∈L,Pure Tryz.prog aD k (first++.agg (Qf e)::cap) (.bool (P e)))(orc:UV)(ho:∀d e,e∈L->orc d k (first++.agg (Qf e)::cap)=.bool (P e)):
  Pure Tryz.prog aD 78 [.sl .ro (L.map Qf),.fn k first cap] (I (Uu P L 0)):=by
 refine Qp Tx orc zd ?_;simp[akJ];refine Qj rY (fun f m=>∃i:Nat,f 8=I i/\i<=L.length/\Uu P (L.drop i) i=Uu P L 0/\m=⟨[],[],fun _=>.gone,0⟩) (fun f _=>L.length-(numOf (f 8)).toNat) ?_ ?_
 ·exact⟨0,zd,zE,zd,rfl⟩
 rintro f m ⟨i,f8,hi,hr,rfl⟩;rcases zzaa i L.length with ah|bu
 ·obtain⟨a,ha⟩:=aV ah;have ai:Qi (L.map Qf) i=Qf a:=Qw (by simp[ha]);have aa:(i:Int)<(L.length:Int):=zE
  have hw:=bO i zE;have hd:L.drop i=a::L.drop (i+1):=by rw[zzai ah,(zza.1 ha).2]
  have jX:=hp a (zzad ha);have ZL:=fun d=>ho d a (zzad ha);rw[hd,Uu]at hr;simp only[Qf]at jX ZL;cases hP:P a with
  |true=>
   rw[hP]at jX ZL;rw[ac hP]at hr;simp[f8,rY,abZ,aa,ai,Qf,h1,h2,ZL];exact⟨jX,hr⟩
  |false=>
   rw[hP]at jX ZL;rw[ab (by simp[hP])]at hr;simp[f8,rY,aa,ai,Qf,h1,h2,ZL,hw];refine⟨jX,aQ,⟨i+1,zd,zE,hr⟩,zE⟩
 obtain rfl:i=L.length:=zE
 rw[zzc,Uu]at hr;simp[f8,rY,abZ];exact hr
def Rl(e:aW)(f:Int)(h:Kq e)(hf:nG f):Pure Tryz.prog aD 212 [.agg [I f],.agg (Qf e)] (.bool (Wd f e)):=by
 refine Qp adB (fun _ _ _=>.junk) zd ?_;obtain⟨⟨a1,a2⟩,⟨a3,a4⟩,_⟩:=h;obtain⟨a5,a6⟩:=hf;by_cases h1:e.st<=f
 ·have w1:=wu e.st zE zE;have w2:=wu f zE zE;have w3:=wu (f-e.st) zE zE;have w4:=wu e.fr zE zE;by_cases h2:0<e.fr
  ·have:(f-e.st<e.fr)=(f<e.st+e.fr):=by apply propext;omega
   simp[Nj,Nk,Qf,h1,h2,Wd,w1,w2,w3,w4,this]
  have:¬f<e.st+e.fr:=zE
  simp[Nj,Nk,Qf,h1,h2,Wd,this]
 simp[Nj,Nk,Qf,h1,Wd]
def Lh(e:aW)(row:P2)(id:Int):Pure Tryz.prog aD 213 [.agg (Qf e),.ep (I id::row) 0] (.bool (decide (e.id=id))):=by
 refine Qp adC (fun _ _ _=>.junk) zd ?_;simp[ah6,ah7,Qf];rw[zzcr];simp
def sX(n:Int):Prop:= -9223372036854775808<=n/\n<=9223372036854775807
def GJ(L:List En)(P:En->Bool)(k:FuncId)(first cap:P2)(hl:L.length<=1000000000)(h1:∀m,first.map (bB m 6)=first)(h2:∀m,cap.map (bB m 6)=cap)
  (hp:∀e∈L,Pure Tryz.prog aD k (first++.agg (Qd e)::cap) (.bool (P e)))(orc:UV)(ho:∀d e,e∈L->orc d k (first++.agg (Qd e)::cap)=.bool (P e)):
  Pure Tryz.prog aD 148 [.sl .ro (L.map Qd),.fn k first cap] (I (Uu P L 0)):=by
 refine Qp B5 orc zd ?_;simp[MW];refine Qj eV (fun f m=>∃i:Nat,f 8=I i/\i<=L.length/\Uu P (L.drop i) i=Uu P L 0/\m=⟨[],[],fun _=>.gone,0⟩) (fun f _=>L.length-(numOf (f 8)).toNat) ?_ ?_
 ·exact⟨0,zd,zE,zd,rfl⟩
 rintro f m ⟨i,f8,hi,hr,rfl⟩;rcases zzaa i L.length with ah|bu
 ·obtain⟨a,ha⟩:=aV ah;have ai:Qi (L.map Qd) i=Qd a:=Qw (by simp[ha]);have aa:(i:Int)<(L.length:Int):=zE
  have hw:=bO i zE;have hd:L.drop i=a::L.drop (i+1):=by rw[zzai ah,(zza.1 ha).2]
  have jX:=hp a (zzad ha);have ZL:=fun d=>ho d a (zzad ha);rw[hd,Uu]at hr;simp only[Qd]at jX ZL;cases hP:P a with
  |true=>
   rw[hP]at jX ZL;rw[ac hP]at hr;simp[f8,eV,Ao,aa,ai,Qd,h1,h2,ZL];exact⟨jX,hr⟩
  |false=>
   rw[hP]at jX ZL;rw[ab (by simp[hP])]at hr;simp[f8,eV,aa,ai,Qd,h1,h2,ZL,hw];refine⟨jX,aQ,?_⟩
   ·exact⟨⟨i+1,zd,zE,hr⟩,zE⟩
 obtain rfl:i=L.length:=zE
 rw[zzc,Uu]at hr;simp[f8,eV,Ao];exact hr
def GK(e:En)(id:Int):Pure Tryz.prog aD 201 [.agg (Qd e),.ep [I id] 0] (.bool (decide (e.id=id))):=by
 refine Qp adu (fun _ _ _=>.junk) zd ?_;simp[ahY,ahZ,Qd];rw[zzcr];simp
def Qr(g:Pg)(f:Int)(mid:Nat):P2:=Qk g++[I f,.mp mid]
def Jh(g:Pg)(id:Int):Int:=Uu (fun e:En=>decide (e.id=id)) g.p.ens 0
def Rm(Y:YT)(m:AM)(g:Pg)(f:Int)(mid:Nat)(id:Int)(hl:g.p.ens.length<=1000000000):aB Tryz.prog aD Y 141 [.agg (Qr g f mid),I id] m (fun r m'=>m'=m/\r=I (Jh g id)):=by
 obtain⟨mb,ml,ms,mn⟩:=m;have k:=GJ g.p.ens (fun e:En=>decide (e.id=id)) 201 [] [.ep [I id] 0] hl (fun _=>rfl) (fun _=>zd) (fun e _=>GK e id) (fun _ _ xs=>match xs with|.agg (.int _ n::_)::_=>.bool (decide (n=id))|_=>.junk) (fun _ e _=>rfl);refine aB.read (Xo acI (fun _ _ _=>I (Jh g id)) zd ?_);simp[ahf,ahg,Qr,Qk,Qa,Jh];exact⟨k,.int _ _⟩
def nH{p:Prop}(h:p:=by repeat'(first|exact Idle.int _ _|exact Idle.bool _|exact Idle.str _|exact Idle.ro _|exact Idle.nil _|exact Idle.full _|exact List.forall_mem_nil _|refine zzga.2 ⟨?_,?_⟩|refine Idle.aS ?_|refine Idle.agg ?_)):p:=h
def fN(bx:T5)(mid:Nat)(b:QR):Prop:=mid<bx.length/\Qi bx mid=[.aJ 0 (bG .bool b)]
def fN.ext{bx:T5}{mid:Nat}{b:QR}(h:fN bx mid b)(ex:T5):Qi (bx++ex) mid=[.aJ 0 (bG .bool b)]:=by rw[Qn h.1,h.2]
def fO(b:QR)(id:Int):Bool:=(af id b).getD false
def Uc(g:Pg)(f:Int)(b:QR):Option aW:=match g.ev.find? (Wd f)with
 |none=>none
 |some e=>if e.id=0 then none else if fO b e.id=true then some e else none
def rq(g:Pg)(id:Int):Int:=match g.ev.find? (fun e=>decide (e.id=id))with
 |none=>0
 |some e=>e.st
def uQ(f:Int)(e:aW):aW:={e with st:=f,fr:=e.fr-(f-e.st),i:=e.i+(f-e.st)}
def Uq(g:Pg)(f:Int)(b:QR):AV:=match Uc g f b with
 |none=>.aS [.agg [I 0,I 0,I 0,I 0,I 0,I 0,.sl .nil []],I 0,.bool false]
 |some e=>.aS [.agg (Qf (uQ f e)),I (rq g e.id),.bool true]
def ZM(Y:YT)(m:AM)(g:Pg)(f:Int)(mid:Nat)(b:QR)(hl:g.ev.length<=1000000000)(hs:∀e∈g.ev,Kq e)(hf:nG f)(hb:fN m.boxes mid b):
  aB Tryz.prog aD Y 160 [.agg (Qr g f mid)] m (fun r m'=>m'=m/\r=Uq g f b):=by
 obtain⟨mb,ml,ms,mn⟩:=m;have hB:∀ex,Qi (mb++ex) mid=[.aJ 0 (bG .bool b)]:=hb.ext;have hN:∀n:Nat,¬(n:Int)<0:=fun n=>zE
 have k1:=ya g.ev (Wd f) 212 [.agg [I f]] [] hl (fun _=>zd) (fun _=>zd) (fun e he=>Rl e f (hs e he) hf) (fun _ _ xs=>match xs with|[_,.agg [_,_,.int _ st,.int _ fr,_,_,_]]=>.bool (Wd f ⟨0,0,st,fr,0,0,[],false⟩)|_=>.junk) (fun _ e _=>rfl)
 have k2:∀(row:P2)(id:Int),Pure Tryz.prog aD 78 [.sl .ro (g.ev.map Qf),.fn 213 [] [.ep (I id::row) 0]] (I (Uu (fun e=>decide (e.id=id)) g.ev 0)):=fun row id=>
  ya g.ev (fun e=>decide (e.id=id)) 213 [] [.ep (I id::row) 0] hl (fun _=>zd) (fun _=>zd) (fun e _=>Lh e row id) (fun _ _ xs=>match xs with|.agg (.int _ n::_)::_=>.bool (decide (n=id))|_=>.junk) (fun _ e _=>rfl)
 cases h1:g.ev.find? (Wd f)with
 |none=>
  rw[Qcz h1]at k1;refine aB.read (Xo M1 (fun _ _ _=>I (-1)) zd ?_);simp[Ap,Aq,Qr,Qk,Qa,Uq,Uc,h1];exact⟨k1,nH⟩
 |some e=>
  obtain⟨n,g1,g2,g3⟩:=Wh (i:=0) h1;have k2':=k2;have hn:n<g.ev.length:=(zza.1 g2).1;have dJ:=zzad g2
  have hex:(g.ev.find? fun e'=>decide (e'.id=e.id)).isSome=true:=by
   rw[List.find?_isSome];exact⟨e,dJ,zd⟩
  obtain⟨e2,he2⟩:=zzby.1 hex;obtain⟨n2,q1,q2,q3⟩:=Wh (i:=0) he2;have vL:n2<g.ev.length:=(zza.1 q2).1;rw[g1,zzbs]at k1;have r1:Qi (g.ev.map Qf) n=Qf e:=Qw (by simp[g2]);have r2:Qi (g.ev.map Qf) n2=Qf e2:=Qw (by simp[q2]);have qh:(n:Int)<(g.ev.length:Int):=zE
  have axJ:(n2:Int)<(g.ev.length:Int):=zE
  obtain⟨⟨a1,a2⟩,⟨a3,a4⟩,⟨a5,a6⟩,_⟩:=hs e dJ;obtain⟨f1,f2⟩:=hf;have hon:e.st<=f/\f<e.st+e.fr:=by simpa[Wd]using g3
  have w1:IntKind.i64.wrap (f-e.st)=f-e.st:=by rw[Ql]<;>omega
  have w2:IntKind.i64.wrap (e.fr-(f-e.st))=e.fr-(f-e.st):=by rw[Ql]<;>omega
  have w3:IntKind.i64.wrap (e.i+(f-e.st))=e.i+(f-e.st):=by rw[Ql]<;>omega
  refine aB.read (Xo M1 (fun d _ _=>if d=15 then I n else I n2) zd ?_);have aK:e2.id=e.id:=by simpa using q3
  by_cases h0:e.id=0
  ·simp[Ap,Aq,Qr,Qk,Qa,Uq,Uc,h1,Qf,qh,r1,h0];exact⟨k1,nH⟩
  rcases Xx AV.bool e.id b 0 with⟨b1,b2,_⟩|⟨u,u',b1,b2,_⟩
  ·simp[Ap,Aq,Qr,Qk,Qa,Uq,Uc,h1,Qf,qh,r1,h0,fO,b1,b2,hB,hN];exact⟨k1,nH⟩
  cases u with
  |false=>
   simp[Ap,Aq,Qr,Qk,Qa,Uq,Uc,h1,Qf,qh,r1,h0,fO,b1,b2,hB,hN];exact⟨k1,nH⟩
  |true=>
   have k2:=k2 [I e.it,I e.st,I e.fr,I e.i,I e.re,.sl .ro (e.al.map Qe)] e.id;rw[q1,zzbs]at k2;simp[Ap,Aq,Qr,Qk,Qa,Uq,Uc,h1,Qf,qh,r1,h0,fO,b1,b2,hB,hN,w1,w2,w3,uQ,rq,he2];refine⟨k1,k2,Yz ?_⟩;simp[axJ,r2,Qf];exact nH
def Ur(p:Pl)(V:AV):P2:=[I p.ch,I p.nu,I p.de,I p.of,.sl .ro (p.sh.map Qe),I p.ep,I p.rg,I p.ln,I p.fi,.sl .ro (p.aM.map Qm),V,.sl .ro (p.bks.map Xi),.sl .ro (p.cls.map Qg)]
def ai4(p:Pl)(mb:T5)(ml:Pa)(ms:Nat->LS)(mn:Nat)(m0:P2)(f:Nat->AV)(m:AM):Prop:=∃(i:Nat)(bx:T5),f 22=I i/\i<=p.ens.length/\m=⟨mb++(Ur p (.bs (mb.length+2) 0 p.ens.length 7)::m0::(p.ens.map Qd).flatten::bx),ml,ms,mn⟩
def yb(Y:YT)(m:AM)(p:Pl)(h:Bm p)(hn:p.ens≠[])(K:So)
  (hK:∀c0 c1 bx,K (.agg (Ur p (.bs (m.boxes.length+2) 0 p.ens.length 7))) {m with boxes:=m.boxes++(c0::c1::(p.ens.map Qd).flatten::bx)}):aB Tryz.prog aD Y 66 [.agg (Qa p)] m K:=by
 obtain⟨mb,ml,ms,mn⟩:=m;obtain⟨h1,h2,h3,h4,h5,h6⟩:=h;have k1:=pI p.sh zE;have k2:=pJ p.aM zE;have k4:=pK p.bks zE;have k5:=Dj p.cls zE;have hsz:=kL (f:=Qd) (sz:=7) (fun _=>rfl) p.ens;refine Xo u9 (Kk p) zd ?_;have aO:p.ens.map Qd≠[]:=by simpa using hn
 simp[IY,Qa,Kk,hn];refine⟨k1,k2,xV _ _ hsz (by simpa using by omega) aO _ _ ?_⟩;simp;obtain⟨F,hF⟩:∃F,(p.ens.map Qd).flatten=F:=⟨_,rfl⟩;have hFl:F.length=p.ens.length*7:=by rw[<- hF,jt hsz];simp
 have bV:Zl F=true:=by rw[<- hF];exact kK (fun _=>rfl) _
 have hmp:∀m,F.map (bB m 4)=F:=fun m=>Ve m 3 bV;rw[hF]at hK |-
 refine Qj eu (ai4 p mb ml ms mn [I 0,I 0,I 0,I 0,.sl .nil [],I 0,I 0,I 0,I 0,.sl .nil [],.sl .nil [],.sl .nil [],.sl .nil []]) (fun f _=>p.ens.length-(numOf (f 22)).toNat) ?_ ?_
 ·exact⟨0,[],zd,zE,by rw[hF];simp[Ur]⟩
 rintro f m ⟨i,bx,f22,hi,rfl⟩;rw[hF];rcases zzaa i p.ens.length with ah|bu
 ·obtain⟨e,he⟩:=aV ah;have aa:(i:Int)<(p.ens.length:Int):=zE
  have hw:=bO i zE;obtain⟨⟨r,hd⟩,bM⟩:=uO hsz (i:=i) (row:=Qd e) (by simp[he]);rw[hF]at hd bM;simp only[Qd,zzae,zzag]at hd bM;have GB:=Wp e (h6 e (zzad he));simp only[Qd]at GB;simp[-setA,jq,jr,f22,eu,aa,hd,bM,hFl,hw,Kk,Ur];refine⟨GB,zE,aQ,⟨i+1,bx++[[I e.id,I e.it,I e.fr,I e.ea,I e.la,I e.bo,.sl .ro (e.al.map Qe)]],zd,zE,by rw[hF];simp[Ur]⟩,zE⟩
 obtain rfl:i=p.ens.length:=zE
 simp[f22,eu,IZ,Kk,Ur];simp[Ur]at hK;exact⟨k4,k5,hK _ _ _⟩
def lC(g:Pg)(f:Int):Prop:=g.ev.length<=1000000000/\(∀e∈g.ev,Kq e)/\nG f/\g.p.ens.length<=1000000000
def Li(Y:YT)(m:AM)(g:Pg)(f:Int)(mid:Nat)(id:Int)(h:lC g f)(K:So)(hK:K (I (Jh g id)) m):aB Tryz.prog aD Y 141 [.agg (Qr g f mid),I id] m K:=
 aB.mono (Rm Y m g f mid id h.2.2.2) (by rintro r m' ⟨rfl,rfl⟩;exact hK)
def ai5(Y:YT)(m:AM)(g:Pg)(f:Int)(mid:Nat)(b:QR)(h:lC g f)(hb:fN m.boxes mid b)(K:So)(hK:K (Uq g f b) m):aB Tryz.prog aD Y 160 [.agg (Qr g f mid)] m K:=
 aB.mono (ZM Y m g f mid b h.1 h.2.1 h.2.2.1 hb) (by rintro r m' ⟨rfl,rfl⟩;exact hK)
def Bp(g:Pg)(f:Int)(b:QR)(id:Int):Option Int:=match Uc g f b with
 |none=>none
 |some e=>if e.id=id then some (rq g e.id)else none
def Rn(o:Option Int):AV:=.aS [I (o.getD 0),.bool o.isSome]
def afe(Y:YT)(m:AM)(g:Pg)(f:Int)(mid:Nat)(b:QR)(id:Int)(h:lC g f)(hb:fN m.boxes mid b):
  aB Tryz.prog aD Y 143 [.agg (Qr g f mid),I id] m (fun r m'=>m'=m/\r=Rn (Bp g f b id)):=by
 obtain⟨mb,ml,ms,mn⟩:=m;have hB:∀ex,fN (mb++ex) mid b:=fun ex=>⟨by have:=hb.1;simp at this |-;omega,hb.ext ex⟩;have k:=fun ex K hK=>ai5 Y ⟨mb++ex,ml,ms,mn⟩ g f mid b h (hB ex) K hK;simp only[Qr,Qk,Qa,zzae,zzag]at k;refine aB.read (Xo acK (fun _ _ _=>.gd false .junk) zd ?_);simp[ahh,ahi,Qr,Qk,Qa];refine k _ _ ?_;cases hp:Uc g f b with
 |none=>
  simp[Uq,hp,Bp,Rn];exact nH
 |some e=>
  by_cases hi:e.id=id
  ·simp[Uq,hp,Bp,Rn,Qf,uQ,hi];exact nH
  simp[Uq,hp,Bp,Rn,Qf,uQ,hi];exact nH
def amj(Y:YT)(m:AM)(g:Pg)(f:Int)(mid:Nat)(b:QR)(id:Int)(h:lC g f)(hb:fN m.boxes mid b)(K:So)(hK:K (Rn (Bp g f b id)) m):aB Tryz.prog aD Y 143 [.agg (Qr g f mid),I id] m K:=
 aB.mono (afe Y m g f mid b id h hb) (by rintro r m' ⟨rfl,rfl⟩;exact hK)
def Dr(g:Pg)(f:Int)(b:QR)(id:Int):Bool:=fO b id&&!(Bp g f b id).isSome
def aff(Y:YT)(m:AM)(g:Pg)(f:Int)(mid:Nat)(b:QR)(id:Int)(h:lC g f)(hb:fN m.boxes mid b):
  aB Tryz.prog aD Y 145 [.agg (Qr g f mid),I id] m (fun r m'=>m'=m/\r=.bool (Dr g f b id)):=by
 obtain⟨mb,ml,ms,mn⟩:=m;have hB:∀ex,fN (mb++ex) mid b:=fun ex=>⟨by have:=hb.1;simp at this |-;omega,hb.ext ex⟩;have hR:∀ex,Qi (mb++ex) mid=[.aJ 0 (bG .bool b)]:=hb.ext;have k:=fun ex K hK=>amj Y ⟨mb++ex,ml,ms,mn⟩ g f mid b id h (hB ex) K hK;simp only[Qr,Qk,Qa,zzae,zzag]at k;refine aB.read (Xo acM (fun _ _ _=>.gd false .junk) zd ?_);simp[ahj,ahk,Qr,Qk,Qa];refine k _ _ ?_;rcases Xx AV.bool id b 0 with⟨b1,b2,_⟩|⟨u,u',b1,b2,_⟩
 ·simp[Rn,Dr,fO,b1,b2,hR];exact nH
 cases u<;>simp[Rn,Dr,fO,b1,b2,hR]<;>exact nH
def asG(Y:YT)(m:AM)(g:Pg)(f:Int)(mid:Nat)(b:QR)(id:Int)(h:lC g f)(hb:fN m.boxes mid b)(K:So)(hK:K (.bool (Dr g f b id)) m):aB Tryz.prog aD Y 145 [.agg (Qr g f mid),I id] m K:=
 aB.mono (aff Y m g f mid b id h hb) (by rintro r m' ⟨rfl,rfl⟩;exact hK)
def Yf(n:Int):Int:=max (-9223372036854775808) (min 9223372036854775807 n)
def Ro(a b:Int)(ha:sX a)(hb:sX b):Pure Tryz.prog aD 142 [I a,I b] (I (Yf (a+b))):=by
 refine Qp acJ (fun _ _ _=>.junk) zd ?_;unfold sX at ha hb;by_cases c1:0<b
 ·have w1:IntKind.i64.wrap (9223372036854775807-b)=9223372036854775807-b:=by rw[Ql]<;>omega
  have c2:¬b<0:=zE
  by_cases d1:9223372036854775807-b<a
  ·have:Yf (a+b)=9223372036854775807:=by unfold Yf;omega
   simp[Ak,Al,c1,d1,w1,this]
  have w:IntKind.i64.wrap (a+b)=a+b:=by rw[Ql]<;>omega
  have:Yf (a+b)=a+b:=by unfold Yf;omega
  simp[Ak,Al,c1,c2,d1,w,w1,this]
 by_cases c2:b<0
 ·have w2:IntKind.i64.wrap (-9223372036854775808-b)= -9223372036854775808-b:=by rw[Ql]<;>omega
  by_cases d1:a< -9223372036854775808-b
  ·have:Yf (a+b)= -9223372036854775808:=by unfold Yf;omega
   simp[Ak,Al,c1,c2,d1,w2,this]
  have w:IntKind.i64.wrap (a+b)=a+b:=by rw[Ql]<;>omega
  have:Yf (a+b)=a+b:=by unfold Yf;omega
  simp[Ak,Al,c1,c2,d1,w,w2,this]
 have w:IntKind.i64.wrap (a+b)=a+b:=by rw[Ql]<;>omega
 have:Yf (a+b)=a+b:=by unfold Yf;omega
 simp[Ak,Al,c1,c2,w,this]
def Qej(a b:Int)(ha:sX a)(hb:sX b):Pure Tryz.prog aD 144 [I a,I b] (I (Yf (a-b))):=by
 refine Qp acL (fun _ _ _=>.junk) zd ?_;unfold sX at ha hb;by_cases c1:b<0
 ·have w1:IntKind.i64.wrap (9223372036854775807+b)=9223372036854775807+b:=by rw[Ql]<;>omega
  have c2:¬0<b:=zE
  by_cases d1:9223372036854775807+b<a
  ·have:Yf (a-b)=9223372036854775807:=by unfold Yf;omega
   simp[Am,An,c1,d1,w1,this]
  have w:IntKind.i64.wrap (a-b)=a-b:=by rw[Ql]<;>omega
  have:Yf (a-b)=a-b:=by unfold Yf;omega
  simp[Am,An,c1,c2,d1,w,w1,this]
 by_cases c2:0<b
 ·have w2:IntKind.i64.wrap (-9223372036854775808+b)= -9223372036854775808+b:=by rw[Ql]<;>omega
  by_cases d1:a< -9223372036854775808+b
  ·have:Yf (a-b)= -9223372036854775808:=by unfold Yf;omega
   simp[Am,An,c1,c2,d1,w2,this]
  have w:IntKind.i64.wrap (a-b)=a-b:=by rw[Ql]<;>omega
  have:Yf (a-b)=a-b:=by unfold Yf;omega
  simp[Am,An,c1,c2,d1,w,w2,this]
 have w:IntKind.i64.wrap (a-b)=a-b:=by rw[Ql]<;>omega
 have:Yf (a-b)=a-b:=by unfold Yf;omega
 simp[Am,An,c1,c2,w,this]
def asH:P2->AV
 |[.int _ x,.int _ y]=>I (Yf (x-y))
 |_=>.junk
def Qdu(n:Int):sX (Yf n):=by unfold sX Yf;omega
def Lj:∀{ens:List En}{i:Nat}{e:En},ens[i]?=some e->∃pre r:P2,pre.length=i*7/\(ens.map Qd).flatten=pre++(Qd e++r)/\∀e',((ens.set i e').map Qd).flatten=pre++(Qd e'++r)
 |[],i,e,h=>by simp at h
 |a::r,0,e,h=>by
  simp at h;subst h;exact⟨[],(r.map Qd).flatten,rfl,zd,fun e'=>zd⟩
 |a::r,i+1,e,h=>by
  obtain⟨pre,s,h1,h2,h3⟩:=Lj (ens:=r) (i:=i) (e:=e) (Nm h);exact⟨Qd a++pre,s,by simp[Qd,h1];omega,by simp[h2],fun e'=>by have:=h3 e';simp only[zzec,zzar,zzch,this,zzbg]⟩
def Bq(pre X Y:P2)(n:Nat)(k:Nat)(h:pre.length=n):setA (pre++X) (n+k) Y=pre++setA X k Y:=by
 subst h;induction pre with
 |nil=>simp
 |cons a r ih=>rw[zzae,zzbf,show r.length+1+k=r.length+k+1 by omega,xS,ih];rfl
def Br(pre X:P2)(n:Nat)(k:Nat)(h:pre.length=n):(pre++X).drop (n+k)=X.drop k:=by
 subst h;simp[List.drop_append]
def Xr(p:Pl)(V W:AV)(d:Int):P2:=[I p.ch,I p.nu,I p.de,I p.of,.sl .ro (p.sh.map Qe),I p.ep,I p.rg,I p.ln,I p.fi,.sl .ro (p.aM.map Qm),V,.sl .ro (p.bks.map Xi),W,I d]
def uR:P2:=[I 0,I 0,I 0,I 0,.sl .nil [],I 0,I 0,I 0,I 0,.sl .nil [],.sl .nil [],.sl .nil [],.sl .nil [],I 0]
def tT(g:Pg)(f:Int)(b:QR)(o:Od)(e:En):Int:=match Bp g f b o.en with
 |none=>Yf (e.fr+o.n)
 |some st=>if Yf (e.fr+o.n)<Yf (f-st)then Yf (f-st)else Yf (e.fr+o.n)
def Rp(g:Pg)(f:Int)(b:QR)(o:Od)(e:En):En:={e with fr:=tT g f b o e,la:=if Yf (g.p.ln-tT g f b o e)<e.la then Yf (g.p.ln-tT g f b o e)else e.la}
def ru(g:Pg)(f:Int)(b:QR)(o:Od):Option (Pl×Int):=match g.p.ens[(Jh g o.en).toNat]? with
 |none=>none
 |some e=>if Jh g o.en<0 then none else some ({g.p with ens:=g.p.ens.set (Jh g o.en).toNat (Rp g f b o e)},tT g f b o e)
def Ds{g:Pg}{f:Int}(h:lC g f)(id:Int):0<=rq g id/\rq g id<=1000000:=by
 unfold rq;cases hf:g.ev.find? (fun e=>decide (e.id=id))with
 |none=>simp
 |some e=>exact(h.2.1 e (zzdg hf)).1
def afg(Y:YT)(m:AM)(g:Pg)(f:Int)(mid:Nat)(b:QR)(o:Od)(h:lC g f)(hp:Bm g.p)(hb:fN m.boxes mid b)(hn:sX o.n)(dQ:sX g.p.ln)(hes:∀e∈g.p.ens,sX e.fr)(K:So)
  (h0:ru g f b o=none->∀ex,K (.aS [.agg uR,.bool false]) {m with boxes:=m.boxes++ex})
  (h1:∀q d,ru g f b o=some (q,d)->∀ex k,m.boxes.length<=k->k<(m.boxes++ex).length->Qi (m.boxes++ex) k=(q.ens.map Qd).flatten->K (.aS [.agg (Xr q (.bs k 0 q.ens.length 7) (.sl .ro (q.cls.map Qg)) d),.bool true]) {m with boxes:=m.boxes++ex}):
  aB Tryz.prog aD Y 89 [.agg (Qr g f mid),.agg (Qq o)] m K:=by
 obtain⟨mb,ml,ms,mn⟩:=m;have hB:∀ex,fN (mb++ex) mid b:=fun ex=>⟨by have:=hb.1;simp at this |-;omega,hb.ext ex⟩;have kp:=fun ex K hK=>Li Y ⟨mb++ex,ml,ms,mn⟩ g f mid o.en h K hK;have ki:=fun ex K hK=>amj Y ⟨mb++ex,ml,ms,mn⟩ g f mid b o.en h (hB ex) K hK;simp only[Qr,Qk,Qa,zzae,zzag]at kp ki;cases hf:g.p.ens.find? (fun e=>decide (e.id=o.en))with
 |none=>
  have ug:Jh g o.en= -1:=Qcz hf
  have hx:ru g f b o=none:=by
   unfold ru;rw[ug];split
   ·rfl
   simp
  refine Xo TB (fun _ _ _=>.gd false .junk) zd ?_;simp[akY,akZ,Qr,Qk,Qa,Qq,Qd,Qg,Qh];refine kp _ _ ?_;simp[ug];have:=h0 hx;simp[uR]at this;exact this _
 |some e=>
  obtain⟨n,g1,g2,g3⟩:=Wh (i:=0) hf;have ug:Jh g o.en=(n:Int):=by unfold Jh;rw[g1];omega
  have ah:n<g.p.ens.length:=(zza.1 g2).1;have aO:g.p.ens≠[]:=by rintro e0;rw[e0]at ah;simp at ah
  have AD:¬(n:Int)<0:=zE
  have cn:(n:Int)<(g.p.ens.length:Int):=zE
  have hx:ru g f b o=some ({g.p with ens:=g.p.ens.set n (Rp g f b o e)},tT g f b o e):=by
   unfold ru;rw[ug];simp[g2,AD]
  obtain⟨pre,r,q1,q2,q3⟩:=Lj g2;have hd:=fun X k=>Br pre X (n*7) k q1;have bM:=fun X Y k=>Bq pre X Y (n*7) k q1;have h1:=h1 _ _ hx;rw[q3]at h1;have kO:=fun ex K hK=>yb Y ⟨mb++ex,ml,ms,mn⟩ g.p hp aO K hK;simp only[Qa]at kO;rw[q2]at kO;have axK:=Ro e.fr o.n (hes e (zzad g2)) hn;refine Xo TB (fun _ f l=>if f=142 then I (Yf (e.fr+o.n))else if f=144 then asH l else .gd false .junk) zd ?_;simp[akY,akZ,Qr,Qk,Qa,Qq,Qd,Qg,Qh];refine kp _ _ ?_;simp[ug,AD];refine kO _ _ fun c0 c1 bx=>?_;have y9:min 1 (pre.length+(r.length+7)-(n*7+2))=1:=zE
  have hm4:min 1 (pre.length+(r.length+7)-(n*7+4))=1:=zE
  simp[-setA,jq,jr,Ur,cn,Qd,zzap,hd,y9,asH];refine⟨axK,ki _ _ ?_⟩;have hL:=fun V=>Qej g.p.ln (Yf V) dQ (Qdu V);cases hi:Bp g f b o.en with
  |none=>
   simp[-setA,jq,xS,jr,Rn,zzap,hd,bM,hm4];have N2:tT g f b o e=Yf (e.fr+o.n):=by simp only[tT,hi]
   simp only[N2,Rp,zzcq,Qd,zzae,zzag]at h1;refine⟨zE,hL _,zE,?_⟩;exact h1 _ (mb.length+5) zd zd zd
  |some st=>
   have asI:Bp g f b o.en=some st->0<=st/\st<=1000000:=fun hh=>by
    unfold Bp at hh;split at hh
    ·cases hh
    split at hh
    ·cases hh;exact Ds h _
    cases hh
   have hsb:=asI hi;have hfs:=h.2.2.1;have kd:=Qej f st (by unfold nG at hfs;unfold sX;omega) (by unfold sX;omega);simp[-setA,jq,xS,jr,Rn,zzap,hd,bM,hm4];have N2:tT g f b o e=if Yf (e.fr+o.n)<Yf (f-st)then Yf (f-st)else Yf (e.fr+o.n):=by simp only[tT,hi]
   simp only[N2,Rp,zzcq,Qd,zzae,zzag]at h1;refine⟨kd,zE,?_,zE,?_⟩
   ·have:=hL (max (Yf (e.fr+o.n)) (Yf (f-st)));split
    ·exact Qej _ _ dQ (Qdu _)
    exact Qej _ _ dQ (Qdu _)
   exact h1 _ (mb.length+5) zd zd zd
def eD(l:List En):P2:=(l.map Qd).flatten
@[simp] theorem avv:eD []=[]:=rfl
@[simp] theorem asJ(e:En)(l:List En):eD (e::l)=I e.id::I e.it::I e.fr::I e.ea::I e.la::I e.bo::.sl .ro (e.al.map Qe)::eD l:=rfl
def Jc:∀l,(eD l).length=l.length*7
 |[]=>rfl
 |s::r=>by simp[Jc r];omega
def pN:∀a b,eD (a++b)=eD a++eD b
 |[],_=>rfl
 |s::r,b=>by simp[pN r b]
def GL:∀(l:List En)(i:Nat),(eD l).drop (i*7)=eD (l.drop i)
 |[],i=>zd
 |s::r,0=>zd
 |s::r,i+1=>by rw[show(i+1)*7=i*7+1+1+1+1+1+1+1 by omega];simp[GL r i]
def Dt{l:List En}{i:Nat}{s:En}(h:l[i]?=some s):(eD l).drop (i*7)=I s.id::I s.it::I s.fr::I s.ea::I s.la::I s.bo::.sl .ro (s.al.map Qe)::eD (l.drop (i+1)):=by
 rw[GL];have ah:=(zza.1 h).1;rw[zzai ah,(zza.1 h).2];rfl
def afh(l:List En)(i:Nat)(s:En)(h:i<l.length):setA (eD l) (i*7) [I s.id,I s.it,I s.fr,I s.ea,I s.la,I s.bo,.sl .ro (s.al.map Qe)]=eD (l.set i s):=by
 obtain⟨pre,r,h1,h2,h3⟩:=Lj (ens:=l) (i:=i) (zzaf h);unfold eD;rw[h2,h3,<- h1];exact Gz pre _ r _ rfl
def Ll(l:List En):Zl (eD l)=true:=kK (fun _=>rfl) l
def Rq(l:List En):aZ 7 l.length (eD l)=l.map Qd:=by
 have:=Qbj (kL (f:=Qd) (sz:=7) (fun _=>rfl) l);simpa[eD]using this
def ry(row:P2):∀n,(bF n row).length=n*row.length
 |0=>by simp[bF]
 |n+1=>by simp[bF,ry row n,zzbr];omega
def nI:P2:=[I 0,I 0,I 0,I 0,I 0,I 0,.sl .nil []]
def GM:∀n,Zl (bF n nI)=true
 |0=>rfl
 |n+1=>by have:=GM n;unfold Zl at this |-;rw[bF,zzfm,this];rfl
def lZ(x:Int)(e:En):Bool:=decide (e.id=x)
def yc(e:En)(a0 a1 a2 a3:AV)(x:Int)(r:P2):Pure Tryz.prog aD 147 [.agg (Qd e),.ep (a0::a1::a2::a3::I x::r) 0] (.bool (lZ x e)):=by
 refine Qp acO (fun _ _ _=>.junk) zd ?_;simp[ahl,ahm,Qd,lZ];rw[zzcr];simp
def afi{x:Int}{l:List En}(h:Uu (lZ x) l 0= -1):l.filter (fun e=>!lZ x e)=l:=by
 cases hf:l.find? (lZ x)with
 |some a=>obtain⟨k,h1,_⟩:=Wh (i:=0) hf;rw[h1]at h;omega
 |none=>
  rw[List.find?_eq_none]at hf;rw[zzgf];intro a ha;simpa using hf a ha
def Oq{x:Int}:∀{l:List En}{i:Nat},Uu (lZ x) l i≠ -1->∃k:Nat,Uu (lZ x) l i=((i+k:Nat):Int)/\k<l.length/\(l.take (k+1)).filter (fun e=>!lZ x e)=l.take k
 |[],_,h=>absurd rfl h
 |s::r,i,h=>by
  simp only[Uu]at h |-
  split
  ·rename_i hs;exact⟨0,rfl,zd,by simp[hs]⟩
  rename_i hs;rw[ab hs]at h;obtain⟨k,h1,h2,h3⟩:=Oq h;exact⟨k+1,by rw[h1];congr 1;omega,Nm h2,by simp only[zzes,zzdp];simp[hs,h3]⟩
def yd(k:Int)(x:Int):UV:=fun _ f l=>if f=148 then I k else match l with
 |.agg (.int _ n::_)::_=>.bool (decide (n=x))
 |_=>.junk
def ZN(Y:YT)(l:List En)(hl:l.length<=1000000000)(B:T5)(L:Pa)(st:Nat->LS)(n id:Nat)(aK:id<B.length)(aO:l≠[])(hB:Qi B id=eD l)
  (kk:Nat)(a0 a1 a2 a3:AV)(x:Int)(r:P2)(hkk:kk<B.length)(dP:kk≠id)(hk:Qi B kk=a0::a1::a2::a3::I x::r)(bV:Zl (a0::a1::a2::a3::I x::r)=true)(K:So)
  (hK:∀(B':T5)(z:P2),bC (·=id) B B'->Qi B' id=eD (l.filter fun e=>!lZ x e)++z->(l.filter fun e=>!lZ x e).length*7+z.length=l.length*7->Zl z=true->K (.bs id 0 (l.filter fun e=>!lZ x e).length 7) ⟨B',L,st,n⟩):
  aB Tryz.prog aD Y 146 [.bs id 0 l.length 7,.fn 147 [] [.ptr kk 0]] ⟨B,L,st,n⟩ K:=by
 have El:=GJ l (lZ x) 147 [] [.ep (a0::a1::a2::a3::I x::r) 0] hl (fun _=>rfl) (fun _=>zd) (fun e _=>yc e a0 a1 a2 a3 x r) (yd 0 x) (fun _ e _=>by simp[yd,Qd,lZ]);have gA:=Ve ⟨B,L,st,n⟩ 4 (Ll l);have gY:=Rq l;have aH:=Jc l
 have hkc:∀B' d,Qi B' kk=Qi B kk->bB ⟨B',L,st,n⟩ (d+2) (.ptr kk 0)=.ep (a0::a1::a2::a3::I x::r) 0:=fun B' d h=>by
  rw[pO,Yd,h,hk,Ve _ _ bV]
 refine Xo acN (yd (Uu (lZ x) l 0) x) zd ?_;by_cases dK:Uu (lZ x) l 0= -1
 ·have hf:=afi dK;rw[dK]at El;have:=hK B [] (bC.refl _ _) (by rw[hf];simpa using hB) (by rw[hf];simp) rfl;rw[hf]at this;have hc:=fun d=>hkc B d rfl;simp[-pO,MV,TZ,yd,dK,hB,gA,gY,aH,hc];exact⟨El,this⟩
 obtain⟨k,XB,eE,yf⟩:=Oq dK;rw[zzbs]at XB;have Eg:¬(k:Int)= -1:=zE
 have NV:=bO k zE;rw[XB]at El;have hc:=fun d=>hkc B d rfl;simp[-pO,MV,TZ,yd,XB,Eg,hB,gA,gY,aH,NV,hc];refine⟨El,?_⟩
 refine Qj BZ (fun f m=>∃(i j:Nat)(B':T5)(L':List En),f 5=I i/\f 6=I j/\i<j/\j<=l.length/\m=⟨B',L,st,n⟩/\bC (·=id) B B'/\Qi B' id=eD L'/\L'.length=l.length/\L'.take i=(l.take j).filter (fun e=>!lZ x e)/\L'.drop j=l.drop j)
  (fun f m=>l.length-(numOf (f 6)).toNat) ?_ ?_
 ·exact⟨k,k+1,B,l,zd,zd,zE,zE,rfl,bC.refl _ _,hB,rfl,yf.symm,rfl⟩
 rintro f m ⟨i,j,B',L',h5,h6,fu,hj,rfl,ng,eP,tK,ht,hd⟩;have cG:id<B'.length:=zzaz aK ng.1;have axL:kk<B'.length:=zzaz hkk ng.1;have jc:=Jc L';have hkB:Qi B' kk=Qi B kk:=ng.2 kk hkk dP;have fA:∀ex d,bB ⟨B'++ex,L,st,n⟩ (d+2) (.ptr kk 0)=.ep (a0::a1::a2::a3::I x::r) 0:=fun ex d=>hkc _ d (by rw[Qn axL,hkB]);rcases zzaa j l.length with ah|bu
 ·obtain⟨s,hs⟩:=aV ah
  have dz:L'[j]?=some s:=by
   have:=congrArg (fun x=>x[0]?) hd;simpa[hs]using this
  have hg:=Dt dz;have dF:(j:Int)<(l.length:Int):=zE
  have aa:(i:Int)<(l.length:Int):=zE
  have wM:i<l.length:=zE
  have xy:=bO j zE;have XV:=bO i zE;have hp:=yc s a0 a1 a2 a3 x r;simp only[Qd]at hp;have bR:=afh L' i s zE;have gX:∀x,Qi (B'++x) id=eD L':=fun x=>by rw[Qn cG,eP]
  have lu:∀x v,(B'++x).set id v=B'.set id v++x:=fun x v=>Yl v cG
  have bz:(l.take (j+1)).filter (fun e=>!lZ x e)=(l.take j).filter (fun e=>!lZ x e)++[s].filter (fun e=>!lZ x e):=by
   rw[zzay,hs,zzdb];rfl
  have hdj:L'.drop (j+1)=l.drop (j+1):=by
   have:=congrArg (List.drop 1) hd;simpa[zzdr,zzfn]using this
  by_cases he:s.id=x
  ·have GN:lZ x s=true:=by simp[lZ,he]
   rw[GN]at hp;simp[-setA,jq,jr,-pO,fA,h5,h6,dF,eP,gX,hg,BZ,yd,he,xy];rw[he]at hp;refine⟨hp,aQ,⟨i,rfl,j+1,zd,zE,zE,ng.app _,?_⟩,zE⟩
   ·refine⟨L',rfl,tK,?_,hdj⟩;rw[bz,ht];simp[GN]
  have GN:lZ x s=false:=by simp[lZ,he]
  rw[GN]at hp;simp[-setA,jq,jr,-pO,fA,h5,h6,dF,aa,eP,gX,lu,hg,BZ,yd,he,xy,XV,bR,jc,tK];refine⟨hp,⟨zE,zE⟩,aQ,⟨i+1,zd,j+1,zd,zE,zE,(ng.set (.inl rfl) _).app _,?_⟩,zE⟩
  ·refine⟨L'.set i s,by rw[Qn (Nm cG),Yi _ cG],Nm tK,?_,?_⟩
   ·rw[bz,<- ht,zzay,zzbh zE,zzgd zE];simp[GN]
   rw[zzge zE];exact hdj
 obtain rfl:j=l.length:=zE
 rw[zzbu]at ht;have eZ:(l.filter (fun e=>!lZ x e)).length=i:=by rw[<- ht,zzas];omega
 have N4:¬((l.length:Nat):Int)<(l.length:Int):=zE
 have bP:(i:Int)<=(l.length:Int):=zE
 have aa:(i:Int)<(l.length:Int):=zE
 have wM:i<l.length:=fu
 have fI:eD L'≠[]:=by
  intro h;have:=congrArg List.length h;rw[jc,tK]at this;simp at this;omega
 have qj:setA (eD L') (i*7) (bF (l.length-i) [I 0,I 0,I 0,I 0,I 0,I 0,.sl .nil []])=eD (l.filter (fun e=>!lZ x e))++bF (l.length-i) nI:=by
  have e1:L'=L'.take i++L'.drop i:=zd
  conv=>lhs;rw[e1]
  rw[pN,<- ht];have e2:(eD (L'.take i)).length=i*7:=by rw[Jc,zzas];congr 1;omega
  rw[<- e2];exact oQ _ _ _ (by rw[ry,Jc];simp;omega)
 simp[-setA,h5,h6,N4,eP,aa,bP,BZ,cG,fI,jc,tK,qj];refine⟨zE,?_⟩;have:=hK (B'.set id (eD (l.filter (fun e=>!lZ x e))++bF (l.length-i) nI)) (bF (l.length-i) nI) (ng.set (.inl rfl) _) (Yi _ cG) (by rw[ry,eZ];simp[nI];omega) (GM _);rw[eZ]at this;exact this
def bC.form{id:Nat}{B B':T5}(h:bC (·=id) B B')(aK:id<B.length):B'=B.set id (Qi B' id)++B'.drop B.length:=by
 have hl:=h.1;apply zzdc;intro j;rcases zzaa j B.length with hj|hj
 ·rw[zzak (Nm hj),Jn (B:=B') zE];by_cases Aw:j=id
  ·subst Aw;rw[zzbh aK]
  rw[zzbo zE,Jn hj,h.2 j hj Aw]
 rw[zzaq (Nm hj),zzcq,zzbl];congr 1;omega
def Rr(Y:YT)(l:List En)(hl:l.length<=1000000000)(B:T5)(L:Pa)(st:Nat->LS)(n id:Nat)(aK:id<B.length)(aO:l≠[])(hB:Qi B id=eD l)
  (kk:Nat)(a0 a1 a2 a3:AV)(x:Int)(r:P2)(hkk:kk<B.length)(dP:kk≠id)(hk:Qi B kk=a0::a1::a2::a3::I x::r)(bV:Zl (a0::a1::a2::a3::I x::r)=true)(K:So)
  (hK:∀(ex:T5)(z:P2),Zl z=true->K (.bs id 0 (l.filter fun e=>!lZ x e).length 7) ⟨B.set id (eD (l.filter fun e=>!lZ x e)++z)++ex,L,st,n⟩):
  aB Tryz.prog aD Y 146 [.bs id 0 l.length 7,.fn 147 [] [.ptr kk 0]] ⟨B,L,st,n⟩ K:=
 ZN Y l hl B L st n id aK aO hB kk a0 a1 a2 a3 x r hkk dP hk bV K fun B' z h1 h2 _ h4=>by
  have:=bC.form h1 aK;rw[h2]at this;rw[this];exact hK _ z h4
def tU(g:Pg)(o:Od):Option Pl:=if Jh g o.en<0 then none else some {g.p with ens:=g.p.ens.filter fun e=>!lZ o.en e}
def ZO(Y:YT)(m:AM)(g:Pg)(f:Int)(mid:Nat)(o:Od)(h:lC g f)(hp:Bm g.p)(K:So)
  (h0:tU g o=none->∀ex,K (.aS [.agg uR,.bool false]) {m with boxes:=m.boxes++ex})
  (h1:∀q,tU g o=some q->∀ex k z,m.boxes.length<=k->k<(m.boxes++ex).length->Qi (m.boxes++ex) k=eD q.ens++z->Zl z=true->K (.aS [.agg (Xr q (.bs k 0 q.ens.length 7) (.sl .ro (q.cls.map Qg)) 0),.bool true]) {m with boxes:=m.boxes++ex}):
  aB Tryz.prog aD Y 91 [.agg (Qr g f mid),.agg (Qq o)] m K:=by
 obtain⟨mb,ml,ms,mn⟩:=m;have kp:=fun ex K hK=>Li Y ⟨mb++ex,ml,ms,mn⟩ g f mid o.en h K hK;simp only[Qr,Qk,Qa,zzae,zzag]at kp;by_cases CA:Jh g o.en<0
 ·have hx:tU g o=none:=by unfold tU;rw[ac CA]
  refine Xo TE (fun _ _ _=>.gd false .junk) zd ?_;simp[ak1,ak2,Qr,Qk,Qa,Qq,Qd,Qg,Qh];refine kp _ _ ?_;simp[CA];have:=h0 hx;simp[uR]at this;exact this _
 have hx:tU g o=some {g.p with ens:=g.p.ens.filter fun e=>!lZ o.en e}:=by unfold tU;rw[ab CA]
 have aO:g.p.ens≠[]:=by
  intro e;unfold Jh at CA;rw[e]at CA;simp[Uu]at CA
 have h1:=h1 _ hx;have kO:=fun ex K hK=>yb Y ⟨mb++ex,ml,ms,mn⟩ g.p hp aO K hK;simp only[Qa]at kO;have kD:=fun B id aK hB kk a0 a1 a2 a3 r hkk dP hk bV=>Rr Y g.p.ens h.2.2.2 B ml ms mn id aK aO hB kk a0 a1 a2 a3 o.en r hkk dP hk bV;refine Xo TE (fun _ _ _=>.gd false .junk) zd ?_;simp[ak1,ak2,Qr,Qk,Qa,Qq,Qd,Qg,Qh];refine kp _ _ ?_;simp[CA];refine kO _ _ fun c0 c1 bx=>?_;simp[Ur,zzap];refine kD _ _ zd ?_ (mb.length+1) (I o.sq) (I o.ch) (I o.fr) (I o.ki) _ zd zE (by simp;rfl) ?_ _ ?_
 ·simp[eD]
 ·simp[Zl,GO]
 intro ex z hz;simp[zzap];refine⟨zE,?_⟩;exact h1 _ (mb.length+5) z zd zd zd hz
def GP(Y:YT)(l:List Cl)(h:l.length<=1000000000)(m:AM)(K:So)(hK:K (.sl (.own m.lens.length 8) (l.map Qg)) {m with lens:=m.lens++[l.length]}):aB Tryz.prog aD Y 121 [.sl .ro (l.map Qg)] m K:=by
 refine Xo MN (fun _ _ _=>.junk) zd ?_;simp[TQ,TR];exact⟨⟨fun _ _=>rfl,zE⟩,hK⟩
def Ji(p:Pl)(V W:AV):P2:=[I p.ch,I p.nu,I p.de,I p.of,.sl .ro (p.sh.map Qe),I p.ep,I p.rg,I p.ln,I p.fi,.sl .ro (p.aM.map Qm),V,.sl .ro (p.bks.map Xi),W]
def yg(p:Pl):UV:=fun d f l=>if f=121 then .gd false .junk else Kk p d f l
def ZP(Y:YT)(m:AM)(p:Pl)(h:Bm p)(hn:p.ens≠[])(K:So)
  (hK:∀c0 c1 bx,K (.agg (Ji p (.bs (m.boxes.length+2) 0 p.ens.length 7) (.sl (.own m.lens.length 8) (p.cls.map Qg)))) {m with boxes:=m.boxes++(c0::c1::(p.ens.map Qd).flatten::bx),lens:=m.lens++[p.cls.length]}):aB Tryz.prog aD Y 66 [.agg (Qa p)] m K:=by
 obtain⟨mb,ml,ms,mn⟩:=m;obtain⟨h1,h2,h3,h4,h5,h6⟩:=h;have k1:=pI p.sh zE;have k2:=pJ p.aM zE;have k4:=pK p.bks zE;have hsz:=kL (f:=Qd) (sz:=7) (fun _=>rfl) p.ens;refine Xo u9 (yg p) zd ?_;have aO:p.ens.map Qd≠[]:=by simpa using hn
 simp[IY,Qa,yg,Kk,hn];refine⟨k1,k2,xV _ _ hsz (by simpa using by omega) aO _ _ ?_⟩;simp;obtain⟨F,hF⟩:∃F,(p.ens.map Qd).flatten=F:=⟨_,rfl⟩;have hFl:F.length=p.ens.length*7:=by rw[<- hF,jt hsz];simp
 have bV:Zl F=true:=by rw[<- hF];exact kK (fun _=>rfl) _
 have hmp:∀m,F.map (bB m 4)=F:=fun m=>Ve m 3 bV;rw[hF]at hK |-
 refine Qj eu (ai4 p mb ml ms mn [I 0,I 0,I 0,I 0,.sl .nil [],I 0,I 0,I 0,I 0,.sl .nil [],.sl .nil [],.sl .nil [],.sl .nil []]) (fun f _=>p.ens.length-(numOf (f 22)).toNat) ?_ ?_
 ·exact⟨0,[],zd,zE,by rw[hF];simp[Ur]⟩
 rintro f m ⟨i,bx,f22,hi,rfl⟩;rw[hF];rcases zzaa i p.ens.length with ah|bu
 ·obtain⟨e,he⟩:=aV ah;have aa:(i:Int)<(p.ens.length:Int):=zE
  have hw:=bO i zE;obtain⟨⟨r,hd⟩,bM⟩:=uO hsz (i:=i) (row:=Qd e) (by simp[he]);rw[hF]at hd bM;simp only[Qd,zzae,zzag]at hd bM;have GB:=Wp e (h6 e (zzad he));simp only[Qd]at GB;simp[-setA,jq,jr,f22,eu,aa,hd,bM,hFl,hw,yg,Kk,Ur];refine⟨GB,zE,aQ,⟨i+1,bx++[[I e.id,I e.it,I e.fr,I e.ea,I e.la,I e.bo,.sl .ro (e.al.map Qe)]],zd,zE,by rw[hF];simp[Ur]⟩,zE⟩
 obtain rfl:i=p.ens.length:=zE
 simp[f22,eu,IZ,yg,Kk,Ur];simp[Ji]at hK;refine⟨k4,GP _ _ zE _ _ ?_⟩;simp;exact hK _ _ _
def Ru(Y:YT)(m:AM)(p:Pl)(h:Bm p)(hn:p.ens=[])(K:So)
  (hK:∀c0 c1,K (.agg (Ji p (.sl .ro []) (.sl (.own m.lens.length 8) (p.cls.map Qg)))) {m with boxes:=m.boxes++[c0,c1],lens:=m.lens++[p.cls.length]}):aB Tryz.prog aD Y 66 [.agg (Qa p)] m K:=by
 obtain⟨mb,ml,ms,mn⟩:=m;obtain⟨h1,h2,h3,h4,h5,h6⟩:=h;have k1:=pI p.sh zE;have k2:=pJ p.aM zE;have k4:=pK p.bks zE;have k3:=GA;refine Xo u9 (yg p) zd ?_;simp[IY,Qa,yg,Kk,hn];refine⟨k1,k2,k3,?_⟩;refine Qj eu (fun f m=>f 22=I 0/\m=⟨mb++[[I p.ch,I p.nu,I p.de,I p.of,.sl .ro (p.sh.map Qe),I p.ep,I p.rg,I p.ln,I p.fi,.sl .ro (p.aM.map Qm),.sl .ro [],.sl .ro (p.bks.map Xi),.sl .ro (p.cls.map Qg)],[I 0,I 0,I 0,I 0,.sl .nil [],I 0,I 0,I 0,I 0,.sl .nil [],.sl .nil [],.sl .nil [],.sl .nil []]],ml,ms,mn⟩) (fun f _=>0) ?_ ?_
 ·exact⟨zd,zd⟩
 rintro f m ⟨f22,rfl⟩;simp[f22,eu,IZ,yg,Kk];refine⟨k4,GP _ _ zE _ _ ?_⟩;simp;simp[Ji]at hK;exact hK _ _
def Du(rt:Rt):Prop:=∀m d x,bB m (d+1) (.sl rt x)=.sl .ro x
def Du.ro:Du .ro:=fun _ _ _=>rfl
def Du.own(k s:Nat):Du (.own k s):=fun _ _ _=>rfl
def me(bx:T5)(V:AV)(l:List En):Prop:=(∃rt,V=.sl rt (l.map Qd)/\Du rt)\/∃k z,V=.bs k 0 l.length 7/\k<bx.length/\Qi bx k=eD l++z/\Zl z=true
def GQ(n:Nat)(V:AV):Prop:=∀k o l s,V=.bs k o l s->n<=k
def GQ.sl(n:Nat)(rt:Rt)(rows:T5):GQ n (.sl rt rows):=fun _ _ _ _ h=>by cases h
def GQ.bs{n k o l s:Nat}(h:n<=k):GQ n (.bs k o l s):=fun _ _ _ _ e=>by cases e;exact h
def Dv(g:Pg)(o:Od):Pl:={g.p with cls:=g.p.cls++[o.cl]}
def ZQ(Y:YT)(m:AM)(g:Pg)(f:Int)(mid:Nat)(o:Od)(hp:Bm g.p)(K:So)
  (h1:∀ex V,me (m.boxes++ex) V g.p.ens->GQ m.boxes.length V->K (.aS [.agg (Xr (Dv g o) V (.sl (.own m.lens.length 8) ((Dv g o).cls.map Qg)) 0),.bool true]) {m with boxes:=m.boxes++ex,lens:=m.lens++[g.p.cls.length+1]}):
  aB Tryz.prog aD Y 87 [.agg (Qr g f mid),.agg (Qq o)] m K:=by
 obtain⟨mb,ml,ms,mn⟩:=m;have hc:=hp.2.2.2.2.1
 have ai:∀row:P2,((∃a,a∈g.p.cls/\Qg a=row)\/row=Qg o.cl)->row.length=8:=by
  rintro row (⟨a,_,rfl⟩|rfl)<;>rfl
 simp only[Dv,Xr,zzcb,zzar,zzct]at h1;by_cases aO:g.p.ens=[]
 ·have kO:=fun ex K hK=>Ru Y ⟨mb++ex,ml,ms,mn⟩ g.p hp aO K hK;simp only[Qa]at kO;refine Xo TA (fun _ _ l=>.gd false .junk) zd ?_;simp[akV,akW,Qr,Qk,Qa,Qq,Qd,Qg,Qh];refine kO _ _ fun c0 c1=>?_;simp[Ji];refine⟨⟨ai,zE⟩,?_⟩;exact h1 _ _ (.inl ⟨.ro,by rw[aO];rfl,Du.ro⟩) (GQ.sl _ _ _)
 have kO:=fun ex K hK=>ZP Y ⟨mb++ex,ml,ms,mn⟩ g.p hp aO K hK;simp only[Qa]at kO;refine Xo TA (fun _ _ l=>.gd false .junk) zd ?_;simp[akV,akW,Qr,Qk,Qa,Qq,Qd,Qg,Qh];refine kO _ _ fun c0 c1 bx=>?_;simp[Ji,zzap];refine⟨⟨ai,zE⟩,?_⟩;exact h1 _ _ (.inr ⟨mb.length+5,[],rfl,zd,by simp[eD],rfl⟩) (GQ.bs zd)
def me.ext{bx:T5}{V:AV}{l:List En}(h:me bx V l)(ex:T5):me (bx++ex) V l:=by
 obtain h|⟨k,z,h1,h2,h3,h4⟩:=h
 ·exact .inl h
 exact .inr ⟨k,z,h1,by simp;omega,by rw[Qn h2,h3],h4⟩
def Rv(Y:YT)(m:AM)(V:AV)(L:List En)(id:Int)(hV:me m.boxes V L)(hl:L.length<=1000000000):aB Tryz.prog aD Y 62 [V,I id,.fn 63 [] []] m (fun r m'=>m'=m/\r=Jo (Xn id L)):=by
 obtain⟨mb,ml,ms,mn⟩:=m;refine aB.read ?_;obtain⟨rt,rfl,aY⟩|⟨k,z,rfl,hk,hB,hz⟩:=hV
 ·refine Xo IW (fun _ f l=>if f=63 then(match l with|[.agg (c::_)]=>c|_=>.junk)else .junk) zd ?_;simp[abU];refine Qj gH (fun f m=>∃(i:Nat)(bx:T5),f 13=I i/\i<=L.length/\Xn id (L.drop i)=Xn id L/\m=⟨mb++([I 0,I 0,I 0,I 0,I 0,I 0,.sl .nil []]::bx),ml,ms,mn⟩) (fun f _=>L.length-(numOf (f 13)).toNat) ?_ ?_
  ·exact⟨0,[],zd,zE,rfl,rfl⟩
  rintro f m ⟨i,bx,eS,hi,hf,rfl⟩;rcases zzaa i L.length with ah|bu
  ·obtain⟨x,hx⟩:=aV ah;have ai:Qi (L.map Qd) i=Qd x:=Qw (by simp[hx]);have aa:(i:Int)<(L.length:Int):=zE
   have hw:=bO i zE;have hd:L.drop i=x::L.drop (i+1):=by rw[zzai ah,(zza.1 hx).2]
   have Cp:=nB x;rw[hd,Xn]at hf;by_cases aK:x.id=id
   ·rw[ac aK]at hf;simp[eS,aa,ai,Qd,aK,gH,IV,<- hf,Jo];refine⟨by simpa[Qd,aK]using Cp,nH⟩
   rw[ab aK]at hf;simp[eS,aa,ai,Qd,aK,gH,hw];refine⟨Cp,aQ,⟨i+1,zd,zE,hf⟩,zE⟩
  rw[zzam bu]at hf;have bP:¬(i:Int)<(L.length:Int):=zE
  simp[eS,bP,gH,IV,<- hf,Jo,Xn];exact nH
 have hR:∀ex,Qi (mb++ex) k=eD L++z:=fun ex=>by rw[Qn hk];exact hB
 refine Xo IW (fun _ f l=>if f=63 then(match l with|[.agg (c::_)]=>c|_=>.junk)else .junk) zd ?_;simp[abU];refine Qj gH (fun f m=>∃(i:Nat)(bx:T5),f 13=I i/\i<=L.length/\Xn id (L.drop i)=Xn id L/\m=⟨mb++([I 0,I 0,I 0,I 0,I 0,I 0,.sl .nil []]::bx),ml,ms,mn⟩) (fun f _=>L.length-(numOf (f 13)).toNat) ?_ ?_
 ·exact⟨0,[],zd,zE,rfl,rfl⟩
 rintro f m ⟨i,bx,eS,hi,hf,rfl⟩;rcases zzaa i L.length with ah|bu
 ·obtain⟨x,hx⟩:=aV ah;have hg:=Dt hx
  have ai:∀ex,(Qi (mb++ex) k).drop (i*7)=I x.id::I x.it::I x.fr::I x.ea::I x.la::I x.bo::.sl .ro (x.al.map Qe)::(eD (L.drop (i+1))++z):=fun ex=>by
   rw[hR,zzdz (by rw[Jc];omega),hg];rfl
  have aa:(i:Int)<(L.length:Int):=zE
  have hw:=bO i zE;have hd:L.drop i=x::L.drop (i+1):=by rw[zzai ah,(zza.1 hx).2]
  have Cp:=nB x;rw[hd,Xn]at hf;by_cases aK:x.id=id
  ·rw[ac aK]at hf;simp[eS,aa,ai,Qd,aK,gH,IV,<- hf,Jo];refine⟨by simpa[Qd,aK]using Cp,nH⟩
  rw[ab aK]at hf;simp[eS,aa,ai,aK,gH,hw];refine⟨Cp,aQ,⟨i+1,zd,zE,hf⟩,zE⟩
 rw[zzam bu]at hf;have bP:¬(i:Int)<(L.length:Int):=zE
 simp[eS,bP,gH,IV,<- hf,Jo,Xn];exact nH
def amk(Y:YT)(m:AM)(V:AV)(L:List En)(id:Int)(hV:me m.boxes V L)(hl:L.length<=1000000000)(K:So)(hK:K (Jo (Xn id L)) m):aB Tryz.prog aD Y 62 [V,I id,.fn 63 [] []] m K:=
 aB.mono (Rv Y m V L id hV hl) (by rintro r m' ⟨rfl,rfl⟩;exact hK)
def nJ:∀(l:List En)(z:P2),aZ 7 l.length (eD l++z)=l.map Qd
 |[],z=>rfl
 |e::r,z=>by
  have:=nJ r z;simp[Qd,this]
def me.bB{bx:T5}{V:AV}{l:List En}(h:me bx V l)(ex:T5)(ml:Pa)(ms:Nat->LS)(mn:Nat)(d:Nat):Abs.bB ⟨bx++ex,ml,ms,mn⟩ (d+2) V=.sl .ro (l.map Qd):=by
 obtain⟨rt,rfl,aY⟩|⟨k,z,rfl,hk,hB,hz⟩:=h
 ·exact aY _ _ _
 have bV:Zl (eD l++z)=true:=by have:=Ll l;unfold Zl at this hz |-;rw[zzfm,this,hz];rfl
 rw[ZR,Yd,Qn hk,hB,Ve _ _ bV,ac (by rw[zzal,Jc];omega),zzdd,nJ]
def me.cell{bx:T5}{V:AV}{l:List En}(h:me bx V l):Qx V=true:=by
 rcases h with⟨rt,rfl,aY⟩|⟨k,z,rfl,hk,hB,hz⟩<;>rfl
def Ln(Y:YT)(m:AM)(q:Pl)(V:AV)(rt:Rt)(id:Int)(hV:me m.boxes V q.ens)(hl:q.ens.length<=1000000000)(ha:∀e∈q.ens,e.al.length<=8796093022208):
  aB Tryz.prog aD Y 29 [.agg (Ji q V (.sl rt (q.cls.map Qg))),I id] m (fun r m'=>m'=m/\r=Jo (Xn id q.ens)):=by
 obtain⟨mb,ml,ms,mn⟩:=m;have hc:=hV.cell;have kf:=fun ex K hK=>amk Y ⟨mb++ex,ml,ms,mn⟩ V q.ens id (hV.ext ex) hl K hK;refine aB.read (Xo Tb (fun _ f l=>if f=62 then .gd false .junk else l.headD .junk) zd ?_);simp[abJ,abK,Ji,hc];refine kf _ _ ?_;cases hf:Xn id q.ens with
 |none=>
  simp[Jo];exact⟨jh,nH⟩
 |some x=>
  have hx:x∈q.ens:=by
   have:∀l:List En,Xn id l=some x->x∈l:=by
    intro l;induction l with
    |nil=>intro h;cases h
    |cons y r ih=>
     intro h;simp only[Xn]at h;split at h
     ·cases h;simp
     simp[ih h]
   exact this _ hf
  have qj:=Qcf x.al (ha x hx);simp[Jo,Qd];exact⟨qj,nH⟩
def Ot(Y:YT)(m:AM)(q:Pl)(V:AV)(rt:Rt)(id:Int)(hV:me m.boxes V q.ens)(hl:q.ens.length<=1000000000)(ha:∀e∈q.ens,e.al.length<=8796093022208)(K:So)(hK:K (Jo (Xn id q.ens)) m):
  aB Tryz.prog aD Y 29 [.agg (Ji q V (.sl rt (q.cls.map Qg))),I id] m K:=
 aB.mono (Ln Y m q V rt id hV hl ha) (by rintro r m' ⟨rfl,rfl⟩;exact hK)
def Lo(Y:YT)(m:AM)(g:Pg)(f:Int)(mid:Nat)(o:Od)(q:Pl)(V:AV)(rt:Rt)(d:Int)(hV:me m.boxes V q.ens):
  aB Tryz.prog aD Y 88 [.agg (Qr g f mid),.agg (Qq o),.agg (Xr q V (.sl rt (q.cls.map Qg)) d)] m (fun r m'=>m'=m/\r=.bool true):=by
 obtain⟨mb,ml,ms,mn⟩:=m;have hc:=hV.cell;refine aB.read (Xo akX (fun _ _ _=>.junk) zd ?_);simp[apF,apG,Qr,Qk,Qa,Qq,Qd,Qg,Qh,Xr,hc];exact nH
def GR(Y:YT)(m:AM)(g:Pg)(f:Int)(mid:Nat)(b:QR)(o:Od)(q:Pl)(V:AV)(rt:Rt)(d:Int)(hV:me m.boxes V q.ens)(h:lC g f)(hb:fN m.boxes mid b):
  aB Tryz.prog aD Y 92 [.agg (Qr g f mid),.agg (Qq o),.agg (Xr q V (.sl rt (q.cls.map Qg)) d)] m (fun r m'=>m'=m/\r=.bool !(Dr g f b o.en)):=by
 obtain⟨mb,ml,ms,mn⟩:=m;have hc:=hV.cell;have hB:∀ex,fN (mb++ex) mid b:=fun ex=>⟨by have:=hb.1;simp at this |-;omega,hb.ext ex⟩;have k:=fun ex K hK=>asG Y ⟨mb++ex,ml,ms,mn⟩ g f mid b o.en h (hB ex) K hK;simp only[Qr,Qk,Qa,zzae,zzag]at k;refine aB.read (Xo ak3 (fun _ _ _=>.gd false .junk) zd ?_);simp[apH,apI,Qr,Qk,Qa,Qq,Qd,Qg,Qh,Xr,hc];refine k _ _ ?_;simp;exact nH
