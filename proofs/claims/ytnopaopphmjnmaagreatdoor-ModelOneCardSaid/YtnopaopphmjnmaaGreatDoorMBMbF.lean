import Derived.Test.YtnopaopphmjnmaaGreatDoorMBMbB
set_option linter.all false
set_option maxRecDepth 100000
set_option maxHeartbeats 64000000
namespace Go.Proofs.YtnopaopphmjnmaaGreatDoor
open Go Go.Abs
def zw:ByteArray:=⟨#[32]⟩
def Qbq{α:Type}(l:List α):l=[]\/∃L b,l=L++[b]:=by
 rcases zzhg l with h|⟨L,b,h⟩
 ·exact .inl h
 exact .inr ⟨L,b,by rw[h,zzhh]⟩
def GC(cq:List ByteArray)(w:ByteArray):List ByteArray:=match cq.getLast? with
 |some r=>if r.size+1+w.size<=32 then cq.dropLast++[r++(zw++w)]else cq++[w]
 |none=>[w]
theorem pI(w:ByteArray):GC [] w=[w]:=rfl
def kV(pre:List ByteArray)(r w:ByteArray):GC (pre++[r]) w=if r.size+1+w.size<=32 then pre++[r++(zw++w)]else pre++[r]++[w]:=by simp[GC]
def lay:List ByteArray->List ByteArray->Option (List ByteArray)
 |cq,[]=>some cq
 |cq,w::r=>if 32<w.size then none else lay (GC cq w) r
def pJ:∀(a b cq:List ByteArray),lay cq (a++b)=(lay cq a).bind fun x=>lay x b
 |[],_,_=>rfl
 |w::r,b,cq=>by
  simp only[zzae,lay];split
  ·rfl
  exact pJ r b _
def uj(s:ByteArray):∀(n i:Nat)(first:Option Nat),(Y7 s n i first).length<=n+1
 |0,i,first=>by rw[Y7];cases first<;>simp[gQ]
 |n+1,i,first=>by
  rw[Y7];split
  ·have:=uj s n (i+1) (some (first.getD i));omega
  have:=uj s n (i+1) none;rw[zzag];have h2:(gQ s i first).length<=1:=by cases first<;>simp[gQ]
  omega
def ZD(a b:ByteArray):(a++b).size=a.size+b.size:=by simp
def Om{cq:List ByteArray}{w:ByteArray}(h:∀r∈cq,r.size<=32)(hw:w.size<=32):∀r∈GC cq w,r.size<=32:=by
 rcases Qbq cq with rfl|⟨pre,r,rfl⟩
 ·intro x hx;simp[pI]at hx;subst hx;exact hw
 rw[kV];split
 ·intro x hx;rcases zzal.1 hx with hx|hx
  ·exact h x (by simp[hx])
  simp only[zzbk]at hx;subst hx;rw[ZD,ZD];have:zw.size=1:=rfl;omega
 intro x hx;rcases zzal.1 hx with hx|hx
 ·exact h x hx
 simp only[zzbk]at hx;subst hx;exact hw
def GD(cq:List ByteArray)(w:ByteArray):(GC cq w).length<=cq.length+1:=by
 rcases Qbq cq with rfl|⟨pre,r,rfl⟩
 ·simp[pI]
 rw[kV];split<;>simp
def Jd(s:ByteArray):Option (List ByteArray):=if 200<s.size\/Rl s=false then none else match lay [] (Uj s)with
 |some l=>if l=[]\/4<l.length then none else some l
 |none=>none
def Vf(l:List ByteArray):List AV:=l.map AV.str
def Kb(r:ByteArray):List AV:=[.str r]
def Je:Option (List ByteArray)->AV
 |none=>.aV [.sl .nil [],.bool false]
 |some l=>.aV [.sl .ro (l.map Kb),.bool true]
def RV(cq:List ByteArray)(V:AV)(rest:List (List AV)):Prop:=(cq=[]/\V=.sl .nil [])\/(cq≠[]/\∃k,V=.bs (k+3) 0 cq.length 1/\k<rest.length/\Qh rest k=Vf cq)
def asc(q:List ByteArray)(i:Nat)(m:AM):Prop:=∃(cq:List ByteArray)(rest:List (List AV))(V:AV),lay [] (q.take i)=some cq/\(∀r∈cq,r.size<=32)/\cq.length<=i/\m.boxes=[.sl .nil []]::[.bool false]::[V]::rest/\RV cq V rest
def awr(q:List ByteArray)(ex:Exit)(m:AM):Prop:=ex=.ret/\lay [] q=none/\∃rest,m.boxes=[.sl .nil []]::[.bool false]::rest
def A5(s:ByteArray):Nat->FuncId->List AV->AV:=fun d f _=>if f=999999 then(if d=49 then .aK 0 []else .junk)else if f=245 then .bool (Rl s)else .fn 303 [] [.ep [.str s] 0]
def xF(l:List ByteArray):aU 1 l.length (Vf l)=l.map Kb:=by
 induction l with
 |nil=>rfl
 |cons a r ih=>
  show aU 1 (r.length+1) (AV.str a::Vf r)=_;rw[vS];simp[ih,Kb]
def pK(m:AM)(d:Nat)(l:List ByteArray):(Vf l).map (bF m (d+1))=Vf l:=by
 induction l with
 |nil=>rfl
 |cons a r ih=>simp[Vf]at ih |-
def RV.ext{cq:List ByteArray}{V:AV}{rest:List (List AV)}(h:RV cq V rest)(ex:List (List AV)):RV cq V (rest++ex):=by
 obtain h|⟨h1,k,h2,h3,h4⟩:=h
 ·exact .inl h
 exact .inr ⟨h1,k,h2,by simp;omega,by rw[Ql h3,h4]⟩
def Rn(s:ByteArray):Pure Tryz.prog az 173 [.str s] (Je (Jd s)):=by
 refine Qn acz (A5 s) (by simp) ?_;by_cases h2:200<s.size
 ·have DN:(200:Int)<(s.size:Int):=by omega
  have:Jd s=none:=by rw[Jd,if_pos (.inl h2)]
  rw[this];simp[MU,uK,DN,Je]
 have DN:¬(200:Int)<(s.size:Int):=by omega
 have kp:=xC s (by omega);have kw:=Lc s;have kit:=Ld s (by omega);cases hp:Rl s with
 |false=>
  rw[hp]at kp;have:Jd s=none:=by rw[Jd,if_pos (.inr hp)]
  rw[this];simp[MU,uK,DN,Je,A5,hp];exact kp
 |true=>
  rw[hp]at kp
  have yN:Jd s=match lay [] (Uj s)with
   |some l=>if l=[]\/4<l.length then none else some l
   |none=>none:=by rw[Jd,if_neg (by simp[hp];omega)]
  rw[yN];have hql:(Uj s).length<=201:=by have:=uj s s.size 0 none;unfold Uj;omega
  generalize Uj s=q at kit hql;simp[MU,DN,A5,hp];refine⟨kp,kw,?_⟩;refine jc (xs:=q.map fun w=>[.str w]) (by simp) kit (by intro x hx;simp at hx;obtain⟨a,_,rfl⟩:=hx;rfl) (asc q) (awr q) ?_ ?_ ?_ ?_ ?_ ?_
  ·exact⟨[],[],.sl .nil [],rfl,fun _ h=>(by cases h),by simp,by simp,.inl ⟨rfl,rfl⟩⟩
  ·rintro i m m' ⟨cq,rest,V,g1,g2,g3,g4,g5⟩ ⟨⟨b2,e2⟩,_,_⟩;exact⟨cq,rest++b2,V,g1,g2,g3,by rw[e2,g4];simp,g5.ext b2⟩
  ·rintro ex m m' ⟨g1,g2,rest,g3⟩ ⟨⟨b2,e2⟩,_,_⟩;exact⟨g1,g2,rest++b2,by rw[e2,g3];simp⟩
  ·rintro l1 i m x hg hr ⟨cq,rest,V,g1,g2,g3,g4,g5⟩ hx K' k1 k2 k3
   obtain⟨w,hy,rfl⟩:∃w,q[i]?=some w/\[AV.str w]=x:=by
    rw[zzbp]at hx;cases hq:q[i]? with
    |none=>rw[hq]at hx;cases hx
    |some y=>rw[hq]at hx;exact⟨y,rfl,Option.some.inj hx⟩
   have ai:i<q.length:=(zza.1 hy).1;have bz:q.take (i+1)=q.take i++[w]:=by rw[zzar,hy];rfl
   have dZ:lay [] (q.take (i+1))=if 32<w.size then none else some (GC cq w):=by
    rw[bz,pJ,g1];simp[lay]
   rw[Ub]at g4;obtain⟨mb,ml,ms,mn⟩:=m;simp only at g4 hr;subst g4;by_cases hw:32<w.size
   ·have Im:(32:Int)<(w.size:Int):=by omega
    simp[Zj,hr,Im];refine k2 _ ⟨rfl,?_,_,rfl⟩;have hq:q=q.take (i+1)++q.drop (i+1):=(zzdb _ _).symm;rw[hq,pJ,dZ,if_pos hw];rfl
   have Im:¬(32:Int)<(w.size:Int):=by omega
   rw[if_neg hw]at dZ;have hsz:=Om g2 (by omega:w.size<=32);have dm:=GD cq w;obtain⟨h0,hV⟩|⟨h0,k,hV,cV,di⟩:=g5
   ·subst h0;subst hV;have p7:IntKind.i64.wrap (-1)= -1:=by rw[Qi]<;>omega
    simp[Zj,hr,Im,A5,p7];refine k1 _ ⟨[w],rest++[[.str w]],.bs (rest.length+3) 0 1 1,by rw[dZ,pI],fun r h=>by simp at h;subst h;omega,by simp,by simp,.inr ⟨by simp,rest.length,rfl,by simp,by simp[Vf]⟩⟩
   subst hV;obtain⟨pre,r,rfl⟩:=(Qbq cq).resolve_left h0;have cc:pre.length+1<=i:=by simpa using g3
   have p7:IntKind.i64.wrap (pre.length:Int)=(pre.length:Int):=by rw[Qi]<;>omega
   have rP:(Vf (pre++[r])).length=pre.length+1:=by simp[Vf]
   have aws:=g2 r (by simp);have hsC:Vf (pre++[r])=Vf pre++[.str r]:=by simp[Vf]
   have gq:(Vf pre).length=pre.length:=by simp[Vf]
   have Lj:(Vf (pre++[r])).take (pre.length+1)=Vf (pre++[r]):=zzam (by omega);have dX:(Vf (pre++[r])).drop pre.length=[.str r]:=by rw[hsC,<- gq,zzfg]
   have eU:IntKind.i64.wrap ((r.size:Int)+1)=(r.size:Int)+1:=by rw[Qi]<;>omega
   have ee:IntKind.i64.wrap ((r.size:Int)+1+(w.size:Int))=(r.size:Int)+1+(w.size:Int):=by rw[Qi]<;>omega
   rw[kV]at dZ hsz dm;by_cases hc:r.size+1+w.size<=32
   ·rw[if_pos hc]at dZ hsz dm;have p5:(r.size:Int)+1+(w.size:Int)<=32:=by omega
    have bZ:(Vf (pre++[r])).set pre.length (.str (r++(zw++w)))=Vf (pre++[r++(zw++w)]):=by
     rw[hsC,<- gq,zzcq _ _ (zzab _)];simp[Vf]
    simp only[zw]at bZ;simp[Zj,hr,Im,A5,p7,di,dX,rP,eU,ee,p5,bZ]
    have hrk:Qh (rest.set k (Vf (pre++[r++(zw++w)]))) k=Vf (pre++[r++(zw++w)]):=by
     simp[Qh,zzas,-Vn,cV]
    have hs1:zw.size=1:=rfl;refine⟨by omega,(by show zw.size+w.size<=_;omega),(by show r.size+(zw.size+w.size)<=_;omega),by omega,cV,k1 _ ⟨pre++[r++(zw++w)],rest.set k (Vf (pre++[r++(zw++w)])),.bs (k+3) 0 (pre.length+1) 1,dZ,hsz,by simp;omega,by simp[zw],.inr ⟨by simp,k,by simp,by simpa using cV,hrk⟩⟩⟩
   rw[if_neg hc]at dZ hsz dm;have p5:¬(r.size:Int)+1+(w.size:Int)<=32:=by omega
   simp[Zj,hr,Im,A5,p7,di,dX,rP,eU,ee,p5];have aJ:¬Vf (pre++[r])=[]:=fun h=>by rw[h]at rP;simp at rP
   have hR:(rest.set k []).length=rest.length:=by simp
   refine⟨by omega,⟨⟨cV,aJ⟩,by omega⟩,k1 _ ⟨pre++[r]++[w],rest.set k []++[Vf (pre++[r])++[.str w]],.bs (rest.length+3) 0 (pre.length+1+1) 1,dZ,hsz,by simp;omega,by simp[Lj],.inr ⟨by simp,rest.length,by simp,by simp,?_⟩⟩⟩;rw[<- hR,Fi];simp[Vf]
  ·rintro m ⟨cq,rest,V,g1,g2,g3,g4,g5⟩;rw[zzbe,zzbm]at g1;rw[g1];obtain⟨mb,ml,ms,mn⟩:=m;simp only at g4;subst g4;obtain⟨h0,hV⟩|⟨h0,k,hV,cV,di⟩:=g5
   ·subst h0;subst hV;simp[uK,Je]
   subst hV;have aH:¬cq.length=0:=fun h=>h0 (zzca.1 h);have rP:(Vf cq).length=cq.length:=by simp[Vf]
   by_cases h4:4<cq.length
   ·have Is:(4:Int)<(cq.length:Int):=by omega
    simp[uK,Je,h0,h4,Is]
   have Is:¬(4:Int)<(cq.length:Int):=by omega
   have zu:=fun m=>pK m 4 cq;have amH:=fun m=>pK m 3 cq;have lF:=xF cq;simp[uK,Je,h0,h4,Is,di,amH,lF,rP]
  rintro ex m ⟨rfl,g2,rest,g3⟩;rw[g2];simp[uK,g3,Je]
open Go Go.Abs
def Wy(c:Cue):Bool:=if c.id<1\/4611686018427387903<c.id then false else if c.to=0 then decide (c.fr=0/\c.pr=0/\c.tx=eB)else
 if c.fr<0\/c.to<=c.fr\/100000000<c.to then false else if c.pr<0\/3<c.pr then false else(Jd c.tx).isSome
def sD(c:Cue):Pure Tryz.prog az 84 [.agg (Qk c)] (.bool (Wy c)):=by
 have k:=Rn c.tx;refine Qn ak4 (fun _ _ _=>Je (Jd c.tx)) (by simp) ?_;by_cases h1:c.id<1
 ·simp[uD,uE,Qk,h1,Wy]
 by_cases h2:4611686018427387903<c.id
 ·simp[uD,uE,Qk,h1,h2,Wy]
 by_cases h3:c.to=0
 ·simp[uD,uE,Qk,h1,h2,h3,Wy];rw[zzbl];simp[jL]
 by_cases h4:c.fr<0
 ·simp[uD,uE,Qk,h1,h2,h3,h4,Wy]
 by_cases h5:c.to<=c.fr
 ·simp[uD,uE,Qk,h1,h2,h3,h4,h5,Wy]
 by_cases h6:100000000<c.to
 ·simp[uD,uE,Qk,h1,h2,h3,h4,h5,h6,Wy]
 by_cases h7:c.pr<0
 ·simp[uD,uE,Qk,h1,h2,h3,h4,h5,h6,h7,Wy]
 by_cases h8:3<c.pr
 ·simp[uD,uE,Qk,h1,h2,h3,h4,h5,h6,h7,h8,Wy]
 cases hr:Jd c.tx with
 |none=>
  rw[hr]at k;simp[uD,uE,Qk,h1,h2,h3,h4,h5,h6,h7,h8,Wy,hr,Je];exact k
 |some l=>
  rw[hr]at k;simp[uD,uE,Qk,h1,h2,h3,h4,h5,h6,h7,h8,Wy,hr,Je];exact k
def kW:En:=⟨0,0,0,0,0,0,[]⟩
def nK:Cl:=⟨0,0,0,0,0,0,0,0⟩
def nL:Cue:=⟨0,0,0,0,eB⟩
def Jf(o:Od):Od:=if o.ki=1 then{o with n:=0,en:=0}else if o.ki=2 then{o with en:=0}else if o.ki=3 then{o with nw:=kW}else if o.ki=4 then{o with cl:=nK}else{o with cu:=nL}
def okB(o:Od):Bool:=if o.ki=1 then eF o.en else if o.ki=2 then eF o.en else if o.ki=3 then yO o.nw else if o.ki=4 then Xj o.cl else Wy o.cu
def Zb(o:Od):Bool:=if o.sq<0\/200<o.sq\/o.ch< -1\/40<=o.ch then false else if o.fr<0\/100000000<o.fr then false else
 if o.ki<1\/5<o.ki then false else if o.ki=1/\(o.n< -100000000\/100000000<o.n)then false else okB o&&Jn (Jf o)
def jM(a b:Bool):Nat->FuncId->List AV->AV:=fun _ f _=>if f=81 then .bool b else .bool a
def sE(o:Od)(hl:o.nw.al.length<=8796093022208):Pure Tryz.prog az 40 [.agg (Qq o)] (.bool (Zb o)):=by
 have kb:=Lb (Jf o);have kk:o.ki=3\/Pure Tryz.prog az 81 [.agg (Qq (Jf o))] (.bool (Jn (Jf o))):=.inr kb;refine Qn akp (jM (okB o) (Jn (Jf o))) (by simp) ?_;by_cases a1:o.sq<0
 ·simp[fB,fC,Qq,Qd,Qg,Qk,a1,Zb]
 by_cases a2:200<o.sq
 ·simp[fB,fC,Qq,Qd,Qg,Qk,a1,a2,Zb]
 by_cases a3:o.ch< -1
 ·simp[fB,fC,Qq,Qd,Qg,Qk,a1,a2,a3,Zb]
 by_cases a4:40<=o.ch
 ·simp[fB,fC,Qq,Qd,Qg,Qk,a1,a2,a3,a4,Zb]
 by_cases a5:o.fr<0
 ·simp[fB,fC,Qq,Qd,Qg,Qk,a1,a2,a3,a4,a5,Zb]
 by_cases a6:100000000<o.fr
 ·simp[fB,fC,Qq,Qd,Qg,Qk,a1,a2,a3,a4,a5,a6,Zb]
 have hA:¬(o.sq<0\/200<o.sq\/o.ch< -1\/40<=o.ch):=by omega
 have hB:¬(o.fr<0\/100000000<o.fr):=by omega
 have hv:Zb o=if o.ki<1\/5<o.ki then false else if o.ki=1/\(o.n< -100000000\/100000000<o.n)then false else okB o&&Jn (Jf o):=by rw[Zb,if_neg hA,if_neg hB]
 rw[hv];by_cases k1:o.ki=1
 ·have c1:¬(o.ki<1\/5<o.ki):=by omega
  rw[if_neg c1];by_cases b1:o.n< -100000000
  ·rw[if_pos ⟨k1,.inl b1⟩];simp[fB,fC,Qq,Qd,Qg,Qk,a1,a2,a3,a4,a5,a6,k1,b1]
  by_cases b2:100000000<o.n
  ·rw[if_pos ⟨k1,.inr b2⟩];simp[fB,fC,Qq,Qd,Qg,Qk,a1,a2,a3,a4,a5,a6,k1,b1,b2]
  rw[if_neg (by omega)];have q:=Ku o.en;have hk:okB o=eF o.en:=by rw[okB,if_pos k1]
  have hr:Jf o={o with n:=0,en:=0}:=by rw[Jf,if_pos k1]
  rw[hr]at kb |-
  rw[hk];simp only[Qq,Qd,Qg,Qk,k1]at kb;cases hi:eF o.en with
  |false=>
   rw[hi]at q;simp[fB,fC,Qq,Qd,Qg,Qk,a1,a2,a3,a4,a5,a6,k1,b1,b2,jM];exact q
  |true=>
   rw[hi]at q;simp[fB,fC,Qq,Qd,Qg,Qk,a1,a2,a3,a4,a5,a6,k1,b1,b2,jM];exact⟨q,kb⟩
 by_cases k2:o.ki=2
 ·have c1:¬(o.ki<1\/5<o.ki):=by omega
  rw[if_neg c1,if_neg (by omega)];have q:=Ku o.en;have hk:okB o=eF o.en:=by rw[okB,if_neg k1,if_pos k2]
  have hr:Jf o={o with en:=0}:=by rw[Jf,if_neg k1,if_pos k2]
  rw[hr]at kb |-
  rw[hk];simp only[Qq,Qd,Qg,Qk,k2,zzae,zzai]at kb;try simp only[Qd,Qg,Qk]at q
  cases hi:eF o.en with
  |false=>
   rw[hi]at q;simp[fB,fC,Qq,Qd,Qg,Qk,a1,a2,a3,a4,a5,a6,k2,jM];exact q
  |true=>
   rw[hi]at q;simp[fB,fC,Qq,Qd,Qg,Qk,a1,a2,a3,a4,a5,a6,k2,jM];exact⟨q,kb⟩
 by_cases k3:o.ki=3
 ·have c1:¬(o.ki<1\/5<o.ki):=by omega
  rw[if_neg c1,if_neg (by omega)];have q:=tH o.nw hl;have hk:okB o=yO o.nw:=by rw[okB,if_neg k1,if_neg k2,if_pos k3]
  have hr:Jf o={o with nw:=kW}:=by rw[Jf,if_neg k1,if_neg k2,if_pos k3]
  rw[hr]at kb |-
  rw[hk];simp only[Qq,Qd,Qg,Qk,k3,kW,zzce,zzae,zzai]at kb;have kb:=Zk (l:=[.agg [I o.sq,I o.ch,I o.fr,I 3,I o.en,I o.n,I 0,I 0,I 0,I 0,I 0,I 0,.sl .nil [],I o.cl.ki,I o.cl.it,I o.cl.fr,I o.cl.to,I o.cl.re,I o.cl.n,I o.cl.a,I o.cl.b,I o.cu.id,I o.cu.fr,I o.cu.to,I o.cu.pr,.str o.cu.tx]]) kb ⟨Qdg ⟨Wk.refl _,Wk.refl _,Wk.refl _,Wk.refl _,Wk.refl _,Wk.refl _,Wk.refl _,Wk.refl _,Wk.refl _,Wk.refl _,Wk.refl _,Wk.refl _,Wk.sl _ _,Wk.refl _,Wk.refl _,Wk.refl _,Wk.refl _,Wk.refl _,Wk.refl _,Wk.refl _,Wk.refl _,Wk.refl _,Wk.refl _,Wk.refl _,Wk.refl _,Wk.refl _,trivial⟩,trivial⟩;try simp only[Qd]at q
  cases hi:yO o.nw with
  |false=>
   rw[hi]at q;simp[fB,fC,Qq,Qd,Qg,Qk,a1,a2,a3,a4,a5,a6,k3,jM];exact q
  |true=>
   rw[hi]at q;simp[fB,fC,Qq,Qd,Qg,Qk,a1,a2,a3,a4,a5,a6,k3,jM,kW];exact⟨q,kb⟩
 by_cases k4:o.ki=4
 ·have c1:¬(o.ki<1\/5<o.ki):=by omega
  rw[if_neg c1,if_neg (by omega)];have q:=Ko o.cl;have hk:okB o=Xj o.cl:=by rw[okB,if_neg k1,if_neg k2,if_neg k3,if_pos k4]
  have hr:Jf o={o with cl:=nK}:=by rw[Jf,if_neg k1,if_neg k2,if_neg k3,if_pos k4]
  rw[hr]at kb |-
  rw[hk];simp only[Qq,Qd,Qg,Qk,k4,nK,zzae,zzai]at kb;try simp only[Qg]at q
  cases hi:Xj o.cl with
  |false=>
   rw[hi]at q;simp[fB,fC,Qq,Qd,Qg,Qk,a1,a2,a3,a4,a5,a6,k4,jM];exact q
  |true=>
   rw[hi]at q;simp[fB,fC,Qq,Qd,Qg,Qk,a1,a2,a3,a4,a5,a6,k4,jM,nK];exact⟨q,kb⟩
 by_cases k5:o.ki=5
 ·have c1:¬(o.ki<1\/5<o.ki):=by omega
  rw[if_neg c1,if_neg (by omega)];have q:=sD o.cu;have hk:okB o=Wy o.cu:=by rw[okB,if_neg k1,if_neg k2,if_neg k3,if_neg k4]
  have hr:Jf o={o with cu:=nL}:=by rw[Jf,if_neg k1,if_neg k2,if_neg k3,if_neg k4]
  rw[hr]at kb |-
  rw[hk];simp only[Qq,Qd,Qg,Qk,k5,nL,zzae,zzai]at kb;simp only[Qk]at q;cases hi:Wy o.cu with
  |false=>
   rw[hi]at q;simp[fB,fC,Qq,Qd,Qg,Qk,a1,a2,a3,a4,a5,a6,k5,jM];exact q
  |true=>
   rw[hi]at q;simp[fB,fC,Qq,Qd,Qg,Qk,a1,a2,a3,a4,a5,a6,k5,jM,nL];exact⟨q,kb⟩
 rw[if_pos (by omega)];simp[fB,fC,Qq,Qd,Qg,Qk,a1,a2,a3,a4,a5,a6,k1,k2,k3,k4,k5]
open Go Go.Abs
def Ll(g:Pg)(o:Od):Bool:=Zb o&&(decide (o.ch= -1)||decide (o.ch=g.p.ch))
def GF(g:Pg)(o:Od)(hl:o.nw.al.length<=8796093022208):Pure Tryz.prog az 68 [.agg (Qo g),.agg (Qq o)] (.bool (Ll g o)):=by
 have k:=sE o hl;simp only[Qq,Qd,Qg,Qk,zzae,zzai]at k;refine Qn akR (fun _ _ _=>.bool (Zb o)) (by simp) ?_;cases hv:Zb o with
 |false=>
  rw[hv]at k;simp[abw,abx,Qo,Qc,Qq,Qd,Qg,Qk,hv,Ll];exact k
 |true=>
  rw[hv]at k;by_cases h1:o.ch= -1
  ·simp[abw,abx,Qo,Qc,Qq,Qd,Qg,Qk,hv,Ll,h1];rw[h1]at k;exact k
  simp[abw,abx,Qo,Qc,Qq,Qd,Qg,Qk,hv,Ll,h1];refine⟨k,?_⟩;rw[zzbl];simp[h1]
def Uq{α:Type}(P:α->Bool):List α->Nat->Int
 |[],_=> -1
 |x::r,i=>if P x=true then i else Uq P r (i+1)
def Qcr{α:Type}{P:α->Bool}:∀{L:List α}{i:Nat},L.find? P=none->Uq P L i= -1
 |[],_,_=>rfl
 |a::r,i,h=>by
  rw[zzf]at h;split at h
  ·cases h
  rename_i hn;rw[Uq,if_neg (by simp[hn])];exact Qcr h
def Kv{α:Type}{P:α->Bool}{a:α}:∀{L:List α}{i:Nat},L.find? P=some a->∃k:Nat,Uq P L i=((i+k:Nat):Int)/\L[k]?=some a/\P a=true
 |[],_,h=>by cases h
 |b::r,i,h=>by
  rw[zzf]at h;split at h
  ·rename_i hb;cases h;exact⟨0,by simp[Uq,hb],rfl,hb⟩
  rename_i hn;obtain⟨k,h1,h2,h3⟩:=Kv (i:=i+1) h;exact⟨k+1,by rw[Uq,if_neg (by simp[hn]),h1];omega,by simpa using h2,h3⟩
def xG(L:List bE)(P:bE->Bool)(k:FuncId)(first cap:List AV)(hl:L.length<=1000000000)(h1:∀m,first.map (bF m 6)=first)(h2:∀m,cap.map (bF m 6)=cap)
  (hp:∀e∈L,Pure Tryz.prog az k (first++.agg (Qf e)::cap) (.bool (P e)))(orc:Nat->FuncId->List AV->AV)(ho:∀d e,e∈L->orc d k (first++.agg (Qf e)::cap)=.bool (P e)):
  Pure Tryz.prog az 106 [.sl .ro (L.map Qf),.fn k first cap] (I (Uq P L 0)):=by
 refine Qn MB orc (by simp) ?_;simp[Tr];refine Qj iF (fun f m=>∃i:Nat,f 8=I i/\i<=L.length/\Uq P (L.drop i) i=Uq P L 0/\m=⟨[],[],fun _=>.gone,0⟩) (fun f _=>L.length-(numOf (f 8)).toNat) ?_ ?_
 ·exact⟨0,by simp,by omega,by simp,rfl⟩
 rintro f m ⟨i,f8,hi,hr,rfl⟩;rcases zzaa i L.length with ai|bB
 ·obtain⟨a,ha⟩:=aR ai;have aa:Qh (L.map Qf) i=Qf a:=Qs (by simp[ha]);have ah:(i:Int)<(L.length:Int):=by omega
  have hw:=bJ i (by omega);have hd:L.drop i=a::L.drop (i+1):=by rw[zzaf ai,(zza.1 ha).2]
  have iP:=hp a (zzac ha);have ZE:=fun d=>ho d a (zzac ha);rw[hd,Uq]at hr;simp only[Qf]at iP ZE;cases hP:P a with
  |true=>
   rw[hP]at iP ZE;rw[if_pos hP]at hr;simp[f8,iF,MA,ah,aa,Qf,h1,h2,ZE];exact⟨iP,hr⟩
  |false=>
   rw[hP]at iP ZE;rw[if_neg (by simp[hP])]at hr;simp[f8,iF,ah,aa,Qf,h1,h2,ZE,hw];refine⟨iP,aN,⟨i+1,by simp,by omega,hr⟩,by omega⟩
 obtain rfl:i=L.length:=by omega
 rw[zzbr,Uq]at hr;simp[f8,iF,MA];exact hr
def Ro(e:bE)(f:Int)(h:Ue e)(hf:nM f):Pure Tryz.prog az 281 [.agg [I f],.agg (Qf e)] (.bool (Ws f e)):=by
 refine Qn adM (fun _ _ _=>.junk) (by simp) ?_;obtain⟨⟨a1,a2⟩,⟨a3,a4⟩,_⟩:=h;obtain⟨a5,a6⟩:=hf;by_cases h1:e.st<=f
 ·have w1:=wu e.st (by omega) (by omega);have w2:=wu f (by omega) (by omega);have w3:=wu (f-e.st) (by omega) (by omega);have w4:=wu e.fr (by omega) (by omega);by_cases h2:0<e.fr
  ·have:(f-e.st<e.fr)=(f<e.st+e.fr):=by apply propext;omega
   simp[Np,Nq,Qf,h1,h2,Ws,w1,w2,w3,w4,this]
  have:¬f<e.st+e.fr:=by omega
  simp[Np,Nq,Qf,h1,h2,Ws,this]
 simp[Np,Nq,Qf,h1,Ws]
def Ln(e:bE)(row:List AV)(id:Int):Pure Tryz.prog az 282 [.agg (Qf e),.ep (I id::row) 0] (.bool (decide (e.id=id))):=by
 refine Qn adN (fun _ _ _=>.junk) (by simp) ?_;simp[aio,aip,Qf];rw[zzbl];simp
def sF(n:Int):Prop:= -9223372036854775808<=n/\n<=9223372036854775807
open Go Go.Abs
def GG(L:List En)(P:En->Bool)(k:FuncId)(first cap:List AV)(hl:L.length<=1000000000)(h1:∀m,first.map (bF m 6)=first)(h2:∀m,cap.map (bF m 6)=cap)
  (hp:∀e∈L,Pure Tryz.prog az k (first++.agg (Qd e)::cap) (.bool (P e)))(orc:Nat->FuncId->List AV->AV)(ho:∀d e,e∈L->orc d k (first++.agg (Qd e)::cap)=.bool (P e)):
  Pure Tryz.prog az 218 [.sl .ro (L.map Qd),.fn k first cap] (I (Uq P L 0)):=by
 refine Qn BK orc (by simp) ?_;simp[M9];refine Qj eW (fun f m=>∃i:Nat,f 8=I i/\i<=L.length/\Uq P (L.drop i) i=Uq P L 0/\m=⟨[],[],fun _=>.gone,0⟩) (fun f _=>L.length-(numOf (f 8)).toNat) ?_ ?_
 ·exact⟨0,by simp,by omega,by simp,rfl⟩
 rintro f m ⟨i,f8,hi,hr,rfl⟩;rcases zzaa i L.length with ai|bB
 ·obtain⟨a,ha⟩:=aR ai;have aa:Qh (L.map Qd) i=Qd a:=Qs (by simp[ha]);have ah:(i:Int)<(L.length:Int):=by omega
  have hw:=bJ i (by omega);have hd:L.drop i=a::L.drop (i+1):=by rw[zzaf ai,(zza.1 ha).2]
  have iP:=hp a (zzac ha);have ZE:=fun d=>ho d a (zzac ha);rw[hd,Uq]at hr;simp only[Qd]at iP ZE;cases hP:P a with
  |true=>
   rw[hP]at iP ZE;rw[if_pos hP]at hr;simp[f8,eW,zV,ah,aa,Qd,h1,h2,ZE];exact⟨iP,hr⟩
  |false=>
   rw[hP]at iP ZE;rw[if_neg (by simp[hP])]at hr;simp[f8,eW,ah,aa,Qd,h1,h2,ZE,hw];refine⟨iP,aN,?_⟩
   ·exact⟨⟨i+1,by simp,by omega,hr⟩,by omega⟩
 obtain rfl:i=L.length:=by omega
 rw[zzbr,Uq]at hr;simp[f8,eW,zV];exact hr
def GH(e:En)(id:Int):Pure Tryz.prog az 278 [.agg (Qd e),.ep [I id] 0] (.bool (decide (e.id=id))):=by
 refine Qn adL (fun _ _ _=>.junk) (by simp) ?_;simp[aim,ain,Qd];rw[zzbl];simp
def Qu(g:Pg)(f:Int)(mid:Nat):List AV:=Qo g++[I f,.mp mid]
def Uz(g:Pg)(id:Int):Int:=Uq (fun e:En=>decide (e.id=id)) g.p.ens 0
def Rp(Y:YT)(m:AM)(g:Pg)(f:Int)(mid:Nat)(id:Int)(hl:g.p.ens.length<=1000000000):an Tryz.prog az Y 211 [.agg (Qu g f mid),I id] m (fun r m'=>m'=m/\r=I (Uz g id)):=by
 obtain⟨mb,ml,ms,mn⟩:=m;have k:=GG g.p.ens (fun e:En=>decide (e.id=id)) 278 [] [.ep [I id] 0] hl (fun _=>rfl) (fun _=>by simp) (fun e _=>GH e id) (fun _ _ xs=>match xs with|.agg (.int _ n::_)::_=>.bool (decide (n=id))|_=>.junk) (fun _ e _=>rfl);refine an.read (Xd ac2 (fun _ _ _=>I (Uz g id)) (by simp) ?_);simp[ahJ,ahK,Qu,Qo,Qc,Uz];exact⟨k,.int _ _⟩
def kX{p:Prop}(h:p:=by repeat'(first|exact Idle.int _ _|exact Idle.bool _|exact Idle.str _|exact Idle.ro _|exact Idle.nil _|exact Idle.full _|exact List.forall_mem_nil _|refine List.forall_mem_cons.2 ⟨?_,?_⟩|refine Idle.aV ?_|refine Idle.agg ?_)):p:=h
def fS(bx:List (List AV))(mid:Nat)(b:List (Int×Bool)):Prop:=mid<bx.length/\Qh bx mid=[.aK 0 (bH .bool b)]
def fS.ext{bx:List (List AV)}{mid:Nat}{b:List (Int×Bool)}(h:fS bx mid b)(ex:List (List AV)):Qh (bx++ex) mid=[.aK 0 (bH .bool b)]:=by rw[Ql h.1,h.2]
def yP(b:List (Int×Bool))(id:Int):Bool:=(af id b).getD false
def Jg(g:Pg)(f:Int)(b:List (Int×Bool)):Option bE:=match g.ev.find? (Ws f)with
 |none=>none
 |some e=>if e.id=0 then none else if yP b e.id=true then some e else none
def qZ(g:Pg)(id:Int):Int:=match g.ev.find? (fun e=>decide (e.id=id))with
 |none=>0
 |some e=>e.st
def uk(f:Int)(e:bE):bE:={e with st:=f,fr:=e.fr-(f-e.st),i:=e.i+(f-e.st)}
def Ul(g:Pg)(f:Int)(b:List (Int×Bool)):AV:=match Jg g f b with
 |none=>.aV [.agg [I 0,I 0,I 0,I 0,I 0,I 0,.sl .nil []],I 0,.bool false]
 |some e=>.aV [.agg (Qf (uk f e)),I (qZ g e.id),.bool true]
def ZF(Y:YT)(m:AM)(g:Pg)(f:Int)(mid:Nat)(b:List (Int×Bool))(hl:g.ev.length<=1000000000)(hs:∀e∈g.ev,Ue e)(hf:nM f)(hb:fS m.boxes mid b):
  an Tryz.prog az Y 224 [.agg (Qu g f mid)] m (fun r m'=>m'=m/\r=Ul g f b):=by
 obtain⟨mb,ml,ms,mn⟩:=m;have hB:∀ex,Qh (mb++ex) mid=[.aK 0 (bH .bool b)]:=hb.ext;have hN:∀n:Nat,¬(n:Int)<0:=fun n=>by omega
 have k1:=xG g.ev (Ws f) 281 [.agg [I f]] [] hl (fun _=>by simp) (fun _=>by simp) (fun e he=>Ro e f (hs e he) hf) (fun _ _ xs=>match xs with|[_,.agg [_,_,.int _ st,.int _ fr,_,_,_]]=>.bool (Ws f ⟨0,0,st,fr,0,0,[],false⟩)|_=>.junk) (fun _ e _=>rfl)
 have k2:∀(row:List AV)(id:Int),Pure Tryz.prog az 106 [.sl .ro (g.ev.map Qf),.fn 282 [] [.ep (I id::row) 0]] (I (Uq (fun e=>decide (e.id=id)) g.ev 0)):=fun row id=>
  xG g.ev (fun e=>decide (e.id=id)) 282 [] [.ep (I id::row) 0] hl (fun _=>by simp) (fun _=>by simp) (fun e _=>Ln e row id) (fun _ _ xs=>match xs with|.agg (.int _ n::_)::_=>.bool (decide (n=id))|_=>.junk) (fun _ e _=>rfl)
 cases h1:g.ev.find? (Ws f)with
 |none=>
  rw[Qcr h1]at k1;refine an.read (Xd Na (fun _ _ _=>I (-1)) (by simp) ?_);simp[zW,zX,Qu,Qo,Qc,Ul,Jg,h1];exact⟨k1,kX⟩
 |some e=>
  obtain⟨n,g1,g2,g3⟩:=Kv (i:=0) h1;have k2':=k2;have hn:n<g.ev.length:=(zza.1 g2).1;have dH:=zzac g2
  have hex:(g.ev.find? fun e'=>decide (e'.id=e.id)).isSome=true:=by
   rw[List.find?_isSome];exact⟨e,dH,by simp⟩
  obtain⟨e2,he2⟩:=zzco.1 hex;obtain⟨n2,q1,q2,q3⟩:=Kv (i:=0) he2;have rO:n2<g.ev.length:=(zza.1 q2).1;rw[g1,zzbt]at k1;have r1:Qh (g.ev.map Qf) n=Qf e:=Qs (by simp[g2]);have r2:Qh (g.ev.map Qf) n2=Qf e2:=Qs (by simp[q2]);have rR:(n:Int)<(g.ev.length:Int):=by omega
  have awt:(n2:Int)<(g.ev.length:Int):=by omega
  obtain⟨⟨a1,a2⟩,⟨a3,a4⟩,⟨a5,a6⟩,_⟩:=hs e dH;obtain⟨f1,f2⟩:=hf;have hon:e.st<=f/\f<e.st+e.fr:=by simpa[Ws]using g3
  have w1:IntKind.i64.wrap (f-e.st)=f-e.st:=by rw[Qi]<;>omega
  have w2:IntKind.i64.wrap (e.fr-(f-e.st))=e.fr-(f-e.st):=by rw[Qi]<;>omega
  have w3:IntKind.i64.wrap (e.i+(f-e.st))=e.i+(f-e.st):=by rw[Qi]<;>omega
  refine an.read (Xd Na (fun d _ _=>if d=15 then I n else I n2) (by simp) ?_);have aO:e2.id=e.id:=by simpa using q3
  by_cases h0:e.id=0
  ·simp[zW,zX,Qu,Qo,Qc,Ul,Jg,h1,Qf,rR,r1,h0];exact⟨k1,kX⟩
  rcases Xq AV.bool e.id b 0 with⟨b1,b2,_⟩|⟨u,u',b1,b2,_⟩
  ·simp[zW,zX,Qu,Qo,Qc,Ul,Jg,h1,Qf,rR,r1,h0,yP,b1,b2,hB,hN];exact⟨k1,kX⟩
  cases u with
  |false=>
   simp[zW,zX,Qu,Qo,Qc,Ul,Jg,h1,Qf,rR,r1,h0,yP,b1,b2,hB,hN];exact⟨k1,kX⟩
  |true=>
   have k2:=k2 [I e.it,I e.st,I e.fr,I e.i,I e.re,.sl .ro (e.al.map Qe)] e.id;rw[q1,zzbt]at k2;simp[zW,zX,Qu,Qo,Qc,Ul,Jg,h1,Qf,rR,r1,h0,yP,b1,b2,hB,hN,w1,w2,w3,uk,qZ,he2];refine⟨k1,k2,Za ?_⟩;simp[awt,r2,Qf];exact kX
end Go.Proofs.YtnopaopphmjnmaaGreatDoor
