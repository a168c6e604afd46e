import Derived.Test.YtnopaopphmjnmaaGreatDoorMDMbB
set_option linter.all false
set_option maxRecDepth 100000
set_option maxHeartbeats 64000000
namespace Go.Proofs.YtnopaopphmjnmaaGreatDoor
open Go Go.Abs
def yY:ByteArray:=⟨#[32]⟩
def Qbp{α:Type}(l:List α):l=[]\/∃L b,l=L++[b]:=by
 rcases zzhi l with h|⟨L,b,h⟩
 ·exact .inl h
 exact .inr ⟨L,b,by rw[h,zzhj]⟩
def GP(cq:List ByteArray)(w:ByteArray):List ByteArray:=match cq.getLast? with
 |some r=>if r.size+1+w.size<=32 then cq.dropLast++[r++(yY++w)]else cq++[w]
 |none=>[w]
theorem pR(w:ByteArray):GP [] w=[w]:=rfl
def k8(pre:List ByteArray)(r w:ByteArray):GP (pre++[r]) w=if r.size+1+w.size<=32 then pre++[r++(yY++w)]else pre++[r]++[w]:=by simp[GP]
def lay:List ByteArray->List ByteArray->Option (List ByteArray)
 |cq,[]=>some cq
 |cq,w::r=>if 32<w.size then none else lay (GP cq w) r
def pS:∀(a b cq:List ByteArray),lay cq (a++b)=(lay cq a).bind fun x=>lay x b
 |[],_,_=>rfl
 |w::r,b,cq=>by
  simp only[zzae,lay];split
  ·rfl
  exact pS r b _
def uD(s:ByteArray):∀(n i:Nat)(first:Option Nat),(Z8 s n i first).length<=n+1
 |0,i,first=>by rw[Z8];cases first<;>simp[gV]
 |n+1,i,first=>by
  rw[Z8];split
  ·have:=uD s n (i+1) (some (first.getD i));omega
  have:=uD s n (i+1) none;rw[zzai];have h2:(gV s i first).length<=1:=by cases first<;>simp[gV]
  omega
def aaf(a b:ByteArray):(a++b).size=a.size+b.size:=by simp
def ON{cq:List ByteArray}{w:ByteArray}(h:∀r∈cq,r.size<=32)(hw:w.size<=32):∀r∈GP cq w,r.size<=32:=by
 rcases Qbp cq with rfl|⟨pre,r,rfl⟩
 ·intro x hx;simp[pR]at hx;subst hx;exact hw
 rw[k8];split
 ·intro x hx;rcases zzap.1 hx with hx|hx
  ·exact h x (by simp[hx])
  simp only[zzbr]at hx;subst hx;rw[aaf,aaf];have:yY.size=1:=rfl;omega
 intro x hx;rcases zzap.1 hx with hx|hx
 ·exact h x hx
 simp only[zzbr]at hx;subst hx;exact hw
def GQ(cq:List ByteArray)(w:ByteArray):(GP cq w).length<=cq.length+1:=by
 rcases Qbp cq with rfl|⟨pre,r,rfl⟩
 ·simp[pR]
 rw[k8];split<;>simp
def Je(s:ByteArray):Option (List ByteArray):=if 200<s.size\/RL s=false then none else match lay [] (Ui s)with
 |some l=>if l=[]\/4<l.length then none else some l
 |none=>none
def Vd(l:List ByteArray):List AV:=l.map AV.str
def Kb(r:ByteArray):List AV:=[.str r]
def Jf:Option (List ByteArray)->AV
 |none=>.aU [.sl .nil [],.bool false]
 |some l=>.aU [.sl .ro (l.map Kb),.bool true]
def RV(cq:List ByteArray)(V:AV)(rest:List (List AV)):Prop:=(cq=[]/\V=.sl .nil [])\/(cq≠[]/\∃k,V=.bs (k+3) 0 cq.length 1/\k<rest.length/\Qh rest k=Vd cq)
def atJ(q:List ByteArray)(i:Nat)(m:AM):Prop:=∃(cq:List ByteArray)(rest:List (List AV))(V:AV),lay [] (q.take i)=some cq/\(∀r∈cq,r.size<=32)/\cq.length<=i/\m.boxes=[.sl .nil []]::[.bool false]::[V]::rest/\RV cq V rest
def ax9(q:List ByteArray)(ex:Exit)(m:AM):Prop:=ex=.ret/\lay [] q=none/\∃rest,m.boxes=[.sl .nil []]::[.bool false]::rest
def Bj(s:ByteArray):Nat->FuncId->List AV->AV:=fun d f _=>if f=999999 then(if d=49 then .aK 0 []else .junk)else if f=245 then .bool (RL s)else .fn 303 [] [.ep [.str s] 0]
def xR(l:List ByteArray):aV 1 l.length (Vd l)=l.map Kb:=by
 induction l with
 |nil=>rfl
 |cons a r ih=>
  show aV 1 (r.length+1) (AV.str a::Vd r)=_;rw[wg];simp[ih,Kb]
def pT(m:AM)(d:Nat)(l:List ByteArray):(Vd l).map (bF m (d+1))=Vd l:=by
 induction l with
 |nil=>rfl
 |cons a r ih=>simp[Vd]at ih |-
def RV.ext{cq:List ByteArray}{V:AV}{rest:List (List AV)}(h:RV cq V rest)(ex:List (List AV)):RV cq V (rest++ex):=by
 obtain h|⟨h1,k,h2,h3,h4⟩:=h
 ·exact .inl h
 exact .inr ⟨h1,k,h2,by simp;omega,by rw[Ql h3,h4]⟩
def RN(s:ByteArray):Pure Tryz.prog aq 173 [.str s] (Jf (Je s)):=by
 refine Qn adh (Bj s) (by simp) ?_;by_cases h2:200<s.size
 ·have D4:(200:Int)<(s.size:Int):=by omega
  have:Je s=none:=by rw[Je,if_pos (.inl h2)]
  rw[this];simp[Nj,uZ,D4,Jf]
 have D4:¬(200:Int)<(s.size:Int):=by omega
 have kp:=xO s (by omega);have kw:=LB s;have kit:=LC s (by omega);cases hp:RL s with
 |false=>
  rw[hp]at kp;have:Je s=none:=by rw[Je,if_pos (.inr hp)]
  rw[this];simp[Nj,uZ,D4,Jf,Bj,hp];exact kp
 |true=>
  rw[hp]at kp
  have yW:Je s=match lay [] (Ui s)with
   |some l=>if l=[]\/4<l.length then none else some l
   |none=>none:=by rw[Je,if_neg (by simp[hp];omega)]
  rw[yW];have hql:(Ui s).length<=201:=by have:=uD s s.size 0 none;unfold Ui;omega
  generalize Ui s=q at kit hql;simp[Nj,D4,Bj,hp];refine⟨kp,kw,?_⟩;refine jh (xs:=q.map fun w=>[.str w]) (by simp) kit (by intro x hx;simp at hx;obtain⟨a,_,rfl⟩:=hx;rfl) (atJ q) (ax9 q) ?_ ?_ ?_ ?_ ?_ ?_
  ·exact⟨[],[],.sl .nil [],rfl,fun _ h=>(by cases h),by simp,by simp,.inl ⟨rfl,rfl⟩⟩
  ·rintro i m m' ⟨cq,rest,V,g1,g2,g3,g4,g5⟩ ⟨⟨b2,e2⟩,_,_⟩;exact⟨cq,rest++b2,V,g1,g2,g3,by rw[e2,g4];simp,g5.ext b2⟩
  ·rintro ex m m' ⟨g1,g2,rest,g3⟩ ⟨⟨b2,e2⟩,_,_⟩;exact⟨g1,g2,rest++b2,by rw[e2,g3];simp⟩
  ·rintro l1 i m x hg hr ⟨cq,rest,V,g1,g2,g3,g4,g5⟩ hx K' k1 k2 k3
   obtain⟨w,hy,rfl⟩:∃w,q[i]?=some w/\[AV.str w]=x:=by
    rw[zzbl]at hx;cases hq:q[i]? with
    |none=>rw[hq]at hx;cases hx
    |some y=>rw[hq]at hx;exact⟨y,rfl,Option.some.inj hx⟩
   have ai:i<q.length:=(zza.1 hy).1;have bA:q.take (i+1)=q.take i++[w]:=by rw[zzar,hy];rfl
   have ef:lay [] (q.take (i+1))=if 32<w.size then none else some (GP cq w):=by
    rw[bA,pS,g1];simp[lay]
   rw[Uc]at g4;obtain⟨mb,ml,ms,mn⟩:=m;simp only at g4 hr;subst g4;by_cases hw:32<w.size
   ·have Iu:(32:Int)<(w.size:Int):=by omega
    simp[Zi,hr,Iu];refine k2 _ ⟨rfl,?_,_,rfl⟩;have hq:q=q.take (i+1)++q.drop (i+1):=(zzd _ _).symm;rw[hq,pS,ef,if_pos hw];rfl
   have Iu:¬(32:Int)<(w.size:Int):=by omega
   rw[if_neg hw]at ef;have hsz:=ON g2 (by omega:w.size<=32);have dx:=GQ cq w;obtain⟨h0,hV⟩|⟨h0,k,hV,cZ,dw⟩:=g5
   ·subst h0;subst hV;have oI:IntKind.i64.wrap (-1)= -1:=by rw[Qk]<;>omega
    simp[Zi,hr,Iu,Bj,oI];refine k1 _ ⟨[w],rest++[[.str w]],.bs (rest.length+3) 0 1 1,by rw[ef,pR],fun r h=>by simp at h;subst h;omega,by simp,by simp,.inr ⟨by simp,rest.length,rfl,by simp,by simp[Vd]⟩⟩
   subst hV;obtain⟨pre,r,rfl⟩:=(Qbp cq).resolve_left h0;have bX:pre.length+1<=i:=by simpa using g3
   have oI:IntKind.i64.wrap (pre.length:Int)=(pre.length:Int):=by rw[Qk]<;>omega
   have r8:(Vd (pre++[r])).length=pre.length+1:=by simp[Vd]
   have aya:=g2 r (by simp);have hsC:Vd (pre++[r])=Vd pre++[.str r]:=by simp[Vd]
   have gC:(Vd pre).length=pre.length:=by simp[Vd]
   have LI:(Vd (pre++[r])).take (pre.length+1)=Vd (pre++[r]):=zzam (by omega);have dZ:(Vd (pre++[r])).drop pre.length=[.str r]:=by rw[hsC,<- gC,zzff]
   have eO:IntKind.i64.wrap ((r.size:Int)+1)=(r.size:Int)+1:=by rw[Qk]<;>omega
   have eC:IntKind.i64.wrap ((r.size:Int)+1+(w.size:Int))=(r.size:Int)+1+(w.size:Int):=by rw[Qk]<;>omega
   rw[k8]at ef hsz dx;by_cases hc:r.size+1+w.size<=32
   ·rw[if_pos hc]at ef hsz dx;have qi:(r.size:Int)+1+(w.size:Int)<=32:=by omega
    have bW:(Vd (pre++[r])).set pre.length (.str (r++(yY++w)))=Vd (pre++[r++(yY++w)]):=by
     rw[hsC,<- gC,zzcq _ _ (zzab _)];simp[Vd]
    simp only[yY]at bW;simp[Zi,hr,Iu,Bj,oI,dw,dZ,r8,eO,eC,qi,bW]
    have hrk:Qh (rest.set k (Vd (pre++[r++(yY++w)]))) k=Vd (pre++[r++(yY++w)]):=by
     simp[Qh,zzas,-Vl,cZ]
    have hs1:yY.size=1:=rfl;refine⟨by omega,(by show yY.size+w.size<=_;omega),(by show r.size+(yY.size+w.size)<=_;omega),by omega,cZ,k1 _ ⟨pre++[r++(yY++w)],rest.set k (Vd (pre++[r++(yY++w)])),.bs (k+3) 0 (pre.length+1) 1,ef,hsz,by simp;omega,by simp[yY],.inr ⟨by simp,k,by simp,by simpa using cZ,hrk⟩⟩⟩
   rw[if_neg hc]at ef hsz dx;have qi:¬(r.size:Int)+1+(w.size:Int)<=32:=by omega
   simp[Zi,hr,Iu,Bj,oI,dw,dZ,r8,eO,eC,qi];have aJ:¬Vd (pre++[r])=[]:=fun h=>by rw[h]at r8;simp at r8
   have hR:(rest.set k []).length=rest.length:=by simp
   refine⟨by omega,⟨⟨cZ,aJ⟩,by omega⟩,k1 _ ⟨pre++[r]++[w],rest.set k []++[Vd (pre++[r])++[.str w]],.bs (rest.length+3) 0 (pre.length+1+1) 1,ef,hsz,by simp;omega,by simp[LI],.inr ⟨by simp,rest.length,by simp,by simp,?_⟩⟩⟩;rw[<- hR,Fw];simp[Vd]
  ·rintro m ⟨cq,rest,V,g1,g2,g3,g4,g5⟩;rw[zzbg,zzbn]at g1;rw[g1];obtain⟨mb,ml,ms,mn⟩:=m;simp only at g4;subst g4;obtain⟨h0,hV⟩|⟨h0,k,hV,cZ,dw⟩:=g5
   ·subst h0;subst hV;simp[uZ,Jf]
   subst hV;have aI:¬cq.length=0:=fun h=>h0 (zzc.1 h);have r8:(Vd cq).length=cq.length:=by simp[Vd]
   by_cases h4:4<cq.length
   ·have IB:(4:Int)<(cq.length:Int):=by omega
    simp[uZ,Jf,h0,h4,IB]
   have IB:¬(4:Int)<(cq.length:Int):=by omega
   have zK:=fun m=>pT m 4 cq;have anW:=fun m=>pT m 3 cq;have jg:=xR cq;simp[uZ,Jf,h0,h4,IB,dw,anW,jg,r8]
  rintro ex m ⟨rfl,g2,rest,g3⟩;rw[g2];simp[uZ,g3,Jf]
open Go Go.Abs
def sO(c:Cue):Bool:=if c.id<1\/4611686018427387903<c.id then false else if c.to=0 then decide (c.fr=0/\c.pr=0/\c.tx=eB)else
 if c.fr<0\/c.to<=c.fr\/100000000<c.to then false else if c.pr<0\/3<c.pr then false else(Je c.tx).isSome
def sP(c:Cue):Pure Tryz.prog aq 84 [.agg (Qj c)] (.bool (sO c)):=by
 have k:=RN c.tx;refine Qn amh (fun _ _ _=>Jf (Je c.tx)) (by simp) ?_;by_cases h1:c.id<1
 ·simp[uR,uT,Qj,h1,sO]
 by_cases h2:4611686018427387903<c.id
 ·simp[uR,uT,Qj,h1,h2,sO]
 by_cases h3:c.to=0
 ·simp[uR,uT,Qj,h1,h2,h3,sO];rw[zzbh];simp[jP]
 by_cases h4:c.fr<0
 ·simp[uR,uT,Qj,h1,h2,h3,h4,sO]
 by_cases h5:c.to<=c.fr
 ·simp[uR,uT,Qj,h1,h2,h3,h4,h5,sO]
 by_cases h6:100000000<c.to
 ·simp[uR,uT,Qj,h1,h2,h3,h4,h5,h6,sO]
 by_cases h7:c.pr<0
 ·simp[uR,uT,Qj,h1,h2,h3,h4,h5,h6,h7,sO]
 by_cases h8:3<c.pr
 ·simp[uR,uT,Qj,h1,h2,h3,h4,h5,h6,h7,h8,sO]
 cases hr:Je c.tx with
 |none=>
  rw[hr]at k;simp[uR,uT,Qj,h1,h2,h3,h4,h5,h6,h7,h8,sO,hr,Jf];exact k
 |some l=>
  rw[hr]at k;simp[uR,uT,Qj,h1,h2,h3,h4,h5,h6,h7,h8,sO,hr,Jf];exact k
def lg:En:=⟨0,0,0,0,0,0,[]⟩
def nP:Cl:=⟨0,0,0,0,0,0,0,0⟩
def nQ:Cue:=⟨0,0,0,0,eB⟩
def Jg(o:Od):Od:=if o.ki=1 then{o with n:=0,en:=0}else if o.ki=2 then{o with en:=0}else if o.ki=3 then{o with nw:=lg}else if o.ki=4 then{o with cl:=nP}else{o with cu:=nQ}
def okB(o:Od):Bool:=if o.ki=1 then eL o.en else if o.ki=2 then eL o.en else if o.ki=3 then yX o.nw else if o.ki=4 then Xi o.cl else sO o.cu
def Xr(o:Od):Bool:=if o.sq<0\/200<o.sq\/o.ch< -1\/40<=o.ch then false else if o.fr<0\/100000000<o.fr then false else
 if o.ki<1\/5<o.ki then false else if o.ki=1/\(o.n< -100000000\/100000000<o.n)then false else okB o&&Jm (Jg o)
def jQ(a b:Bool):Nat->FuncId->List AV->AV:=fun _ f _=>if f=81 then .bool b else .bool a
def sQ(o:Od)(hl:o.nw.al.length<=8796093022208):Pure Tryz.prog aq 40 [.agg (Qp o)] (.bool (Xr o)):=by
 have kb:=LA (Jg o);have kk:o.ki=3\/Pure Tryz.prog aq 81 [.agg (Qp (Jg o))] (.bool (Jm (Jg o))):=.inr kb;refine Qn alA (jQ (okB o) (Jm (Jg o))) (by simp) ?_;by_cases a1:o.sq<0
 ·simp[fI,fJ,Qp,Qd,Qg,Qj,a1,Xr]
 by_cases a2:200<o.sq
 ·simp[fI,fJ,Qp,Qd,Qg,Qj,a1,a2,Xr]
 by_cases a3:o.ch< -1
 ·simp[fI,fJ,Qp,Qd,Qg,Qj,a1,a2,a3,Xr]
 by_cases a4:40<=o.ch
 ·simp[fI,fJ,Qp,Qd,Qg,Qj,a1,a2,a3,a4,Xr]
 by_cases a5:o.fr<0
 ·simp[fI,fJ,Qp,Qd,Qg,Qj,a1,a2,a3,a4,a5,Xr]
 by_cases a6:100000000<o.fr
 ·simp[fI,fJ,Qp,Qd,Qg,Qj,a1,a2,a3,a4,a5,a6,Xr]
 have hA:¬(o.sq<0\/200<o.sq\/o.ch< -1\/40<=o.ch):=by omega
 have hB:¬(o.fr<0\/100000000<o.fr):=by omega
 have hv:Xr o=if o.ki<1\/5<o.ki then false else if o.ki=1/\(o.n< -100000000\/100000000<o.n)then false else okB o&&Jm (Jg o):=by rw[Xr,if_neg hA,if_neg hB]
 rw[hv];by_cases k1:o.ki=1
 ·have c1:¬(o.ki<1\/5<o.ki):=by omega
  rw[if_neg c1];by_cases b1:o.n< -100000000
  ·rw[if_pos ⟨k1,.inl b1⟩];simp[fI,fJ,Qp,Qd,Qg,Qj,a1,a2,a3,a4,a5,a6,k1,b1]
  by_cases b2:100000000<o.n
  ·rw[if_pos ⟨k1,.inr b2⟩];simp[fI,fJ,Qp,Qd,Qg,Qj,a1,a2,a3,a4,a5,a6,k1,b1,b2]
  rw[if_neg (by omega)];have q:=Kv o.en;have hk:okB o=eL o.en:=by rw[okB,if_pos k1]
  have hr:Jg o={o with n:=0,en:=0}:=by rw[Jg,if_pos k1]
  rw[hr]at kb |-
  rw[hk];simp only[Qp,Qd,Qg,Qj,k1]at kb;cases hi:eL o.en with
  |false=>
   rw[hi]at q;simp[fI,fJ,Qp,Qd,Qg,Qj,a1,a2,a3,a4,a5,a6,k1,b1,b2,jQ];exact q
  |true=>
   rw[hi]at q;simp[fI,fJ,Qp,Qd,Qg,Qj,a1,a2,a3,a4,a5,a6,k1,b1,b2,jQ];exact⟨q,kb⟩
 by_cases k2:o.ki=2
 ·have c1:¬(o.ki<1\/5<o.ki):=by omega
  rw[if_neg c1,if_neg (by omega)];have q:=Kv o.en;have hk:okB o=eL o.en:=by rw[okB,if_neg k1,if_pos k2]
  have hr:Jg o={o with en:=0}:=by rw[Jg,if_neg k1,if_pos k2]
  rw[hr]at kb |-
  rw[hk];simp only[Qp,Qd,Qg,Qj,k2,zzae,zzah]at kb;try simp only[Qd,Qg,Qj]at q
  cases hi:eL o.en with
  |false=>
   rw[hi]at q;simp[fI,fJ,Qp,Qd,Qg,Qj,a1,a2,a3,a4,a5,a6,k2,jQ];exact q
  |true=>
   rw[hi]at q;simp[fI,fJ,Qp,Qd,Qg,Qj,a1,a2,a3,a4,a5,a6,k2,jQ];exact⟨q,kb⟩
 by_cases k3:o.ki=3
 ·have c1:¬(o.ki<1\/5<o.ki):=by omega
  rw[if_neg c1,if_neg (by omega)];have q:=tV o.nw hl;have hk:okB o=yX o.nw:=by rw[okB,if_neg k1,if_neg k2,if_pos k3]
  have hr:Jg o={o with nw:=lg}:=by rw[Jg,if_neg k1,if_neg k2,if_pos k3]
  rw[hr]at kb |-
  rw[hk];simp only[Qp,Qd,Qg,Qj,k3,lg,zzce,zzae,zzah]at kb;have kb:=Zj (l:=[.agg [I o.sq,I o.ch,I o.fr,I 3,I o.en,I o.n,I 0,I 0,I 0,I 0,I 0,I 0,.sl .nil [],I o.cl.ki,I o.cl.it,I o.cl.fr,I o.cl.to,I o.cl.re,I o.cl.n,I o.cl.a,I o.cl.b,I o.cu.id,I o.cu.fr,I o.cu.to,I o.cu.pr,.str o.cu.tx]]) kb ⟨Qdh ⟨Wk.refl _,Wk.refl _,Wk.refl _,Wk.refl _,Wk.refl _,Wk.refl _,Wk.refl _,Wk.refl _,Wk.refl _,Wk.refl _,Wk.refl _,Wk.refl _,Wk.sl _ _,Wk.refl _,Wk.refl _,Wk.refl _,Wk.refl _,Wk.refl _,Wk.refl _,Wk.refl _,Wk.refl _,Wk.refl _,Wk.refl _,Wk.refl _,Wk.refl _,Wk.refl _,trivial⟩,trivial⟩;try simp only[Qd]at q
  cases hi:yX o.nw with
  |false=>
   rw[hi]at q;simp[fI,fJ,Qp,Qd,Qg,Qj,a1,a2,a3,a4,a5,a6,k3,jQ];exact q
  |true=>
   rw[hi]at q;simp[fI,fJ,Qp,Qd,Qg,Qj,a1,a2,a3,a4,a5,a6,k3,jQ,lg];exact⟨q,kb⟩
 by_cases k4:o.ki=4
 ·have c1:¬(o.ki<1\/5<o.ki):=by omega
  rw[if_neg c1,if_neg (by omega)];have q:=Ko o.cl;have hk:okB o=Xi o.cl:=by rw[okB,if_neg k1,if_neg k2,if_neg k3,if_pos k4]
  have hr:Jg o={o with cl:=nP}:=by rw[Jg,if_neg k1,if_neg k2,if_neg k3,if_pos k4]
  rw[hr]at kb |-
  rw[hk];simp only[Qp,Qd,Qg,Qj,k4,nP,zzae,zzah]at kb;try simp only[Qg]at q
  cases hi:Xi o.cl with
  |false=>
   rw[hi]at q;simp[fI,fJ,Qp,Qd,Qg,Qj,a1,a2,a3,a4,a5,a6,k4,jQ];exact q
  |true=>
   rw[hi]at q;simp[fI,fJ,Qp,Qd,Qg,Qj,a1,a2,a3,a4,a5,a6,k4,jQ,nP];exact⟨q,kb⟩
 by_cases k5:o.ki=5
 ·have c1:¬(o.ki<1\/5<o.ki):=by omega
  rw[if_neg c1,if_neg (by omega)];have q:=sP o.cu;have hk:okB o=sO o.cu:=by rw[okB,if_neg k1,if_neg k2,if_neg k3,if_neg k4]
  have hr:Jg o={o with cu:=nQ}:=by rw[Jg,if_neg k1,if_neg k2,if_neg k3,if_neg k4]
  rw[hr]at kb |-
  rw[hk];simp only[Qp,Qd,Qg,Qj,k5,nQ,zzae,zzah]at kb;simp only[Qj]at q;cases hi:sO o.cu with
  |false=>
   rw[hi]at q;simp[fI,fJ,Qp,Qd,Qg,Qj,a1,a2,a3,a4,a5,a6,k5,jQ];exact q
  |true=>
   rw[hi]at q;simp[fI,fJ,Qp,Qd,Qg,Qj,a1,a2,a3,a4,a5,a6,k5,jQ,nQ];exact⟨q,kb⟩
 rw[if_pos (by omega)];simp[fI,fJ,Qp,Qd,Qg,Qj,a1,a2,a3,a4,a5,a6,k1,k2,k3,k4,k5]
open Go Go.Abs
def LJ(g:Pg)(o:Od):Bool:=Xr o&&(decide (o.ch= -1)||decide (o.ch=g.p.ch))
def GR(g:Pg)(o:Od)(hl:o.nw.al.length<=8796093022208):Pure Tryz.prog aq 68 [.agg (Qo g),.agg (Qp o)] (.bool (LJ g o)):=by
 have k:=sQ o hl;simp only[Qp,Qd,Qg,Qj,zzae,zzah]at k;refine Qn al0 (fun _ _ _=>.bool (Xr o)) (by simp) ?_;cases hv:Xr o with
 |false=>
  rw[hv]at k;simp[ab4,ab5,Qo,Qc,Qp,Qd,Qg,Qj,hv,LJ];exact k
 |true=>
  rw[hv]at k;by_cases h1:o.ch= -1
  ·simp[ab4,ab5,Qo,Qc,Qp,Qd,Qg,Qj,hv,LJ,h1];rw[h1]at k;exact k
  simp[ab4,ab5,Qo,Qc,Qp,Qd,Qg,Qj,hv,LJ,h1];refine⟨k,?_⟩;rw[zzbh];simp[h1]
def Uo{α:Type}(P:α->Bool):List α->Nat->Int
 |[],_=> -1
 |x::r,i=>if P x=true then i else Uo P r (i+1)
def Qcu{α:Type}{P:α->Bool}:∀{L:List α}{i:Nat},L.find? P=none->Uo P L i= -1
 |[],_,_=>rfl
 |a::r,i,h=>by
  rw[zzf]at h;split at h
  ·cases h
  rename_i hn;rw[Uo,if_neg (by simp[hn])];exact Qcu h
def Kw{α:Type}{P:α->Bool}{a:α}:∀{L:List α}{i:Nat},L.find? P=some a->∃k:Nat,Uo P L i=((i+k:Nat):Int)/\L[k]?=some a/\P a=true
 |[],_,h=>by cases h
 |b::r,i,h=>by
  rw[zzf]at h;split at h
  ·rename_i hb;cases h;exact⟨0,by simp[Uo,hb],rfl,hb⟩
  rename_i hn;obtain⟨k,h1,h2,h3⟩:=Kw (i:=i+1) h;exact⟨k+1,by rw[Uo,if_neg (by simp[hn]),h1];omega,by simpa using h2,h3⟩
def xS(L:List bD)(P:bD->Bool)(k:FuncId)(first cap:List AV)(hl:L.length<=1000000000)(h1:∀m,first.map (bF m 6)=first)(h2:∀m,cap.map (bF m 6)=cap)
  (hp:∀e∈L,Pure Tryz.prog aq k (first++.agg (Qf e)::cap) (.bool (P e)))(orc:Nat->FuncId->List AV->AV)(ho:∀d e,e∈L->orc d k (first++.agg (Qf e)::cap)=.bool (P e)):
  Pure Tryz.prog aq 106 [.sl .ro (L.map Qf),.fn k first cap] (I (Uo P L 0)):=by
 refine Qn MX orc (by simp) ?_;simp[TW];refine Qi iK (fun f m=>∃i:Nat,f 8=I i/\i<=L.length/\Uo P (L.drop i) i=Uo P L 0/\m=⟨[],[],fun _=>.gone,0⟩) (fun f _=>L.length-(numOf (f 8)).toNat) ?_ ?_
 ·exact⟨0,by simp,by omega,by simp,rfl⟩
 rintro f m ⟨i,f8,hi,hr,rfl⟩;rcases zzaa i L.length with ai|bw
 ·obtain⟨a,ha⟩:=aP ai;have aa:Qh (L.map Qf) i=Qf a:=Qr (by simp[ha]);have ah:(i:Int)<(L.length:Int):=by omega
  have hw:=bH i (by omega);have hd:L.drop i=a::L.drop (i+1):=by rw[zzaf ai,(zza.1 ha).2]
  have iU:=hp a (zzac ha);have hoa:=fun d=>ho d a (zzac ha);rw[hd,Uo]at hr;simp only[Qf]at iU hoa;cases hP:P a with
  |true=>
   rw[hP]at iU hoa;rw[if_pos hP]at hr;simp[f8,iK,MW,ah,aa,Qf,h1,h2,hoa];exact⟨iU,hr⟩
  |false=>
   rw[hP]at iU hoa;rw[if_neg (by simp[hP])]at hr;simp[f8,iK,ah,aa,Qf,h1,h2,hoa,hw];refine⟨iU,aN,⟨i+1,by simp,by omega,hr⟩,by omega⟩
 obtain rfl:i=L.length:=by omega
 rw[zzbo,Uo]at hr;simp[f8,iK,MW];exact hr
def RO(e:bD)(f:Int)(h:Uf e)(hf:nR f):Pure Tryz.prog aq 281 [.agg [I f],.agg (Qf e)] (.bool (Wt f e)):=by
 refine Qn aet (fun _ _ _=>.junk) (by simp) ?_;obtain⟨⟨a1,a2⟩,⟨a3,a4⟩,_⟩:=h;obtain⟨a5,a6⟩:=hf;by_cases h1:e.st<=f
 ·have w1:=wu e.st (by omega) (by omega);have w2:=wu f (by omega) (by omega);have w3:=wu (f-e.st) (by omega) (by omega);have w4:=wu e.fr (by omega) (by omega);by_cases h2:0<e.fr
  ·have:(f-e.st<e.fr)=(f<e.st+e.fr):=by apply propext;omega
   simp[NN,NO,Qf,h1,h2,Wt,w1,w2,w3,w4,this]
  have:¬f<e.st+e.fr:=by omega
  simp[NN,NO,Qf,h1,h2,Wt,this]
 simp[NN,NO,Qf,h1,Wt]
def LK(e:bD)(row:List AV)(id:Int):Pure Tryz.prog aq 282 [.agg (Qf e),.ep (I id::row) 0] (.bool (decide (e.id=id))):=by
 refine Qn aeu (fun _ _ _=>.junk) (by simp) ?_;simp[ajp,ajq,Qf];rw[zzbh];simp
def sR(n:Int):Prop:= -9223372036854775808<=n/\n<=9223372036854775807
open Go Go.Abs
def GU(L:List En)(P:En->Bool)(k:FuncId)(first cap:List AV)(hl:L.length<=1000000000)(h1:∀m,first.map (bF m 6)=first)(h2:∀m,cap.map (bF m 6)=cap)
  (hp:∀e∈L,Pure Tryz.prog aq k (first++.agg (Qd e)::cap) (.bool (P e)))(orc:Nat->FuncId->List AV->AV)(ho:∀d e,e∈L->orc d k (first++.agg (Qd e)::cap)=.bool (P e)):
  Pure Tryz.prog aq 218 [.sl .ro (L.map Qd),.fn k first cap] (I (Uo P L 0)):=by
 refine Qn B8 orc (by simp) ?_;simp[Ny];refine Qi fk (fun f m=>∃i:Nat,f 8=I i/\i<=L.length/\Uo P (L.drop i) i=Uo P L 0/\m=⟨[],[],fun _=>.gone,0⟩) (fun f _=>L.length-(numOf (f 8)).toNat) ?_ ?_
 ·exact⟨0,by simp,by omega,by simp,rfl⟩
 rintro f m ⟨i,f8,hi,hr,rfl⟩;rcases zzaa i L.length with ai|bw
 ·obtain⟨a,ha⟩:=aP ai;have aa:Qh (L.map Qd) i=Qd a:=Qr (by simp[ha]);have ah:(i:Int)<(L.length:Int):=by omega
  have hw:=bH i (by omega);have hd:L.drop i=a::L.drop (i+1):=by rw[zzaf ai,(zza.1 ha).2]
  have iU:=hp a (zzac ha);have hoa:=fun d=>ho d a (zzac ha);rw[hd,Uo]at hr;simp only[Qd]at iU hoa;cases hP:P a with
  |true=>
   rw[hP]at iU hoa;rw[if_pos hP]at hr;simp[f8,fk,Ae,ah,aa,Qd,h1,h2,hoa];exact⟨iU,hr⟩
  |false=>
   rw[hP]at iU hoa;rw[if_neg (by simp[hP])]at hr;simp[f8,fk,ah,aa,Qd,h1,h2,hoa,hw];refine⟨iU,aN,?_⟩
   ·exact⟨⟨i+1,by simp,by omega,hr⟩,by omega⟩
 obtain rfl:i=L.length:=by omega
 rw[zzbo,Uo]at hr;simp[f8,fk,Ae];exact hr
def GV(e:En)(id:Int):Pure Tryz.prog aq 278 [.agg (Qd e),.ep [I id] 0] (.bool (decide (e.id=id))):=by
 refine Qn aes (fun _ _ _=>.junk) (by simp) ?_;simp[ajn,ajo,Qd];rw[zzbh];simp
def Qu(g:Pg)(f:Int)(mid:Nat):List AV:=Qo g++[I f,.mp mid]
def Jb(g:Pg)(id:Int):Int:=Uo (fun e:En=>decide (e.id=id)) g.p.ens 0
def RP(Y:YT)(m:AM)(g:Pg)(f:Int)(mid:Nat)(id:Int)(hl:g.p.ens.length<=1000000000):an Tryz.prog aq Y 211 [.agg (Qu g f mid),I id] m (fun r m'=>m'=m/\r=I (Jb g id)):=by
 obtain⟨mb,ml,ms,mn⟩:=m;have k:=GU g.p.ens (fun e:En=>decide (e.id=id)) 278 [] [.ep [I id] 0] hl (fun _=>rfl) (fun _=>by simp) (fun e _=>GV e id) (fun _ _ xs=>match xs with|.agg (.int _ n::_)::_=>.bool (decide (n=id))|_=>.junk) (fun _ e _=>rfl);refine an.read (Xe adM (fun _ _ _=>I (Jb g id)) (by simp) ?_);simp[aiJ,aiK,Qu,Qo,Qc,Jb];exact⟨k,.int _ _⟩
def lq{p:Prop}(h:p:=by repeat'(first|exact Idle.int _ _|exact Idle.bool _|exact Idle.str _|exact Idle.ro _|exact Idle.nil _|exact Idle.full _|exact List.forall_mem_nil _|refine List.forall_mem_cons.2 ⟨?_,?_⟩|refine Idle.aU ?_|refine Idle.agg ?_)):p:=h
def fW(bx:List (List AV))(mid:Nat)(b:List (Int×Bool)):Prop:=mid<bx.length/\Qh bx mid=[.aK 0 (bI .bool b)]
def fW.ext{bx:List (List AV)}{mid:Nat}{b:List (Int×Bool)}(h:fW bx mid b)(ex:List (List AV)):Qh (bx++ex) mid=[.aK 0 (bI .bool b)]:=by rw[Ql h.1,h.2]
def yZ(b:List (Int×Bool))(id:Int):Bool:=(af id b).getD false
def Jh(g:Pg)(f:Int)(b:List (Int×Bool)):Option bD:=match g.ev.find? (Wt f)with
 |none=>none
 |some e=>if e.id=0 then none else if yZ b e.id=true then some e else none
def rE(g:Pg)(id:Int):Int:=match g.ev.find? (fun e=>decide (e.id=id))with
 |none=>0
 |some e=>e.st
def uE(f:Int)(e:bD):bD:={e with st:=f,fr:=e.fr-(f-e.st),i:=e.i+(f-e.st)}
def Uk(g:Pg)(f:Int)(b:List (Int×Bool)):AV:=match Jh g f b with
 |none=>.aU [.agg [I 0,I 0,I 0,I 0,I 0,I 0,.sl .nil []],I 0,.bool false]
 |some e=>.aU [.agg (Qf (uE f e)),I (rE g e.id),.bool true]
def aag(Y:YT)(m:AM)(g:Pg)(f:Int)(mid:Nat)(b:List (Int×Bool))(hl:g.ev.length<=1000000000)(hs:∀e∈g.ev,Uf e)(hf:nR f)(hb:fW m.boxes mid b):
  an Tryz.prog aq Y 224 [.agg (Qu g f mid)] m (fun r m'=>m'=m/\r=Uk g f b):=by
 obtain⟨mb,ml,ms,mn⟩:=m;have hB:∀ex,Qh (mb++ex) mid=[.aK 0 (bI .bool b)]:=hb.ext;have hN:∀n:Nat,¬(n:Int)<0:=fun n=>by omega
 have k1:=xS g.ev (Wt f) 281 [.agg [I f]] [] hl (fun _=>by simp) (fun _=>by simp) (fun e he=>RO e f (hs e he) hf) (fun _ _ xs=>match xs with|[_,.agg [_,_,.int _ st,.int _ fr,_,_,_]]=>.bool (Wt f ⟨0,0,st,fr,0,0,[],false⟩)|_=>.junk) (fun _ e _=>rfl)
 have k2:∀(row:List AV)(id:Int),Pure Tryz.prog aq 106 [.sl .ro (g.ev.map Qf),.fn 282 [] [.ep (I id::row) 0]] (I (Uo (fun e=>decide (e.id=id)) g.ev 0)):=fun row id=>
  xS g.ev (fun e=>decide (e.id=id)) 282 [] [.ep (I id::row) 0] hl (fun _=>by simp) (fun _=>by simp) (fun e _=>LK e row id) (fun _ _ xs=>match xs with|.agg (.int _ n::_)::_=>.bool (decide (n=id))|_=>.junk) (fun _ e _=>rfl)
 cases h1:g.ev.find? (Wt f)with
 |none=>
  rw[Qcu h1]at k1;refine an.read (Xe Nz (fun _ _ _=>I (-1)) (by simp) ?_);simp[Af,Ag,Qu,Qo,Qc,Uk,Jh,h1];exact⟨k1,lq⟩
 |some e=>
  obtain⟨n,g1,g2,g3⟩:=Kw (i:=0) h1;have k2':=k2;have hn:n<g.ev.length:=(zza.1 g2).1;have dK:=zzac g2
  have hex:(g.ev.find? fun e'=>decide (e'.id=e.id)).isSome=true:=by
   rw[List.find?_isSome];exact⟨e,dK,by simp⟩
  obtain⟨e2,he2⟩:=zzcp.1 hex;obtain⟨n2,q1,q2,q3⟩:=Kw (i:=0) he2;have r6:n2<g.ev.length:=(zza.1 q2).1;rw[g1,zzbt]at k1;have r1:Qh (g.ev.map Qf) n=Qf e:=Qr (by simp[g2]);have r2:Qh (g.ev.map Qf) n2=Qf e2:=Qr (by simp[q2]);have sd:(n:Int)<(g.ev.length:Int):=by omega
  have ayb:(n2:Int)<(g.ev.length:Int):=by omega
  obtain⟨⟨a1,a2⟩,⟨a3,a4⟩,⟨a5,a6⟩,_⟩:=hs e dK;obtain⟨f1,f2⟩:=hf;have hon:e.st<=f/\f<e.st+e.fr:=by simpa[Wt]using g3
  have w1:IntKind.i64.wrap (f-e.st)=f-e.st:=by rw[Qk]<;>omega
  have w2:IntKind.i64.wrap (e.fr-(f-e.st))=e.fr-(f-e.st):=by rw[Qk]<;>omega
  have w3:IntKind.i64.wrap (e.i+(f-e.st))=e.i+(f-e.st):=by rw[Qk]<;>omega
  refine an.read (Xe Nz (fun d _ _=>if d=15 then I n else I n2) (by simp) ?_);have aO:e2.id=e.id:=by simpa using q3
  by_cases h0:e.id=0
  ·simp[Af,Ag,Qu,Qo,Qc,Uk,Jh,h1,Qf,sd,r1,h0];exact⟨k1,lq⟩
  rcases Xp AV.bool e.id b 0 with⟨b1,b2,_⟩|⟨u,u',b1,b2,_⟩
  ·simp[Af,Ag,Qu,Qo,Qc,Uk,Jh,h1,Qf,sd,r1,h0,yZ,b1,b2,hB,hN];exact⟨k1,lq⟩
  cases u with
  |false=>
   simp[Af,Ag,Qu,Qo,Qc,Uk,Jh,h1,Qf,sd,r1,h0,yZ,b1,b2,hB,hN];exact⟨k1,lq⟩
  |true=>
   have k2:=k2 [I e.it,I e.st,I e.fr,I e.i,I e.re,.sl .ro (e.al.map Qe)] e.id;rw[q1,zzbt]at k2;simp[Af,Ag,Qu,Qo,Qc,Uk,Jh,h1,Qf,sd,r1,h0,yZ,b1,b2,hB,hN,w1,w2,w3,uE,rE,he2];refine⟨k1,k2,Xz ?_⟩;simp[ayb,r2,Qf];exact lq
end Go.Proofs.YtnopaopphmjnmaaGreatDoor
