import Derived.Test.YtnopaopphmjnmaaGreatDoorMLCodeT
import Derived.Test.YtnopaopphmjnmaaGreatDoorMLMP
import Derived.Shelf.SlMaps.Clone
import Derived.Shelf.Spec.SlicesGrow
set_option linter.all false
set_option maxRecDepth 100000
set_option maxHeartbeats 64000000
namespace Go.Proofs.YtnopaopphmjnmaaGreatDoor
open Go Go.Abs
def HW:List AV:=[I 24000,I 1001,I 24,I 0,I 24,I 1,I 24,I 0,I 25,I 1,I 25,I 0,I 30000,I 1001,I 30,I 2,I 30,I 1,I 30,I 0,I 50,I 1,I 50,I 0,I 60000,I 1001,I 60,I 4,I 60,I 1,I 60,I 0]
def az:Nat->AV
 |0=>.ep HW 0
 |_=>.junk
def Zb{α:Type}{l:List α}{i:Nat}{a:α}(h:l[i]?=some a):l.drop i=a::l.drop (i+1):=by
 obtain⟨h1,h2⟩:=zza.1 h;rw[zzaf h1,h2]
structure Evt where
 id:Int
 it:Int
 st:Int
 fr:Int
 i:Int
 re:Int
 al:Option Int
def jI:Pure Tryz.prog az 88 [.sl .nil []] (.sl .nil []):=by
 refine Qn I7 (fun _ _ _=>.junk) (by simp) ?_;simp[ab2,ab3]
def ob(f:Int):Prop:= -1000000<=f/\f<=1000000
def wu(n:Int)(h:0<=n)(h':n<=2000000):IntKind.u64.wrap n=n:=by
 simp[IntKind.wrap,IntKind.bits,IntKind.signed];omega
def ZS:AV:=.aW [.agg [I 0,I 0,I 0,I 0,I 0,I 0,.sl .nil []],I 0,.bool false]
abbrev Sp:=Int×Int
def Xt(l:List Sp)(x:Int):Prop:=∃s∈l,s.1<=x/\x<s.2
def VS(l:List Sp):Prop:=(∀s∈l,s.1<s.2)/\l.Pairwise fun a b=>a.2<b.1
@[simp] def Yp(x:Int):Xt [] x<->False:=by simp[Xt]
@[simp] def Xc(s:Sp)(l:List Sp)(x:Int):Xt (s::l) x<->(s.1<=x/\x<s.2)\/Xt l x:=by simp[Xt]
@[simp] def Yt(a b:List Sp)(x:Int):Xt (a++b) x<->Xt a x\/Xt b x:=by
 simp only[Xt,zzao,or_and_right,exists_or]
def Td{a b:List Sp}(h:a.Perm b)(x:Int):Xt a x<->Xt b x:=by simp only[Xt,h.mem_iff]
def rT:VS []:=⟨fun _ h=>(by cases h),.nil⟩
def cN{s:Sp}{l:List Sp}:VS (s::l)<->s.1<s.2/\(∀t∈l,s.2<t.1)/\VS l:=by
 simp only[VS,zzat,forall_eq_or_imp,zzbx];constructor
 ·rintro⟨⟨h1,h2⟩,h3,h4⟩;exact⟨h1,h3,h2,h4⟩
 rintro⟨h1,h3,h2,h4⟩;exact⟨⟨h1,h2⟩,h3,h4⟩
def D3{s:Sp}{l:List Sp}:VS (l++[s])<->VS l/\s.1<s.2/\∀t∈l,t.2<s.1:=by
 simp only[VS,zzao,zzbd,zzew,zzhd,true_and];constructor
 ·rintro⟨h1,h2,h3⟩;exact⟨⟨fun t ht=>h1 t (.inl ht),h2⟩,h1 s (.inr rfl),fun t ht=>h3 t ht s rfl⟩
 rintro⟨⟨h1,h2⟩,h3,h4⟩;refine⟨?_,h2,?_⟩
 ·rintro t (ht|rfl)
  ·exact h1 t ht
  exact h3
 rintro t ht u rfl;exact h4 t ht
def rU:∀{a b:List Sp},VS a->VS b->(∀x,Xt a x<->Xt b x)->a=b
 |[],[],_,_,_=>rfl
 |[],t::b,_,hb,h=>by
  have:=(h t.1).2 (by rw[Xc];exact .inl ⟨zzbu _,(cN.1 hb).1⟩);simp at this
 |s::a,[],ha,_,h=>by
  have:=(h s.1).1 (by rw[Xc];exact .inl ⟨zzbu _,(cN.1 ha).1⟩);simp at this
 |s::a,t::b,ha,hb,h=>by
  obtain⟨s1,s2,s3⟩:=cN.1 ha;obtain⟨t1,t2,t3⟩:=cN.1 hb
  have key:∀{u v:Sp}{p q:List Sp},u.1<u.2->v.1<v.2->(∀w∈q,v.2<w.1)->(∀x,Xt (u::p) x->Xt (v::q) x)->v.1<=u.1:=by
   intro u v p q h1 oO h2 h3;obtain⟨w,hw,h4,h5⟩:=h3 u.1 (by rw[Xc];exact .inl ⟨zzbu _,h1⟩);rcases zzat.1 hw with rfl|hw
   ·exact h4
   have:=h2 w hw;omega
  have e1:s.1=t.1:=Int.le_antisymm (key t1 s1 s2 fun x hx=>(h x).2 hx) (key s1 t1 t2 fun x hx=>(h x).1 hx)
  have abw:∀{u v:Sp}{p q:List Sp},u.1<u.2->u.1=v.1->(∀w∈p,u.2<w.1)->(∀x,Xt (v::q) x->Xt (u::p) x)->¬u.2<v.2:=by
   intro u v p q h1 h2 h3 h4 h5;obtain⟨w,hw,h6,h7⟩:=h4 u.2 (by rw[Xc];exact .inl ⟨by omega,h5⟩);rcases zzat.1 hw with rfl|hw
   ·omega
   have:=h3 w hw;omega
  have e2:s.2=t.2:=by
   have k1:=abw s1 e1 s2 fun x hx=>(h x).2 hx;have k2:=abw t1 e1.symm t2 fun x hx=>(h x).1 hx;omega
  have e:s=t:=Prod.ext e1 e2;subst e;congr 1;refine rU s3 t3 fun x=>?_
  have out:∀{p:List Sp},(∀w∈p,s.2<w.1)->Xt p x->¬(s.1<=x/\x<s.2):=by
   rintro p hp ⟨w,hw,h1,_⟩ ⟨_,h2⟩;have:=hp w hw;omega
  have hx:=h x;rw[Xc,Xc]at hx;constructor
  ·intro h1;exact(hx.1 (.inr h1)).resolve_left (out s2 h1)
  intro h1;exact(hx.2 (.inr h1)).resolve_left (out t2 h1)
def Rk(out:List Sp)(v:Sp):List Sp:=match out.getLast? with
 |none=>[v]
 |some u=>if v.1<=u.2 then out.dropLast++[(u.1,max u.2 v.2)]else out++[v]
def F7:List Sp->List Sp->List Sp
 |out,[]=>out
 |out,v::r=>F7 (Rk out v) r
def aoa{out:List Sp}{v:Sp}(ho:VS out)(hv:v.1<v.2)(hl:∀u∈out,u.1<=v.1):
  VS (Rk out v)/\(∀x,Xt (Rk out v) x<->Xt (out++[v]) x)/\∀u∈Rk out v,u.1<=v.1:=by
 unfold Rk;cases h:out.getLast? with
 |none=>
  have:out=[]:=zzgu.1 h;subst this;exact⟨cN.2 ⟨hv,by simp,rT⟩,by simp,by simp⟩
 |some u=>
  obtain⟨p,rfl⟩:∃p,out=p++[u]:=zzfa.1 h;obtain⟨h1,h2,h3⟩:=D3.1 ho;have hu:=hl u (by simp);by_cases hc:v.1<=u.2
  ·simp only[if_pos hc,zzfy];refine⟨D3.2 ⟨h1,?_,h3⟩,fun x=>?_,?_⟩
   ·show u.1<max u.2 v.2;omega
   ·simp only[Yt,Xc,Yp,or_false];constructor
    ·rintro(h|h)
     ·exact .inl (.inl h)
     by_cases hx:x<u.2
     ·exact .inl (.inr ⟨h.1,hx⟩)
     exact .inr ⟨by omega,by omega⟩
    rintro((h|h)|h)
    ·exact .inl h
    ·exact .inr ⟨h.1,by omega⟩
    exact .inr ⟨by omega,by omega⟩
   intro w hw;rcases zzao.1 hw with hw|hw
   ·exact hl w (by simp[hw])
   simp at hw;subst hw;exact hu
  simp only[if_neg hc];refine⟨D3.2 ⟨ho,hv,fun t ht=>?_⟩,fun x=>by simp only[],?_⟩
  ·rcases zzao.1 ht with ht|ht
   ·have:=h3 t ht;omega
   simp at ht;subst ht;omega
  intro w hw;rcases zzao.1 hw with hw|hw
  ·exact hl w hw
  simp at hw;subst hw;exact zzbu _
def abD:∀{r out:List Sp},VS out->(∀v∈r,v.1<v.2)->r.Pairwise (fun a b=>a.1<=b.1)->(∀u∈out,∀v∈r,u.1<=v.1)->
  VS (F7 out r)/\∀x,Xt (F7 out r) x<->Xt (out++r) x
 |[],out,h,_,_,_=>⟨h,fun x=>by simp[F7]⟩
 |v::r,out,h,hn,hp,hl=>by
  obtain⟨h1,h2,h3⟩:=aoa h (hn v (by simp)) fun u hu=>hl u hu v (by simp);obtain⟨p1,p2⟩:=zzbx.1 hp;obtain⟨h4,h5⟩:=abD (r:=r) h1 (fun w hw=>hn w (by simp[hw])) p2 fun u hu w hw=>zzht (h3 u hu) (p1 w hw);refine⟨h4,fun x=>?_⟩;rw[F7,h5,Yt,h2];simp only[Yt,Xc,Yp,or_false,or_assoc]
def mQ(s:Sp):Bool:=decide (s.1<s.2)
def Xl(l:List Sp):List Sp:=F7 [] ((l.filter mQ).mergeSort fun a b=>decide (a.1<=b.1))
def MH(l:List Sp)(x:Int):Xt (l.filter mQ) x<->Xt l x:=by
 simp only[Xt,zzck,mQ,decide_eq_true_eq];constructor
 ·rintro⟨s,⟨h1,_⟩,h2⟩;exact⟨s,h1,h2⟩
 rintro⟨s,h1,h2⟩;exact⟨s,⟨h1,by omega⟩,h2⟩
def ov{l d:List Sp}(hp:d.Perm (l.filter mQ))(hs:d.Pairwise fun a b=>a.1<=b.1):VS (F7 [] d)/\∀x,Xt (F7 [] d) x<->Xt l x:=by
 obtain⟨h1,h2⟩:=abD (r:=d) rT (fun v hv=>by have:=hp.mem_iff.1 hv;simp[mQ]at this;exact this.2) hs (by simp);exact⟨h1,fun x=>by rw[h2,zzai,Td hp,MH]⟩
def Va(l:List Sp):VS (Xl l)/\∀x,Xt (Xl l) x<->Xt l x:=by
 refine ov (zzgd _ _) ?_;have:=zzhb (le:=fun a b:Sp=>decide (a.1<=b.1)) (fun a b c h1 h2=>by simp at*;omega) (fun a b=>by simp;omega) (l.filter mQ);exact this.imp (by simp)
def amO{l d:List Sp}(hp:d.Perm (l.filter mQ))(hs:d.Pairwise fun a b=>a.1<=b.1):F7 [] d=Xl l:=
 rU (ov hp hs).1 (Va l).1 fun x=>by rw[(ov hp hs).2,(Va l).2]
def abE{l:List Sp}(h:VS l):Xl l=l:=rU (Va l).1 h (Va l).2
def aob{P:Int->Prop}{out:List Sp}{v:Sp}(ho:∀u∈out,P u.1/\P u.2)(hv:P v.1/\P v.2):∀u∈Rk out v,P u.1/\P u.2:=by
 unfold Rk;cases h:out.getLast? with
 |none=>intro u hu;simp at hu;subst hu;exact hv
 |some w=>
  obtain⟨p,rfl⟩:∃p,out=p++[w]:=zzfa.1 h;have hw:=ho w (by simp);by_cases hc:v.1<=w.2
  ·simp only[if_pos hc,zzfy];intro u hu;rcases zzao.1 hu with hu|hu
   ·exact ho u (by simp[hu])
   simp at hu;subst hu;refine⟨hw.1,?_⟩;show P (max w.2 v.2);rcases Int.le_total w.2 v.2 with h|h
   ·rw[Int.max_eq_right h];exact hv.2
   rw[Int.max_eq_left h];exact hw.2
  simp only[if_neg hc];intro u hu;rcases zzao.1 hu with hu|hu
  ·exact ho u hu
  simp at hu;subst hu;exact hv
def abF{P:Int->Prop}:∀{r out:List Sp},(∀u∈out,P u.1/\P u.2)->(∀u∈r,P u.1/\P u.2)->∀u∈F7 out r,P u.1/\P u.2
 |[],_,h,_=>h
 |v::r,out,h,hr=>abF (r:=r) (aob h (hr v (by simp))) fun u hu=>hr u (by simp[hu])
def ZG{P:Int->Prop}{l:List Sp}(h:∀u∈l,P u.1/\P u.2):∀u∈Xl l,P u.1/\P u.2:=
 abF (by simp) fun u hu=>h u (by
  have:=(zzgd (l.filter mQ) fun a b=>decide (a.1<=b.1)).mem_iff.1 hu;exact(zzck.1 this).1)
def MI(out:List Sp)(v:Sp):(Rk out v).length<=out.length+1:=by
 unfold Rk;cases h:out.getLast? with
 |none=>simp
 |some w=>
  have:out≠[]:=by rintro rfl;simp at h
  have:=zzcw.2 this;dsimp only;split<;>simp<;>omega
def y4:∀(r out:List Sp),(F7 out r).length<=out.length+r.length
 |[],out=>by simp[F7]
 |v::r,out=>by
  have h1:=y4 r (Rk out v);have h2:=MI out v;rw[F7];simp;omega
def Yy(l:List Sp):(Xl l).length<=l.length:=by
 have h1:=y4 ((l.filter mQ).mergeSort fun a b=>decide (a.1<=b.1)) [];have h2:=zzbr mQ l;rw[zzep]at h1;simp at h1;unfold Xl;omega
def tV:Nat->List Sp->List Sp->List Sp
 |0,_,_=>[]
 |_,[],_=>[]
 |_,_,[]=>[]
 |n+1,s::a,t::b=>
  (if max s.1 t.1<min s.2 t.2 then[(max s.1 t.1,min s.2 t.2)]else[])++(if s.2<t.2 then tV n a (t::b)else tV n (s::a) b)
def MJ:∀(n:Nat){a b:List Sp},a.length+b.length<=n->VS a->VS b->VS (tV n a b)/\(∀x,Xt (tV n a b) x<->Xt a x/\Xt b x)/\
  ∀u∈tV n a b,(∃s∈a,s.1<=u.1)/\∃t∈b,t.1<=u.1
 |0,a,b,h,_,_=>by
  have h1:a=[]:=zzcb.1 (by omega);subst h1;exact⟨rT,fun x=>by simp[tV],by simp[tV]⟩
 |n+1,[],b,h,_,_=>⟨by simpa[tV]using rT,fun x=>by simp[tV],by simp[tV]⟩
 |n+1,s::a,[],h,_,_=>⟨by simpa[tV]using rT,fun x=>by simp[tV],by simp[tV]⟩
 |n+1,s::a,t::b,h,ha,hb=>by
  obtain⟨s1,s2,s3⟩:=cN.1 ha;obtain⟨t1,t2,t3⟩:=cN.1 hb;simp only[zzbb]at h
  have mem:∀{p:List Sp}{u:Sp}{x:Int},(∀w∈p,u.2<w.1)->x<=u.2->¬Xt p x:=by
   rintro p u x hp hx ⟨w,hw,h1,_⟩;have:=hp w hw;omega
  rw[tV];by_cases hc:s.2<t.2
  ·rw[if_pos hc];obtain⟨h1,h2,h3⟩:=MJ n (a:=a) (b:=t::b) (by simp;omega) s3 hb
   have hx:∀x,Xt (if max s.1 t.1<min s.2 t.2 then[(max s.1 t.1,min s.2 t.2)]else[]) x<->(s.1<=x/\x<s.2)/\Xt (t::b) x:=by
    intro x;rw[Xc];by_cases hi:max s.1 t.1<min s.2 t.2
    ·rw[if_pos hi];simp only[Xc,Yp,or_false];constructor
     ·rintro⟨h1,h2⟩;exact⟨⟨by omega,by omega⟩,.inl ⟨by omega,by omega⟩⟩
     rintro⟨h1,h2|h2⟩
     ·exact⟨by omega,by omega⟩
     exact absurd h2 (mem (u:=t) t2 (by omega))
    rw[if_neg hi];simp only[Yp,false_iff];rintro⟨h1,h2|h2⟩
    ·omega
    exact absurd h2 (mem (u:=t) t2 (by omega))
   refine⟨?_,fun x=>?_,?_⟩
   ·by_cases hi:max s.1 t.1<min s.2 t.2
    ·rw[if_pos hi,zzdy];refine cN.2 ⟨hi,fun u hu=>?_,h1⟩;obtain⟨⟨w,hw,hwu⟩,_⟩:=h3 u hu;have:=s2 w hw;show min s.2 t.2<u.1;omega
    rw[if_neg hi];exact h1
   ·rw[Yt,hx,h2,Xc s];constructor
    ·rintro(⟨h1,h2⟩|⟨h1,h2⟩)
     ·exact⟨.inl h1,h2⟩
     exact⟨.inr h1,h2⟩
    rintro⟨h1|h1,h2⟩
    ·exact .inl ⟨h1,h2⟩
    exact .inr ⟨h1,h2⟩
   intro u hu;rcases zzao.1 hu with hu|hu
   ·split at hu
    ·simp at hu;subst hu;exact⟨⟨s,by simp,by show s.1<=max s.1 t.1;omega⟩,⟨t,by simp,by show t.1<=max s.1 t.1;omega⟩⟩
    cases hu
   obtain⟨⟨w,hw,hwu⟩,cH⟩:=h3 u hu;exact⟨⟨w,by simp[hw],hwu⟩,cH⟩
  rw[if_neg hc];obtain⟨h1,h2,h3⟩:=MJ n (a:=s::a) (b:=b) (by simp;omega) ha t3
  have hx:∀x,Xt (if max s.1 t.1<min s.2 t.2 then[(max s.1 t.1,min s.2 t.2)]else[]) x<->Xt (s::a) x/\(t.1<=x/\x<t.2):=by
   intro x;rw[Xc];by_cases hi:max s.1 t.1<min s.2 t.2
   ·rw[if_pos hi];simp only[Xc,Yp,or_false];constructor
    ·rintro⟨h1,h2⟩;exact⟨.inl ⟨by omega,by omega⟩,⟨by omega,by omega⟩⟩
    rintro⟨h2|h2,h1⟩
    ·exact⟨by omega,by omega⟩
    exact absurd h2 (mem (u:=s) s2 (by omega))
   rw[if_neg hi];simp only[Yp,false_iff];rintro⟨h2|h2,h1⟩
   ·omega
   exact absurd h2 (mem (u:=s) s2 (by omega))
  refine⟨?_,fun x=>?_,?_⟩
  ·by_cases hi:max s.1 t.1<min s.2 t.2
   ·rw[if_pos hi,zzdy];refine cN.2 ⟨hi,fun u hu=>?_,h1⟩;obtain⟨_,⟨w,hw,hwu⟩⟩:=h3 u hu;have:=t2 w hw;show min s.2 t.2<u.1;omega
   rw[if_neg hi];exact h1
  ·rw[Yt,hx,h2,Xc t];constructor
   ·rintro(⟨h1,h2⟩|⟨h1,h2⟩)
    ·exact⟨h1,.inl h2⟩
    exact⟨h1,.inr h2⟩
   rintro⟨h1,h2|h2⟩
   ·exact .inl ⟨h1,h2⟩
   exact .inr ⟨h1,h2⟩
  intro u hu;rcases zzao.1 hu with hu|hu
  ·split at hu
   ·simp at hu;subst hu;exact⟨⟨s,by simp,by show s.1<=max s.1 t.1;omega⟩,⟨t,by simp,by show t.1<=max s.1 t.1;omega⟩⟩
   cases hu
  obtain⟨ha',⟨w,hw,hwu⟩⟩:=h3 u hu;exact⟨ha',⟨w,by simp[hw],hwu⟩⟩
def zH(a b:List Sp):List Sp:=tV ((Xl a).length+(Xl b).length) (Xl a) (Xl b)
def kZ(a b:List Sp):VS (zH a b)/\∀x,Xt (zH a b) x<->Xt a x/\Xt b x:=by
 obtain⟨h1,h2,_⟩:=MJ _ (zzab _) (Va a).1 (Va b).1;exact⟨h1,fun x=>by rw[zH,h2,(Va a).2,(Va b).2]⟩
def De(f t:Int):List Sp:=if f<t then[(f,t)]else[]
def jK:Int->Int->List Sp->List Sp×List Sp
 |f,t,[]=>(De f t,[])
 |f,t,h::r=>if h.1<t then(if t<=max f h.2 then(De f h.1,h::r)else(De f h.1++(jK (max f h.2) t r).1,(jK (max f h.2) t r).2))else(De f t,h::r)
def tW:List Sp->List Sp->List Sp
 |[],_=>[]
 |s::a,hs=>(jK s.1 s.2 hs).1++tW a (jK s.1 s.2 hs).2
def C7(a b:List Sp):List Sp:=tW (Xl a) (Xl b)
def qj(f t:Int):De f t=[]<->t<=f:=by unfold De;split<;>simp<;>omega
def Ip:∀{H:List Sp}{f t:Int},VS H->((jK f t H).1=[]<->∀x,f<=x->x<t->Xt H x)
 |[],f,t,_=>by
  simp only[jK,qj,Yp];constructor
  ·intro h x h1 h2;omega
  intro h;rcases zzfj f t with hf|hf
  ·exact(h f (zzbu _) hf).elim
  exact hf
 |h::r,f,t,hV=>by
  obtain⟨h1,h2,h3⟩:=cN.1 hV
  have mem:∀{x:Int},Xt r x->h.2<x:=by
   rintro x ⟨w,hw,h4,_⟩;have:=h2 w hw;omega
  rw[jK];by_cases hc:h.1<t
  ·rw[if_pos hc];by_cases hd:t<=max f h.2
   ·rw[if_pos hd];simp only[qj,Xc];constructor
    ·intro h5 x h6 h7;exact .inl ⟨by omega,by omega⟩
    intro h5;by_cases hf:f<t
    ·rcases h5 f (zzbu _) hf with h6|h6
     ·exact h6.1
     have:=mem h6;omega
    omega
   rw[if_neg hd];simp only[zzhj,qj,Ip h3,Xc];constructor
   ·rintro⟨h5,h6⟩ x h7 h8;by_cases hx:x<h.2
    ·exact .inl ⟨by omega,hx⟩
    exact .inr (h6 x (by omega) h8)
   intro h5;refine⟨?_,fun x h6 h7=>?_⟩
   ·rcases h5 f (zzbu _) (by omega)with h6|h6
    ·exact h6.1
    have:=mem h6;omega
   exact(h5 x (by omega) h7).resolve_left (by omega)
  rw[if_neg hc];simp only[qj,Xc];constructor
  ·intro h5 x h6 h7;omega
  intro h5;rcases zzfj f t with hf|hf
  ·rcases h5 f (zzbu _) hf with h6|h6
   ·omega
   have:=mem h6;omega
  exact hf
def MB{s:Sp}(hs:s.1<s.2)(l:List Sp):C7 [s] l=[]<->∀x,s.1<=x->x<s.2->Xt l x:=by
 rw[C7,abE (l:=[s]) (cN.2 ⟨hs,by simp,rT⟩)];simp only[tW,zzau,Ip (Va l).1,(Va l).2]
open Go Go.Abs
def em(s:Sp):Bool:=decide (s.2<=s.1)
def Iq(s:Sp):mQ s=!em s:=by simp[mQ,em,<- decide_not,Int.not_le]
def nV(s:Sp):Pure Tryz.prog az 249 [.agg [I s.1,I s.2]] (.bool (em s)):=by
 refine Qn adJ (fun _ _ _=>.junk) (by simp) ?_;simp[ait,aiu,em]
def BM:Nat->FuncId->List AV->AV:=fun _ _ l=>match l with
 |[.agg [.int _ a,.int _ b]]=>.bool (decide (b<=a))
 |_=>.junk
def pK:List Sp->Nat->Int
 |[],_=> -1
 |s::r,i=>if em s=true then i else pK r (i+1)
def Ir:∀{l:List Sp}{i:Nat},pK l i= -1->l.filter mQ=l
 |[],_,_=>rfl
 |s::r,i,h=>by
  simp only[pK]at h;split at h
  ·omega
  rename_i hn;have si:mQ s=true:=by rw[Iq];simpa using hn
  simp[zzdu,si,Ir h]
def Is:∀{l:List Sp}{i:Nat},pK l i≠ -1->∃k:Nat,pK l i=((i+k:Nat):Int)/\k<l.length/\(l.take (k+1)).filter mQ=l.take k
 |[],_,h=>absurd rfl h
 |s::r,i,h=>by
  simp only[pK]at h |-
  split
  ·rename_i hs;have si:mQ s=false:=by rw[Iq,hs];rfl
   exact⟨0,rfl,by simp,by simp[zzdu,si]⟩
  rename_i hs;have si:mQ s=true:=by rw[Iq];simpa using hs
  rw[if_neg hs]at h;obtain⟨k,h1,h2,h3⟩:=Is h;exact⟨k+1,by rw[h1];congr 1;omega,by simpa using h2,by simp[zzdu,si,h3]⟩
def pJ(l:List Sp)(hl:l.length<=1000000000):Pure Tryz.prog az 307 [.sl .ro (l.map Qe),.fn 249 [] []] (I (pK l 0)):=by
 refine Qn aec BM (by simp) ?_;simp[aiU,aiV];refine Qi Ci (fun s m=>∃i:Nat,s 8=I i/\i<=l.length/\pK (l.drop i) i=pK l 0/\m=⟨[],[],fun _=>.gone,0⟩) (fun s m=>l.length-(numOf (s 8)).toNat) ?_ ?_
 ·exact⟨0,by simp,by omega,by simp,rfl⟩
 rintro f m ⟨i,h8,hi,hr,rfl⟩;rcases zzaa i l.length with ai|bu
 ·obtain⟨s,hs⟩:=aS ai;have ah:=Zc hs
  have dX:l.drop i=s::l.drop (i+1):=by
   rw[zzaf ai,(zza.1 hs).2]
  have hw:=bJ i (by omega);have aa:(i:Int)<(l.length:Int):=by omega
  have hp:=nV s;rw[dX]at hr;simp only[pK]at hr;by_cases he:s.2<=s.1
  ·have GV:em s=true:=by simp[em,he]
   rw[GV]at hp;rw[if_pos GV]at hr;simp[h8,ai,aa,ah,Ci,BM,he,<- hr];exact hp
  have GV:em s=false:=by simp[em];omega
  rw[GV]at hp;rw[GV]at hr;simp only[zzbq,if_false]at hr;simp[h8,ai,aa,ah,Ci,BM,he,hw];refine⟨hp,aO,⟨i+1,by simp,by omega,hr⟩,by omega⟩
 have bI:¬(i:Int)<(l.length:Int):=by omega
 rw[zzam bu]at hr;simp only[pK]at hr;simp[h8,bI,zzbm.2 bu,Ci,<- hr]
def nS(k:Int):Nat->FuncId->List AV->AV:=fun _ f l=>if f=307 then I k else BM 0 0 l
def K8(Y:YT)(l:List Sp)(hl:l.length<=1000000000)(B:List (List AV))(L:List Nat)(st:Nat->LS)(n id:Nat)(aN:id<B.length)(aK:l≠[])(hB:Qh B id=cC l)(K:AV->AM->Prop)
  (hK:∀(B':List (List AV))(z:List Sp),bn (·=id) B B'->Qh B' id=cC (l.filter mQ++z)->(l.filter mQ).length+z.length=l.length->K (.bs id 0 (l.filter mQ).length 2) ⟨B',L,st,n⟩):
  an Tryz.prog az Y 248 [.bs id 0 l.length 2,.fn 249 [] []] ⟨B,L,st,n⟩ K:=by
 have LC:=pJ l hl;have fH:=Zk ⟨B,L,st,n⟩ 4 (C3 l);have lS:=Qea l;have aH:=Vy l;refine Xe Nw (nS (pK l 0)) (by simp) ?_;by_cases hk:pK l 0= -1
 ·have hf:=Ir hk;rw[hk]at LC;have:=hK B [] (bn.refl _ _) (by rw[hf];simpa using hB) (by rw[hf];simp);rw[hf]at this;simp[EG,Nv,nS,hk,hB,fH,lS,aH];exact⟨LC,this⟩
 obtain⟨k,cV,dw,Bb⟩:=Is hk;rw[zzbv]at cV;have D5:¬(k:Int)= -1:=by omega
 have Q3:=bJ k (by omega);rw[cV]at LC;simp[EG,Nv,nS,cV,D5,hB,fH,lS,aH,Q3];refine⟨LC,?_⟩
 refine Qi Cg (fun f m=>∃(i j:Nat)(B':List (List AV))(L':List Sp),f 5=I i/\f 6=I j/\i<j/\j<=l.length/\m=⟨B',L,st,n⟩/\bn (·=id) B B'/\Qh B' id=cC L'/\L'.length=l.length/\L'.take i=(l.take j).filter mQ/\L'.drop j=l.drop j)
  (fun f m=>l.length-(numOf (f 6)).toNat) ?_ ?_
 ·exact⟨k,k+1,B,l,by simp,by simp,by omega,by omega,rfl,bn.refl _ _,hB,rfl,Bb.symm,rfl⟩
 rintro f m ⟨i,j,B',L',h5,h6,eM,hj,rfl,fG,tK,tN,ht,hd⟩;have cE:id<B'.length:=zzbc aN fG.1;have jv:=Vy L';rcases zzaa j l.length with ai|bu
 ·obtain⟨s,hs⟩:=aS ai
  have iH:L'[j]?=some s:=by
   have:=congrArg (fun x=>x[0]?) hd;simpa[hs]using this
  have hg:=uB iH;have eF:(j:Int)<(l.length:Int):=by omega
  have aa:(i:Int)<(l.length:Int):=by omega
  have wP:i<l.length:=by omega
  have xz:=bJ j (by omega);have KS:=bJ i (by omega);have hp:=nV s;have bV:=Oi L' i s (by omega);simp only[setA]at bV;have gI:∀x,Qh (B'++x) id=cC L':=fun x=>by rw[Ql cE,tK]
  have lV:∀x v,(B'++x).set id v=B'.set id v++x:=fun x v=>Yk v cE
  have bB:(l.take (j+1)).filter mQ=(l.take j).filter mQ++[s].filter mQ:=by
   rw[zzas,hs,zzcu];rfl
  have hdj:L'.drop (j+1)=l.drop (j+1):=by
   have:=congrArg (List.drop 1) hd;simpa[zzds,zzff]using this
  by_cases he:s.2<=s.1
  ·have GV:em s=true:=by simp[em,he]
   have si:mQ s=false:=by rw[Iq,GV];rfl
   rw[GV]at hp;simp[h5,h6,eF,ai,aa,tK,gI,lV,hg,Cg,nS,BM,he,xz,KS];refine⟨hp,aO,⟨i,rfl,j+1,by simp,by omega,by omega,fG.app _,?_⟩,by omega⟩
   ·refine⟨L',rfl,tN,?_,hdj⟩;rw[bB,ht];simp[si]
  have GV:em s=false:=by simp[em];omega
  have si:mQ s=true:=by rw[Iq,GV];rfl
  rw[GV]at hp;simp[h5,h6,eF,ai,aa,wP,tK,gI,lV,hg,Cg,nS,BM,he,xz,KS,bV,jv,tN];refine⟨hp,by omega,aO,⟨i+1,by simp,j+1,by simp,by omega,by omega,(fG.set (.inl rfl) _).app _,?_⟩,by omega⟩
  ·refine⟨L'.set i s,by rw[Ql (by simpa using cE),Vp _ cE],by simpa using tN,?_,?_⟩
   ·rw[bB,<- ht,zzas,zzb (by omega),zzga (by omega)];simp[si]
   rw[zzgb (by omega)];exact hdj
 obtain rfl:j=l.length:=by omega
 rw[zzbs]at ht;have gh:(l.filter mQ).length=i:=by rw[<- ht,zzaq];omega
 have Oh:¬((l.length:Nat):Int)<(l.length:Int):=by omega
 have bI:(i:Int)<=(l.length:Int):=by omega
 have aa:(i:Int)<(l.length:Int):=by omega
 have wP:i<l.length:=eM
 have ei:cC L'≠[]:=by
  intro h;have:=congrArg List.length h;rw[jv,tN]at this;simp at this;omega
 have qo:setA (cC L') (i*2) (bG (l.length-i) [I 0,I 0])=cC (l.filter mQ++List.replicate (l.length-i) (0,0)):=by
  have e1:L'=L'.take i++L'.drop i:=by simp
  conv=>lhs;rw[e1]
  rw[Qcd,Qcd,<- ht,Ro];have e2:(cC (L'.take i)).length=i*2:=by rw[Vy,zzaq];congr 1;omega
  rw[<- e2];exact o8 _ _ _ (by rw[Vy,Vy];simp;omega)
 simp[h5,h6,Oh,tK,aa,wP,bI,Cg,cE,ei,jv,tN,qo];refine⟨by omega,?_⟩;have:=hK (B'.set id (cC (l.filter mQ++List.replicate (l.length-i) (0,0)))) (List.replicate (l.length-i) (0,0)) (fG.set (.inl rfl) _) (Vp _ cE) (by simp;omega);rw[gh]at this;exact this
end Go.Proofs.YtnopaopphmjnmaaGreatDoor
namespace Go.Abs
open Go Go.RowKit
def abG{P:Program}{gl:Nat->AV}{Y:YT}{f:FuncId}(hc:bC P f)(aZ:∀(b:Nat)(es:Array MapEntry)(clock:Nat)(w:World),w.heap[b]?=some (.map es clock)->Calls P f #[.map (some b)] w fun e w'=>e=.returned (.map (some w.heap.size))/\w'=w.alloc (.map es clock))
  {m:AM}{id kn:Nat}{kvs:List (List Int×AV)}(hb:m.boxes.getD id []=[.aJ kn kvs]){K:AV->AM->Prop}(hK:K (.mp m.boxes.length) {m with boxes:=m.boxes++[[.aJ kn kvs]]}):an P gl Y f [.mp id] m K:=by
 refine an.fV hc fun N w0 aq γ w vs hm hl hr=>?_
 match vs,hr with
 |[v],hr=>
  obtain⟨aN,hB⟩:=nA hb;obtain⟨b,es,h1,rfl,h3,h4,h5⟩:=hm.jb (hr.2 0 _ v rfl rfl) hB;refine(aZ b es _ w h3).mono fun e w'⟨he,hw⟩=>?_;subst hw;obtain⟨g1,g2⟩:=hm.J3 m.boxes.length (by simp[AM.B]) (x:=.aJ kn kvs) (o:=.map es es.size) ⟨rfl,h4,h5⟩;refine⟨_,_,.mp m.boxes.length,{m with boxes:=m.boxes++[[.aJ kn kvs]]},he,g1.dD,?_,hl.mono' g1 rfl,.mp (by simp[G.gH]),hK⟩;rw[WG];exact g2
 |[],hr=>exact absurd hr.1 (by simp)
 |_::_::_,hr=>exact absurd hr.1 (by simp)
def Pu{P:Program}{t:TypeId}{a b c:Nat}(h:(P.info? t).bind (fun i=>i.zero.map fun z=>(i.size,i.bytes,z.cells.size))=some (a,b,c)):∃i z,P.info? t=some i/\i.zero=some z/\i.size=a/\i.bytes=b/\z.cells.size=c:=by
 cases hi:P.info? t with
 |none=>rw[hi]at h;cases h
 |some i=>
  rw[hi]at h;simp only[zzcg]at h;cases hz:i.zero with
  |none=>rw[hz]at h;cases h
  |some z=>
   rw[hz]at h;simp only[zzcv,Option.some.injEq,Prod.mk.injEq]at h;exact⟨i,z,rfl,hz,h.1,h.2.1,h.2.2⟩
def Pv{P:Program}{gl:Nat->AV}{Y:YT}{f:FuncId}{t:TypeId}{sz n:Nat}(hc:bC P f)
  (cB:n=0->∀w:World,Calls P f #[.slice none 0 0,.int .i64 (n:Nat)] w fun e w'=>e=.returned (.slice none 0 0)/\w'=w)
  (auo:0<n->∀w:World,Calls P f #[.slice none 0 0,.int .i64 (n:Nat)] w fun e w'=>∃cap cs,e=.returned (.slice (some ⟨w.heap.size,0,none⟩) 0 cap)/\w'=w.drew.alloc (.cells cs t)/\cap*sz<=cs.size)
  {m:AM}{K:AV->AM->Prop}(h0:n=0->K (.sl .nil []) m)(h1:0<n->K (.sl (.own m.lens.length sz) []) {m with lens:=m.lens++[0]}):an P gl Y f [.sl .nil [],.int .i64 (n:Nat)] m K:=by
 refine an.fV hc fun N w0 aq γ w vs hm hl hr=>?_
 match vs,hr with
 |[v,u],hr=>
  have hv:v=.slice none 0 0:=by
   have h:=hr.2 0 _ v rfl rfl;cases h with
   |@sl _ _ _ a cap b off gz cv hcap hnil ha hsz hcc RA aR=>
    have:a=none:=aR;subst this;rw[hnil rfl];rfl
  have hu:u=.int .i64 (n:Nat):=(hr.2 1 _ u rfl rfl).aG;subst hv;subst hu;rcases zzcn n with hn|hn
  ·refine(cB hn w).mono fun e w'⟨he,hw⟩=>?_;subst hw;exact⟨_,γ,_,m,he,(Ev.refl _ γ).dD,hm,hl,Co,h0 hn⟩
  refine(auo hn w).mono fun e w'⟨cap,cs,he,hw,hs⟩=>?_;subst hw;have qp:=hm.ajn;have hL:m.L m.lens.length=none:=by simp[AM.L]
  have eP:γ.own m.lens.length=none:=by
   cases h:γ.own m.lens.length with
   |none=>rfl
   |some b=>obtain⟨_,_,k,hk⟩:=hm.own _ _ h;rw[hL]at hk;cases hk
  have dz:γ.cur m.lens.length=0:=hm.cur0 _ hL;have cw:=qp.2.trans (qp.1.fP (q:=0) (id:=m.lens.length) (n:=0) (by omega) (fun _=>eP) (.cells cs t));refine⟨_,γ.renew m.lens.length w.heap.size 0 0,.sl (.own m.lens.length sz) [],{m with lens:=m.lens++[0]},he,cw.dD,?_,hl.mono' cw rfl,?_,h1 hn⟩
  ·rw[Cz];exact qp.1.renew (by omega) (fun _=>eP) _
  refine .sl (rows:=[]) w.heap.size 0 sz (fun _ _=>undef) (zzcc _) (fun h=>(by cases h)) (fun h=>absurd rfl h) (fun _ h=>by cases h) (fun i j c h=>by simp[Qt]at h) (fun i j c h=>by simp[Qt]at h) ?_;refine⟨rfl,zzcc _,fun _=>.inr ⟨w.heap.size,0,cs,t,rfl,by simp[G.renew],by show(w.heap.push _)[w.heap.size]?=_;simp,by omega,fun o' _ hr=>?_⟩⟩;obtain hr|⟨_,hr⟩:=hr
  ·have:=hm.robd _ _ hr;omega
  omega
 |[],hr=>exact absurd hr.1 (by simp)
 |[_],hr=>exact absurd hr.1 (by simp)
 |_::_::_::_,hr=>exact absurd hr.1 (by simp)
end Go.Abs
namespace Go.Proofs.YtnopaopphmjnmaaGreatDoor
open Go Go.Abs Go.Shelf Go.RowKit Go.Lib
def MK:Go.Shelf.Ren:=⟨fun|5=>198|7=>272|n=>n,fun|23=>93|25=>3|3=>3|4=>4|20=>20|n=>n,fun|n=>n⟩
def aoc:Go.Proofs.SlLaysW.n5 Tryz.prog MK:={
 mixed:=by kernel_rfl,
 f5:=⟨Tryz.f198.name,by decide,Tryz.func198.trans (congrArg some (by kernel_rfl))⟩,
 f7:=Tryz.func272.trans (congrArg some (by kernel_rfl)),
 t4:=Tryz.underlying4,
 a4:=Tryz.isAgg4,
 z4:=Tryz.sizeOf4,
 v4:=Tryz.zeroValue4,
 t20:=Tryz.underlying20,
 a20:=Tryz.isAgg20,
 z20:=Tryz.sizeOf20,
 v20:=Tryz.zeroValue20,
 t23:=Tryz.underlying93,
 a23:=Tryz.isAgg93,
 z23:=Tryz.sizeOf93,
 v23:=Tryz.zeroValue93}
def tw:Go.Shelf.Ren:=⟨fun|4=>277|n=>n,fun|22=>59|25=>3|3=>3|4=>4|9=>9|20=>20|0=>0|n=>n,fun|n=>n⟩
def Pw:Go.Proofs.Lays8.n4 Tryz.prog tw:={
 mixed:=by kernel_rfl,
 f4:=⟨Tryz.f277.name,by decide,Tryz.func277.trans (congrArg some (by kernel_rfl))⟩,
 t0:=Tryz.underlying0,
 a0:=Tryz.isAgg0,
 z0:=Tryz.sizeOf0,
 v0:=Tryz.zeroValue0,
 t3:=Tryz.underlying3,
 a3:=Tryz.isAgg3,
 z3:=Tryz.sizeOf3,
 v3:=Tryz.zeroValue3,
 t4:=Tryz.underlying4,
 a4:=Tryz.isAgg4,
 z4:=Tryz.sizeOf4,
 v4:=Tryz.zeroValue4,
 t9:=Tryz.underlying9,
 a9:=Tryz.isAgg9,
 z9:=Tryz.sizeOf9,
 v9:=Tryz.zeroValue9,
 t20:=Tryz.underlying20,
 a20:=Tryz.isAgg20,
 z20:=Tryz.sizeOf20,
 v20:=Tryz.zeroValue20,
 t22:=Tryz.underlying59,
 a22:=Tryz.isAgg59,
 z22:=Tryz.sizeOf59,
 v22:=Tryz.zeroValue59}
def y5:Go.Shelf.Ren:=⟨fun|4=>358|n=>n,fun|22=>126|25=>124|3=>3|4=>4|9=>9|20=>20|0=>0|2=>3|n=>n,fun|n=>n⟩
def abH:Go.Proofs.Lays8.n4 Tryz.prog y5:={
 mixed:=by kernel_rfl,
 f4:=⟨Tryz.f358.name,by decide,Tryz.func358.trans (congrArg some (by kernel_rfl))⟩,
 t0:=Tryz.underlying0,
 a0:=Tryz.isAgg0,
 z0:=Tryz.sizeOf0,
 v0:=Tryz.zeroValue0,
 t3:=Tryz.underlying3,
 a3:=Tryz.isAgg3,
 z3:=Tryz.sizeOf3,
 v3:=Tryz.zeroValue3,
 t4:=Tryz.underlying4,
 a4:=Tryz.isAgg4,
 z4:=Tryz.sizeOf4,
 v4:=Tryz.zeroValue4,
 t9:=Tryz.underlying9,
 a9:=Tryz.isAgg9,
 z9:=Tryz.sizeOf9,
 v9:=Tryz.zeroValue9,
 t20:=Tryz.underlying20,
 a20:=Tryz.isAgg20,
 z20:=Tryz.sizeOf20,
 v20:=Tryz.zeroValue20,
 t22:=Tryz.underlying126,
 a22:=Tryz.isAgg126,
 z22:=Tryz.sizeOf126,
 v22:=Tryz.zeroValue126}
def OC{Y:YT}{m:AM}{id kn:Nat}{kvs:List (List Int×AV)}(hb:m.boxes.getD id []=[.aJ kn kvs]){K:AV->AM->Prop}(hK:K (.mp m.boxes.length) {m with boxes:=m.boxes++[[.aJ kn kvs]]}):an Tryz.prog az Y 198 [.mp id] m K:=
 abG ⟨_,Tryz.func198,by kernel_rfl,by kernel_rfl⟩ (fun b es clock w h=>AnyW.maps_Clone aoc b es clock w h) hb hK
def afA{Y:YT}{m:AM}{n:Nat}(hn:n<=1000000000){K:AV->AM->Prop}(h0:n=0->K (.sl .nil []) m)(h1:0<n->K (.sl (.own m.lens.length 1) []) {m with lens:=m.lens++[0]}):an Tryz.prog az Y 277 [.sl .nil [],I n] m K:=by
 obtain⟨i0,z,hi0,hz0,NQ,dO,Cs⟩:=Pu (P:=Tryz.prog) (t:=3) (a:=1) (b:=8) (c:=1) (by kernel_rfl);refine Pv (t:=3) (sz:=1) ⟨_,Tryz.func277,by kernel_rfl,by kernel_rfl⟩ (fun eN w=>?_) (fun hp w=>?_) h0 h1
 ·subst eN;exact Any8.slices_Grow_room Pw none 0 0 0 w (zzab _) (by omega) (by omega) (zzab _)
 refine(Any8.slices_Grow_grow Pw i0 z hi0 hz0 (by omega) none 0 0 n [] w (zzab _) (by omega) (by rw[dO];omega) (by omega) (by simp) (fun _=>rfl) (fun a h=>by cases h)).mono fun e w'⟨he,hw⟩=>?_;refine⟨_,_,he,hw,?_⟩;have hg:n<=grownCap w (0+n) 0 3:=by have:=grownCap_ge w (0+n) 0 3;omega
 simp only[zzel,size_zeroCells,Cs];simp;have e1:tw.t 25=3:=rfl;simp only[e1];omega
def afx{Y:YT}{m:AM}{n:Nat}(hn:n<=1000000000){K:AV->AM->Prop}(h0:n=0->K (.sl .nil []) m)(h1:0<n->K (.sl (.own m.lens.length 2) []) {m with lens:=m.lens++[0]}):an Tryz.prog az Y 358 [.sl .nil [],I n] m K:=by
 obtain⟨i0,z,hi0,hz0,NQ,dO,Cs⟩:=Pu (P:=Tryz.prog) (t:=124) (a:=2) (b:=16) (c:=2) (by kernel_rfl);refine Pv (t:=124) (sz:=2) ⟨_,Tryz.func358,by kernel_rfl,by kernel_rfl⟩ (fun eN w=>?_) (fun hp w=>?_) h0 h1
 ·subst eN;exact Any8.slices_Grow_room abH none 0 0 0 w (zzab _) (by omega) (by omega) (zzab _)
 refine(Any8.slices_Grow_grow abH i0 z hi0 hz0 (by omega) none 0 0 n [] w (zzab _) (by omega) (by rw[dO];omega) (by omega) (by simp) (fun _=>rfl) (fun a h=>by cases h)).mono fun e w'⟨he,hw⟩=>?_;refine⟨_,_,he,hw,?_⟩;have hg:n<=grownCap w (0+n) 0 124:=by have:=grownCap_ge w (0+n) 0 124;omega
 simp only[zzel,size_zeroCells,Cs];simp;have e1:y5.t 25=124:=rfl;simp only[e1];omega
end Go.Proofs.YtnopaopphmjnmaaGreatDoor
