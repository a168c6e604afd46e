import Derived.Test.YtnopaopphmjnmaaGreatDoorMECodeT
import Derived.Test.YtnopaopphmjnmaaGreatDoorMEMP
import Derived.Shelf.SlMaps.Clone
import Derived.Shelf.Spec.SlicesGrow
set_option linter.all false
set_option maxRecDepth 100000
set_option maxHeartbeats 64000000
namespace Go.Proofs.YtnopaopphmjnmaaGreatDoor
open Go Go.Abs
def H6:List AV:=[I 24000,I 1001,I 24,I 0,I 24,I 1,I 24,I 0,I 25,I 1,I 25,I 0,I 30000,I 1001,I 30,I 2,I 30,I 1,I 30,I 0,I 50,I 1,I 50,I 0,I 60000,I 1001,I 60,I 4,I 60,I 1,I 60,I 0]
def az:Nat->AV
 |0=>.ep H6 0
 |_=>.junk
def Zb{α:Type}{l:List α}{i:Nat}{a:α}(h:l[i]?=some a):l.drop i=a::l.drop (i+1):=by
 obtain⟨h1,h2⟩:=zza.1 h;rw[zzaf h1,h2]
structure Evt where
 id:Int
 it:Int
 st:Int
 fr:Int
 i:Int
 re:Int
 al:Option Int
def j6:Pure Tryz.prog az 88 [.sl .nil []] (.sl .nil []):=by
 refine Qn JE (fun _ _ _=>.junk) (by simp) ?_;simp[ab4,ab5]
def og(f:Int):Prop:= -1000000<=f/\f<=1000000
def wu(n:Int)(h:0<=n)(h':n<=2000000):IntKind.u64.wrap n=n:=by
 simp[IntKind.wrap,IntKind.bits,IntKind.signed];omega
def ZM:AV:=.aW [.agg [I 0,I 0,I 0,I 0,I 0,I 0,.sl .nil []],I 0,.bool false]
abbrev Sp:=Int×Int
def Xr(l:List Sp)(x:Int):Prop:=∃s∈l,s.1<=x/\x<s.2
def VS(l:List Sp):Prop:=(∀s∈l,s.1<s.2)/\l.Pairwise fun a b=>a.2<b.1
@[simp] def Yv(x:Int):Xr [] x<->False:=by simp[Xr]
@[simp] def Xd(s:Sp)(l:List Sp)(x:Int):Xr (s::l) x<->(s.1<=x/\x<s.2)\/Xr l x:=by simp[Xr]
@[simp] def Yx(a b:List Sp)(x:Int):Xr (a++b) x<->Xr a x\/Xr b x:=by
 simp only[Xr,zzao,or_and_right,exists_or]
def Ta{a b:List Sp}(h:a.Perm b)(x:Int):Xr a x<->Xr b x:=by simp only[Xr,h.mem_iff]
def rV:VS []:=⟨fun _ h=>(by cases h),.nil⟩
def cT{s:Sp}{l:List Sp}:VS (s::l)<->s.1<s.2/\(∀t∈l,s.2<t.1)/\VS l:=by
 simp only[VS,zzaw,forall_eq_or_imp,zzc];constructor
 ·rintro⟨⟨h1,h2⟩,h3,h4⟩;exact⟨h1,h3,h2,h4⟩
 rintro⟨h1,h3,h2,h4⟩;exact⟨⟨h1,h2⟩,h3,h4⟩
def D7{s:Sp}{l:List Sp}:VS (l++[s])<->VS l/\s.1<s.2/\∀t∈l,t.2<s.1:=by
 simp only[VS,zzao,zzbg,zzdh,zzgx,true_and];constructor
 ·rintro⟨h1,h2,h3⟩;exact⟨⟨fun t ht=>h1 t (.inl ht),h2⟩,h1 s (.inr rfl),fun t ht=>h3 t ht s rfl⟩
 rintro⟨⟨h1,h2⟩,h3,h4⟩;refine⟨?_,h2,?_⟩
 ·rintro t (ht|rfl)
  ·exact h1 t ht
  exact h3
 rintro t ht u rfl;exact h4 t ht
def rX:∀{a b:List Sp},VS a->VS b->(∀x,Xr a x<->Xr b x)->a=b
 |[],[],_,_,_=>rfl
 |[],t::b,_,hb,h=>by
  have:=(h t.1).2 (by rw[Xd];exact .inl ⟨zzbv _,(cT.1 hb).1⟩);simp at this
 |s::a,[],ha,_,h=>by
  have:=(h s.1).1 (by rw[Xd];exact .inl ⟨zzbv _,(cT.1 ha).1⟩);simp at this
 |s::a,t::b,ha,hb,h=>by
  obtain⟨s1,s2,s3⟩:=cT.1 ha;obtain⟨t1,t2,t3⟩:=cT.1 hb
  have key:∀{u v:Sp}{p q:List Sp},u.1<u.2->v.1<v.2->(∀w∈q,v.2<w.1)->(∀x,Xr (u::p) x->Xr (v::q) x)->v.1<=u.1:=by
   intro u v p q h1 oP h2 h3;obtain⟨w,hw,h4,h5⟩:=h3 u.1 (by rw[Xd];exact .inl ⟨zzbv _,h1⟩);rcases zzaw.1 hw with rfl|hw
   ·exact h4
   have:=h2 w hw;omega
  have e1:s.1=t.1:=Int.le_antisymm (key t1 s1 s2 fun x hx=>(h x).2 hx) (key s1 t1 t2 fun x hx=>(h x).1 hx)
  have abz:∀{u v:Sp}{p q:List Sp},u.1<u.2->u.1=v.1->(∀w∈p,u.2<w.1)->(∀x,Xr (v::q) x->Xr (u::p) x)->¬u.2<v.2:=by
   intro u v p q h1 h2 h3 h4 h5;obtain⟨w,hw,h6,h7⟩:=h4 u.2 (by rw[Xd];exact .inl ⟨by omega,h5⟩);rcases zzaw.1 hw with rfl|hw
   ·omega
   have:=h3 w hw;omega
  have e2:s.2=t.2:=by
   have k1:=abz s1 e1 s2 fun x hx=>(h x).2 hx;have k2:=abz t1 e1.symm t2 fun x hx=>(h x).1 hx;omega
  have e:s=t:=Prod.ext e1 e2;subst e;congr 1;refine rX s3 t3 fun x=>?_
  have out:∀{p:List Sp},(∀w∈p,s.2<w.1)->Xr p x->¬(s.1<=x/\x<s.2):=by
   rintro p hp ⟨w,hw,h1,_⟩ ⟨_,h2⟩;have:=hp w hw;omega
  have hx:=h x;rw[Xd,Xd]at hx;constructor
  ·intro h1;exact(hx.1 (.inr h1)).resolve_left (out s2 h1)
  intro h1;exact(hx.2 (.inr h1)).resolve_left (out t2 h1)
def Rn(out:List Sp)(v:Sp):List Sp:=match out.getLast? with
 |none=>[v]
 |some u=>if v.1<=u.2 then out.dropLast++[(u.1,max u.2 v.2)]else out++[v]
def Gg:List Sp->List Sp->List Sp
 |out,[]=>out
 |out,v::r=>Gg (Rn out v) r
def aoc{out:List Sp}{v:Sp}(ho:VS out)(hv:v.1<v.2)(hl:∀u∈out,u.1<=v.1):
  VS (Rn out v)/\(∀x,Xr (Rn out v) x<->Xr (out++[v]) x)/\∀u∈Rn out v,u.1<=v.1:=by
 unfold Rn;cases h:out.getLast? with
 |none=>
  have:out=[]:=zzgn.1 h;subst this;exact⟨cT.2 ⟨hv,by simp,rV⟩,by simp,by simp⟩
 |some u=>
  obtain⟨p,rfl⟩:∃p,out=p++[u]:=zzfa.1 h;obtain⟨h1,h2,h3⟩:=D7.1 ho;have hu:=hl u (by simp);by_cases hc:v.1<=u.2
  ·simp only[if_pos hc,zzfu];refine⟨D7.2 ⟨h1,?_,h3⟩,fun x=>?_,?_⟩
   ·show u.1<max u.2 v.2;omega
   ·simp only[Yx,Xd,Yv,or_false];constructor
    ·rintro(h|h)
     ·exact .inl (.inl h)
     by_cases hx:x<u.2
     ·exact .inl (.inr ⟨h.1,hx⟩)
     exact .inr ⟨by omega,by omega⟩
    rintro((h|h)|h)
    ·exact .inl h
    ·exact .inr ⟨h.1,by omega⟩
    exact .inr ⟨by omega,by omega⟩
   intro w hw;rcases zzao.1 hw with hw|hw
   ·exact hl w (by simp[hw])
   simp at hw;subst hw;exact hu
  simp only[if_neg hc];refine⟨D7.2 ⟨ho,hv,fun t ht=>?_⟩,fun x=>by simp only[],?_⟩
  ·rcases zzao.1 ht with ht|ht
   ·have:=h3 t ht;omega
   simp at ht;subst ht;omega
  intro w hw;rcases zzao.1 hw with hw|hw
  ·exact hl w hw
  simp at hw;subst hw;exact zzbv _
def abG:∀{r out:List Sp},VS out->(∀v∈r,v.1<v.2)->r.Pairwise (fun a b=>a.1<=b.1)->(∀u∈out,∀v∈r,u.1<=v.1)->
  VS (Gg out r)/\∀x,Xr (Gg out r) x<->Xr (out++r) x
 |[],out,h,_,_,_=>⟨h,fun x=>by simp[Gg]⟩
 |v::r,out,h,hn,hp,hl=>by
  obtain⟨h1,h2,h3⟩:=aoc h (hn v (by simp)) fun u hu=>hl u hu v (by simp);obtain⟨p1,p2⟩:=zzc.1 hp;obtain⟨h4,h5⟩:=abG (r:=r) h1 (fun w hw=>hn w (by simp[hw])) p2 fun u hu w hw=>zzhp (h3 u hu) (p1 w hw);refine⟨h4,fun x=>?_⟩;rw[Gg,h5,Yx,h2];simp only[Yx,Xd,Yv,or_false,or_assoc]
def mT(s:Sp):Bool:=decide (s.1<s.2)
def Xm(l:List Sp):List Sp:=Gg [] ((l.filter mT).mergeSort fun a b=>decide (a.1<=b.1))
def MU(l:List Sp)(x:Int):Xr (l.filter mT) x<->Xr l x:=by
 simp only[Xr,zzcp,mT,decide_eq_true_eq];constructor
 ·rintro⟨s,⟨h1,_⟩,h2⟩;exact⟨s,h1,h2⟩
 rintro⟨s,h1,h2⟩;exact⟨s,⟨h1,by omega⟩,h2⟩
def oy{l d:List Sp}(hp:d.Perm (l.filter mT))(hs:d.Pairwise fun a b=>a.1<=b.1):VS (Gg [] d)/\∀x,Xr (Gg [] d) x<->Xr l x:=by
 obtain⟨h1,h2⟩:=abG (r:=d) rV (fun v hv=>by have:=hp.mem_iff.1 hv;simp[mT]at this;exact this.2) hs (by simp);exact⟨h1,fun x=>by rw[h2,zzaj,Ta hp,MU]⟩
def Va(l:List Sp):VS (Xm l)/\∀x,Xr (Xm l) x<->Xr l x:=by
 refine oy (zzg _ _) ?_;have:=zzgv (le:=fun a b:Sp=>decide (a.1<=b.1)) (fun a b c h1 h2=>by simp at*;omega) (fun a b=>by simp;omega) (l.filter mT);exact this.imp (by simp)
def amR{l d:List Sp}(hp:d.Perm (l.filter mT))(hs:d.Pairwise fun a b=>a.1<=b.1):Gg [] d=Xm l:=
 rX (oy hp hs).1 (Va l).1 fun x=>by rw[(oy hp hs).2,(Va l).2]
def abH{l:List Sp}(h:VS l):Xm l=l:=rX (Va l).1 h (Va l).2
def aod{P:Int->Prop}{out:List Sp}{v:Sp}(ho:∀u∈out,P u.1/\P u.2)(hv:P v.1/\P v.2):∀u∈Rn out v,P u.1/\P u.2:=by
 unfold Rn;cases h:out.getLast? with
 |none=>intro u hu;simp at hu;subst hu;exact hv
 |some w=>
  obtain⟨p,rfl⟩:∃p,out=p++[w]:=zzfa.1 h;have hw:=ho w (by simp);by_cases hc:v.1<=w.2
  ·simp only[if_pos hc,zzfu];intro u hu;rcases zzao.1 hu with hu|hu
   ·exact ho u (by simp[hu])
   simp at hu;subst hu;refine⟨hw.1,?_⟩;show P (max w.2 v.2);rcases Int.le_total w.2 v.2 with h|h
   ·rw[Int.max_eq_right h];exact hv.2
   rw[Int.max_eq_left h];exact hw.2
  simp only[if_neg hc];intro u hu;rcases zzao.1 hu with hu|hu
  ·exact ho u hu
  simp at hu;subst hu;exact hv
def abI{P:Int->Prop}:∀{r out:List Sp},(∀u∈out,P u.1/\P u.2)->(∀u∈r,P u.1/\P u.2)->∀u∈Gg out r,P u.1/\P u.2
 |[],_,h,_=>h
 |v::r,out,h,hr=>abI (r:=r) (aod h (hr v (by simp))) fun u hu=>hr u (by simp[hu])
def ZA{P:Int->Prop}{l:List Sp}(h:∀u∈l,P u.1/\P u.2):∀u∈Xm l,P u.1/\P u.2:=
 abI (by simp) fun u hu=>h u (by
  have:=(zzg (l.filter mT) fun a b=>decide (a.1<=b.1)).mem_iff.1 hu;exact(zzcp.1 this).1)
def MV(out:List Sp)(v:Sp):(Rn out v).length<=out.length+1:=by
 unfold Rn;cases h:out.getLast? with
 |none=>simp
 |some w=>
  have:out≠[]:=by rintro rfl;simp at h
  have:=zzcw.2 this;dsimp only;split<;>simp<;>omega
def za:∀(r out:List Sp),(Gg out r).length<=out.length+r.length
 |[],out=>by simp[Gg]
 |v::r,out=>by
  have h1:=za r (Rn out v);have h2:=MV out v;rw[Gg];simp;omega
def Uc(l:List Sp):(Xm l).length<=l.length:=by
 have h1:=za ((l.filter mT).mergeSort fun a b=>decide (a.1<=b.1)) [];have h2:=zzbr mT l;rw[zzes]at h1;simp at h1;unfold Xm;omega
def uf:Nat->List Sp->List Sp->List Sp
 |0,_,_=>[]
 |_,[],_=>[]
 |_,_,[]=>[]
 |n+1,s::a,t::b=>
  (if max s.1 t.1<min s.2 t.2 then[(max s.1 t.1,min s.2 t.2)]else[])++(if s.2<t.2 then uf n a (t::b)else uf n (s::a) b)
def MW:∀(n:Nat){a b:List Sp},a.length+b.length<=n->VS a->VS b->VS (uf n a b)/\(∀x,Xr (uf n a b) x<->Xr a x/\Xr b x)/\
  ∀u∈uf n a b,(∃s∈a,s.1<=u.1)/\∃t∈b,t.1<=u.1
 |0,a,b,h,_,_=>by
  have h1:a=[]:=zzcc.1 (by omega);subst h1;exact⟨rV,fun x=>by simp[uf],by simp[uf]⟩
 |n+1,[],b,h,_,_=>⟨by simpa[uf]using rV,fun x=>by simp[uf],by simp[uf]⟩
 |n+1,s::a,[],h,_,_=>⟨by simpa[uf]using rV,fun x=>by simp[uf],by simp[uf]⟩
 |n+1,s::a,t::b,h,ha,hb=>by
  obtain⟨s1,s2,s3⟩:=cT.1 ha;obtain⟨t1,t2,t3⟩:=cT.1 hb;simp only[zzba]at h
  have mem:∀{p:List Sp}{u:Sp}{x:Int},(∀w∈p,u.2<w.1)->x<=u.2->¬Xr p x:=by
   rintro p u x hp hx ⟨w,hw,h1,_⟩;have:=hp w hw;omega
  rw[uf];by_cases hc:s.2<t.2
  ·rw[if_pos hc];obtain⟨h1,h2,h3⟩:=MW n (a:=a) (b:=t::b) (by simp;omega) s3 hb
   have hx:∀x,Xr (if max s.1 t.1<min s.2 t.2 then[(max s.1 t.1,min s.2 t.2)]else[]) x<->(s.1<=x/\x<s.2)/\Xr (t::b) x:=by
    intro x;rw[Xd];by_cases hi:max s.1 t.1<min s.2 t.2
    ·rw[if_pos hi];simp only[Xd,Yv,or_false];constructor
     ·rintro⟨h1,h2⟩;exact⟨⟨by omega,by omega⟩,.inl ⟨by omega,by omega⟩⟩
     rintro⟨h1,h2|h2⟩
     ·exact⟨by omega,by omega⟩
     exact absurd h2 (mem (u:=t) t2 (by omega))
    rw[if_neg hi];simp only[Yv,false_iff];rintro⟨h1,h2|h2⟩
    ·omega
    exact absurd h2 (mem (u:=t) t2 (by omega))
   refine⟨?_,fun x=>?_,?_⟩
   ·by_cases hi:max s.1 t.1<min s.2 t.2
    ·rw[if_pos hi,zzet];refine cT.2 ⟨hi,fun u hu=>?_,h1⟩;obtain⟨⟨w,hw,hwu⟩,_⟩:=h3 u hu;have:=s2 w hw;show min s.2 t.2<u.1;omega
    rw[if_neg hi];exact h1
   ·rw[Yx,hx,h2,Xd s];constructor
    ·rintro(⟨h1,h2⟩|⟨h1,h2⟩)
     ·exact⟨.inl h1,h2⟩
     exact⟨.inr h1,h2⟩
    rintro⟨h1|h1,h2⟩
    ·exact .inl ⟨h1,h2⟩
    exact .inr ⟨h1,h2⟩
   intro u hu;rcases zzao.1 hu with hu|hu
   ·split at hu
    ·simp at hu;subst hu;exact⟨⟨s,by simp,by show s.1<=max s.1 t.1;omega⟩,⟨t,by simp,by show t.1<=max s.1 t.1;omega⟩⟩
    cases hu
   obtain⟨⟨w,hw,hwu⟩,cL⟩:=h3 u hu;exact⟨⟨w,by simp[hw],hwu⟩,cL⟩
  rw[if_neg hc];obtain⟨h1,h2,h3⟩:=MW n (a:=s::a) (b:=b) (by simp;omega) ha t3
  have hx:∀x,Xr (if max s.1 t.1<min s.2 t.2 then[(max s.1 t.1,min s.2 t.2)]else[]) x<->Xr (s::a) x/\(t.1<=x/\x<t.2):=by
   intro x;rw[Xd];by_cases hi:max s.1 t.1<min s.2 t.2
   ·rw[if_pos hi];simp only[Xd,Yv,or_false];constructor
    ·rintro⟨h1,h2⟩;exact⟨.inl ⟨by omega,by omega⟩,⟨by omega,by omega⟩⟩
    rintro⟨h2|h2,h1⟩
    ·exact⟨by omega,by omega⟩
    exact absurd h2 (mem (u:=s) s2 (by omega))
   rw[if_neg hi];simp only[Yv,false_iff];rintro⟨h2|h2,h1⟩
   ·omega
   exact absurd h2 (mem (u:=s) s2 (by omega))
  refine⟨?_,fun x=>?_,?_⟩
  ·by_cases hi:max s.1 t.1<min s.2 t.2
   ·rw[if_pos hi,zzet];refine cT.2 ⟨hi,fun u hu=>?_,h1⟩;obtain⟨_,⟨w,hw,hwu⟩⟩:=h3 u hu;have:=t2 w hw;show min s.2 t.2<u.1;omega
   rw[if_neg hi];exact h1
  ·rw[Yx,hx,h2,Xd t];constructor
   ·rintro(⟨h1,h2⟩|⟨h1,h2⟩)
    ·exact⟨h1,.inl h2⟩
    exact⟨h1,.inr h2⟩
   rintro⟨h1,h2|h2⟩
   ·exact .inl ⟨h1,h2⟩
   exact .inr ⟨h1,h2⟩
  intro u hu;rcases zzao.1 hu with hu|hu
  ·split at hu
   ·simp at hu;subst hu;exact⟨⟨s,by simp,by show s.1<=max s.1 t.1;omega⟩,⟨t,by simp,by show t.1<=max s.1 t.1;omega⟩⟩
   cases hu
  obtain⟨ha',⟨w,hw,hwu⟩⟩:=h3 u hu;exact⟨ha',⟨w,by simp[hw],hwu⟩⟩
def zK(a b:List Sp):List Sp:=uf ((Xm a).length+(Xm b).length) (Xm a) (Xm b)
def lu(a b:List Sp):VS (zK a b)/\∀x,Xr (zK a b) x<->Xr a x/\Xr b x:=by
 obtain⟨h1,h2,_⟩:=MW _ (zzab _) (Va a).1 (Va b).1;exact⟨h1,fun x=>by rw[zK,h2,(Va a).2,(Va b).2]⟩
def Dd(f t:Int):List Sp:=if f<t then[(f,t)]else[]
def jS:Int->Int->List Sp->List Sp×List Sp
 |f,t,[]=>(Dd f t,[])
 |f,t,h::r=>if h.1<t then(if t<=max f h.2 then(Dd f h.1,h::r)else(Dd f h.1++(jS (max f h.2) t r).1,(jS (max f h.2) t r).2))else(Dd f t,h::r)
def ug:List Sp->List Sp->List Sp
 |[],_=>[]
 |s::a,hs=>(jS s.1 s.2 hs).1++ug a (jS s.1 s.2 hs).2
def De(a b:List Sp):List Sp:=ug (Xm a) (Xm b)
def qn(f t:Int):Dd f t=[]<->t<=f:=by unfold Dd;split<;>simp<;>omega
def Iv:∀{H:List Sp}{f t:Int},VS H->((jS f t H).1=[]<->∀x,f<=x->x<t->Xr H x)
 |[],f,t,_=>by
  simp only[jS,qn,Yv];constructor
  ·intro h x h1 h2;omega
  intro h;rcases zzfj f t with hf|hf
  ·exact(h f (zzbv _) hf).elim
  exact hf
 |h::r,f,t,hV=>by
  obtain⟨h1,h2,h3⟩:=cT.1 hV
  have mem:∀{x:Int},Xr r x->h.2<x:=by
   rintro x ⟨w,hw,h4,_⟩;have:=h2 w hw;omega
  rw[jS];by_cases hc:h.1<t
  ·rw[if_pos hc];by_cases hd:t<=max f h.2
   ·rw[if_pos hd];simp only[qn,Xd];constructor
    ·intro h5 x h6 h7;exact .inl ⟨by omega,by omega⟩
    intro h5;by_cases hf:f<t
    ·rcases h5 f (zzbv _) hf with h6|h6
     ·exact h6.1
     have:=mem h6;omega
    omega
   rw[if_neg hd];simp only[zzhe,qn,Iv h3,Xd];constructor
   ·rintro⟨h5,h6⟩ x h7 h8;by_cases hx:x<h.2
    ·exact .inl ⟨by omega,hx⟩
    exact .inr (h6 x (by omega) h8)
   intro h5;refine⟨?_,fun x h6 h7=>?_⟩
   ·rcases h5 f (zzbv _) (by omega)with h6|h6
    ·exact h6.1
    have:=mem h6;omega
   exact(h5 x (by omega) h7).resolve_left (by omega)
  rw[if_neg hc];simp only[qn,Xd];constructor
  ·intro h5 x h6 h7;omega
  intro h5;rcases zzfj f t with hf|hf
  ·rcases h5 f (zzbv _) hf with h6|h6
   ·omega
   have:=mem h6;omega
  exact hf
def MO{s:Sp}(hs:s.1<s.2)(l:List Sp):De [s] l=[]<->∀x,s.1<=x->x<s.2->Xr l x:=by
 rw[De,abH (l:=[s]) (cT.2 ⟨hs,by simp,rV⟩)];simp only[ug,zzat,Iv (Va l).1,(Va l).2]
open Go Go.Abs
def em(s:Sp):Bool:=decide (s.2<=s.1)
def Iw(s:Sp):mT s=!em s:=by simp[mT,em,<- decide_not,Int.not_le]
def nY(s:Sp):Pure Tryz.prog az 249 [.agg [I s.1,I s.2]] (.bool (em s)):=by
 refine Qn adL (fun _ _ _=>.junk) (by simp) ?_;simp[air,ais,em]
def BP:Nat->FuncId->List AV->AV:=fun _ _ l=>match l with
 |[.agg [.int _ a,.int _ b]]=>.bool (decide (b<=a))
 |_=>.junk
def pM:List Sp->Nat->Int
 |[],_=> -1
 |s::r,i=>if em s=true then i else pM r (i+1)
def Iy:∀{l:List Sp}{i:Nat},pM l i= -1->l.filter mT=l
 |[],_,_=>rfl
 |s::r,i,h=>by
  simp only[pM]at h;split at h
  ·omega
  rename_i hn;have sj:mT s=true:=by rw[Iw];simpa using hn
  simp[zzdw,sj,Iy h]
def Iz:∀{l:List Sp}{i:Nat},pM l i≠ -1->∃k:Nat,pM l i=((i+k:Nat):Int)/\k<l.length/\(l.take (k+1)).filter mT=l.take k
 |[],_,h=>absurd rfl h
 |s::r,i,h=>by
  simp only[pM]at h |-
  split
  ·rename_i hs;have sj:mT s=false:=by rw[Iw,hs];rfl
   exact⟨0,rfl,by simp,by simp[zzdw,sj]⟩
  rename_i hs;have sj:mT s=true:=by rw[Iw];simpa using hs
  rw[if_neg hs]at h;obtain⟨k,h1,h2,h3⟩:=Iz h;exact⟨k+1,by rw[h1];congr 1;omega,by simpa using h2,by simp[zzdw,sj,h3]⟩
def pL(l:List Sp)(hl:l.length<=1000000000):Pure Tryz.prog az 307 [.sl .ro (l.map Qe),.fn 249 [] []] (I (pM l 0)):=by
 refine Qn aee BP (by simp) ?_;simp[aiS,aiT];refine Qj Ck (fun s m=>∃i:Nat,s 8=I i/\i<=l.length/\pM (l.drop i) i=pM l 0/\m=⟨[],[],fun _=>.gone,0⟩) (fun s m=>l.length-(numOf (s 8)).toNat) ?_ ?_
 ·exact⟨0,by simp,by omega,by simp,rfl⟩
 rintro f m ⟨i,h8,hi,hr,rfl⟩;rcases zzaa i l.length with ai|bu
 ·obtain⟨s,hs⟩:=aR ai;have ah:=Zc hs
  have ei:l.drop i=s::l.drop (i+1):=by
   rw[zzaf ai,(zza.1 hs).2]
  have hw:=bK i (by omega);have aa:(i:Int)<(l.length:Int):=by omega
  have hp:=nY s;rw[ei]at hr;simp only[pM]at hr;by_cases he:s.2<=s.1
  ·have G6:em s=true:=by simp[em,he]
   rw[G6]at hp;rw[if_pos G6]at hr;simp[h8,ai,aa,ah,Ck,BP,he,<- hr];exact hp
  have G6:em s=false:=by simp[em];omega
  rw[G6]at hp;rw[G6]at hr;simp only[zzbq,if_false]at hr;simp[h8,ai,aa,ah,Ck,BP,he,hw];refine⟨hp,aO,⟨i+1,by simp,by omega,hr⟩,by omega⟩
 have bJ:¬(i:Int)<(l.length:Int):=by omega
 rw[zzal bu]at hr;simp only[pM]at hr;simp[h8,bJ,zzbl.2 bu,Ck,<- hr]
def nW(k:Int):Nat->FuncId->List AV->AV:=fun _ f l=>if f=307 then I k else BP 0 0 l
def Ll(Y:YT)(l:List Sp)(hl:l.length<=1000000000)(B:List (List AV))(L:List Nat)(st:Nat->LS)(n id:Nat)(aN:id<B.length)(aK:l≠[])(hB:Qh B id=cE l)(K:AV->AM->Prop)
  (hK:∀(B':List (List AV))(z:List Sp),bh (·=id) B B'->Qh B' id=cE (l.filter mT++z)->(l.filter mT).length+z.length=l.length->K (.bs id 0 (l.filter mT).length 2) ⟨B',L,st,n⟩):
  an Tryz.prog az Y 248 [.bs id 0 l.length 2,.fn 249 [] []] ⟨B,L,st,n⟩ K:=by
 have LR:=pL l hl;have fO:=Zm ⟨B,L,st,n⟩ 4 (C5 l);have lX:=Qek l;have aH:=Yc l;refine Xe NK (nW (pM l 0)) (by simp) ?_;by_cases hk:pM l 0= -1
 ·have hf:=Iy hk;rw[hk]at LR;have:=hK B [] (bh.refl _ _) (by rw[hf];simpa using hB) (by rw[hf];simp);rw[hf]at this;simp[EK,NJ,nW,hk,hB,fO,lX,aH];exact⟨LR,this⟩
 obtain⟨k,cQ,cV,Ba⟩:=Iz hk;rw[zzbu]at cQ;have D9:¬(k:Int)= -1:=by omega
 have XV:=bK k (by omega);rw[cQ]at LR;simp[EK,NJ,nW,cQ,D9,hB,fO,lX,aH,XV];refine⟨LR,?_⟩
 refine Qj Ci (fun f m=>∃(i j:Nat)(B':List (List AV))(L':List Sp),f 5=I i/\f 6=I j/\i<j/\j<=l.length/\m=⟨B',L,st,n⟩/\bh (·=id) B B'/\Qh B' id=cE L'/\L'.length=l.length/\L'.take i=(l.take j).filter mT/\L'.drop j=l.drop j)
  (fun f m=>l.length-(numOf (f 6)).toNat) ?_ ?_
 ·exact⟨k,k+1,B,l,by simp,by simp,by omega,by omega,rfl,bh.refl _ _,hB,rfl,Ba.symm,rfl⟩
 rintro f m ⟨i,j,B',L',h5,h6,ek,hj,rfl,fN,tT,tX,ht,hd⟩;have cG:id<B'.length:=zzbb aN fN.1;have jM:=Yc L';rcases zzaa j l.length with ai|bu
 ·obtain⟨s,hs⟩:=aR ai
  have iM:L'[j]?=some s:=by
   have:=congrArg (fun x=>x[0]?) hd;simpa[hs]using this
  have hg:=uI iM;have eR:(j:Int)<(l.length:Int):=by omega
  have aa:(i:Int)<(l.length:Int):=by omega
  have wV:i<l.length:=by omega
  have sM:=bK j (by omega);have K5:=bK i (by omega);have hp:=nY s;have bU:=Oy L' i s (by omega);simp only[setA]at bU;have fq:∀x,Qh (B'++x) id=cE L':=fun x=>by rw[Ql cG,tT]
  have mg:∀x v,(B'++x).set id v=B'.set id v++x:=fun x v=>Yn v cG
  have bB:(l.take (j+1)).filter mT=(l.take j).filter mT++[s].filter mT:=by
   rw[zzas,hs,zzcr];rfl
  have hdj:L'.drop (j+1)=l.drop (j+1):=by
   have:=congrArg (List.drop 1) hd;simpa[zzdv,zzff]using this
  by_cases he:s.2<=s.1
  ·have G6:em s=true:=by simp[em,he]
   have sj:mT s=false:=by rw[Iw,G6];rfl
   rw[G6]at hp;simp[h5,h6,eR,ai,aa,tT,fq,mg,hg,Ci,nW,BP,he,sM,K5];refine⟨hp,aO,⟨i,rfl,j+1,by simp,by omega,by omega,fN.app _,?_⟩,by omega⟩
   ·refine⟨L',rfl,tX,?_,hdj⟩;rw[bB,ht];simp[sj]
  have G6:em s=false:=by simp[em];omega
  have sj:mT s=true:=by rw[Iw,G6];rfl
  rw[G6]at hp;simp[h5,h6,eR,ai,aa,wV,tT,fq,mg,hg,Ci,nW,BP,he,sM,K5,bU,jM,tX];refine⟨hp,by omega,aO,⟨i+1,by simp,j+1,by simp,by omega,by omega,(fN.set (.inl rfl) _).app _,?_⟩,by omega⟩
  ·refine⟨L'.set i s,by rw[Ql (by simpa using cG),Vr _ cG],by simpa using tX,?_,?_⟩
   ·rw[bB,<- ht,zzas,zzaz (by omega),zzfx (by omega)];simp[sj]
   rw[zzfy (by omega)];exact hdj
 obtain rfl:j=l.length:=by omega
 rw[zzbs]at ht;have fK:(l.filter mT).length=i:=by rw[<- ht,zzaq];omega
 have Ow:¬((l.length:Nat):Int)<(l.length:Int):=by omega
 have bJ:(i:Int)<=(l.length:Int):=by omega
 have aa:(i:Int)<(l.length:Int):=by omega
 have wV:i<l.length:=ek
 have eC:cE L'≠[]:=by
  intro h;have:=congrArg List.length h;rw[jM,tX]at this;simp at this;omega
 have qt:setA (cE L') (i*2) (bG (l.length-i) [I 0,I 0])=cE (l.filter mT++List.replicate (l.length-i) (0,0)):=by
  have e1:L'=L'.take i++L'.drop i:=by simp
  conv=>lhs;rw[e1]
  rw[Qck,Qck,<- ht,Rr];have e2:(cE (L'.take i)).length=i*2:=by rw[Yc,zzaq];congr 1;omega
  rw[<- e2];exact o7 _ _ _ (by rw[Yc,Yc];simp;omega)
 simp[h5,h6,Ow,tT,aa,wV,bJ,Ci,cG,eC,jM,tX,qt];refine⟨by omega,?_⟩;have:=hK (B'.set id (cE (l.filter mT++List.replicate (l.length-i) (0,0)))) (List.replicate (l.length-i) (0,0)) (fN.set (.inl rfl) _) (Vr _ cG) (by simp;omega);rw[fK]at this;exact this
end Go.Proofs.YtnopaopphmjnmaaGreatDoor
namespace Go.Abs
open Go Go.RowKit
def abJ{P:Program}{gl:Nat->AV}{Y:YT}{f:FuncId}(hc:bC P f)(aZ:∀(b:Nat)(es:Array MapEntry)(clock:Nat)(w:World),w.heap[b]?=some (.map es clock)->Calls P f #[.map (some b)] w fun e w'=>e=.returned (.map (some w.heap.size))/\w'=w.alloc (.map es clock))
  {m:AM}{id kn:Nat}{kvs:List (List Int×AV)}(hb:m.boxes.getD id []=[.aJ kn kvs]){K:AV->AM->Prop}(hK:K (.mp m.boxes.length) {m with boxes:=m.boxes++[[.aJ kn kvs]]}):an P gl Y f [.mp id] m K:=by
 refine an.gj hc fun N w0 aq γ w vs hm hl hr=>?_
 match vs,hr with
 |[v],hr=>
  obtain⟨aN,hB⟩:=nE hb;obtain⟨b,es,h1,rfl,h3,h4,h5⟩:=hm.ji (hr.2 0 _ v rfl rfl) hB;refine(aZ b es _ w h3).mono fun e w'⟨he,hw⟩=>?_;subst hw;obtain⟨g1,g2⟩:=hm.Ks m.boxes.length (by simp[AM.B]) (x:=.aJ kn kvs) (o:=.map es es.size) ⟨rfl,h4,h5⟩;refine⟨_,_,.mp m.boxes.length,{m with boxes:=m.boxes++[[.aJ kn kvs]]},he,g1.dJ,?_,hl.mono' g1 rfl,.mp (by simp[G.gM]),hK⟩;rw[WD];exact g2
 |[],hr=>exact absurd hr.1 (by simp)
 |_::_::_,hr=>exact absurd hr.1 (by simp)
def PI{P:Program}{t:TypeId}{a b c:Nat}(h:(P.info? t).bind (fun i=>i.zero.map fun z=>(i.size,i.bytes,z.cells.size))=some (a,b,c)):∃i z,P.info? t=some i/\i.zero=some z/\i.size=a/\i.bytes=b/\z.cells.size=c:=by
 cases hi:P.info? t with
 |none=>rw[hi]at h;cases h
 |some i=>
  rw[hi]at h;simp only[zzcu]at h;cases hz:i.zero with
  |none=>rw[hz]at h;cases h
  |some z=>
   rw[hz]at h;simp only[zzcs,Option.some.injEq,Prod.mk.injEq]at h;exact⟨i,z,rfl,hz,h.1,h.2.1,h.2.2⟩
def PJ{P:Program}{gl:Nat->AV}{Y:YT}{f:FuncId}{t:TypeId}{sz n:Nat}(hc:bC P f)
  (cC:n=0->∀w:World,Calls P f #[.slice none 0 0,.int .i64 (n:Nat)] w fun e w'=>e=.returned (.slice none 0 0)/\w'=w)
  (auv:0<n->∀w:World,Calls P f #[.slice none 0 0,.int .i64 (n:Nat)] w fun e w'=>∃cap cs,e=.returned (.slice (some ⟨w.heap.size,0,none⟩) 0 cap)/\w'=w.drew.alloc (.cells cs t)/\cap*sz<=cs.size)
  {m:AM}{K:AV->AM->Prop}(h0:n=0->K (.sl .nil []) m)(h1:0<n->K (.sl (.own m.lens.length sz) []) {m with lens:=m.lens++[0]}):an P gl Y f [.sl .nil [],.int .i64 (n:Nat)] m K:=by
 refine an.gj hc fun N w0 aq γ w vs hm hl hr=>?_
 match vs,hr with
 |[v,u],hr=>
  have hv:v=.slice none 0 0:=by
   have h:=hr.2 0 _ v rfl rfl;cases h with
   |@sl _ _ _ a cap b off gF cv hcap hnil ha hsz hcc RD aS=>
    have:a=none:=aS;subst this;rw[hnil rfl];rfl
  have hu:u=.int .i64 (n:Nat):=(hr.2 1 _ u rfl rfl).aG;subst hv;subst hu;rcases zzcl n with hn|hn
  ·refine(cC hn w).mono fun e w'⟨he,hw⟩=>?_;subst hw;exact⟨_,γ,_,m,he,(Ev.refl _ γ).dJ,hm,hl,Cr,h0 hn⟩
  refine(auv hn w).mono fun e w'⟨cap,cs,he,hw,hs⟩=>?_;subst hw;have qu:=hm.ajl;have hL:m.L m.lens.length=none:=by simp[AM.L]
  have eY:γ.own m.lens.length=none:=by
   cases h:γ.own m.lens.length with
   |none=>rfl
   |some b=>obtain⟨_,_,k,hk⟩:=hm.own _ _ h;rw[hL]at hk;cases hk
  have dA:γ.cur m.lens.length=0:=hm.cur0 _ hL;have cw:=qu.2.trans (qu.1.fW (q:=0) (id:=m.lens.length) (n:=0) (by omega) (fun _=>eY) (.cells cs t));refine⟨_,γ.renew m.lens.length w.heap.size 0 0,.sl (.own m.lens.length sz) [],{m with lens:=m.lens++[0]},he,cw.dJ,?_,hl.mono' cw rfl,?_,h1 hn⟩
  ·rw[CD];exact qu.1.renew (by omega) (fun _=>eY) _
  refine .sl (rows:=[]) w.heap.size 0 sz (fun _ _=>undef) (zzbz _) (fun h=>(by cases h)) (fun h=>absurd rfl h) (fun _ h=>by cases h) (fun i j c h=>by simp[Qt]at h) (fun i j c h=>by simp[Qt]at h) ?_;refine⟨rfl,zzbz _,fun _=>.inr ⟨w.heap.size,0,cs,t,rfl,by simp[G.renew],by show(w.heap.push _)[w.heap.size]?=_;simp,by omega,fun o' _ hr=>?_⟩⟩;obtain hr|⟨_,hr⟩:=hr
  ·have:=hm.robd _ _ hr;omega
  omega
 |[],hr=>exact absurd hr.1 (by simp)
 |[_],hr=>exact absurd hr.1 (by simp)
 |_::_::_::_,hr=>exact absurd hr.1 (by simp)
end Go.Abs
namespace Go.Proofs.YtnopaopphmjnmaaGreatDoor
open Go Go.Abs Go.Shelf Go.RowKit Go.Lib
def MX:Go.Shelf.Ren:=⟨fun|5=>198|7=>272|n=>n,fun|23=>93|25=>3|3=>3|4=>4|20=>20|n=>n,fun|n=>n⟩
def aoe:Go.Proofs.SlLaysW.n5 Tryz.prog MX:={
 mixed:=by kernel_rfl,
 f5:=⟨Tryz.f198.name,by decide,Tryz.func198.trans (congrArg some (by kernel_rfl))⟩,
 f7:=Tryz.func272.trans (congrArg some (by kernel_rfl)),
 t4:=Tryz.underlying4,
 a4:=Tryz.isAgg4,
 z4:=Tryz.sizeOf4,
 v4:=Tryz.zeroValue4,
 t20:=Tryz.underlying20,
 a20:=Tryz.isAgg20,
 z20:=Tryz.sizeOf20,
 v20:=Tryz.zeroValue20,
 t23:=Tryz.underlying93,
 a23:=Tryz.isAgg93,
 z23:=Tryz.sizeOf93,
 v23:=Tryz.zeroValue93}
def tG:Go.Shelf.Ren:=⟨fun|4=>277|n=>n,fun|22=>59|25=>3|3=>3|4=>4|9=>9|20=>20|0=>0|n=>n,fun|n=>n⟩
def PK:Go.Proofs.Lays8.n4 Tryz.prog tG:={
 mixed:=by kernel_rfl,
 f4:=⟨Tryz.f277.name,by decide,Tryz.func277.trans (congrArg some (by kernel_rfl))⟩,
 t0:=Tryz.underlying0,
 a0:=Tryz.isAgg0,
 z0:=Tryz.sizeOf0,
 v0:=Tryz.zeroValue0,
 t3:=Tryz.underlying3,
 a3:=Tryz.isAgg3,
 z3:=Tryz.sizeOf3,
 v3:=Tryz.zeroValue3,
 t4:=Tryz.underlying4,
 a4:=Tryz.isAgg4,
 z4:=Tryz.sizeOf4,
 v4:=Tryz.zeroValue4,
 t9:=Tryz.underlying9,
 a9:=Tryz.isAgg9,
 z9:=Tryz.sizeOf9,
 v9:=Tryz.zeroValue9,
 t20:=Tryz.underlying20,
 a20:=Tryz.isAgg20,
 z20:=Tryz.sizeOf20,
 v20:=Tryz.zeroValue20,
 t22:=Tryz.underlying59,
 a22:=Tryz.isAgg59,
 z22:=Tryz.sizeOf59,
 v22:=Tryz.zeroValue59}
def zb:Go.Shelf.Ren:=⟨fun|4=>358|n=>n,fun|22=>126|25=>124|3=>3|4=>4|9=>9|20=>20|0=>0|2=>3|n=>n,fun|n=>n⟩
def abK:Go.Proofs.Lays8.n4 Tryz.prog zb:={
 mixed:=by kernel_rfl,
 f4:=⟨Tryz.f358.name,by decide,Tryz.func358.trans (congrArg some (by kernel_rfl))⟩,
 t0:=Tryz.underlying0,
 a0:=Tryz.isAgg0,
 z0:=Tryz.sizeOf0,
 v0:=Tryz.zeroValue0,
 t3:=Tryz.underlying3,
 a3:=Tryz.isAgg3,
 z3:=Tryz.sizeOf3,
 v3:=Tryz.zeroValue3,
 t4:=Tryz.underlying4,
 a4:=Tryz.isAgg4,
 z4:=Tryz.sizeOf4,
 v4:=Tryz.zeroValue4,
 t9:=Tryz.underlying9,
 a9:=Tryz.isAgg9,
 z9:=Tryz.sizeOf9,
 v9:=Tryz.zeroValue9,
 t20:=Tryz.underlying20,
 a20:=Tryz.isAgg20,
 z20:=Tryz.sizeOf20,
 v20:=Tryz.zeroValue20,
 t22:=Tryz.underlying126,
 a22:=Tryz.isAgg126,
 z22:=Tryz.sizeOf126,
 v22:=Tryz.zeroValue126}
def OQ{Y:YT}{m:AM}{id kn:Nat}{kvs:List (List Int×AV)}(hb:m.boxes.getD id []=[.aJ kn kvs]){K:AV->AM->Prop}(hK:K (.mp m.boxes.length) {m with boxes:=m.boxes++[[.aJ kn kvs]]}):an Tryz.prog az Y 198 [.mp id] m K:=
 abJ ⟨_,Tryz.func198,by kernel_rfl,by kernel_rfl⟩ (fun b es clock w h=>AnyW.maps_Clone aoe b es clock w h) hb hK
def afz{Y:YT}{m:AM}{n:Nat}(hn:n<=1000000000){K:AV->AM->Prop}(h0:n=0->K (.sl .nil []) m)(h1:0<n->K (.sl (.own m.lens.length 1) []) {m with lens:=m.lens++[0]}):an Tryz.prog az Y 277 [.sl .nil [],I n] m K:=by
 obtain⟨i0,z,hi0,hz0,N3,dV,Cv⟩:=PI (P:=Tryz.prog) (t:=3) (a:=1) (b:=8) (c:=1) (by kernel_rfl);refine PJ (t:=3) (sz:=1) ⟨_,Tryz.func277,by kernel_rfl,by kernel_rfl⟩ (fun eV w=>?_) (fun hp w=>?_) h0 h1
 ·subst eV;exact Any8.slices_Grow_room PK none 0 0 0 w (zzab _) (by omega) (by omega) (zzab _)
 refine(Any8.slices_Grow_grow PK i0 z hi0 hz0 (by omega) none 0 0 n [] w (zzab _) (by omega) (by rw[dV];omega) (by omega) (by simp) (fun _=>rfl) (fun a h=>by cases h)).mono fun e w'⟨he,hw⟩=>?_;refine⟨_,_,he,hw,?_⟩;have hg:n<=grownCap w (0+n) 0 3:=by have:=grownCap_ge w (0+n) 0 3;omega
 simp only[zzen,size_zeroCells,Cv];simp;have e1:tG.t 25=3:=rfl;simp only[e1];omega
def afw{Y:YT}{m:AM}{n:Nat}(hn:n<=1000000000){K:AV->AM->Prop}(h0:n=0->K (.sl .nil []) m)(h1:0<n->K (.sl (.own m.lens.length 2) []) {m with lens:=m.lens++[0]}):an Tryz.prog az Y 358 [.sl .nil [],I n] m K:=by
 obtain⟨i0,z,hi0,hz0,N3,dV,Cv⟩:=PI (P:=Tryz.prog) (t:=124) (a:=2) (b:=16) (c:=2) (by kernel_rfl);refine PJ (t:=124) (sz:=2) ⟨_,Tryz.func358,by kernel_rfl,by kernel_rfl⟩ (fun eV w=>?_) (fun hp w=>?_) h0 h1
 ·subst eV;exact Any8.slices_Grow_room abK none 0 0 0 w (zzab _) (by omega) (by omega) (zzab _)
 refine(Any8.slices_Grow_grow abK i0 z hi0 hz0 (by omega) none 0 0 n [] w (zzab _) (by omega) (by rw[dV];omega) (by omega) (by simp) (fun _=>rfl) (fun a h=>by cases h)).mono fun e w'⟨he,hw⟩=>?_;refine⟨_,_,he,hw,?_⟩;have hg:n<=grownCap w (0+n) 0 124:=by have:=grownCap_ge w (0+n) 0 124;omega
 simp only[zzen,size_zeroCells,Cv];simp;have e1:zb.t 25=124:=rfl;simp only[e1];omega
end Go.Proofs.YtnopaopphmjnmaaGreatDoor
