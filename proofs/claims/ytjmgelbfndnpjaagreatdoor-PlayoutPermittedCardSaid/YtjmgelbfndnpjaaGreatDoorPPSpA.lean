import Derived.Test.YtjmgelbfndnpjaaGreatDoorPPMA
set_option linter.unusedVariables false
set_option linter.unusedSimpArgs false
namespace Go.Proofs.YtjmgelbfndnpjaaGreatDoor
abbrev Sp:=Int×Int
def Xj (l:List Sp) (x:Int):Prop:=∃ s∈l,s.1<=x/\x < s.2
def VS (l:List Sp):Prop:=(∀ s∈l,s.1 < s.2)/\l.Pairwise fun a b=>a.2 < b.1
@[simp] theorem Vk (x:Int):Xj [] x<->False:=by simp [Xj]
@[simp] theorem Xc (s:Sp) (l:List Sp) (x:Int):Xj (s::l) x<->(s.1<=x/\x < s.2)\/Xj l x:=by simp [Xj]
@[simp] theorem Vo (a b:List Sp) (x:Int):Xj (a++b) x<->Xj a x\/Xj b x:=by
 simp only [Xj,List.mem_append,or_and_right,exists_or]
theorem hasS_perm {a b:List Sp} (h:a.Perm b) (x:Int):Xj a x<->Xj b x:=by simp only [Xj,h.mem_iff]
theorem VS_nil:VS []:=⟨fun _ h=>(by cases h),.nil⟩
theorem VS_cons {s:Sp} {l:List Sp}:VS (s::l)<->s.1 < s.2/\(∀ t∈l,s.2 < t.1)/\VS l:=by
 simp only [VS,List.mem_cons,forall_eq_or_imp,List.pairwise_cons]
 constructor
 ·rintro ⟨⟨h1,h2⟩,h3,h4⟩;exact ⟨h1,h3,h2,h4⟩
 ·rintro ⟨h1,h3,h2,h4⟩;exact ⟨⟨h1,h2⟩,h3,h4⟩
theorem VS_snoc {s:Sp} {l:List Sp}:VS (l++[s])<->VS l/\s.1 < s.2/\∀ t∈l,t.2 < s.1:=by
 simp only [VS,List.mem_append,List.mem_singleton,List.pairwise_append,List.pairwise_singleton,true_and]
 constructor
 ·rintro ⟨h1,h2,h3⟩
  exact ⟨⟨fun t ht=>h1 t (.inl ht),h2⟩,h1 s (.inr rfl),fun t ht=>h3 t ht s rfl⟩
 ·rintro ⟨⟨h1,h2⟩,h3,h4⟩
  refine ⟨?_,h2,?_⟩
  ·rintro t (ht | rfl)
   ·exact h1 t ht
   ·exact h3
  ·rintro t ht u rfl;exact h4 t ht
theorem VS_unique:∀ {a b:List Sp},VS a->VS b->(∀ x,Xj a x<->Xj b x)->a=b
 | [],[],_,_,_=>rfl
 | [],t::b,_,hb,h=>by
  have:=(h t.1).2 (by rw [Xc];exact .inl ⟨Int.le_refl _,(VS_cons.1 hb).1⟩)
  simp at this
 | s::a,[],ha,_,h=>by
  have:=(h s.1).1 (by rw [Xc];exact .inl ⟨Int.le_refl _,(VS_cons.1 ha).1⟩)
  simp at this
 | s::a,t::b,ha,hb,h=>by
  obtain ⟨s1,s2,s3⟩:=VS_cons.1 ha
  obtain ⟨t1,t2,t3⟩:=VS_cons.1 hb
  have key:∀ {u v:Sp} {p q:List Sp},u.1 < u.2->v.1 < v.2->(∀ w∈q,v.2 < w.1)->(∀ x,Xj (u::p) x->Xj (v::q) x)->v.1<=u.1:=by
   intro u v p q h1 h1' h2 h3
   obtain ⟨w,hw,h4,h5⟩:=h3 u.1 (by rw [Xc];exact .inl ⟨Int.le_refl _,h1⟩)
   rcases List.mem_cons.1 hw with rfl | hw
   ·exact h4
   ·have:=h2 w hw;omega
  have e1:s.1=t.1:=Int.le_antisymm (key t1 s1 s2 fun x hx=>(h x).2 hx) (key s1 t1 t2 fun x hx=>(h x).1 hx)
  have key2:∀ {u v:Sp} {p q:List Sp},u.1 < u.2->u.1=v.1->(∀ w∈p,u.2 < w.1)->(∀ x,Xj (v::q) x->Xj (u::p) x)->¬ u.2 < v.2:=by
   intro u v p q h1 h2 h3 h4 h5
   obtain ⟨w,hw,h6,h7⟩:=h4 u.2 (by rw [Xc];exact .inl ⟨by omega,h5⟩)
   rcases List.mem_cons.1 hw with rfl | hw
   ·omega
   ·have:=h3 w hw;omega
  have e2:s.2=t.2:=by
   have k1:=key2 s1 e1 s2 fun x hx=>(h x).2 hx
   have k2:=key2 t1 e1.symm t2 fun x hx=>(h x).1 hx
   omega
  have e:s=t:=Prod.ext e1 e2
  subst e
  congr 1
  refine VS_unique s3 t3 fun x=>?_
  have out:∀ {p:List Sp},(∀ w∈p,s.2 < w.1)->Xj p x->¬ (s.1<=x/\x < s.2):=by
   rintro p hp ⟨w,hw,h1,_⟩ ⟨_,h2⟩
   have:=hp w hw;omega
  have hx:=h x
  rw [Xc,Xc] at hx
  constructor
  ·intro h1;exact (hx.1 (.inr h1)).resolve_left (out s2 h1)
  ·intro h1;exact (hx.2 (.inr h1)).resolve_left (out t2 h1)
def mst (out:List Sp) (v:Sp):List Sp:=match out.getLast? with
 | none=>[v]
 | some u=>if v.1<=u.2 then out.dropLast++[(u.1,max u.2 v.2)] else out++[v]
def mrg:List Sp->List Sp->List Sp
 | out,[]=>out
 | out,v::r=>mrg (mst out v) r
theorem mst_ok {out:List Sp} {v:Sp} (ho:VS out) (hv:v.1 < v.2) (hl:∀ u∈out,u.1<=v.1) :
  VS (mst out v)/\(∀ x,Xj (mst out v) x<->Xj (out++[v]) x)/\∀ u∈mst out v,u.1<=v.1:=by
 unfold mst
 cases h:out.getLast? with
 | none =>
  have:out=[]:=List.getLast?_eq_none_iff.1 h
  subst this
  exact ⟨VS_cons.2 ⟨hv,by simp,VS_nil⟩,by simp,by simp⟩
 | some u =>
  obtain ⟨p,rfl⟩:∃ p,out=p++[u]:=List.getLast?_eq_some_iff.1 h
  obtain ⟨h1,h2,h3⟩:=VS_snoc.1 ho
  have hu:=hl u (by simp)
  by_cases hc:v.1<=u.2
  ·simp only [if_pos hc,List.dropLast_concat]
   refine ⟨VS_snoc.2 ⟨h1,?_,h3⟩,fun x=>?_,?_⟩
   ·show u.1 < max u.2 v.2;omega
   ·simp only [Vo,Xc,Vk,or_false]
    constructor
    ·rintro (h | h)
     ·exact .inl (.inl h)
     ·by_cases hx:x < u.2
      ·exact .inl (.inr ⟨h.1,hx⟩)
      ·exact .inr ⟨by omega,by omega⟩
    ·rintro ((h | h) | h)
     ·exact .inl h
     ·exact .inr ⟨h.1,by omega⟩
     ·exact .inr ⟨by omega,by omega⟩
   ·intro w hw
    rcases List.mem_append.1 hw with hw | hw
    ·exact hl w (by simp [hw])
    ·simp at hw;subst hw;exact hu
  ·simp only [if_neg hc]
   refine ⟨VS_snoc.2 ⟨ho,hv,fun t ht=>?_⟩,fun x=>by simp only [],?_⟩
   ·rcases List.mem_append.1 ht with ht | ht
    ·have:=h3 t ht;omega
    ·simp at ht;subst ht;omega
   ·intro w hw
    rcases List.mem_append.1 hw with hw | hw
    ·exact hl w hw
    ·simp at hw;subst hw;exact Int.le_refl _
theorem mrg_ok:∀ {r out:List Sp},VS out->(∀ v∈r,v.1 < v.2)->r.Pairwise (fun a b=>a.1<=b.1)->(∀ u∈out,∀ v∈r,u.1<=v.1) ->
  VS (mrg out r)/\∀ x,Xj (mrg out r) x<->Xj (out++r) x
 | [],out,h,_,_,_=>⟨h,fun x=>by simp [mrg]⟩
 | v::r,out,h,hn,hp,hl=>by
  obtain ⟨h1,h2,h3⟩:=mst_ok h (hn v (by simp)) fun u hu=>hl u hu v (by simp)
  obtain ⟨p1,p2⟩:=List.pairwise_cons.1 hp
  obtain ⟨h4,h5⟩:=mrg_ok (r:=r) h1 (fun w hw=>hn w (by simp [hw])) p2 fun u hu w hw=>Int.le_trans (h3 u hu) (p1 w hw)
  refine ⟨h4,fun x=>?_⟩
  rw [mrg,h5,Vo,h2]
  simp only [Vo,Xc,Vk,or_false,or_assoc]
def ne_ (s:Sp):Bool:=decide (s.1 < s.2)
def Xb (l:List Sp):List Sp:=mrg [] ((l.filter ne_).mergeSort fun a b=>decide (a.1<=b.1))
theorem filter_has (l:List Sp) (x:Int):Xj (l.filter ne_) x<->Xj l x:=by
 simp only [Xj,List.mem_filter,ne_,decide_eq_true_eq]
 constructor
 ·rintro ⟨s,⟨h1,_⟩,h2⟩;exact ⟨s,h1,h2⟩
 ·rintro ⟨s,h1,h2⟩;exact ⟨s,⟨h1,by omega⟩,h2⟩
theorem mrg_sorted {l d:List Sp} (hp:d.Perm (l.filter ne_)) (hs:d.Pairwise fun a b=>a.1<=b.1):VS (mrg [] d)/\∀ x,Xj (mrg [] d) x<->Xj l x:=by
 obtain ⟨h1,h2⟩:=mrg_ok (r:=d) VS_nil (fun v hv=>by have:=hp.mem_iff.1 hv;simp [ne_] at this;exact this.2) hs (by simp)
 exact ⟨h1,fun x=>by rw [h2,List.nil_append,hasS_perm hp,filter_has]⟩
theorem Va (l:List Sp):VS (Xb l)/\∀ x,Xj (Xb l) x<->Xj l x:=by
 refine mrg_sorted (List.mergeSort_perm _ _) ?_
 have:=List.pairwise_mergeSort (le:=fun a b:Sp=>decide (a.1<=b.1)) (fun a b c h1 h2=>by simp at *;omega) (fun a b=>by simp;omega) (l.filter ne_)
 exact this.imp (by simp)
theorem mrg_eq {l d:List Sp} (hp:d.Perm (l.filter ne_)) (hs:d.Pairwise fun a b=>a.1<=b.1):mrg [] d=Xb l :=
 VS_unique (mrg_sorted hp hs).1 (Va l).1 fun x=>by rw [(mrg_sorted hp hs).2,(Va l).2]
theorem normS_VS {l:List Sp} (h:VS l):Xb l=l:=VS_unique (Va l).1 h (Va l).2
theorem mst_bd {P:Int->Prop} {out:List Sp} {v:Sp} (ho:∀ u∈out,P u.1/\P u.2) (hv:P v.1/\P v.2):∀ u∈mst out v,P u.1/\P u.2:=by
 unfold mst
 cases h:out.getLast? with
 | none=>intro u hu;simp at hu;subst hu;exact hv
 | some w =>
  obtain ⟨p,rfl⟩:∃ p,out=p++[w]:=List.getLast?_eq_some_iff.1 h
  have hw:=ho w (by simp)
  by_cases hc:v.1<=w.2
  ·simp only [if_pos hc,List.dropLast_concat]
   intro u hu
   rcases List.mem_append.1 hu with hu | hu
   ·exact ho u (by simp [hu])
   ·simp at hu;subst hu
    refine ⟨hw.1,?_⟩
    show P (max w.2 v.2)
    rcases Int.le_total w.2 v.2 with h | h
    ·rw [Int.max_eq_right h];exact hv.2
    ·rw [Int.max_eq_left h];exact hw.2
  ·simp only [if_neg hc]
   intro u hu
   rcases List.mem_append.1 hu with hu | hu
   ·exact ho u hu
   ·simp at hu;subst hu;exact hv
theorem mrg_bd {P:Int->Prop}:∀ {r out:List Sp},(∀ u∈out,P u.1/\P u.2)->(∀ u∈r,P u.1/\P u.2)->∀ u∈mrg out r,P u.1/\P u.2
 | [],_,h,_=>h
 | v::r,out,h,hr=>mrg_bd (r:=r) (mst_bd h (hr v (by simp))) fun u hu=>hr u (by simp [hu])
theorem normS_bd {P:Int->Prop} {l:List Sp} (h:∀ u∈l,P u.1/\P u.2):∀ u∈Xb l,P u.1/\P u.2 :=
 mrg_bd (by simp) fun u hu=>h u (by
  have:=(List.mergeSort_perm (l.filter ne_) fun a b=>decide (a.1<=b.1)).mem_iff.1 hu
  exact (List.mem_filter.1 this).1)
theorem length_mst (out:List Sp) (v:Sp):(mst out v).length<=out.length+1:=by
 unfold mst
 cases h:out.getLast? with
 | none=>simp
 | some w =>
  have:out≠[]:=by rintro rfl;simp at h
  have:=List.length_pos_iff.2 this
  dsimp only
  split<;>simp<;>omega
theorem length_mrg:∀ (r out:List Sp),(mrg out r).length<=out.length+r.length
 | [],out=>by simp [mrg]
 | v::r,out=>by
  have h1:=length_mrg r (mst out v)
  have h2:=length_mst out v
  rw [mrg];simp;omega
theorem Vs (l:List Sp):(Xb l).length<=l.length:=by
 have h1:=length_mrg ((l.filter ne_).mergeSort fun a b=>decide (a.1<=b.1)) []
 have h2:=List.length_filter_le ne_ l
 rw [List.length_mergeSort] at h1
 simp at h1
 unfold Xb;omega
def ovl:Nat->List Sp->List Sp->List Sp
 | 0,_,_=>[]
 | _,[],_=>[]
 | _,_,[]=>[]
 | n+1,s::a,t::b =>
  (if max s.1 t.1 < min s.2 t.2 then [(max s.1 t.1,min s.2 t.2)] else [])++(if s.2 < t.2 then ovl n a (t::b) else ovl n (s::a) b)
theorem ovl_ok:∀ (n:Nat) {a b:List Sp},a.length+b.length<=n->VS a->VS b->VS (ovl n a b)/\(∀ x,Xj (ovl n a b) x<->Xj a x/\Xj b x) /\
  ∀ u∈ovl n a b,(∃ s∈a,s.1<=u.1)/\∃ t∈b,t.1<=u.1
 | 0,a,b,h,_,_=>by
  have h1:a=[]:=List.length_eq_zero_iff.1 (by omega)
  subst h1
  exact ⟨VS_nil,fun x=>by simp [ovl],by simp [ovl]⟩
 | n+1,[],b,h,_,_=>⟨by simpa [ovl] using VS_nil,fun x=>by simp [ovl],by simp [ovl]⟩
 | n+1,s::a,[],h,_,_=>⟨by simpa [ovl] using VS_nil,fun x=>by simp [ovl],by simp [ovl]⟩
 | n+1,s::a,t::b,h,ha,hb=>by
  obtain ⟨s1,s2,s3⟩:=VS_cons.1 ha
  obtain ⟨t1,t2,t3⟩:=VS_cons.1 hb
  simp only [List.length_cons] at h
  have mem:∀ {p:List Sp} {u:Sp} {x:Int},(∀ w∈p,u.2 < w.1)->x<=u.2->¬ Xj p x:=by
   rintro p u x hp hx ⟨w,hw,h1,_⟩
   have:=hp w hw;omega
  rw [ovl]
  by_cases hc:s.2 < t.2
  ·rw [if_pos hc]
   obtain ⟨h1,h2,h3⟩:=ovl_ok n (a:=a) (b:=t::b) (by simp;omega) s3 hb
   have hx:∀ x,Xj (if max s.1 t.1 < min s.2 t.2 then [(max s.1 t.1,min s.2 t.2)] else []) x<->(s.1<=x/\x < s.2)/\Xj (t::b) x:=by
    intro x
    rw [Xc]
    by_cases hi:max s.1 t.1 < min s.2 t.2
    ·rw [if_pos hi]
     simp only [Xc,Vk,or_false]
     constructor
     ·rintro ⟨h1,h2⟩;exact ⟨⟨by omega,by omega⟩,.inl ⟨by omega,by omega⟩⟩
     ·rintro ⟨h1,h2 | h2⟩
      ·exact ⟨by omega,by omega⟩
      ·exact absurd h2 (mem (u:=t) t2 (by omega))
    ·rw [if_neg hi]
     simp only [Vk,false_iff]
     rintro ⟨h1,h2 | h2⟩
     ·omega
     ·exact absurd h2 (mem (u:=t) t2 (by omega))
   refine ⟨?_,fun x=>?_,?_⟩
   ·by_cases hi:max s.1 t.1 < min s.2 t.2
    ·rw [if_pos hi,List.singleton_append]
     refine VS_cons.2 ⟨hi,fun u hu=>?_,h1⟩
     obtain ⟨⟨w,hw,hwu⟩,_⟩:=h3 u hu
     have:=s2 w hw
     show min s.2 t.2 < u.1;omega
    ·rw [if_neg hi];exact h1
   ·rw [Vo,hx,h2,Xc s]
    constructor
    ·rintro (⟨h1,h2⟩ | ⟨h1,h2⟩)
     ·exact ⟨.inl h1,h2⟩
     ·exact ⟨.inr h1,h2⟩
    ·rintro ⟨h1 | h1,h2⟩
     ·exact .inl ⟨h1,h2⟩
     ·exact .inr ⟨h1,h2⟩
   ·intro u hu
    rcases List.mem_append.1 hu with hu | hu
    ·split at hu
     ·simp at hu;subst hu
      exact ⟨⟨s,by simp,by show s.1<=max s.1 t.1;omega⟩,⟨t,by simp,by show t.1<=max s.1 t.1;omega⟩⟩
     ·cases hu
    ·obtain ⟨⟨w,hw,hwu⟩,hb'⟩:=h3 u hu
     exact ⟨⟨w,by simp [hw],hwu⟩,hb'⟩
  ·rw [if_neg hc]
   obtain ⟨h1,h2,h3⟩:=ovl_ok n (a:=s::a) (b:=b) (by simp;omega) ha t3
   have hx:∀ x,Xj (if max s.1 t.1 < min s.2 t.2 then [(max s.1 t.1,min s.2 t.2)] else []) x<->Xj (s::a) x/\(t.1<=x/\x < t.2):=by
    intro x
    rw [Xc]
    by_cases hi:max s.1 t.1 < min s.2 t.2
    ·rw [if_pos hi]
     simp only [Xc,Vk,or_false]
     constructor
     ·rintro ⟨h1,h2⟩;exact ⟨.inl ⟨by omega,by omega⟩,⟨by omega,by omega⟩⟩
     ·rintro ⟨h2 | h2,h1⟩
      ·exact ⟨by omega,by omega⟩
      ·exact absurd h2 (mem (u:=s) s2 (by omega))
    ·rw [if_neg hi]
     simp only [Vk,false_iff]
     rintro ⟨h2 | h2,h1⟩
     ·omega
     ·exact absurd h2 (mem (u:=s) s2 (by omega))
   refine ⟨?_,fun x=>?_,?_⟩
   ·by_cases hi:max s.1 t.1 < min s.2 t.2
    ·rw [if_pos hi,List.singleton_append]
     refine VS_cons.2 ⟨hi,fun u hu=>?_,h1⟩
     obtain ⟨_,⟨w,hw,hwu⟩⟩:=h3 u hu
     have:=t2 w hw
     show min s.2 t.2 < u.1;omega
    ·rw [if_neg hi];exact h1
   ·rw [Vo,hx,h2,Xc t]
    constructor
    ·rintro (⟨h1,h2⟩ | ⟨h1,h2⟩)
     ·exact ⟨h1,.inl h2⟩
     ·exact ⟨h1,.inr h2⟩
    ·rintro ⟨h1,h2 | h2⟩
     ·exact .inl ⟨h1,h2⟩
     ·exact .inr ⟨h1,h2⟩
   ·intro u hu
    rcases List.mem_append.1 hu with hu | hu
    ·split at hu
     ·simp at hu;subst hu
      exact ⟨⟨s,by simp,by show s.1<=max s.1 t.1;omega⟩,⟨t,by simp,by show t.1<=max s.1 t.1;omega⟩⟩
     ·cases hu
    ·obtain ⟨ha',⟨w,hw,hwu⟩⟩:=h3 u hu
     exact ⟨ha',⟨w,by simp [hw],hwu⟩⟩
def Wp (a b:List Sp):List Sp:=ovl ((Xb a).length+(Xb b).length) (Xb a) (Xb b)
theorem intS_ok (a b:List Sp):VS (Wp a b)/\∀ x,Xj (Wp a b) x<->Xj a x/\Xj b x:=by
 obtain ⟨h1,h2,_⟩:=ovl_ok _ (Nat.le_refl _) (Va a).1 (Va b).1
 exact ⟨h1,fun x=>by rw [Wp,h2,(Va a).2,(Va b).2]⟩
def Qbd (f t:Int):List Sp:=if f < t then [(f,t)] else []
def sub1:Int->Int->List Sp->List Sp×List Sp
 | f,t,[]=>(Qbd f t,[])
 | f,t,h::r=>if h.1 < t then (if t<=max f h.2 then (Qbd f h.1,h::r) else (Qbd f h.1++(sub1 (max f h.2) t r).1,(sub1 (max f h.2) t r).2)) else (Qbd f t,h::r)
def subL:List Sp->List Sp->List Sp
 | [],_=>[]
 | s::a,hs=>(sub1 s.1 s.2 hs).1++subL a (sub1 s.1 s.2 hs).2
def subS (a b:List Sp):List Sp:=subL (Xb a) (Xb b)
theorem addS_nil (f t:Int):Qbd f t=[]<->t<=f:=by unfold Qbd;split<;>simp<;>omega
theorem sub1_nil:∀ {H:List Sp} {f t:Int},VS H->((sub1 f t H).1=[]<->∀ x,f<=x->x < t->Xj H x)
 | [],f,t,_=>by
  simp only [sub1,addS_nil,Vk]
  constructor
  ·intro h x h1 h2;omega
  ·intro h
   rcases Int.lt_or_le f t with hf | hf
   ·exact (h f (Int.le_refl _) hf).elim
   ·exact hf
 | h::r,f,t,hV=>by
  obtain ⟨h1,h2,h3⟩:=VS_cons.1 hV
  have mem:∀ {x:Int},Xj r x->h.2 < x:=by
   rintro x ⟨w,hw,h4,_⟩
   have:=h2 w hw;omega
  rw [sub1]
  by_cases hc:h.1 < t
  ·rw [if_pos hc]
   by_cases hd:t<=max f h.2
   ·rw [if_pos hd]
    simp only [addS_nil,Xc]
    constructor
    ·intro h5 x h6 h7;exact .inl ⟨by omega,by omega⟩
    ·intro h5
     by_cases hf:f < t
     ·rcases h5 f (Int.le_refl _) hf with h6 | h6
      ·exact h6.1
      ·have:=mem h6;omega
     ·omega
   ·rw [if_neg hd]
    simp only [List.append_eq_nil_iff,addS_nil,sub1_nil h3,Xc]
    constructor
    ·rintro ⟨h5,h6⟩ x h7 h8
     by_cases hx:x < h.2
     ·exact .inl ⟨by omega,hx⟩
     ·exact .inr (h6 x (by omega) h8)
    ·intro h5
     refine ⟨?_,fun x h6 h7=>?_⟩
     ·rcases h5 f (Int.le_refl _) (by omega) with h6 | h6
      ·exact h6.1
      ·have:=mem h6;omega
     ·exact (h5 x (by omega) h7).resolve_left (by omega)
  ·rw [if_neg hc]
   simp only [addS_nil,Xc]
   constructor
   ·intro h5 x h6 h7;omega
   ·intro h5
    rcases Int.lt_or_le f t with hf | hf
    ·rcases h5 f (Int.le_refl _) hf with h6 | h6
     ·omega
     ·have:=mem h6;omega
    ·exact hf
theorem covers_iff {s:Sp} (hs:s.1 < s.2) (l:List Sp):subS [s] l=[]<->∀ x,s.1<=x->x < s.2->Xj l x:=by
 rw [subS,normS_VS (l:=[s]) (VS_cons.2 ⟨hs,by simp,VS_nil⟩)]
 simp only [subL,List.append_nil,sub1_nil (Va l).1,(Va l).2]
end Go.Proofs.YtjmgelbfndnpjaaGreatDoor
