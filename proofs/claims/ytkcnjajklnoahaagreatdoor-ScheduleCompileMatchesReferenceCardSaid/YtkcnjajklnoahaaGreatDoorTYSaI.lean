import Derived.Test.YtkcnjajklnoahaaGreatDoorTYRiH
import Derived.Test.YtkcnjajklnoahaaGreatDoorTYSaG
set_option linter.unusedVariables false
set_option linter.unusedSimpArgs false
namespace Go.Proofs.YtkcnjajklnoahaaGreatDoor
open Go Go.Abs
theorem permS_VS (p:Pl) (id region:Int) (s:Sp):VS (Xn p id region s):=by
 unfold Xn
 simp only
 generalize Vx s=c
 cases Qy id p.its with
 | none=>exact Wo
 | some x =>
  simp only
  split
  ·exact Wo
  ·rename_i hb
   simp only [not_or] at hb
   split
   ·exact VS_cons.2 ⟨by omega,fun _ h=>(by cases h),Wo⟩
   ·split
    ·exact Wo
    ·exact (Qcq _ _).1
theorem addA_VS {L:List Sp} {f t:Int} (h:VS L) (hb:∀ s∈L,s.2<=f) (hft:f < t):VS (Ja L f t)/\∀ s∈Ja L f t,s.2<=t:=by
 unfold Ja
 rw [if_pos hft]
 cases hl:L.getLast? with
 | none =>
  simp only
  exact ⟨VS_cons.2 ⟨hft,fun _ h=>(by cases h),Wo⟩,fun s hs=>by simp at hs;subst hs;exact Int.le_refl _⟩
 | some s =>
  obtain ⟨D,rfl⟩:∃ D,L=D++[s]:=by
   have hne:L≠[]:=by rintro rfl;simp at hl
   refine ⟨L.dropLast,?_⟩
   have h1:=List.dropLast_concat_getLast hne
   rw [List.getLast?_eq_some_getLast hne] at hl
   cases hl
   exact h1.symm
  obtain ⟨h1,h2,h3⟩:=VS_snoc.1 h
  have hs:=hb s (by simp)
  simp only
  split
  ·rename_i e
   simp only [List.dropLast_concat]
   refine ⟨VS_snoc.2 ⟨h1,by simp only;omega,fun u hu=>h3 u hu⟩,?_⟩
   intro u hu
   rw [List.mem_append] at hu
   rcases hu with hu | hu
   ·have:=hb u (by simp [hu]);omega
   ·simp at hu;subst hu;exact Int.le_refl _
  ·rename_i e
   refine ⟨VS_snoc.2 ⟨h,hft,fun u hu=>?_⟩,?_⟩
   ·rw [List.mem_append] at hu
    rcases hu with hu | hu
    ·have:=h3 u hu;simp only;omega
    ·simp at hu;subst hu;simp only;omega
   ·intro u hu
    rw [List.mem_append] at hu
    rcases hu with hu | hu
    ·have:=hb u hu;omega
    ·simp at hu;subst hu;exact Int.le_refl _
theorem perm_const {p:Pl} {item region f x:Int} (hf:0<=f/\f<=100000000) (hx:0<=x/\x<=100000000) (h:Zl p=true->Xz p.nu p.de x=Xz p.nu p.de f):We p item region x=We p item region f:=by
 unfold We
 cases Qy item p.its with
 | none=>rfl
 | some it =>
  simp only
  by_cases hr:region < 0\/8<=region
  ·have c1:region < 0\/8<=region\/x < 0\/100000000 < x:=by omega
   have c2:region < 0\/8<=region\/f < 0\/100000000 < f:=by omega
   rw [if_pos c1,if_pos c2]
  ·have c1:¬ (region < 0\/8<=region\/x < 0\/100000000 < x):=by omega
   have c2:¬ (region < 0\/8<=region\/f < 0\/100000000 < f):=by omega
   rw [if_neg c1,if_neg c2]
   cases ht:Zl p with
   | false=>simp
   | true=>rw [h ht]
def endF (p:Pl) (last f:Int):Int:=if Zl p=true then min last (Yu p.nu p.de (Xz p.nu p.de f+1)) else last
theorem endF_ok {p:Pl} {last f:Int} (hl:last<=100000001) (h0:0<=f) (hf:f < last):f < endF p last f/\endF p last f<=last/\∀ item region x,f<=x->x < endF p last f->We p item region x=We p item region f:=by
 unfold endF
 cases ht:Zl p with
 | false =>
  simp only [Bool.false_eq_true,if_false]
  exact ⟨hf,Int.le_refl _,fun item region x h1 h2=>perm_const ⟨h0,by omega⟩ ⟨by omega,by omega⟩ (fun h=>by rw [ht] at h;cases h)⟩
 | true =>
  have hv:Xq p.nu p.de=true:=by
   simp only [Zl,Bool.and_eq_true] at ht;exact ht.1.1
  simp only [if_true]
  have hs:=Qba p.nu p.de f
  have hs0:=Qad (f:=0) (g:=f) hv (by omega) h0 (by omega)
  have hz:Xz p.nu p.de 0=0:=by rw [Xz,if_pos ⟨hv,by omega,by omega⟩];simp
  have a1:=frm_le (s:=Xz p.nu p.de f+1) (f:=f) hv (by omega) ⟨h0,by omega⟩
  refine ⟨by omega,by omega,fun item region x h1 h2=>perm_const ⟨h0,by omega⟩ ⟨by omega,by omega⟩ fun _=>?_⟩
  have a2:=frm_le (s:=Xz p.nu p.de f+1) (f:=x) hv (by omega) ⟨by omega,by omega⟩
  have a3:=Qad (f:=f) (g:=x) hv h0 h1 (by omega)
  omega
def UpTo (p:Pl) (item region first f:Int) (L:List Sp):Prop:=VS L/\(∀ s∈L,s.2<=f)/\(∀ x,Xm L x<->first<=x/\x < f/\We p item region x=true)/\(L.length:Int)<=f - first
theorem UpTo.step {p:Pl} {item region first last f:Int} {L:List Sp} (h:UpTo p item region first f L) (hl:last<=100000001) (h0:0<=first) (h1:first<=f) (hf:f < last) :
  UpTo p item region first (endF p last f) (if We p item region f=true then Ja L f (endF p last f) else L):=by
 obtain ⟨e1,e2,e3⟩:=endF_ok (p:=p) hl (by omega) hf
 obtain ⟨v1,v2,v3,v4⟩:=h
 split
 ·rename_i hp
  obtain ⟨a1,a2⟩:=addA_VS v1 v2 e1
  have a3:=(addA_ok (f:=f) (t:=endF p last f) (show NE L from v1.1)).2
  have a4:=addA_len L f (endF p last f)
  refine ⟨a1,a2,fun x=>?_,by omega⟩
  rw [a3,v3]
  constructor
  ·rintro (⟨g1,g2,g3⟩ | ⟨g1,g2⟩)
   ·exact ⟨g1,by omega,g3⟩
   ·exact ⟨by omega,g2,by rw [e3 item region x g1 g2];exact hp⟩
  ·rintro ⟨g1,g2,g3⟩
   by_cases g:x < f
   ·exact .inl ⟨g1,g,g3⟩
   ·exact .inr ⟨by omega,g2⟩
 ·rename_i hp
  refine ⟨v1,fun s hs=>by have:=v2 s hs;omega,fun x=>?_,by omega⟩
  rw [v3]
  constructor
  ·rintro ⟨g1,g2,g3⟩;exact ⟨g1,by omega,g3⟩
  ·rintro ⟨g1,g2,g3⟩
   by_cases g:x < f
   ·exact ⟨g1,g,g3⟩
   ·rw [e3 item region x (by omega) g2] at g3;exact absurd g3 hp
theorem UpTo.eq {p:Pl} {item region:Int} {s:Sp} {L:List Sp} (h:UpTo p item region (Vx s).1 (Vx s).2 L) (hs:s.2 - s.1<=1000000):L=Xn p item region s:=by
 obtain ⟨v1,_,v3,_⟩:=h
 refine VS_unique v1 (permS_VS p item region s) fun x=>?_
 rw [v3,Ul p item region s hs,permB_iff]
 obtain ⟨_,_,cx⟩:=clip_ok s
 have:=cx x
 constructor
 ·rintro ⟨h1,h2,h3⟩
  have:=this.1 ⟨h1,h2⟩
  exact ⟨this.1,this.2.1,h3⟩
 ·rintro ⟨h1,h2,h3⟩
  obtain ⟨it,q1,q2,q3,q4⟩:=h3
  have:=this.2 ⟨h1,h2,q3⟩
  exact ⟨this.1,this.2,it,q1,q2,q3,q4⟩
end Go.Proofs.YtkcnjajklnoahaaGreatDoor
namespace Go.Proofs.YtkcnjajklnoahaaGreatDoor
open Go Go.Abs
def rfS (fr:Int):List Sp->Int->Int->Option Int×Int×Int
 | [],run,last=>(none,run,last)
 | s::l,run,last=>if fr<=s.2 - (if run < 0\/s.1≠last then s.1 else run) then (some (if run < 0\/s.1≠last then s.1 else run),0,0) else rfS fr l (if run < 0\/s.1≠last then s.1 else run) s.2
def rfL (p:Pl) (it fr high from_ run last:Int):Option Int :=
 if from_ < high+fr then
  match rfS fr (Xn p it 0 (from_,min (from_+1000000) (high+fr))) run last with
  | (some r,_,_)=>if r<=high then some r else none
  | (none,run,last)=>rfL p it fr high (from_+1000000) run last
 else none
termination_by (high+fr - from_).toNat
decreasing_by omega
def Qaq (p:Pl) (it fr low high:Int):Option Int:=if fr < 1\/1000000 < fr\/high < low then none else rfL p it fr high low (-1) (-1)
section
variable (P:Int->Prop) (fr low:Int)
def OkA (t:Int):Prop:=∀ x,t<=x->x < t+fr->P x
structure RfI (c run last:Int):Prop where
 no:∀ t,low<=t->t+fr<=c->¬ OkA P fr t
 st:(run = -1/\last = -1/\∀ x,low<=x->x < c->¬ P x)\/(low<=run/\run < last/\last<=c/\(∀ x,run<=x->x < last->P x)/\(run=low\/¬ P (run - 1))/\∀ x,last<=x->x < c->¬ P x)
def Least (s:Int):Prop:=low<=s/\OkA P fr s/\∀ t,low<=t->t < s->¬ OkA P fr t
end
theorem rfS_ok {P:Int->Prop} {fr low b:Int} (hf:1<=fr) (hlow:0<=low):∀ (l:List Sp) (c run last:Int),low<=c->c<=b->VS l->(∀ x,c<=x->x < b->(Xm l x<->P x))->(∀ s∈l,c<=s.1/\s.2<=b)->RfI P fr low c run last ->
  (∃ r,(rfS fr l run last).1=some r/\Least P fr low r)\/((rfS fr l run last).1=none/\RfI P fr low b (rfS fr l run last).2.1 (rfS fr l run last).2.2)
 | [],c,run,last,h1,h2,_,hx,_,hI=>by
  refine .inr ⟨rfl,?_⟩
  have hno:∀ x,c<=x->x < b->¬ P x:=fun x g1 g2 g3=>by have:=(hx x g1 g2).2 g3;simp at this
  refine ⟨fun t g1 g2 g3=>?_,?_⟩
  ·rcases Int.lt_or_le c (t+fr) with h | h
   ·exact hno (t+fr - 1) (by omega) (by omega) (g3 _ (by omega) (by omega))
   ·exact hI.no t g1 h g3
  ·rcases hI.st with ⟨a1,a2,a3⟩ | ⟨a1,a2,a3,a4,a5,a6⟩
   ·refine .inl ⟨a1,a2,fun x g1 g2=>?_⟩
    rcases Int.lt_or_le x c with h | h
    ·exact a3 x g1 h
    ·exact hno x h g2
   ·refine .inr ⟨a1,a2,by simp only [rfS];omega,a4,a5,fun x g1 g2=>?_⟩
    rcases Int.lt_or_le x c with h | h
    ·exact a6 x g1 h
    ·exact hno x h g2
 | s::l,c,run,last,h1,h2,hv,hx,hin,hI=>by
  obtain ⟨v1,v2,v3⟩:=VS_cons.1 hv
  obtain ⟨i1,i2⟩:=hin s (by simp)
  have hno:∀ x,c<=x->x < s.1->¬ P x:=fun x g1 g2 g3=>by
   have:=(hx x g1 (by omega)).2 g3
   rw [Xe] at this
   rcases this with h | ⟨t,ht,g4,_⟩
   ·omega
   ·have:=v2 t ht;omega
  have hP:∀ x,s.1<=x->x < s.2->P x:=fun x g1 g2=>(hx x (by omega) (by omega)).1 (by rw [Xe];exact .inl ⟨g1,g2⟩)
  have hno1:∀ t,low<=t->t+fr<=s.1->¬ OkA P fr t:=fun t g1 g2 g3=>by
   rcases Int.lt_or_le c (t+fr) with h | h
   ·exact hno (t+fr - 1) (by omega) (by omega) (g3 _ (by omega) (by omega))
   ·exact hI.no t g1 h g3
  obtain ⟨q,hq⟩:∃ q,(if run < 0\/s.1≠last then s.1 else run)=q:=⟨_,rfl⟩
  have hrun:low<=q/\q<=s.1/\(∀ x,q<=x->x < s.2->P x)/\(q=low\/¬ P (q - 1)):=by
   rcases hI.st with ⟨a1,a2,a3⟩ | ⟨a1,a2,a3,a4,a5,a6⟩
   ·rw [if_pos (by omega)] at hq
    subst hq
    refine ⟨by omega,by omega,hP,?_⟩
    rcases Int.lt_or_le low s.1 with h | h
    ·right
     rcases Int.lt_or_le (s.1 - 1) c with h' | h'
     ·exact a3 _ (by omega) h'
     ·exact hno _ h' (by omega)
    ·left;omega
   ·by_cases hc:run < 0\/s.1≠last
    ·rw [if_pos hc] at hq
     subst hq
     refine ⟨by omega,by omega,hP,.inr ?_⟩
     rcases Int.lt_or_le (s.1 - 1) c with h' | h'
     ·exact a6 _ (by omega) h'
     ·exact hno _ h' (by omega)
    ·rw [if_neg hc] at hq
     subst hq
     refine ⟨a1,by omega,fun x g1 g2=>?_,a5⟩
     rcases Int.lt_or_le x last with h' | h'
     ·exact a4 x g1 h'
     ·exact hP x (by omega) g2
  obtain ⟨r1,r2,r3,r4⟩:=hrun
  have hbefore:∀ t,low<=t->t < q->¬ OkA P fr t:=fun t g1 g2 g3=>by
   rcases r4 with r4 | r4
   ·omega
   ·rcases Int.lt_or_le (q - 1) (t+fr) with h | h
    ·exact r4 (g3 _ (by omega) h)
    ·exact hno1 t g1 (by omega) g3
  rw [rfS,hq]
  by_cases hfnd:fr<=s.2 - q
  ·rw [if_pos hfnd]
   exact .inl ⟨q,rfl,r1,fun x g1 g2=>r3 x g1 (by omega),hbefore⟩
  ·rw [if_neg hfnd]
   refine rfS_ok hf hlow l s.2 q s.2 (by omega) (by omega) v3 (fun x g1 g2=>?_) (fun t ht=>⟨by have:=v2 t ht;omega,(hin t (by simp [ht])).2⟩) ⟨fun t g1 g2 g3=>?_,.inr ⟨r1,by omega,Int.le_refl _,r3,r4,fun x g1 g2=>by omega⟩⟩
   ·rw [<- hx x (by omega) g2,Xe]
    constructor
    ·exact .inr
    ·rintro (h | h)
     ·omega
     ·exact h
   ·rcases Int.lt_or_le t q with h | h
    ·exact hbefore t g1 h g3
    ·omega
theorem rfL_ok {p:Pl} {it fr high low:Int} (hf:1<=fr) (hlow:0<=low):∀ (from_ run last:Int),low<=from_->RfI (Ue p it 0) fr low (min from_ (high+fr)) run last->((high+fr<=from_->∀ t,low<=t->t<=high->¬ OkA (Ue p it 0) fr t)) ->
  match rfL p it fr high from_ run last with
  | some s=>Least (Ue p it 0) fr low s/\s<=high
  | none=>∀ t,low<=t->t<=high->¬ OkA (Ue p it 0) fr t:=by
 intro from_ run last h1 hI hend
 rw [rfL]
 by_cases hc:from_ < high+fr
 ·rw [if_pos hc]
  have hm:min from_ (high+fr)=from_:=by omega
  rw [hm] at hI
  obtain ⟨b,hb⟩:∃ b,min (from_+1000000) (high+fr)=b:=⟨_,rfl⟩
  rw [hb]
  have hhas:∀ x,from_<=x->x < b->(Xm (Xn p it 0 (from_,b)) x<->Ue p it 0 x):=fun x g1 g2=>by
   rw [Ul _ _ _ _ (by simp only;omega)]
   exact ⟨fun h=>h.2.2,fun h=>⟨g1,g2,h⟩⟩
  have hin:∀ s∈Xn p it 0 (from_,b),from_<=s.1/\s.2<=b:=fun s hs=>by
   have hv:=(permS_VS p it 0 (from_,b)).1 s hs
   have g1:Xm (Xn p it 0 (from_,b)) s.1:=⟨s,hs,by omega,by omega⟩
   have g2:Xm (Xn p it 0 (from_,b)) (s.2 - 1):=⟨s,hs,by omega,by omega⟩
   rw [Ul _ _ _ _ (by simp only;omega)] at g1 g2
   simp only at g1 g2
   omega
  have hk:=rfS_ok hf hlow (Xn p it 0 (from_,b)) from_ run last h1 (by omega) (permS_VS p it 0 (from_,b)) hhas hin hI
  obtain ⟨o,r2,l2,ho⟩:∃ o r2 l2,rfS fr (Xn p it 0 (from_,b)) run last=(o,r2,l2):=⟨_,_,_,rfl⟩
  rw [ho] at hk |-
  simp only at hk |-
  rcases hk with ⟨r,rfl,hL⟩ | ⟨rfl,hI2⟩
  ·simp only
   by_cases hr:r<=high
   ·rw [if_pos hr];exact ⟨hL,hr⟩
   ·rw [if_neg hr]
    exact fun t g1 g2=>hL.2.2 t g1 (by omega)
  ·simp only
   have hb2:min (from_+1000000) (high+fr)=b:=hb
   refine rfL_ok hf hlow (from_+1000000) r2 l2 (by omega) (by rw [hb2];exact hI2) fun hge t g1 g2=>hI2.no t g1 (by omega)
 ·rw [if_neg hc]
  exact hend (by omega)
termination_by from_=>(high+fr - from_).toNat
decreasing_by omega
theorem firstR_spec {p:Pl} {it fr low high:Int} (hlow:0<=low) (hf:1<=fr/\fr<=1000000):match Qaq p it fr low high with
  | some s=>Least (Ue p it 0) fr low s/\s<=high
  | none=>∀ t,low<=t->t<=high->¬ OkA (Ue p it 0) fr t:=by
 unfold Qaq
 by_cases hh:high < low
 ·rw [if_pos (by omega)]
  exact fun t g1 g2=>by omega
 ·rw [if_neg (by omega)]
  refine rfL_ok hf.1 hlow low (-1) (-1) (Int.le_refl _) ⟨fun t g1 g2 _=>by omega,.inl ⟨rfl,rfl,fun x g1 g2=>by omega⟩⟩ fun hge=>by omega
end Go.Proofs.YtkcnjajklnoahaaGreatDoor
namespace Go.Proofs.YtkcnjajklnoahaaGreatDoor
open Go Go.Abs
theorem start_first {p:Pl} {e:En} {low:Int} (hlow:0<=low) (hf:1<=e.fr) (hl:e.fr<=p.ln):Xr p e low=Qaq p e.it e.fr low (Vj p e):=by
 by_cases hbig:1000000 < e.fr
 ·rw [Xr,if_pos (by omega),Qaq,if_pos (by omega)]
 ·have hF:=firstR_spec (p:=p) (it:=e.it) (fr:=e.fr) (low:=low) (high:=Vj p e) hlow ⟨hf,by omega⟩
  cases hs:Xr p e low with
  | none =>
   cases hr:Qaq p e.it e.fr low (Vj p e) with
   | none=>rfl
   | some s =>
    rw [hr] at hF
    obtain ⟨⟨g1,g2,g3⟩,g4⟩:=hF
    simp only [Vj] at g4
    obtain ⟨s',hs',_⟩:=Qcf (p:=p) (e:=e) (from_:=low) ⟨hf,by omega⟩ g1 (by omega) ⟨by omega,by omega,by omega⟩ g2
    rw [hs] at hs';cases hs'
  | some s =>
   obtain ⟨a1,a2,a3,a4,a5,a6,a7⟩:=Uk hs
   have hsl:s<=Vj p e:=by simp only [Vj];omega
   cases hr:Qaq p e.it e.fr low (Vj p e) with
   | none =>
    rw [hr] at hF
    exact absurd a7 (hF s a2 hsl)
   | some t =>
    rw [hr] at hF
    obtain ⟨⟨g1,g2,g3⟩,g4⟩:=hF
    simp only [Vj] at g4
    obtain ⟨s',hs',hle⟩:=Qcf (p:=p) (e:=e) (from_:=low) ⟨hf,by omega⟩ g1 (by omega) ⟨by omega,by omega,by omega⟩ g2
    rw [hs] at hs'
    cases hs'
    rcases Int.lt_or_le s t with h | h
    ·exact absurd a7 (g3 s a2 h)
    ·congr 1;omega
theorem startS_max (p:Pl) (e:En) (f:Int):Xr p e f=Xr p e (max f 0):=by
 rw [Xr,Xr]
 have:max (max f 0) 0=max f 0:=by omega
 rw [this]
def Qbi (p:Pl) (it:Int):List (Int×Int)->Int->Int
 | [],f=>f
 | a::r,f=>Qbi p it r (if 0 < Ze p a.1 it then max f (a.2+Ze p a.1 it) else f)
theorem Yh {p:Pl} {it:Int}:∀ {bf:List (Int×Int)} {f t:Int},Qbi p it bf f<=t<->f<=t/\∀ a∈bf,0 < Ze p a.1 it->a.2+Ze p a.1 it<=t
 | [],f,t=>by simp [Qbi]
 | a::r,f,t=>by
  rw [Qbi,Yh]
  simp only [List.mem_cons,forall_eq_or_imp]
  by_cases h:0 < Ze p a.1 it
  ·rw [if_pos h]
   constructor
   ·rintro ⟨h1,h2⟩;exact ⟨by omega,fun _=>by omega,h2⟩
   ·rintro ⟨h1,h2,h3⟩;exact ⟨by have:=h2 h;omega,h3⟩
  ·rw [if_neg h]
   constructor
   ·rintro ⟨h1,h2⟩;exact ⟨h1,fun h'=>absurd h' h,h2⟩
   ·rintro ⟨h1,h2,h3⟩;exact ⟨h1,h3⟩
theorem low_from {p:Pl} {bf us en:List (Int×Int)} (hA:RelA p bf us en) (hB:RelB p bf us en) (it f:Int):Zb en (Vp p it) f=Qbi p it bf f:=by
 have key:∀ t,Zb en (Vp p it) f<=t<->Qbi p it bf f<=t:=fun t=>by
  rw [fromL_le_iff,Yh]
  refine and_congr_right fun _=>?_
  rw [riv_iff (p:=p) (it:=it) (fun o g=>∀ v,af o en=some v->v+g<=t)]
  constructor
  ·intro h a ha hg
   obtain ⟨x,_,hx,_⟩:=gapS_pos hg
   obtain ⟨v,hv,hle⟩:=hB.en a ha x hx
   have:=h a.1 x hx hg v hv
   omega
  ·intro h c x hx hg v hv
   obtain ⟨b,hb,y,hy,hys,hle⟩:=hA.en _ _ hv
   have hge:=gapS_spl (b:=it) hy hx hys
   have:=h b hb (by rw [hge];exact hg)
   rw [hge] at this
   omega
 have h1:=(key (Qbi p it bf f)).2 (Int.le_refl _)
 have h2:=(key (Zb en (Vp p it) f)).1 (Int.le_refl _)
 omega
theorem lowR_max (p:Pl) (it:Int) (bf:List (Int×Int)) (f g:Int):Qbi p it bf (max f g)=max (Qbi p it bf f) g:=by
 have key:∀ t,Qbi p it bf (max f g)<=t<->max (Qbi p it bf f) g<=t:=fun t=>by
  have h1:=Yh (p:=p) (it:=it) (bf:=bf) (f:=f) (t:=t)
  have h2:=Yh (p:=p) (it:=it) (bf:=bf) (f:=max f g) (t:=t)
  rw [h2]
  constructor
  ·rintro ⟨a,b⟩
   have:=h1.2 ⟨by omega,b⟩
   omega
  ·intro h
   obtain ⟨a,b⟩:=h1.1 (by omega)
   exact ⟨by omega,b⟩
 have h1:=(key (max (Qbi p it bf f) g)).2 (Int.le_refl _)
 have h2:=(key (Qbi p it bf (max f g))).1 (Int.le_refl _)
 omega
def ordB (p:Pl):List Int->Int->Bool
 | [],_=>true
 | id::r,last=>match Vy id p.ens 0 with
  | none=>false
  | some k=>if (k:Int)<=last then false else ordB p r k
def refG (p:Pl) (at_:Int):List Int->List (Int×Int)->Int->Option (List Sp)
 | [],_,_=>some []
 | id::r,bf,free=>match Yv id p.ens with
  | none=>none
  | some e=>if (Zo p e.it ≠ -1/\Zo p e.it<=cntI e.it bf)\/e.fr < 1\/p.ln < e.fr then none else
   match Qaq p e.it e.fr (Qbi p e.it bf (max (max free at_) e.ea)) (Vj p e) with
   | none=>none
   | some s=>match refG p at_ r ((e.it,s+e.fr)::bf) (s+e.fr) with
    | none=>none
    | some l=>some ((id,s)::l)
theorem earG_ref {p:Pl} {at_:Int}:∀ {ids:List Int} {us en bf:List (Int×Int)} {free free' last:Int},RelA p bf us en->RelB p bf us en->0<=free->max free at_=max free' 0->(ordB p ids last=true->Zt p ids us en free' last=refG p at_ ids bf free)/\(ordB p ids last=false->Zt p ids us en free' last=none)
 | [],us,en,bf,free,free',last,_,_,_,_=>⟨fun _=>rfl,fun h=>(by cases h)⟩
 | id::r,us,en,bf,free,free',last,hA,hB,h0,hfr=>by
  rw [Zt,refG,ordB]
  cases hf:Vy id p.ens 0 with
  | none=>exact ⟨fun h=>(by cases h),fun _=>rfl⟩
  | some k =>
   obtain ⟨_,e,h2,_,h4⟩:=Km hf
   rw [Nat.sub_zero] at h2
   simp only
   by_cases hk:(k:Int)<=last
   ·rw [if_pos hk,if_pos hk]
    exact ⟨fun h=>(by cases h),fun _=>rfl⟩
   ·rw [if_neg hk,if_neg hk,h2,h4]
    simp only
    have hcu:(af e.it us).getD 0=cntI e.it bf:=by
     have:=hA.us e.it
     have:=hB.us e.it
     omega
    rw [hcu]
    by_cases hr:Zo p e.it ≠ -1/\Zo p e.it<=cntI e.it bf
    ·rw [if_pos hr,if_pos (.inl hr)]
     exact ⟨fun _=>rfl,fun _=>rfl⟩
    ·rw [if_neg hr]
     by_cases hq:e.fr < 1\/p.ln < e.fr
     ·have hst:Xr p e (Zb en (Vp p e.it) (max e.ea free'))=none:=by rw [Xr,if_pos (by omega)]
      rw [hst,if_pos (.inr hq)]
      exact ⟨fun _=>rfl,fun _=>rfl⟩
     ·rw [if_neg (by rintro (h | h);exact hr h;exact hq h)]
      have hlow:Xr p e (Zb en (Vp p e.it) (max e.ea free'))=Qaq p e.it e.fr (Qbi p e.it bf (max (max free at_) e.ea)) (Vj p e):=by
       rw [low_from hA hB,startS_max,<- lowR_max]
       have:max (max e.ea free') 0=max (max free at_) e.ea:=by omega
       rw [this]
       refine start_first ?_ (by omega) (by omega)
       have:=(Yh (p:=p) (it:=e.it) (bf:=bf) (f:=max (max free at_) e.ea)).1 (Int.le_refl _)
       omega
      rw [hlow]
      cases hs:Qaq p e.it e.fr (Qbi p e.it bf (max (max free at_) e.ea)) (Vj p e) with
      | none=>exact ⟨fun _=>rfl,fun _=>rfl⟩
      | some s =>
       rw [hs] at hlow
       obtain ⟨a1,a2,a3,_⟩:=Uk hlow
       obtain ⟨i1,i2⟩:=earG_ref (p:=p) (at_:=at_) (ids:=r) (last:=k) (free:=s+e.fr) (free':=s+e.fr) (hA.note e.it (e':=s+e.fr) (e:=s+e.fr) (by omega) (Int.le_refl _) (by omega)) (hB.note e.it (s+e.fr)) (by omega) (by
        have h5:=(Yh (p:=p) (it:=e.it) (bf:=bf) (f:=max (max free at_) e.ea) (t:=s)).1 (by
         have hsp:=firstR_spec (p:=p) (it:=e.it) (fr:=e.fr) (low:=Qbi p e.it bf (max (max free at_) e.ea)) (high:=Vj p e) (by
          have:=(Yh (p:=p) (it:=e.it) (bf:=bf) (f:=max (max free at_) e.ea)).1 (Int.le_refl _)
          omega) a1
         rw [hs] at hsp
         exact hsp.1.1)
        omega)
       simp only
       refine ⟨fun h=>?_,fun h=>?_⟩
       ·rw [i1 h]
        cases refG p at_ r ((e.it,s+e.fr)::bf) (s+e.fr)<;>rfl
       ·rw [i2 h]
end Go.Proofs.YtkcnjajklnoahaaGreatDoor
