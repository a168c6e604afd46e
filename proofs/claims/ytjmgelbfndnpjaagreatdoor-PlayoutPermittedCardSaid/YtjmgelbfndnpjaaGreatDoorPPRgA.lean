import Derived.Test.YtjmgelbfndnpjaaGreatDoorPPMN
set_option linter.unusedVariables false
set_option linter.unusedSimpArgs false
namespace Go.Proofs.YtjmgelbfndnpjaaGreatDoor
open Go Go.Abs
def gapOK (l0:List Sp) (ln:Int):Int->List Ev2->Prop
 | pos,[]=>pos=ln
 | pos,e::r=>e.st=pos/\1<=e.fr/\(e.id=0\/(e.id,e.st)∈l0)/\gapOK l0 ln (pos+e.fr) r
theorem gapOK_le {l0:List Sp} {ln:Int}:∀ {b:List Ev2} {pos:Int},gapOK l0 ln pos b->pos+b.length<=ln
 | [],pos,h=>by simp only [gapOK] at h;simp;omega
 | e::r,pos,h=>by
  obtain ⟨_,h2,_,h4⟩:=h
  have:=gapOK_le h4
  simp only [List.length_cons];omega
theorem gap_fill {l0:List Sp} {ln:Int} (p:Pl) (fr t:Int) (rest:List Ev2):∀ (n:Nat) (a:Int),(t - a).toNat<=n->a<=t->gapOK l0 ln t rest->gapOK l0 ln a ((Vp fr t a).map (Xu p)++rest):=by
 intro n
 induction n with
 | zero=>intro a h h1 h2;obtain rfl:a=t:=by omega
         rw [Vp,if_neg (by omega)];exact h2
 | succ n ih =>
  intro a h h1 h2
  rw [Vp]
  split
  ·rename_i hlt
   have hN:1<=Vl fr t a/\Vl fr t a<=t - a:=by unfold Vl;split<;>omega
   exact ⟨rfl,hN.1,.inl rfl,ih (a+Vl fr t a) (by omega) (by omega) h2⟩
  ·obtain rfl:a=t:=by omega
   exact h2
def cntE (b:List Ev2):Nat:=(b.filter fun e=>decide (e.id≠0)).length
theorem cntE_app (a b:List Ev2):cntE (a++b)=cntE a+cntE b:=by simp [cntE]
theorem cntE_fill (p:Pl) (xs:List (Int×Int)):cntE (xs.map (Xu p))=0:=by
 induction xs with
 | nil=>rfl
 | cons x xs ih=>simp only [List.map_cons,cntE,List.filter_cons] at *;simpa [Xu] using ih
theorem cntE_cons (e:Ev2) (b:List Ev2):cntE (e::b)=(if e.id=0 then 0 else 1)+cntE b:=by
 simp only [cntE,List.filter_cons]
 by_cases h:e.id=0
 ·simp [h]
 ·simp [h];omega
theorem skipB_some {p:Pl} {s:Sp} {a:Int} {e:En} (h:skipB p s a=some e):Ko s.1 p.ens=some e/\s.1≠0/\1<=e.fr/\a<=s.2/\s.2+e.fr<=p.ln/\e.id=s.1:=by
 unfold skipB at h
 cases hf:Ko s.1 p.ens with
 | none=>rw [hf] at h;cases h
 | some x =>
  rw [hf] at h
  simp only at h
  split at h
  ·cases h
  ·rename_i hn
   cases h
   simp only [not_or] at hn
   exact ⟨rfl,hn.1,by omega,by omega,by omega,(fndN_mem hf).2⟩
theorem bldL_gap (p:Pl) (l0:List Sp):∀ (l:List Sp) (a:Int),(∀ s∈l,s∈l0)->a<=p.ln->gapOK l0 p.ln a (Uw p l a)/\cntE (Uw p l a)<=l.length
 | [],a,_,h=>by
  rw [Uw]
  have:=gap_fill (l0:=l0) p (Xq p) p.ln [] _ a (Nat.le_refl _) h rfl
  rw [List.append_nil] at this
  exact ⟨this,by rw [cntE_fill];exact Nat.zero_le _⟩
 | s::r,a,hm,h=>by
  rw [Uw]
  cases hs:skipB p s a with
  | none =>
   obtain ⟨h1,h2⟩:=bldL_gap p l0 r a (fun t ht=>hm t (by simp [ht])) h
   exact ⟨h1,by simp only [List.length_cons];omega⟩
  | some e =>
   obtain ⟨h1,h2,h3,h4,h5,h6⟩:=skipB_some hs
   obtain ⟨i1,i2⟩:=bldL_gap p l0 r (s.2+e.fr) (fun t ht=>hm t (by simp [ht])) (by omega)
   simp only [List.append_assoc,List.singleton_append]
   refine ⟨gap_fill p _ _ _ _ a (Nat.le_refl _) h4 ⟨rfl,h3,.inr ?_,i1⟩,?_⟩
   ·have:(e.id,s.2)=s:=by rw [h6]
    show (e.id,s.2)∈l0
    rw [this];exact hm s (by simp)
   ·rw [cntE_app,cntE_fill,cntE_cons]
    simp only [List.length_cons]
    split<;>omega
def Vg (n:Int):Prop := -9223372036854775808<=n/\n<=9223372036854775807
def OKP (p:Pl):Prop:=∀ e∈p.ens,e.al.length<=8796093022208
end Go.Proofs.YtjmgelbfndnpjaaGreatDoor
