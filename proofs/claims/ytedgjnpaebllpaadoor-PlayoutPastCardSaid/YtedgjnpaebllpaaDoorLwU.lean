/-
  OWN WORK. The plain law of PlayoutPast: what is shown before a frame hangs on the events before it.
-/
import Derived.Test.YtedgjnpaebllpaaDoorLwX
import Derived.Test.YtedgjnpaebllpaaDoorLwY
import Derived.Test.YtedgjnpaebllpaaDoorLwZ
import Derived.Test.YtedgjnpaebllpaaDoorLwQ
set_option linter.unusedVariables false
set_option linter.unusedSimpArgs false
namespace Go.Proofs.YtedgjnpaebllpaaDoor
open Go Go.Abs

theorem fndE_later (k f : Int) (hk : k < f) : ∀ (r : List Evt), (∀ e ∈ r, f ≤ e.st) → fndE k r = none
  | [], _ => rfl
  | e :: r, h => by
    have h1 := h e (by simp)
    have ho : onB k e = false := by simp [onB]; omega
    simp only [fndE, ho]
    exact fndE_later k f hk r fun x hx => h x (by simp [hx])
theorem fndE_bef (k f : Int) (hk : k < f) (r : List Evt) (hr : ∀ e ∈ r, f ≤ e.st) : ∀ (l : List Evt), fndE k (bef f l ++ r) = (fndE k l).map (cutE f)
  | [] => by simp only [bef, List.nil_append, fndE, Option.map_none]; exact fndE_later k f hk r hr
  | e :: l => by
    have ih := fndE_bef k f hk r hr l
    simp only [bef]
    by_cases h1 : f ≤ e.st
    · have ho : onB k e = false := by simp [onB]; omega
      rw [if_pos h1, ih]
      simp [fndE, ho]
    · rw [if_neg h1]
      have ho : onB k (cutE f e) = onB k e := by
        simp only [onB, cutE]
        congr 1
        simp only [eq_iff_iff]
        split <;> omega
      simp only [List.cons_append, fndE, ho]
      cases onB k e with
      | true => simp
      | false => simpa using ih
theorem begs_later (k f : Int) (hk : k < f) : ∀ (r : List Evt), (∀ e ∈ r, f ≤ e.st) → begs k r = []
  | [], _ => rfl
  | e :: r, h => by
    have h1 := h e (by simp)
    rw [begs_no k e r (by omega)]
    exact begs_later k f hk r fun x hx => h x (by simp [hx])
theorem begs_bef (k f : Int) (hk : k < f) (r : List Evt) (hr : ∀ e ∈ r, f ≤ e.st) : ∀ (l : List Evt), begs k (bef f l ++ r) = begs k l
  | [] => by simp only [bef, List.nil_append]; rw [begs_later k f hk r hr]; rfl
  | e :: l => by
    have ih := begs_bef k f hk r hr l
    simp only [bef]
    by_cases h1 : f ≤ e.st
    · rw [if_pos h1, ih, begs_no k e l (by omega)]
    · rw [if_neg h1, List.cons_append]
      by_cases h2 : e.st ≤ k ∧ 1 ≤ e.fr
      · have h3 : 1 ≤ (cutE f e).fr := by simp only [cutE]; split <;> omega
        rw [begs_yes k e l h2.1 h2.2, begs_yes k (cutE f e) _ h2.1 h3, ih]
        congr 2
        simp only [frs, cutE]
        split <;> (try split) <;> (try split) <;> omega
      · have h3 : ¬ ((cutE f e).st ≤ k ∧ 1 ≤ (cutE f e).fr) := by
          simp only [cutE]
          split <;> omega
        rw [begs_no k e l h2, begs_no k (cutE f e) _ h3, ih]

theorem unit_past {ch ve ed c d : Int} {L : List Asset} {k f : Int} (hk : k < f) (l r : List Evt) (hr : ∀ e ∈ r, f ≤ e.st) :
    unitS ch ve ed c d l L k = { unitS ch ve ed c d (bef f l ++ r) L k with os := (unitS ch ve ed c d l L k).os, of := (unitS ch ve ed c d l L k).of, al := (unitS ch ve ed c d l L k).al } := by
  have h1 := fndE_bef k f hk r hr l
  have h2 := begs_bef k f hk r hr l
  cases hfe : fndE k l with
  | none =>
    rw [hfe] at h1
    rw [unit_none hfe, unit_none (by simpa using h1)]
  | some e =>
    rw [hfe] at h1
    have h1' : fndE k (bef f l ++ r) = some (cutE f e) := by simpa using h1
    have hi : idxE k (cutE f e) = idxE k e := rfl
    have ho : orgI (cutE f e) ed = orgI e ed := rfl
    have hit : (cutE f e).it = e.it := rfl
    have hre : (cutE f e).re = e.re := rfl
    cases hfn : fnd e.it L with
    | none => simp [unitS, hfe, h1', hit, hfn]
    | some a =>
      cases hp : a.pics[(idxE k e).toNat]? with
      | none => simp [unitS, hfe, h1', hit, hfn, hi, hp]
      | some p => simp [unitS, hfe, h1', hit, hre, hfn, hi, hp, ho, h2]

def sh (f : Int) (e : Evt) : Evt := { e with st := e.st + f }
theorem fe_set : ∀ (s : List Evt) (k : Nat) (p : Evt) (n : Int), s[k]? = some p → (fe s).set (k * 7 + 2) (I n) = fe (s.set k { p with st := n })
  | [], k, p, n, h => by simp at h
  | e :: s, 0, p, n, h => by simp at h; subst h; rw [List.set_cons_zero, fe_cons, fe_cons]; rfl
  | e :: s, k + 1, p, n, h => by
    rw [List.set_cons_succ, fe_cons, fe_cons, ← fe_set s k p n (by simpa using h), List.set_append_right _ _ (by show 7 ≤ _; omega)]
    rw [show (k + 1) * 7 + 2 - (evtRowF e).length = k * 7 + 2 by show (k + 1) * 7 + 2 - 7 = _; omega]
theorem fe_chunk : ∀ (s : List Evt), chunk 7 s.length (fe s) = s.map evtRowF
  | [] => rfl
  | e :: s => by
    rw [fe_cons]
    simp only [List.length_cons, chunk_succ, List.map_cons]
    rw [show List.take 7 (evtRowF e ++ fe s) = evtRowF e from rfl, show List.drop 7 (evtRowF e ++ fe s) = fe s from rfl, fe_chunk s]
theorem fe_ok : ∀ (s : List Evt), okRow (fe s) = true
  | [] => rfl
  | e :: s => by
    have ih := fe_ok s
    rw [fe_cons]
    simp only [okRow, List.all_append, Bool.and_eq_true] at ih ⊢
    exact ⟨by simp [evtRowF, ok1_alF], ih⟩
/-- The first i are later. -/
def shN (f : Int) (i : Nat) (l : List Evt) : List Evt := (l.take i).map (sh f) ++ l.drop i
theorem shN_len (f : Int) (i : Nat) (l : List Evt) (h : i ≤ l.length) : (shN f i l).length = l.length := by simp [shN]; omega
theorem shN_get (f : Int) (i : Nat) (l : List Evt) (p : Evt) (h : l[i]? = some p) : (shN f i l)[i]? = some p := by
  have := (List.getElem?_eq_some_iff.1 h).1
  have e1 : ((l.take i).map (sh f)).length = i := by simp; omega
  unfold shN
  rw [List.getElem?_append_right (by omega), e1, Nat.sub_self, List.getElem?_drop]; simpa using h
theorem shN_succ (f : Int) (i : Nat) (l : List Evt) (p : Evt) (h : l[i]? = some p) : (shN f i l).set i { p with st := p.st + f } = shN f (i + 1) l := by
  have hlt := (List.getElem?_eq_some_iff.1 h).1
  have e1 : ((l.take i).map (sh f)).length = i := by simp; omega
  unfold shN
  rw [List.set_append_right _ _ (by omega), e1, Nat.sub_self, drop_cons h, List.set_cons_zero, List.take_add_one, h]
  simp [sh]
theorem shN_zero (f : Int) (l : List Evt) : shN f 0 l = l := by simp [shN]
theorem shN_all (f : Int) (l : List Evt) : shN f l.length l = l.map (sh f) := by simp [shN]
end Go.Proofs.YtedgjnpaebllpaaDoor
