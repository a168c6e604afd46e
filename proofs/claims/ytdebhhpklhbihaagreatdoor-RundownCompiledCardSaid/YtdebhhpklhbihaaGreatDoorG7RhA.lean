/-
  OWN WORK. Contract: rundown.At on events with any alternatives.
-/
import Derived.Test.YtdebhhpklhbihaaGreatDoorG7MN
set_option linter.unusedVariables false
set_option linter.unusedSimpArgs false
namespace Go.Proofs.YtdebhhpklhbihaaGreatDoor
open Go Go.Abs

def onB2 (f : Int) (e : Ev2) : Bool := decide (e.st ≤ f ∧ f < e.st + e.fr)
def Small2 (e : Ev2) : Prop := (0 ≤ e.st ∧ e.st ≤ 1000000) ∧ (0 ≤ e.fr ∧ e.fr ≤ 1000000) ∧ (0 ≤ e.i ∧ e.i ≤ 1000000) ∧ e.al.length ≤ 8796093022208

theorem at1b_pure (e : Ev2) (f : Int) (h : Small2 e) (hf : SmallF f) : Pure Tryz.prog gl0 37 [.agg (ev2RowR e), .ep [I f] 0] (.bool (onB2 f e)) := by
  refine pureE code37 (fun _ _ _ => .junk) (by simp) ?_
  obtain ⟨⟨a1, a2⟩, ⟨a3, a4⟩, _⟩ := h
  obtain ⟨a5, a6⟩ := hf
  by_cases h1 : e.st ≤ f
  · have w1 := wu e.st (by omega) (by omega)
    have w2 := wu f (by omega) (by omega)
    have w3 := wu (f - e.st) (by omega) (by omega)
    have w4 := wu e.fr (by omega) (by omega)
    by_cases h2 : 0 < e.fr
    · have : (f - e.st < e.fr) = (f < e.st + e.fr) := by apply propext; omega
      simp [sc37, rs37, ev2RowR, h1, h2, onB2, w1, w2, w3, w4, this]
    · have : ¬ f < e.st + e.fr := by omega
      simp [sc37, rs37, ev2RowR, h1, h2, onB2, this]
  · simp [sc37, rs37, ev2RowR, h1, onB2]

def srch2 (f : Int) : List Ev2 → Nat → Int
  | [], _ => -1
  | e :: r, i => if onB2 f e = true then i else srch2 f r (i + 1)
def fnd2 (f : Int) : List Ev2 → Option Ev2
  | [] => none
  | e :: r => if onB2 f e = true then some e else fnd2 f r
theorem srch2_none {f : Int} : ∀ {L : List Ev2} {i : Nat}, fnd2 f L = none → srch2 f L i = -1
  | [], _, _ => rfl
  | a :: r, i, h => by
    simp only [fnd2] at h
    split at h
    · cases h
    · rename_i hn; simp only [srch2, if_neg hn]; exact srch2_none h
theorem srch2_some {f : Int} {a : Ev2} : ∀ {L : List Ev2} {i : Nat}, fnd2 f L = some a → ∃ k : Nat, srch2 f L i = ((i + k : Nat) : Int) ∧ L[k]? = some a ∧ onB2 f a = true
  | [], _, h => by cases h
  | b :: r, i, h => by
    simp only [fnd2] at h
    split at h
    · rename_i hb; cases h; exact ⟨0, by simp [srch2, hb], rfl, hb⟩
    · rename_i hn
      obtain ⟨k, h1, h2, h3⟩ := srch2_some (i := i + 1) h
      exact ⟨k + 1, by simp only [srch2, if_neg hn, h1]; omega, by simpa using h2, h3⟩

def orcOn2 (f : Int) : Nat → FuncId → List AV → AV := fun _ _ l => match l with
  | [.agg [_, _, .int _ st, .int _ fr, _, _, _], _] => .bool (decide (st ≤ f ∧ f < st + fr))
  | _ => .junk

theorem index2_pure (L : List Ev2) (f : Int) (hL : L.length ≤ 1000000000) (hs : ∀ e ∈ L, Small2 e) (hf : SmallF f) : Pure Tryz.prog gl0 38 [.sl .ro (L.map ev2RowR), .fn 37 [] [.ep [I f] 0]] (I (srch2 f L 0)) := by
  refine pureE code38 (orcOn2 f) (by simp) ?_
  simp [sc38, rs38]
  refine vc_loopE w38_0 (fun s m => ∃ i : Nat, s 8 = I i ∧ i ≤ L.length ∧ srch2 f (L.drop i) i = srch2 f L 0 ∧ m = ⟨[], [], fun _ => .gone, 0⟩) (fun s m => L.length - (numOf (s 8)).toNat) ?_ ?_
  · exact ⟨0, by simp, by omega, by simp, rfl⟩
  · rintro s m ⟨i, hi, hle, hr, rfl⟩
    rcases Nat.lt_or_ge i L.length with hlt | hge
    · obtain ⟨a, ha⟩ : ∃ a, L[i]? = some a := ⟨L[i], List.getElem?_eq_getElem hlt⟩
      have hrow : rowN (L.map ev2RowR) i = ev2RowR a := rowN_eq (by simp [ha])
      have hw : IntKind.i64.wrap ((i : Int) + 1) = ((i + 1 : Nat) : Int) := by rw [wrap_in] <;> omega
      rw [drop_cons ha] at hr
      have hp : Pure Tryz.prog gl0 37 [.agg (ev2RowR a), .ep [I f] 0] (.bool (onB2 f a)) := at1b_pure a f (hs a (List.mem_of_getElem? ha)) hf
      have ho : decide (a.st ≤ f ∧ f < a.st + a.fr) = onB2 f a := rfl
      by_cases h : onB2 f a = true
      · simp [srch2, h] at hr
        rw [h] at hp ho
        simp at ho
        simp [hi, hrow, hlt, ev2RowR, orcOn2, w38_0, ho]
        exact ⟨hp, hr⟩
      · simp at h
        simp [srch2, h] at hr
        rw [h] at hp ho
        have ho' : decide (a.st ≤ f) = false ∨ decide (f < a.st + a.fr) = false := by
          by_cases q : a.st ≤ f
          · right; simp at ho ⊢; omega
          · left; simp [q]
        simp only [decide_eq_false_iff_not] at ho
        simp [hi, hrow, hlt, ev2RowR, orcOn2, w38_0, ho, hw]
        refine ⟨hp, ag ?_, ⟨i + 1, by simp, by omega, hr⟩, by omega⟩
        repeat (first | exact agree_refl _ _ | refine agree_cons _ rfl ?_)
    · rw [List.drop_eq_nil_of_le hge] at hr
      simp [hi, Nat.not_lt.2 hge, w38_0]
      exact hr

def found2 (f : Int) : Option Ev2 → AV
  | none => zeroE
  | some e => .tup [.agg (ev2RowR e), I (e.i + f - e.st), .bool true]

set_option maxRecDepth 100000 in
theorem at2_pure (L : List Ev2) (f : Int) (hL : L.length ≤ 1000000000) (hs : ∀ e ∈ L, Small2 e) (hf : SmallF f) : Pure Tryz.prog gl0 16 [.sl .ro (L.map ev2RowR), I f] (found2 f (fnd2 f L)) := by
  have hix := index2_pure L f hL hs hf
  refine pureE code16 (fun _ g l => if g = 38 then I (srch2 f L 0) else l.headD .junk) (by simp) ?_
  cases hfn : fnd2 f L with
  | none =>
    rw [srch2_none hfn] at hix ⊢
    simp [sc16, rs16, found2, zeroE]
    exact hix
  | some a =>
    obtain ⟨k, h1, h2, h3⟩ := srch2_some (i := 0) hfn
    rw [h1] at hix ⊢
    have hlt : k < L.length := (List.getElem?_eq_some_iff.1 h2).1
    have hrow : rowN (L.map ev2RowR) k = ev2RowR a := rowN_eq (by simp [h2])
    obtain ⟨⟨a1, a2⟩, ⟨a3, a4⟩, ⟨a7, a8⟩, a9⟩ := hs a (List.mem_of_getElem? h2)
    obtain ⟨a5, a6⟩ := hf
    have w1 : IntKind.i64.wrap (a.i + f) = a.i + f := by rw [wrap_in] <;> omega
    have w2 : IntKind.i64.wrap (a.i + f - a.st) = a.i + f - a.st := by rw [wrap_in] <;> omega
    rw [Nat.zero_add] at hix
    have hcn := cloneS_pure a.al a9
    simp [sc16, rs16, found2, hlt, hrow, ev2RowR, w1, w2]
    refine ⟨hix, hcn, vc_drawE [(.junk, ⟨[[I f], [I a.id, I a.it, I a.st, I a.fr, I a.i, I a.re, .sl .ro (a.al.map spRow)], [I a.id, I a.it, I a.st, I a.fr, I a.i, I a.re, .sl .ro (a.al.map spRow)]], [], fun _ => .gone, 0⟩)] ?_⟩
    simp [w1, w2]
end Go.Proofs.YtdebhhpklhbihaaGreatDoor
