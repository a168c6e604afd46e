/-
  OWN WORK. Contracts for the laws on rundowns: pick, rundown.At.
-/
import Derived.Test.YtdebhhpklhbihaaGreatDoorG4CodeT
import Derived.Test.YtdebhhpklhbihaaGreatDoorG4MF
import Derived.Test.YtdebhhpklhbihaaGreatDoorG4MH
set_option linter.unusedVariables false
set_option linter.unusedSimpArgs false
namespace Go.Proofs.YtdebhhpklhbihaaGreatDoor
open Go Go.Abs


def tblR : List AV := [I 24000, I 1001, I 24, I 0, I 24, I 1, I 24, I 0, I 25, I 1, I 25, I 0, I 30000, I 1001, I 30, I 2, I 30, I 1, I 30, I 0, I 50, I 1, I 50, I 0, I 60000, I 1001, I 60, I 4, I 60, I 1, I 60, I 0]
def gl0 : Nat → AV
  | 0 => .ep tblR 0
  | _ => .junk

def pickI (c n : Int) : Int := (if c < 0 then -(c + 1) else c).tmod n

theorem pick_pure (c n : Int) (h0 : -9223372036854775808 ≤ c) (h1 : c ≤ 9223372036854775807) (hn : n ≠ 0) : Pure Tryz.prog gl0 11 [I c, I n] (I (pickI c n)) := by
  refine pureE code11 (fun _ _ _ => .junk) (by simp) ?_
  have hw1 : c < 0 → IntKind.i64.wrap (c + 1) = c + 1 := fun h => by rw [wrap_in] <;> omega
  have hw2 : c < 0 → IntKind.i64.wrap (-(c + 1)) = -(c + 1) := fun h => by rw [wrap_in] <;> omega
  by_cases h : c < 0
  · simp [sc11, rs11, h, hw1 h, hw2 h, hn, pickI]
  · simp [sc11, rs11, h, hn, pickI]

theorem drop_cons {α : Type} {l : List α} {i : Nat} {a : α} (h : l[i]? = some a) : l.drop i = a :: l.drop (i + 1) := by
  obtain ⟨h1, h2⟩ := List.getElem?_eq_some_iff.1 h
  rw [List.drop_eq_getElem_cons h1, h2]

theorem pickI_bd' (c n : Int) (hn : 0 < n) : 0 ≤ pickI c n ∧ pickI c n < n := by
  unfold pickI
  have h0 : 0 ≤ (if c < 0 then -(c + 1) else c) := by split <;> omega
  rw [Int.tmod_eq_emod_of_nonneg h0]
  exact ⟨Int.emod_nonneg _ (by omega), Int.emod_lt_of_pos _ hn⟩
/-- An event, as the program has it: with one alternative or none. -/
structure Evt where
  id : Int
  it : Int
  st : Int
  fr : Int
  i : Int
  re : Int
  al : Option Int
def alF : Option Int → AV
  | none => .sl .nil []
  | some k => .sl .full [[I 1, I k]]
def alA : Option Int → AV
  | none => .sl .nil []
  | some k => .sl .ro [[I 1, I k]]
def alC (b : Option Int) : AV := alA b
def evtRowF (e : Evt) : List AV := [I e.id, I e.it, I e.st, I e.fr, I e.i, I e.re, alF e.al]
def evtRow (e : Evt) : List AV := [I e.id, I e.it, I e.st, I e.fr, I e.i, I e.re, alA e.al]
theorem ok1_alA (b : Option Int) : ok1 (alA b) = true := by cases b <;> rfl
theorem ok1_alF (b : Option Int) : ok1 (alF b) = true := by cases b <;> rfl

theorem cloneN_pure : Pure Tryz.prog gl0 39 [.sl .nil []] (.sl .nil []) := by
  refine pureE code39 (fun _ _ _ => .junk) (by simp) ?_
  simp [sc39, rs39]
theorem cloneA_pure (k : Int) : Pure Tryz.prog gl0 39 [.sl .ro [[I 1, I k]]] (.sl .ro [[I 1, I k]]) := by
  refine pureE code39 (fun _ _ _ => .junk) (by simp) ?_
  simp [sc39, rs39]

def u64s (a b : Int) : Int := IntKind.u64.wrap (IntKind.u64.wrap a - IntKind.u64.wrap b)
def onB (f : Int) (e : Evt) : Bool := decide (e.st ≤ f ∧ f < e.st + e.fr)
/-- The events are small. -/
def Small (e : Evt) : Prop := (0 ≤ e.st ∧ e.st ≤ 1000000) ∧ (0 ≤ e.fr ∧ e.fr ≤ 1000000) ∧ (0 ≤ e.i ∧ e.i ≤ 1000000)
def SmallF (f : Int) : Prop := -1000000 ≤ f ∧ f ≤ 1000000

theorem wu (n : Int) (h : 0 ≤ n) (h' : n ≤ 2000000) : IntKind.u64.wrap n = n := by
  simp [IntKind.wrap, IntKind.bits, IntKind.signed]; omega

theorem at1_pure (e : Evt) (f : Int) (h : Small e) (hf : SmallF f) : Pure Tryz.prog gl0 37 [.agg (evtRow e), .ep [I f] 0] (.bool (onB f e)) := by
  refine pureE code37 (fun _ _ _ => .junk) (by simp) ?_
  obtain ⟨⟨a1, a2⟩, ⟨a3, a4⟩, _⟩ := h
  obtain ⟨a5, a6⟩ := hf
  by_cases h1 : e.st ≤ f
  · have w1 := wu e.st (by omega) (by omega)
    have w2 := wu f (by omega) (by omega)
    have w3 := wu (f - e.st) (by omega) (by omega)
    have w4 := wu e.fr (by omega) (by omega)
    by_cases h2 : 0 < e.fr
    · have : (f - e.st < e.fr) = (f < e.st + e.fr) := by apply propext; omega
      simp [sc37, rs37, evtRow, isCell_ok1 (ok1_alA _), h1, h2, onB, w1, w2, w3, w4, this]
    · have : ¬ f < e.st + e.fr := by omega
      simp [sc37, rs37, evtRow, isCell_ok1 (ok1_alA _), h1, h2, onB, this]
  · simp [sc37, rs37, evtRow, isCell_ok1 (ok1_alA _), h1, onB]

def srchE (f : Int) : List Evt → Nat → Int
  | [], _ => -1
  | e :: r, i => if onB f e = true then i else srchE f r (i + 1)
def fndE (f : Int) : List Evt → Option Evt
  | [] => none
  | e :: r => if onB f e = true then some e else fndE f r
theorem srchE_none {f : Int} : ∀ {L : List Evt} {i : Nat}, fndE f L = none → srchE f L i = -1
  | [], _, _ => rfl
  | a :: r, i, h => by
    simp only [fndE] at h
    split at h
    · cases h
    · rename_i hn; simp only [srchE, if_neg hn]; exact srchE_none h
theorem srchE_some {f : Int} {a : Evt} : ∀ {L : List Evt} {i : Nat}, fndE f L = some a → ∃ k : Nat, srchE f L i = ((i + k : Nat) : Int) ∧ L[k]? = some a ∧ onB f a = true
  | [], _, h => by cases h
  | b :: r, i, h => by
    simp only [fndE] at h
    split at h
    · rename_i hb; cases h; exact ⟨0, by simp [srchE, hb], rfl, hb⟩
    · rename_i hn
      obtain ⟨k, h1, h2, h3⟩ := srchE_some (i := i + 1) h
      exact ⟨k + 1, by simp only [srchE, if_neg hn, h1]; omega, by simpa using h2, h3⟩

theorem indexE_pure (L : List Evt) (f : Int) (hL : L.length ≤ 1000000000) (hs : ∀ e ∈ L, Small e) (hf : SmallF f) (orcOn : Nat → FuncId → List AV → AV) (ho : ∀ d g e, orcOn d g [.agg (evtRow e), .ep [I f] 0] = .bool (onB f e)) : Pure Tryz.prog gl0 38 [.sl .ro (L.map evtRow), .fn 37 [] [.ep [I f] 0]] (I (srchE f L 0)) := by
  refine pureE code38 orcOn (by simp) ?_
  simp [sc38, rs38]
  refine vc_loopE [4, 5, 8, 9, 10, 11, 12, 13, 14, 15, 16, 17, 18] (fun s m => ∃ i : Nat, s 8 = I i ∧ i ≤ L.length ∧ srchE f (L.drop i) i = srchE f L 0 ∧ m = ⟨[], [], fun _ => .gone, 0⟩) (fun s m => L.length - (numOf (s 8)).toNat) ?_ ?_
  · exact ⟨0, by simp, by omega, by simp, rfl⟩
  · rintro s m ⟨i, hi, hle, hr, rfl⟩
    rcases Nat.lt_or_ge i L.length with hlt | hge
    · obtain ⟨a, ha⟩ : ∃ a, L[i]? = some a := ⟨L[i], List.getElem?_eq_getElem hlt⟩
      have hrow : rowN (L.map evtRow) i = evtRow a := rowN_eq (by simp [ha])
      have hw : IntKind.i64.wrap ((i : Int) + 1) = ((i + 1 : Nat) : Int) := by rw [wrap_in] <;> omega
      rw [drop_cons ha] at hr
      have hp : Pure Tryz.prog gl0 37 [.agg [I a.id, I a.it, I a.st, I a.fr, I a.i, I a.re, alA a.al], .ep [I f] 0] (.bool (onB f a)) := at1_pure a f (hs a (List.mem_of_getElem? ha)) hf
      have ho' : ∀ d g, orcOn d g [.agg [I a.id, I a.it, I a.st, I a.fr, I a.i, I a.re, alA a.al], .ep [I f] 0] = .bool (onB f a) := fun d g => ho d g a
      have c5 : ∀ m, cvn m 5 (alA a.al) = alA a.al := fun m => cvn_ok1 m 4 (ok1_alA _)
      by_cases h : onB f a = true
      · simp [srchE, h] at hr
        rw [h] at hp ho'
        simp [hi, hrow, hlt, evtRow, c5, ho', isCell_ok1 (ok1_alA _)]
        exact ⟨hp, hr⟩
      · simp at h
        simp [srchE, h] at hr
        rw [h] at hp ho'
        simp [hi, hrow, hlt, evtRow, c5, ho', hw, isCell_ok1 (ok1_alA _)]
        refine ⟨hp, ag ?_, ⟨i + 1, by simp, by omega, hr⟩, by omega⟩
        repeat (first | exact agree_refl _ _ | refine agree_cons _ rfl ?_)
    · rw [List.drop_eq_nil_of_le hge] at hr
      simp [hi, Nat.not_lt.2 hge]
      exact hr

def zeroE : AV := .tup [.agg [I 0, I 0, I 0, I 0, I 0, I 0, .sl .nil []], I 0, .bool false]
def foundE (f : Int) : Option Evt → AV
  | none => zeroE
  | some e => .tup [.agg [I e.id, I e.it, I e.st, I e.fr, I e.i, I e.re, alC e.al], I (e.i + f - e.st), .bool true]

def orcOn (f : Int) : Nat → FuncId → List AV → AV := fun _ _ l => match l with
  | [.agg [_, _, .int _ st, .int _ fr, _, _, _], _] => .bool (decide (st ≤ f ∧ f < st + fr))
  | _ => .junk

set_option maxRecDepth 100000 in
theorem at_pure (L : List Evt) (f : Int) (hL : L.length ≤ 1000000000) (hs : ∀ e ∈ L, Small e) (hf : SmallF f) : Pure Tryz.prog gl0 16 [.sl .ro (L.map evtRow), I f] (foundE f (fndE f L)) := by
  have hix := indexE_pure L f hL hs hf (orcOn f) (fun _ _ _ => rfl)
  have hcn := cloneN_pure
  refine pureE code16 (fun _ g l => if g = 38 then I (srchE f L 0) else l.headD .junk) (by simp) ?_
  cases hfn : fndE f L with
  | none =>
    rw [srchE_none hfn] at hix ⊢
    simp [sc16, rs16, foundE, zeroE]
    exact hix
  | some a =>
    obtain ⟨k, h1, h2, h3⟩ := srchE_some (i := 0) hfn
    rw [h1] at hix ⊢
    have hlt : k < L.length := (List.getElem?_eq_some_iff.1 h2).1
    have hrow : rowN (L.map evtRow) k = evtRow a := rowN_eq (by simp [h2])
    obtain ⟨⟨a1, a2⟩, ⟨a3, a4⟩, a7, a8⟩ := hs a (List.mem_of_getElem? h2)
    obtain ⟨a5, a6⟩ := hf
    have w1 : IntKind.i64.wrap (a.i + f) = a.i + f := by rw [wrap_in] <;> omega
    have w2 : IntKind.i64.wrap (a.i + f - a.st) = a.i + f - a.st := by rw [wrap_in] <;> omega
    rw [Nat.zero_add] at hix
    cases hal : a.al with
    | none =>
      simp [sc16, rs16, foundE, hlt, hrow, evtRow, alA, alC, hal, w1, w2]
      refine ⟨hix, hcn, vc_drawE [(.junk, ⟨[[I f], [I a.id, I a.it, I a.st, I a.fr, I a.i, I a.re, .sl .nil []], [I a.id, I a.it, I a.st, I a.fr, I a.i, I a.re, .sl .nil []]], [], fun _ => .gone, 0⟩)] ?_⟩
      simp [w1, w2]
    | some k' =>
      have hca := cloneA_pure k'
      simp [sc16, rs16, foundE, hlt, hrow, evtRow, alA, alC, hal, w1, w2]
      refine ⟨hix, hca, vc_drawE [(.junk, ⟨[[I f], [I a.id, I a.it, I a.st, I a.fr, I a.i, I a.re, .sl .ro [[I 1, I k']]], [I a.id, I a.it, I a.st, I a.fr, I a.i, I a.re, .sl .ro [[I 1, I k']]]], [], fun _ => .gone, 0⟩)] ?_⟩
      simp [w1, w2]
end Go.Proofs.YtdebhhpklhbihaaGreatDoor
