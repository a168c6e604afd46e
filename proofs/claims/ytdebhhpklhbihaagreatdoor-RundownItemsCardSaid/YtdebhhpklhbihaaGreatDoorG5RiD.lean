/-
  OWN WORK. Contracts: onairref05.Has, onairref06.Watersheds, put, granted.
-/
import Derived.Test.YtdebhhpklhbihaaGreatDoorG5RiC
set_option linter.unusedVariables false
set_option linter.unusedSimpArgs false
namespace Go.Proofs.YtdebhhpklhbihaaGreatDoor
open Go Go.Abs

def hasB (l : List Sp) (x : Int) : Bool := l.any fun s => decide (s.1 ≤ x) && decide (x < s.2)
theorem hasB_iff (l : List Sp) (x : Int) : hasB l x = true ↔ hasS l x := by
  simp [hasB, hasS]
def InvHs (l : List Sp) (x : Int) (f : Nat → AV) (mm : AM) : Prop := ∃ (i : Nat), f 5 = I i ∧ i ≤ l.length ∧ hasB (l.drop i) x = hasB l x ∧ mm = ⟨[], [], fun _ => .gone, 0⟩
set_option maxRecDepth 100000 in
theorem has5_pure (l : List Sp) (x : Int) (hl : l.length ≤ 1000000000) : Pure Tryz.prog gl0 129 [.sl .ro (l.map spRow), I x] (.bool (hasB l x)) := by
  refine pureE code129 (fun _ _ _ => .junk) (by simp) ?_
  simp [sc129]
  refine vc_loopE w129_0 (InvHs l x) (fun f _ => l.length - (numOf (f 5)).toNat) ?_ ?_
  · exact ⟨0, by simp, Nat.zero_le _, rfl, rfl⟩
  · rintro f mm ⟨i, h5, hi, hh, rfl⟩
    rcases Nat.lt_or_ge i l.length with hlt | hge
    · obtain ⟨s, hs⟩ : ∃ s, l[i]? = some s := ⟨_, List.getElem?_eq_getElem hlt⟩
      have hrow := rowN_sp hs
      have hilt : (i : Int) < (l.length : Int) := by omega
      have hw : IntKind.i64.wrap ((i : Int) + 1) = ((i + 1 : Nat) : Int) := by rw [wrap_in] <;> omega
      rw [drop_cons hs] at hh
      simp only [hasB, List.any_cons] at hh
      by_cases c1 : s.1 ≤ x
      · by_cases c2 : x < s.2
        · have : hasB l x = true := by rw [hasB, ← hh]; simp [c1, c2]
          rw [this]
          simp [h5, w129_0, hlt, hilt, hrow, c1, c2, rs129]
        · simp [h5, w129_0, hlt, hilt, hrow, c1, c2, hw]
          refine ⟨ag ?_, ⟨i + 1, by simp, by omega, by simp only [hasB]; rw [← hh]; simp [c2], rfl⟩, by omega⟩
          repeat (first | exact agree_refl _ _ | refine agree_cons _ rfl ?_)
      · simp [h5, w129_0, hlt, hilt, hrow, c1, hw]
        refine ⟨ag ?_, ⟨i + 1, by simp, by omega, by simp only [hasB]; rw [← hh]; simp [c1], rfl⟩, by omega⟩
        repeat (first | exact agree_refl _ _ | refine agree_cons _ rfl ?_)
    · obtain rfl : i = l.length := by omega
      rw [List.drop_length] at hh
      have : hasB l x = false := by rw [← hh]; rfl
      rw [this]
      simp [h5, w129_0, rs129]

/-! ### Watersheds -/
def InvWs (cs : List Cl) (ra : Int) (f : Nat → AV) (mm : AM) : Prop := ∃ (i : Nat) (G : List Sp) (rt : Rt) (Lm : List Nat), f 6 = I i ∧ i ≤ cs.length ∧ f 5 = .sl rt (G.map spRow) ∧ G.length ≤ i ∧ (G = [] ∧ rt = .nil ∨ G ≠ [] ∧ ∃ k, rt = .own k 2 ∧ Lm[k]? = some G.length) ∧ G ++ wshS (cs.drop i) ra = wshS cs ra ∧ mm = ⟨[], Lm, fun _ => .gone, 0⟩
def orcWs : Nat → FuncId → List AV → AV := fun _ f l => if f = 999999 then .junk else (match l with
  | [.agg [.int _ a, .int _ b, .int _ c, .int _ d, .int _ e, .int _ f, .int _ g, .int _ h]] => .bool (validC ⟨a, b, c, d, e, f, g, h⟩)
  | _ => .junk)
theorem wshS_cons (c : Cl) (r : List Cl) (ra : Int) : wshS (c :: r) ra = (if wshB ra c = true then [(c.fr, c.to)] else []) ++ wshS r ra := by
  simp only [wshS, List.filter_cons]
  split <;> simp
set_option maxRecDepth 100000 in
set_option maxHeartbeats 4000000 in
theorem wsh6_pure0 (cs : List Cl) (ra : Int) (hl : cs.length ≤ 1000000) : ∃ rt, Pure Tryz.prog gl0 131 [.sl .ro (cs.map clRow), I ra] (.sl rt ((wshS cs ra).map spRow)) := by
  refine ⟨if wshS cs ra = [] then .nil else .ro, pureE code131 orcWs (by simp) ?_⟩
  simp [sc131]
  refine vc_loopE w131_0 (InvWs cs ra) (fun f _ => cs.length - (numOf (f 6)).toNat) ?_ ?_
  · exact ⟨0, [], .nil, [], by simp, Nat.zero_le _, by simp, by simp, .inl ⟨rfl, rfl⟩, rfl, rfl⟩
  · rintro f mm ⟨i, G, rt, Lm, h6, hi, h5, hGl, hrt, hI, rfl⟩
    rcases Nat.lt_or_ge i cs.length with hlt | hge
    · obtain ⟨c, hc⟩ : ∃ c, cs[i]? = some c := ⟨_, List.getElem?_eq_getElem hlt⟩
      have hrow : rowN (cs.map clRow) i = clRow c := rowN_eq (by simp [hc])
      have hilt : (i : Int) < (cs.length : Int) := by omega
      have hw : IntKind.i64.wrap ((i : Int) + 1) = ((i + 1 : Nat) : Int) := by rw [wrap_in] <;> omega
      have kv := valid6_pure c
      rw [drop_cons hc, wshS_cons] at hI
      have hG2 : ∀ row : List AV, ((∃ a b, (a, b) ∈ G ∧ spRow (a, b) = row) ∨ row = [I c.fr, I c.to]) → row.length = 2 := by
        rintro row (⟨a, b, _, rfl⟩ | rfl) <;> rfl
      by_cases c1 : c.ki = 6
      · have hce : (⟨6, c.it, c.fr, c.to, c.re, c.n, c.a, c.b⟩ : Cl) = c := by cases c; simp at c1; subst c1; rfl
        simp only [clRow, c1] at kv
        cases hv : validC c with
        | false =>
          have hb : wshB ra c = false := by simp [wshB, hv]
          rw [hb] at hI
          rw [hv] at kv
          simp [h6, h5, w131_0, hlt, hilt, hrow, clRow, c1, orcWs, hce, hv, hw]
          refine ⟨kv, ag ?_, ⟨i + 1, G, rt, Lm, by simp, by omega, by simp [h5], by omega, hrt, by simpa using hI, rfl⟩, by omega⟩
          repeat (first | exact agree_refl _ _ | refine agree_cons _ rfl ?_)
        | true =>
          rw [hv] at kv
          by_cases c2 : c.a ≤ ra
          · have hb : wshB ra c = true := by simp [wshB, hv, c1, c2]
            rw [hb] at hI
            rcases hrt with ⟨g1, rfl⟩ | ⟨g1, k, rfl, hk⟩
            · subst g1
              simp [h6, h5, w131_0, hlt, hilt, hrow, clRow, c1, c2, orcWs, hce, hv, hw]
              refine ⟨kv, ag ?_, ⟨i + 1, [(c.fr, c.to)], .own Lm.length 2, Lm ++ [1], by simp, by omega, by simp [spRow], by simp, .inr ⟨by simp, _, rfl, by simp⟩, by simpa using hI, rfl⟩, by omega⟩
              repeat (first | exact agree_refl _ _ | refine agree_cons _ rfl ?_)
            · simp [h6, h5, w131_0, hlt, hilt, hrow, clRow, c1, c2, orcWs, hce, hv, hw, hk]
              refine ⟨kv, ⟨hG2, by omega⟩, ag ?_, ⟨i + 1, G ++ [(c.fr, c.to)], .own k 2, Lm.set k (G.length + 1), by simp, by omega, by simp [spRow], by simp; omega, .inr ⟨by simp, k, rfl, by simp [(List.getElem?_eq_some_iff.1 hk).1]⟩, by simpa using hI, rfl⟩, by omega⟩
              repeat (first | exact agree_refl _ _ | refine agree_cons _ rfl ?_)
          · have hb : wshB ra c = false := by simp [wshB, c2]
            rw [hb] at hI
            simp [h6, h5, w131_0, hlt, hilt, hrow, clRow, c1, c2, orcWs, hce, hv, hw]
            refine ⟨kv, ag ?_, ⟨i + 1, G, rt, Lm, by simp, by omega, by simp [h5], by omega, hrt, by simpa using hI, rfl⟩, by omega⟩
            repeat (first | exact agree_refl _ _ | refine agree_cons _ rfl ?_)
      · have hb : wshB ra c = false := by simp [wshB, c1]
        rw [hb] at hI
        simp [h6, h5, w131_0, hlt, hilt, hrow, clRow, c1, orcWs, hw]
        refine ⟨ag ?_, ⟨i + 1, G, rt, Lm, by simp, by omega, by simp [h5], by omega, hrt, by simpa using hI, rfl⟩, by omega⟩
        repeat (first | exact agree_refl _ _ | refine agree_cons _ rfl ?_)
    · obtain rfl : i = cs.length := by omega
      have : wshS [] ra = [] := rfl
      rw [List.drop_length, this, List.append_nil] at hI
      subst hI
      rcases hrt with ⟨g1, rfl⟩ | ⟨g1, k, rfl, hk⟩
      · simp [h6, h5, w131_0, rs131, g1]
      · simp [h6, h5, w131_0, rs131, g1]
theorem wsh6_pure (cs : List Cl) (ra : Int) (hl : cs.length ≤ 1000000) : Pure Tryz.prog gl0 131 [.sl .ro (cs.map clRow), I ra] (.sl .ro ((wshS cs ra).map spRow)) := by
  obtain ⟨rt, h⟩ := wsh6_pure0 cs ra hl
  exact pure_res h (Wk.sl _ _)
end Go.Proofs.YtdebhhpklhbihaaGreatDoor
