/-
  OWN WORK. Contracts: onairref06.put, granted.
-/
import Derived.Test.YtdebhhpklhbihaaGreatDoorG5RiD
set_option linter.unusedVariables false
set_option linter.unusedSimpArgs false
namespace Go.Proofs.YtdebhhpklhbihaaGreatDoor
open Go Go.Abs

def inRow (a : Int) : List AV := [I a]
theorem rowN_in {l : List Int} {i : Nat} {s : Int} (h : l[i]? = some s) : rowN (l.map inRow) i = [I s] := rowN_eq (by simp [h, inRow])
def putS : List Int → Int → List Int
  | [], x => [x]
  | a :: r, x => if a < x then a :: putS r x else if a = x then a :: r else x :: a :: r
theorem putS_len : ∀ (l : List Int) (x : Int), (putS l x).length ≤ l.length + 1
  | [], x => by simp [putS]
  | a :: r, x => by
    have := putS_len r x
    rw [putS]
    split
    · simp; omega
    · split <;> simp
def InvPu (l : List Int) (x : Int) (f : Nat → AV) (mm : AM) : Prop := ∃ (k : Nat), f 5 = I k ∧ k ≤ l.length ∧ l.take k ++ putS (l.drop k) x = putS l x ∧ mm = ⟨[], [], fun _ => .gone, 0⟩
set_option maxRecDepth 100000 in
set_option maxHeartbeats 4000000 in
theorem put_pure0 (l : List Int) (x : Int) (hl : l.length ≤ 1000000) : ∃ rt, Pure Tryz.prog gl0 181 [.sl .ro (l.map inRow), I x] (.sl rt ((putS l x).map inRow)) := by
  refine ⟨.ro, pureE code181 (fun _ _ _ => .junk) (by simp) ?_⟩
  simp [sc181]
  refine vc_loopE w181_0 (InvPu l x) (fun f _ => l.length - (numOf (f 5)).toNat) ?_ ?_
  · exact ⟨0, by simp, Nat.zero_le _, by simp, rfl⟩
  · rintro f mm ⟨k, h5, hk, hI, rfl⟩
    have hr1 : ∀ row ∈ l.map inRow, row.length = 1 := by
      intro row h
      obtain ⟨a, _, rfl⟩ := List.mem_map.1 h
      rfl
    have h1a : ∀ a ∈ l, (inRow a).length = 1 := fun _ _ => rfl
    have h1t : ∀ row ∈ List.take k (l.map inRow), row.length = 1 := fun row h => hr1 row (List.mem_of_mem_take h)
    have h1d : ∀ row ∈ List.take (l.length - k) (List.drop k (l.map inRow)), row.length = 1 := fun row h => hr1 row (List.mem_of_mem_drop (List.mem_of_mem_take h))
    rcases Nat.lt_or_ge k l.length with hlt | hge
    · obtain ⟨s, hs⟩ : ∃ s, l[k]? = some s := ⟨_, List.getElem?_eq_getElem hlt⟩
      have hrow := rowN_in hs
      have hilt : (k : Int) < (l.length : Int) := by omega
      have hw : IntKind.i64.wrap ((k : Int) + 1) = ((k + 1 : Nat) : Int) := by rw [wrap_in] <;> omega
      have hd := drop_cons hs
      rw [hd, putS] at hI
      by_cases c1 : s < x
      · rw [if_pos c1] at hI
        simp [h5, w181_0, hlt, hilt, hrow, c1, hw]
        refine ⟨ag ?_, ⟨k + 1, by simp, by omega, by rw [List.take_add_one, hs]; simpa using hI, rfl⟩, by omega⟩
        repeat (first | exact agree_refl _ _ | refine agree_cons _ rfl ?_)
      · rw [if_neg c1] at hI
        by_cases c2 : s = x
        · rw [if_pos c2, ← hd, List.take_append_drop] at hI
          rw [← hI]
          simp [h5, w181_0, hlt, hilt, hrow, c1, c2, rs181]
        · rw [if_neg c2, ← hd] at hI
          rw [← hI]
          simp [h5, w181_0, hlt, hilt, hrow, c1, c2, rs181]
          exact ⟨⟨by omega, h1a⟩, ⟨h1d, by omega⟩, ⟨by omega, h1a⟩, ⟨h1t, by omega⟩, ⟨by rintro row (h | rfl | h); exact h1t row h; rfl; exact h1d row h, by omega⟩, rfl, List.take_of_length_le (by simp)⟩
    · obtain rfl : k = l.length := by omega
      rw [List.drop_length, List.take_length, putS] at hI
      rw [← hI]
      simp [h5, w181_0, rs181]
      exact ⟨h1a, ⟨fun row h => hr1 row (List.mem_of_mem_take h), by omega⟩, ⟨by rintro row (h | rfl); exact hr1 row (List.mem_of_mem_take h); rfl, by omega⟩, List.take_of_length_le (by simp), rfl⟩

theorem put_pure (l : List Int) (x : Int) (hl : l.length ≤ 1000000) : Pure Tryz.prog gl0 181 [.sl .ro (l.map inRow), I x] (.sl .ro ((putS l x).map inRow)) := by
  obtain ⟨rt, h⟩ := put_pure0 l x hl
  exact pure_res h (Wk.sl _ _)

theorem grX_snoc (C : List Cl) (c : Cl) (x : Int) : grX (C ++ [c]) x = if covB x c = true then decide (c.ki = 1) else grX C x := by
  unfold grX
  rw [List.reverse_append]
  simp only [List.reverse_cons, List.reverse_nil, List.nil_append, List.singleton_append, List.find?_cons]
  cases covB x c <;> rfl
def InvGr (C : List Cl) (x : Int) (f : Nat → AV) (mm : AM) : Prop := ∃ (n : Nat), f 5 = I ((n : Int) - 1) ∧ n ≤ C.length ∧ grX (C.take n) x = grX C x ∧ mm = ⟨[], [], fun _ => .gone, 0⟩
set_option maxRecDepth 100000 in
set_option maxHeartbeats 4000000 in
theorem granted_pure (C : List Cl) (x : Int) (hl : C.length ≤ 1000000) : Pure Tryz.prog gl0 182 [.sl .ro (C.map clRow), I x] (.bool (grX C x)) := by
  refine pureE code182 (fun _ _ _ => .junk) (by simp) ?_
  have hw0 : IntKind.i64.wrap ((C.length : Int) - 1) = (C.length : Int) - 1 := by rw [wrap_in] <;> omega
  simp [sc182, hw0]
  refine vc_loopE w182_0 (InvGr C x) (fun f _ => (numOf (f 5) + 1).toNat) ?_ ?_
  · exact ⟨C.length, by simp, Nat.le_refl _, by simp, rfl⟩
  · rintro f mm ⟨n, h5, hn, hg, rfl⟩
    cases n with
    | zero =>
      have : grX C x = false := by rw [← hg]; rfl
      rw [this]
      simp [h5, w182_0, rs182]
    | succ n =>
      obtain ⟨c, hc⟩ : ∃ c, C[n]? = some c := ⟨_, List.getElem?_eq_getElem (by omega)⟩
      have hrow : rowN (C.map clRow) n = clRow c := rowN_eq (by simp [hc])
      have h5' : f 5 = I (n : Int) := by rw [h5]; congr 1; omega
      have hnl : n < C.length := by omega
      have hnl' : (n : Int) < (C.length : Int) := by omega
      have hw : IntKind.i64.wrap ((n : Int) - 1) = (n : Int) - 1 := by rw [wrap_in] <;> omega
      rw [List.take_add_one, hc] at hg
      simp only [Option.toList] at hg
      rw [grX_snoc] at hg
      by_cases c1 : c.fr ≤ x
      · by_cases c2 : x < c.to
        · rw [if_pos (by simp [covB, c1, c2])] at hg
          rw [← hg]
          simp [h5', w182_0, hnl, hnl', hrow, clRow, c1, c2, rs182]
          rw [Bool.eq_iff_iff]; simp
        · rw [if_neg (by simp [covB, c2])] at hg
          simp [h5', w182_0, hnl, hnl', hrow, clRow, c1, c2, hw]
          refine ⟨ag ?_, n, by simp, by omega, hg, rfl⟩
          repeat (first | exact agree_refl _ _ | refine agree_cons _ rfl ?_)
      · rw [if_neg (by simp [covB, c1])] at hg
        simp [h5', w182_0, hnl, hnl', hrow, clRow, c1, hw]
        refine ⟨ag ?_, n, by simp, by omega, hg, rfl⟩
        repeat (first | exact agree_refl _ _ | refine agree_cons _ rfl ?_)
end Go.Proofs.YtdebhhpklhbihaaGreatDoor
