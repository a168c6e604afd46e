/-
  OWN WORK. Plain law: sets of regions by their bits; what a valid rundown shows is permitted.
-/
import Derived.Test.YtdebhhpklhbihaaGreatDoorG7RhB
import Derived.Test.YtdebhhpklhbihaaGreatDoorG7RgA
import Derived.Test.YtdebhhpklhbihaaGreatDoorG7SeB
set_option linter.unusedVariables false
set_option linter.unusedSimpArgs false
namespace Go.Proofs.YtdebhhpklhbihaaGreatDoor
open Go Go.Abs

/-! ### Bits -/
theorem par_add (x r n : Nat) (h : r < n) : ((x + 2 ^ n) / 2 ^ r) % 2 = (x / 2 ^ r) % 2 := by
  obtain ⟨k, rfl⟩ : ∃ k, n = r + (k + 1) := ⟨n - r - 1, by omega⟩
  have e : 2 ^ (r + (k + 1)) = 2 ^ r * (2 * 2 ^ k) := by rw [Nat.pow_add, Nat.pow_succ, Nat.mul_comm (2 ^ k) 2]
  rw [e, Nat.add_mul_div_left _ _ (Nat.two_pow_pos r), Nat.add_mul_mod_self_left]
def mskN (b : Nat → Bool) : Nat → Nat
  | 0 => 0
  | n + 1 => mskN b n + if b n then 2 ^ n else 0
theorem mskN_lt (b : Nat → Bool) : ∀ n, mskN b n < 2 ^ n
  | 0 => by simp [mskN]
  | n + 1 => by
    have := mskN_lt b n
    rw [mskN, Nat.pow_succ]
    split <;> omega
theorem mskS_N (b : Nat → Bool) : ∀ n, mskS b n = (mskN b n : Int)
  | 0 => rfl
  | n + 1 => by
    rw [mskS, mskN, mskS_N b n]
    split
    · push_cast; rfl
    · simp
theorem mskN_bit (b : Nat → Bool) (r : Nat) : ∀ n, (mskN b n).testBit r = (decide (r < n) && b r)
  | 0 => by simp [mskN]
  | n + 1 => by
    have ih := mskN_bit b r n
    have hlt := mskN_lt b n
    rw [mskN]
    by_cases hb : b n = true
    · rw [if_pos hb]
      rcases Nat.lt_trichotomy r n with h | h | h
      · rw [Nat.testBit_eq_decide_div_mod_eq, par_add _ _ _ h, ← Nat.testBit_eq_decide_div_mod_eq, ih]
        simp [h, Nat.lt_succ_of_lt h]
      · subst h
        have : (mskN b r + 2 ^ r) / 2 ^ r = 1 := by
          rw [Nat.add_div_right _ (Nat.two_pow_pos r), Nat.div_eq_of_lt hlt]
        rw [Nat.testBit_eq_decide_div_mod_eq, this]
        simp [hb]
      · have : mskN b n + 2 ^ n < 2 ^ r := by
          have : 2 ^ (n + 1) ≤ 2 ^ r := Nat.pow_le_pow_right (by omega) h
          rw [Nat.pow_succ] at this; omega
        rw [Nat.testBit_lt_two_pow this]
        simp; intro h2; omega
    · rw [if_neg hb, Nat.add_zero, ih]
      by_cases h : r = n
      · subst h; simp [hb]
      · have : decide (r < n) = decide (r < n + 1) := decide_eq_decide.2 (by omega)
        rw [this]

def bitI (x : Int) (r : Nat) : Bool := x.toNat.testBit r
theorem mskS_bit (b : Nat → Bool) (n r : Nat) : bitI (mskS b n) r = (decide (r < n) && b r) := by
  unfold bitI; rw [mskS_N, Int.toNat_natCast, mskN_bit]
theorem mskS_256 (b : Nat → Bool) (n : Nat) (hn : n ≤ 8) : 0 ≤ mskS b n ∧ mskS b n < 256 := by
  have := mskN_lt b n
  rw [mskS_N]
  have h2 : 2 ^ n ≤ 2 ^ 8 := Nat.pow_le_pow_right (by omega) hn
  omega

theorem modb (x : Int) (h : 0 ≤ x ∧ x < 256) : (x % 2 ^ IntKind.i64.bits).toNat = x.toNat := by
  have : (2 : Int) ^ IntKind.i64.bits = 18446744073709551616 := by decide
  rw [this, Int.emod_eq_of_lt h.1 (by omega)]
theorem and1X_eq (x : Int) (h : 0 ≤ x ∧ x < 256) : and1X x = x % 2 := by
  unfold and1X
  rw [modb x h, modb 1 (by omega)]
  have : x.toNat &&& (1 : Int).toNat = x.toNat % 2 := Nat.and_one_is_mod _
  rw [this, wrap_in] <;> omega
/-! ### The events of a rundown -/
theorem gapOK_all {l0 : List Sp} {ln : Int} : ∀ {b : List Ev2} {pos : Int}, gapOK l0 ln pos b → ∀ e ∈ b, pos ≤ e.st ∧ 1 ≤ e.fr ∧ e.st + e.fr ≤ ln
  | [], _, _, e, h => by cases h
  | a :: r, pos, h, e, he => by
    obtain ⟨h1, h2, _, h4⟩ := h
    rcases List.mem_cons.1 he with rfl | he
    · have := gapOK_le h4; omega
    · have := gapOK_all h4 e he; omega
def cnt2 (f : Int) (b : List Ev2) : Nat := (b.filter (onB2 f)).length
theorem cnt2_app (f : Int) (a b : List Ev2) : cnt2 f (a ++ b) = cnt2 f a + cnt2 f b := by simp [cnt2]
theorem cnt2_one (f : Int) (e : Ev2) : cnt2 f [e] = if onB2 f e then 1 else 0 := by
  simp only [cnt2, List.filter_cons, List.filter_nil]; cases onB2 f e <;> rfl
theorem gap_none {l0 : List Sp} {ln f : Int} {b : List Ev2} {pos : Int} (h : gapOK l0 ln pos b) (hf : f < pos) : cnt2 f b = 0 := by
  unfold cnt2
  rw [List.length_eq_zero_iff, List.filter_eq_nil_iff]
  intro e he
  have := gapOK_all h e he
  simp [onB2]; omega
theorem gap_one {l0 : List Sp} {ln f : Int} : ∀ {b : List Ev2} {pos : Int}, gapOK l0 ln pos b → pos ≤ f → f < ln → cnt2 f b = 1 ∧ ∃ e ∈ b, fnd2 f b = some e ∧ onB2 f e = true
  | [], pos, h, h1, h2 => by simp only [gapOK] at h; omega
  | a :: r, pos, h, h1, h2 => by
    obtain ⟨g1, g2, _, g4⟩ := h
    have e1 : cnt2 f (a :: r) = (if onB2 f a then 1 else 0) + cnt2 f r := by rw [← cnt2_one, ← cnt2_app]; rfl
    by_cases hlt : f < pos + a.fr
    · have ho : onB2 f a = true := by simp [onB2]; omega
      rw [e1, ho, gap_none g4 hlt]
      exact ⟨rfl, a, by simp, by simp [fnd2, ho], ho⟩
    · have ho : onB2 f a = false := by simp [onB2]; omega
      obtain ⟨i1, e, i2, i3, i4⟩ := gap_one g4 (by omega) h2
      rw [e1, ho, i1]
      exact ⟨rfl, e, by simp [i2], by simp [fnd2, ho, i3], i4⟩

def EvOK (e : Ev2) : Prop := e.i = 0 ∧ (0 ≤ e.re ∧ e.re < 256) ∧ e.al.length ≤ 8796093022208
theorem fill_ok (p : Pl) (x : Int × Int) : EvOK (fillE p x) := ⟨rfl, mskS_256 _ _ (by omega), by simp [fillE]⟩
theorem evt_ok (p : Pl) (e : En) (fr : Int) (h : e.al.length ≤ 8796093022208) : EvOK (evtE p e fr) := ⟨rfl, mskS_256 _ _ (by omega), Nat.le_trans (List.length_filter_le _ _) h⟩
theorem bldL_ok (p : Pl) (hp : OKP p) : ∀ (l : List Sp) (a : Int), ∀ e ∈ bldL p l a, EvOK e
  | [], a, e, h => by
    rw [bldL, List.mem_map] at h
    obtain ⟨x, _, rfl⟩ := h
    exact fill_ok p x
  | s :: r, a, e, h => by
    rw [bldL] at h
    cases hs : skipB p s a with
    | none => rw [hs] at h; exact bldL_ok p hp r a e h
    | some x =>
      rw [hs] at h
      simp only [List.append_assoc, List.mem_append, List.mem_map, List.mem_singleton] at h
      rcases h with ⟨y, _, rfl⟩ | rfl | h
      · exact fill_ok p y
      · exact evt_ok p x _ (hp x (fndN_mem (skipB_some hs).1).1)
      · exact bldL_ok p hp r _ e h

/-! ### What a valid event shows is permitted -/
end Go.Proofs.YtdebhhpklhbihaaGreatDoor
