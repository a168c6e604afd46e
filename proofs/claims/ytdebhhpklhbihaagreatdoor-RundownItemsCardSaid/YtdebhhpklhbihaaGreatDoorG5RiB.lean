/-
  OWN WORK. Contracts: onairref04 (the reference's calendar).
-/
import Derived.Test.YtdebhhpklhbihaaGreatDoorG5RiA
set_option linter.unusedVariables false
set_option linter.unusedSimpArgs false
namespace Go.Proofs.YtdebhhpklhbihaaGreatDoor
open Go Go.Abs

def lastZ (sh : List Sp) (i : Nat) : Int := if i = 0 then -1 else (sh.getD (i - 1) (0, 0)).1
def InvZ (of : Int) (sh : List Sp) (f : Nat → AV) (mm : AM) : Prop := ∃ (i : Nat) (bx : List (List AV)), f 3 = I i ∧ i ≤ sh.length ∧ ascZ (lastZ sh i) (sh.drop i) = ascZ (-1) sh ∧ (i ≠ 0 → 0 ≤ lastZ sh i) ∧ mm = ⟨[I of, .sl .ro (sh.map spRow)] :: bx, [], fun _ => .gone, 0⟩

set_option maxRecDepth 100000 in
set_option maxHeartbeats 8000000 in
theorem rzvalid_pure (of : Int) (sh : List Sp) (hl : sh.length ≤ 1000000000) : Pure Tryz.prog gl0 125 [.agg [I of, .sl .ro (sh.map spRow)]] (.bool (validZ of sh)) := by
  refine pureE code125 (fun d f a => .junk) (by simp) ?_
  by_cases o1 : of < -50400
  · have : validZ of sh = false := by simp [validZ, isOff]; intro _; omega
    simp [sc125, rs125, o1, this]
  · by_cases o2 : 50400 < of
    · have : validZ of sh = false := by simp [validZ, isOff]; intro _; omega
      simp [sc125, rs125, o1, o2, this]
    · by_cases h40 : 40 < sh.length
      · have h40' : (40 : Int) < (sh.length : Int) := by omega
        have : validZ of sh = false := by simp [validZ]; intro h; omega
        simp [sc125, rs125, o1, o2, h40, h40', this]
      · have h40' : ¬ (40 : Int) < (sh.length : Int) := by omega
        have ho : isOff of = true := by simp [isOff]; omega
        have hv : validZ of sh = ascZ (-1) sh := by simp [validZ, ho]; intro _; omega
        simp [sc125, o1, o2, h40, h40']
        refine vc_loopE w125_0 (InvZ of sh) (fun f _ => sh.length - (numOf (f 3)).toNat) ?_ ?_
        · exact ⟨0, [], by simp, Nat.zero_le _, rfl, fun h => absurd rfl h, rfl⟩
        · rintro f mm ⟨i, bx, h3, hi, ha, hla, rfl⟩
          rcases Nat.lt_or_ge i sh.length with hlt | hge
          · obtain ⟨s, hs⟩ : ∃ s, sh[i]? = some s := ⟨_, List.getElem?_eq_getElem hlt⟩
            have hrow := rowN_sp hs
            have hilt : (i : Int) < (sh.length : Int) := by omega
            have hw : IntKind.i64.wrap ((i : Int) + 1) = ((i + 1 : Nat) : Int) := by rw [wrap_in] <;> omega
            have hls : lastZ sh (i + 1) = s.1 := by simp [lastZ, List.getD_eq_getElem?_getD, hs]
            rw [drop_cons hs, ascZ] at ha
            have bad : (s.1 ≤ lastZ sh i ∨ 10000000000 < s.1 ∨ isOff s.2 = false) → validZ of sh = false := fun h => by rw [if_pos h] at ha; rw [hv, ← ha]
            have hl0 : lastZ sh i = -1 ∨ 0 ≤ lastZ sh i := by
              by_cases h : i = 0
              · left; simp [lastZ, h]
              · exact .inr (hla h)
            by_cases c1 : s.1 < 0
            · have := bad (.inl (by omega))
              simp [h3, hlt, hilt, hrow, c1, w125_0, rs125, this]
            · by_cases c2 : 10000000000 < s.1
              · have := bad (.inr (.inl c2))
                simp [h3, hlt, hilt, hrow, c1, c2, w125_0, rs125, this]
              · by_cases c3 : s.2 < -50400
                · have := bad (.inr (.inr (by simp [isOff]; omega)))
                  simp [h3, hlt, hilt, hrow, c1, c2, c3, w125_0, rs125, this]
                · by_cases c4 : 50400 < s.2
                  · have := bad (.inr (.inr (by simp [isOff]; omega)))
                    simp [h3, hlt, hilt, hrow, c1, c2, c3, c4, w125_0, rs125, this]
                  · have hoff : isOff s.2 = true := by simp [isOff]; omega
                    by_cases hz : i = 0
                    · subst hz
                      rw [if_neg (by rintro (h | h | h); simp [lastZ] at h; omega; omega; rw [hoff] at h; cases h)] at ha
                      have h3' : f 3 = I 0 := h3
                      have w1 : IntKind.i64.wrap 1 = 1 := by rw [wrap_in] <;> omega
                      have hpl : (0 : Int) < (sh.length : Int) := by omega
                      simp [h3', hlt, hpl, hrow, c1, c2, c3, c4, w125_0, w1]
                      refine ⟨ag ?_, ⟨1, _, by simp, by omega, by rw [hls]; exact ha, fun _ => by rw [hls]; omega, rfl⟩, by omega⟩
                      repeat (first | exact agree_refl _ _ | refine agree_cons _ rfl ?_)
                    · have hip : 0 < i := by omega
                      have hw1 : IntKind.i64.wrap ((i : Int) - 1) = ((i - 1 : Nat) : Int) := by rw [wrap_in] <;> omega
                      obtain ⟨s', hs'⟩ : ∃ s, sh[i - 1]? = some s := ⟨_, List.getElem?_eq_getElem (by omega)⟩
                      have hrow' := rowN_sp hs'
                      have hll : lastZ sh i = s'.1 := by simp [lastZ, List.getD_eq_getElem?_getD, hs', hz]
                      have hlt1 : i - 1 < sh.length := by omega
                      by_cases c5 : s.1 ≤ s'.1
                      · have := bad (.inl (by omega))
                        simp [h3, hlt, hilt, hrow, hrow', c1, c2, c3, c4, c5, hip, hw1, hlt1, w125_0, rs125, this]
                      · rw [if_neg (by rintro (h | h | h); omega; omega; rw [hoff] at h; cases h)] at ha
                        simp [h3, hlt, hilt, hrow, hrow', c1, c2, c3, c4, c5, hip, hw1, hlt1, w125_0, hw]
                        refine ⟨ag ?_, ⟨i + 1, _, by simp, by omega, by rw [hls]; exact ha, fun _ => by rw [hls]; omega, rfl⟩, by omega⟩
                        repeat (first | exact agree_refl _ _ | refine agree_cons _ rfl ?_)
          · obtain rfl : i = sh.length := by omega
            rw [List.drop_length, ascZ] at ha
            simp [h3, w125_0, rs125, hv, ← ha]

theorem offX_snoc (of : Int) (l : List Sp) (s : Sp) (x : Int) : offX of (l ++ [s]) x = if s.1 ≤ x then s.2 else offX of l x := by simp [offX]
def InvO (of : Int) (sh : List Sp) (x : Int) (f : Nat → AV) (mm : AM) : Prop := ∃ (i : Nat), f 6 = I i ∧ i ≤ sh.length ∧ f 5 = I (offX of (sh.take i) x) ∧ mm = ⟨[[I of, .sl .ro (sh.map spRow)]], [], fun _ => .gone, 0⟩
set_option maxRecDepth 100000 in
theorem roff_pure (of : Int) (sh : List Sp) (x : Int) (hl : sh.length ≤ 1000000000) : Pure Tryz.prog gl0 213 [.agg [I of, .sl .ro (sh.map spRow)], I x] (I (offX of sh x)) := by
  refine pureE code213 (fun d f a => .junk) (by simp) ?_
  simp [sc213]
  refine vc_loopE w213_0 (InvO of sh x) (fun f _ => sh.length - (numOf (f 6)).toNat) ?_ ?_
  · exact ⟨0, by simp, Nat.zero_le _, by simp [offX], rfl⟩
  · rintro f mm ⟨i, h6, hi, h5, rfl⟩
    rcases Nat.lt_or_ge i sh.length with hlt | hge
    · obtain ⟨s, hs⟩ : ∃ s, sh[i]? = some s := ⟨_, List.getElem?_eq_getElem hlt⟩
      have hrow := rowN_sp hs
      have hilt : (i : Int) < (sh.length : Int) := by omega
      have hw : IntKind.i64.wrap ((i : Int) + 1) = ((i + 1 : Nat) : Int) := by rw [wrap_in] <;> omega
      have htk : sh.take (i + 1) = sh.take i ++ [s] := by rw [List.take_add_one, hs]; rfl
      by_cases c : s.1 ≤ x
      · simp [h6, h5, w213_0, hlt, hilt, hrow, c, hw]
        refine ⟨ag ?_, ⟨i + 1, by simp, by omega, by rw [htk, offX_snoc, if_pos c]; simp, rfl⟩, by omega⟩
        repeat (first | exact agree_refl _ _ | refine agree_cons _ rfl ?_)
      · simp [h6, h5, w213_0, hlt, hilt, hrow, c, hw]
        refine ⟨ag ?_, ⟨i + 1, by simp, by omega, by rw [htk, offX_snoc, if_neg c]; simp [h5], rfl⟩, by omega⟩
        repeat (first | exact agree_refl _ _ | refine agree_cons _ rfl ?_)
    · obtain rfl : i = sh.length := by omega
      rw [List.take_length] at h5
      simp [h6, h5, w213_0, rs213]

theorem offX_bd {of : Int} {sh : List Sp} (h : validZ of sh = true) (x : Int) : -50400 ≤ offX of sh x ∧ offX of sh x ≤ 50400 := by
  simp only [validZ, Bool.and_eq_true] at h
  obtain ⟨⟨_, h1⟩, h2⟩ := h
  have h3 := (ascZ_all h2).2
  simp only [isOff, decide_eq_true_eq] at h1
  have key : ∀ (l : List Sp) (o : Int), (∀ s ∈ l, isOff s.2 = true) → (-50400 ≤ o ∧ o ≤ 50400) → -50400 ≤ offX o l x ∧ offX o l x ≤ 50400 := by
    intro l
    induction l with
    | nil => intro o _ h; exact h
    | cons a r ih =>
      intro o hl ho
      have ha := hl a (by simp)
      simp only [isOff, decide_eq_true_eq] at ha
      show -50400 ≤ offX (if a.1 ≤ x then a.2 else o) r x ∧ _
      refine ih _ (fun s hs => hl s (by simp [hs])) ?_
      split
      · exact ha
      · exact ho
  exact key sh of (fun s hs => (h3 s hs).2.2) h1

set_option maxRecDepth 100000 in
theorem rlocal_pure (of : Int) (sh : List Sp) (x : Int) (hl : sh.length ≤ 1000000000) (hv : validZ of sh = true) (hx : 0 ≤ x ∧ x ≤ 10000000000) :
    Pure Tryz.prog gl0 184 [.agg [I of, .sl .ro (sh.map spRow)], I x] (.tup [I ((x + offX of sh x) / 86400), I ((x + offX of sh x) % 86400)]) := by
  have k1 := rzvalid_pure of sh hl
  have k2 := roff_pure of sh x hl
  have hb := offX_bd hv x
  rw [hv] at k1
  generalize offX of sh x = o at *
  refine pureE code184 (fun d f a => if f = 125 then .bool true else I o) (by simp) ?_
  have c1 : ¬ x < 0 := by omega
  have c2 : ¬ 10000000000 < x := by omega
  have w1 : IntKind.i64.wrap (x + o) = x + o := by rw [wrap_in] <;> omega
  have q1 : (x + o).tdiv 86400 = if x + o < 0 ∧ (x + o) % 86400 ≠ 0 then (x + o) / 86400 + 1 else (x + o) / 86400 := by
    by_cases h : 0 ≤ x + o
    · rw [Int.tdiv_eq_ediv_of_nonneg h, if_neg (by omega)]
    · have e : (x + o).tdiv 86400 = -((-(x + o)).tdiv 86400) := by rw [Int.neg_tdiv]; simp
      rw [e, Int.tdiv_eq_ediv_of_nonneg (by omega)]
      split <;> omega
  have q2 : (x + o).tmod 86400 = (x + o) - 86400 * (x + o).tdiv 86400 := by
    have := Int.mul_tdiv_add_tmod (x + o) 86400
    omega
  have w2 : IntKind.i64.wrap ((x + o).tdiv 86400) = (x + o).tdiv 86400 := by rw [q1, wrap_in] <;> split <;> omega
  by_cases c3 : (x + o).tmod 86400 < 0
  · have e1 : (x + o).tdiv 86400 - 1 = (x + o) / 86400 := by rw [q2] at c3; rw [q1] at c3 ⊢; split at c3 <;> split <;> omega
    have w3 : IntKind.i64.wrap ((x + o) / 86400) = (x + o) / 86400 := by rw [wrap_in] <;> omega
    have w4 : IntKind.i64.wrap ((x + o) / 86400 * 86400) = (x + o) / 86400 * 86400 := by rw [wrap_in] <;> omega
    have w5 : IntKind.i64.wrap (x + o - (x + o) / 86400 * 86400) = (x + o) % 86400 := by rw [wrap_in] <;> omega
    simp [sc184, rs184, c1, c2, w1, w2, c3, e1, w3, w4, w5]
    exact ⟨k1, k2⟩
  · have e1 : (x + o).tdiv 86400 = (x + o) / 86400 := by rw [q2] at c3; rw [q1] at c3 ⊢; split at c3 <;> split <;> omega
    rw [e1] at w2
    have w4 : IntKind.i64.wrap ((x + o) / 86400 * 86400) = (x + o) / 86400 * 86400 := by rw [wrap_in] <;> omega
    have w5 : IntKind.i64.wrap (x + o - (x + o) / 86400 * 86400) = (x + o) % 86400 := by rw [wrap_in] <;> omega
    simp [sc184, rs184, c1, c2, w1, w2, c3, e1, w4, w5]
    exact ⟨k1, k2⟩

def wthB (of : Int) (sh : List Sp) (x fr to : Int) : Bool :=
  if validZ of sh = false ∨ x < 0 ∨ 10000000000 < x ∨ fr < 0 ∨ 86400 ≤ fr ∨ to < 0 ∨ 86400 ≤ to then false else
  if fr < to then decide (fr ≤ (x + offX of sh x) % 86400) && decide ((x + offX of sh x) % 86400 < to) else decide (fr ≤ (x + offX of sh x) % 86400) || decide ((x + offX of sh x) % 86400 < to)
theorem wthB_iff {of : Int} {sh : List Sp} {x fr to : Int} (hv : validZ of sh = true) (h1 : dayB fr = true) (h2 : dayB to = true) : wthB of sh x fr to = true ↔ withX of sh x fr to := by
  simp only [dayB, decide_eq_true_eq] at h1 h2
  unfold wthB withX
  have hn : 0 ≤ (x + offX of sh x) % 86400 ∧ (x + offX of sh x) % 86400 < 86400 := by omega
  generalize (x + offX of sh x) % 86400 = n at *
  by_cases hx : 0 ≤ x ∧ x ≤ 10000000000
  · rw [if_neg (by rintro (h | h | h | h | h | h | h); rw [hv] at h; cases h; all_goals omega)]
    have hin : inW (winS fr to) n ↔ (if fr < to then (fr ≤ n ∧ n < to) else (fr ≤ n ∨ n < to)) := by
      unfold winS inW
      by_cases a : fr < to
      · simp [a]
      · by_cases b : to < fr
        · simp [a, b]; omega
        · simp [a, b]; omega
    rw [hin]
    by_cases a : fr < to
    · simp [a, hx]
    · simp [a, hx]
  · rw [if_pos (by omega)]
    constructor
    · intro h; cases h
    · rintro ⟨h1, h2, _⟩; exact absurd ⟨h1, h2⟩ hx

set_option maxRecDepth 100000 in
set_option maxHeartbeats 4000000 in
theorem rwithin_pure (of : Int) (sh : List Sp) (x fr to : Int) (hl : sh.length ≤ 1000000000) : Pure Tryz.prog gl0 132 [.agg [I of, .sl .ro (sh.map spRow)], I x, I fr, I to] (.bool (wthB of sh x fr to)) := by
  have k1 := rzvalid_pure of sh hl
  cases hv : validZ of sh with
  | false =>
    rw [hv] at k1
    have hw : wthB of sh x fr to = false := by rw [wthB, if_pos (.inl hv)]
    rw [hw]
    refine pureE code132 (fun d f a => .bool false) (by simp) ?_
    simp [sc132, rs132]
    exact k1
  | true =>
    rw [hv] at k1
    obtain ⟨o, ho⟩ : ∃ o, offX of sh x = o := ⟨_, rfl⟩
    refine pureE code132 (fun d f a => if f = 125 then .bool true else .tup [I ((x + o) / 86400), I ((x + o) % 86400)]) (by simp) ?_
    by_cases c1 : x < 0
    · rw [wthB, if_pos (.inr (.inl c1))]
      simp [sc132, rs132, c1]; exact k1
    · by_cases c2 : 10000000000 < x
      · rw [wthB, if_pos (.inr (.inr (.inl c2)))]
        simp [sc132, rs132, c1, c2]; exact k1
      · by_cases c3 : fr < 0
        · rw [wthB, if_pos (.inr (.inr (.inr (.inl c3))))]
          simp [sc132, rs132, c1, c2, c3]; exact k1
        · by_cases c4 : 86400 ≤ fr
          · rw [wthB, if_pos (.inr (.inr (.inr (.inr (.inl c4)))))]
            simp [sc132, rs132, c1, c2, c3, c4]; exact k1
          · by_cases c5 : to < 0
            · rw [wthB, if_pos (.inr (.inr (.inr (.inr (.inr (.inl c5))))))]
              simp [sc132, rs132, c1, c2, c3, c4, c5]; exact k1
            · by_cases c6 : 86400 ≤ to
              · rw [wthB, if_pos (.inr (.inr (.inr (.inr (.inr (.inr c6))))))]
                simp [sc132, rs132, c1, c2, c3, c4, c5, c6]; exact k1
              · have k2 := rlocal_pure of sh x hl hv ⟨by omega, by omega⟩
                rw [ho] at k2
                rw [wthB, if_neg (by rintro (h | h | h | h | h | h | h); rw [hv] at h; cases h; all_goals omega), ho]
                by_cases c7 : fr < to
                · rw [if_pos c7]
                  by_cases c8 : fr ≤ (x + o) % 86400
                  · simp [sc132, rs132, c1, c2, c3, c4, c5, c6, c7, c8]; exact ⟨k1, k2⟩
                  · simp [sc132, rs132, c1, c2, c3, c4, c5, c6, c7, c8]; exact ⟨k1, k2⟩
                · rw [if_neg c7]
                  by_cases c8 : fr ≤ (x + o) % 86400
                  · simp [sc132, rs132, c1, c2, c3, c4, c5, c6, c7, c8]; exact ⟨k1, k2⟩
                  · simp [sc132, rs132, c1, c2, c3, c4, c5, c6, c7, c8]; exact ⟨k1, k2⟩
end Go.Proofs.YtdebhhpklhbihaaGreatDoor
