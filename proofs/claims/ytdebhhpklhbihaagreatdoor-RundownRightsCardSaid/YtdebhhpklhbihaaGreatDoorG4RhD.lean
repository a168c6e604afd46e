/-
  OWN WORK. The law RundownRights on abstract arguments.
-/
import Derived.Test.YtdebhhpklhbihaaGreatDoorG4RhC
set_option linter.unusedVariables false
set_option linter.unusedSimpArgs false
namespace Go.Proofs.YtdebhhpklhbihaaGreatDoor
open Go Go.Abs

theorem bit_form0 : ∀ r : Nat, r < 8 → ∀ x : Nat, x < 256 → IntKind.i64.wrap (((((x : Int).fdiv (2 ^ min r IntKind.i64.bits) % 2 ^ IntKind.i64.bits).toNat &&& (1 % 2 ^ IntKind.i64.bits) : Nat)) : Int) = if x.testBit r then 1 else 0 := by
  decide +kernel
theorem bit_form {x : Int} (h : 0 ≤ x ∧ x < 256) {r : Nat} (hr : r < 8) : IntKind.i64.wrap ((((x.fdiv (2 ^ min r IntKind.i64.bits) % 2 ^ IntKind.i64.bits).toNat &&& (1 % 2 ^ IntKind.i64.bits) : Nat)) : Int) = if bitI x r then 1 else 0 := by
  have := bit_form0 r hr x.toNat (by omega)
  rw [Int.toNat_of_nonneg h.1] at this
  exact this

def orc4 (P : Pl) (l : List Sp) (b : List Ev2) (v : Bool) (g : Int) : Nat → FuncId → List AV → AV := fun d f x =>
  if f = 9 then .bool true else if f = 10 then .agg (plRow P) else if f = 11 then I g else if f = 12 then .sl .ro (l.map spRow) else if f = 13 then .sl .ro (b.map ev2RowR) else
  if f = 14 then .bool v else if f = 16 then found2 g (fnd2 g b) else if f = 15 then (match x with | [_, .int _ a, .int _ r, .int _ f, .int _ n] => .bool (allowB P a r f n) | _ => .junk) else .junk
def Inv4 (p P : Pl) (b : List Ev2) (g : Int) (f : Nat → AV) (mm : AM) : Prop := ∃ (i : Nat) (bx : List (List AV)), f 12 = I i ∧ i ≤ b.length ∧ f 11 = I (cnt2 g (b.take i) : Nat) ∧ mm = ⟨plRow p :: plRow P :: bx, [], fun _ => .gone, 0⟩
def Inv4b (p P : Pl) (e : Ev2) (bx : List (List AV)) (f : Nat → AV) (mm : AM) : Prop := ∃ (r : Nat), f 14 = I r ∧ r ≤ 8 ∧ mm = ⟨plRow p :: plRow P :: (bx ++ [ev2RowR e]), [], fun _ => .gone, 0⟩
def Inv4c (p P : Pl) (e : Ev2) (bx : List (List AV)) (f : Nat → AV) (mm : AM) : Prop := ∃ (k : Nat), f 15 = I k ∧ k ≤ e.al.length ∧ mm = ⟨plRow p :: plRow P :: (bx ++ [ev2RowR e]), [], fun _ => .gone, 0⟩

set_option maxRecDepth 100000 in
set_option maxHeartbeats 16000000 in
theorem law4 (p : Pl) (x : List Sp) (fr : Int) (hp : OKP p) (hx : ∀ a ∈ x, is64 a.1 ∧ is64 a.2) (ha : is64 fr) : Pure Tryz.prog gl0 4 [.agg (plRow p), .sl .ro (x.map spRow), I fr] (.bool true) := by
  have k9 := sane_pure
  have k10 := few_pure p
  obtain ⟨P, hP⟩ : ∃ P, fewP p = P := ⟨_, rfl⟩
  have hPk := few_ok hp
  have hPl : P.ln ≤ 1200 := by rw [← hP]; simp only [fewP]; omega
  have hPe : P.ens.length ≤ 16 := by rw [← hP]; simp only [fewP, List.length_take]; omega
  have hPc : P.cls.length ≤ 20 := by rw [← hP]; simp only [fewP, List.length_take]; omega
  have hPs : P.sh.length ≤ 6 := by rw [← hP]; simp only [fewP, List.length_take]; omega
  have hPi : P.its.length ≤ 20 := by rw [← hP]; simp only [fewP, List.length_take]; omega
  rw [hP] at k10 hPk
  obtain ⟨rt, k12'⟩ := starts_pure0 P x hx (by omega)
  have k12 := pure_res k12' (Wk.sl _ _)
  obtain ⟨hsl, hsb⟩ := startsS_bd P x
  have k13 := buildR_pure P (startsS P x) 0 (by omega) (by omega) (by omega) (by omega) hPk (by omega) (by omega) (fun s hs => by have := hsb s hs; omega)
  obtain ⟨l, hL⟩ : ∃ l, startsS P x = l := ⟨_, rfl⟩
  rw [hL] at k12 k13 hsl hsb
  -- the events
  have hev : ∀ e ∈ bldS P l 0, EvOK e := by
    intro e he
    unfold bldS at he
    split at he
    · cases he
    · exact bldL_ok P hPk _ _ e he
  have hgap : bldS P l 0 ≠ [] → gapOK l P.ln 0 (bldS P l 0) := by
    intro hne
    have h0 : ¬ ((0 : Int) < 0 ∨ P.ln < 0) := by
      intro h
      rw [bldS, if_pos h] at hne
      exact hne rfl
    have hbd : bldS P l 0 = bldL P l 0 := by rw [bldS, if_neg h0]
    rw [hbd]
    exact (bldL_gap P l l 0 (fun _ h => h) (by omega)).1
  obtain ⟨b, hB⟩ : ∃ b, bldS P l 0 = b := ⟨_, rfl⟩
  rw [hB] at k13 hev hgap
  have hbl : b.length ≤ 1200 := by
    cases b with
    | nil => simp
    | cons e r =>
      have := gapOK_le (hgap (by simp))
      omega
  have k14 := valid2_pure P b (by omega) (by omega) (by omega) (fun e he => (hev e he).2.2) (by omega)
  cases hv : validB P b with
  | false =>
    rw [hv] at k14
    refine pureE code4 (orc4 P l b false 0) (by simp) ?_
    simp only [plRow] at k10 k12 k13 k14
    simp [sc4, rs4, plRow, orc4]
    exact ⟨k9, k10, k12, k13, k14⟩
  | true =>
    rw [hv] at k14
    obtain ⟨hne, hsnd⟩ := validB_all hv
    have hg := hgap hne
    have hln : 1 ≤ P.ln := by
      have := gapOK_le hg
      have := List.length_pos_iff.2 hne
      omega
    have hmx : (if 1 < P.ln then P.ln else 1) = P.ln := by omega
    have k11 := pick_pure fr P.ln ha.1 ha.2 (by omega)
    have hab := pickI_bd' fr P.ln (by omega)
    obtain ⟨g, hG⟩ : ∃ g, pickI fr P.ln = g := ⟨_, rfl⟩
    rw [hG] at k11 hab
    have hall := gapOK_all hg
    obtain ⟨c1, eF, c2, c3, c4⟩ := gap_one hg hab.1 hab.2
    have k16 := at2_pure b g (by omega) (fun e he => by
      have h1 := hall e he
      obtain ⟨h2, h3, h4⟩ := hev e he
      exact ⟨by omega, by omega, by omega, h4⟩) ⟨by omega, by omega⟩
    rw [c3] at k16
    refine pureE code4 (orc4 P l b true g) (by simp) ?_
    simp only [plRow] at k10 k11 k12 k13 k14
    simp [sc4, plRow, orc4, hmx]
    refine ⟨k9, k10, k12, k13, k14, k11, ?_⟩
    clear k9 k10 k11 k12 k12' k13 k14
    refine vc_loopE w4_0 (Inv4 p P b g) (fun f _ => b.length - (numOf (f 12)).toNat) ?_ ?_
    · exact ⟨0, [], by simp, Nat.zero_le _, by simp [cnt2], by simp [plRow]⟩
    · rintro f mm ⟨i, bx, h12, hi, h11, rfl⟩
      rcases Nat.lt_or_ge i b.length with hlt | hge
      · obtain ⟨e, he⟩ : ∃ e, b[i]? = some e := ⟨_, List.getElem?_eq_getElem hlt⟩
        have hem := List.mem_of_getElem? he
        have hrow : rowN (b.map ev2RowR) i = ev2RowR e := rowN_eq (by simp [he])
        have hilt : (i : Int) < (b.length : Int) := by omega
        have hw : IntKind.i64.wrap ((i : Int) + 1) = ((i + 1 : Nat) : Int) := by rw [wrap_in] <;> omega
        obtain ⟨e1, e2, e3⟩ := hall e hem
        obtain ⟨d1, d2, d3⟩ := hev e hem
        have hw2 : IntKind.i64.wrap (e.st + e.fr) = e.st + e.fr := by rw [wrap_in] <;> omega
        have hct : cnt2 g (b.take (i + 1)) = cnt2 g (b.take i) + if onB2 g e then 1 else 0 := by
          rw [List.take_add_one, he, cnt2_app]; simp [cnt2_one]
        have hcl : cnt2 g (b.take i) ≤ b.length := Nat.le_trans (List.length_filter_le _ _) (by rw [List.length_take]; omega)
        by_cases c1 : g < e.st
        · have ho : onB2 g e = false := by simp [onB2]; omega
          rw [ho] at hct
          simp [h12, h11, w4_0, hlt, hilt, hrow, plRow, ev2RowR, c1, hw]
          refine ⟨ag ?_, ⟨i + 1, bx ++ [ev2RowR e], by simp, by omega, by simp [h11, hct], by simp [plRow, ev2RowR]⟩, by omega⟩
          repeat (first | exact agree_refl _ _ | refine agree_cons _ rfl ?_)
        · by_cases c2 : e.st + e.fr ≤ g
          · have ho : onB2 g e = false := by simp [onB2]; omega
            rw [ho] at hct
            simp [h12, h11, w4_0, hlt, hilt, hrow, plRow, ev2RowR, c1, c2, hw, hw2]
            refine ⟨ag ?_, ⟨i + 1, bx ++ [ev2RowR e], by simp, by omega, by simp [h11, hct], by simp [plRow, ev2RowR]⟩, by omega⟩
            repeat (first | exact agree_refl _ _ | refine agree_cons _ rfl ?_)
          · have ho : onB2 g e = true := by simp [onB2]; omega
            rw [ho] at hct
            have hw3 : IntKind.i64.wrap ((cnt2 g (b.take i) : Int) + 1) = ((cnt2 g (b.take i) + 1 : Nat) : Int) := by rw [wrap_in] <;> omega
            obtain ⟨s1, s2, s3⟩ := sound_all (hsnd e hem) (hev e hem)
            simp [h12, h11, w4_0, hlt, hilt, hrow, plRow, ev2RowR, c1, c2, hw2, hw3]
            refine vc_loopE w4_1 (Inv4b p P e bx) (fun f _ => 8 - (numOf (f 14)).toNat) ?_ ?_
            · exact ⟨0, by simp, by omega, by simp [plRow, ev2RowR]⟩
            · rintro f1 mm ⟨r, f14, hr, rfl⟩
              rcases Nat.lt_or_ge r 8 with rlt | rge
              · have rilt : (r : Int) < 8 := by omega
                have hwr : IntKind.i64.wrap ((r : Int) + 1) = ((r + 1 : Nat) : Int) := by rw [wrap_in] <;> omega
                have k15 := allowed_pure P e.it r g 1 (by omega) (by omega) (by omega)
                have hbf := bit_form d2 rlt
                cases hb : bitI e.re r with
                | false =>
                  rw [hb] at hbf
                  simp only [Bool.false_eq_true, if_false] at hbf
                  simp [f14, w4_1, rlt, rilt, plRow, ev2RowR, hwr, orc4, hbf]
                  refine ⟨ag ?_, ⟨r + 1, by simp, by omega, by simp [plRow, ev2RowR]⟩, by omega⟩
                  repeat (first | exact agree_refl _ _ | refine agree_cons _ rfl ?_)
                | true =>
                  have hal := s2 r rlt hb
                  have hal1 : allowB P e.it r g 1 = true := allowB_sub hal (by omega) (by omega) (by omega)
                  rw [hal1] at k15
                  rw [hb] at hbf
                  simp only [if_true] at hbf
                  simp [f14, w4_1, rlt, rilt, plRow, ev2RowR, hwr, orc4, hbf, hal1]
                  refine ⟨k15, ag ?_, ⟨r + 1, by simp, by omega, by simp [plRow, ev2RowR]⟩, by omega⟩
                  repeat (first | exact agree_refl _ _ | refine agree_cons _ rfl ?_)
              · obtain rfl : r = 8 := by omega
                simp [f14, h12, w4_1, w4_0, plRow, ev2RowR]
                refine vc_loopE w4_2 (Inv4c p P e bx) (fun f _ => e.al.length - (numOf (f 15)).toNat) ?_ ?_
                · exact ⟨0, by simp, Nat.zero_le _, by simp [plRow, ev2RowR]⟩
                · rintro f2 mm ⟨k, f15, hk, rfl⟩
                  rcases Nat.lt_or_ge k e.al.length with klt | kge
                  · obtain ⟨a, has⟩ : ∃ a, e.al[k]? = some a := ⟨_, List.getElem?_eq_getElem klt⟩
                    have harow := rowN_sp has
                    have kilt : (k : Int) < (e.al.length : Int) := by omega
                    have hwk : IntKind.i64.wrap ((k : Int) + 1) = ((k + 1 : Nat) : Int) := by rw [wrap_in] <;> omega
                    have k15 := allowed_pure P a.2 a.1 g 1 (by omega) (by omega) (by omega)
                    have hal1 : allowB P a.2 a.1 g 1 = true := allowB_sub (s3 a (List.mem_of_getElem? has)) (by omega) (by omega) (by omega)
                    rw [hal1] at k15
                    simp [f15, w4_2, klt, kilt, plRow, ev2RowR, hwk, orc4, harow, hal1]
                    refine ⟨k15, ag ?_, ⟨k + 1, by simp, by omega, by simp [plRow, ev2RowR]⟩, by omega⟩
                    repeat (first | exact agree_refl _ _ | refine agree_cons _ rfl ?_)
                  · obtain rfl : k = e.al.length := by omega
                    simp [f15, f14, h12, w4_2, w4_1, w4_0, plRow, ev2RowR, hw]
                    refine ⟨ag ?_, ⟨i + 1, bx ++ [ev2RowR e], by simp, by omega, by simp [hct], by simp [plRow, ev2RowR]⟩, by omega⟩
                    repeat (first | exact agree_refl _ _ | refine agree_cons _ rfl ?_)
      · obtain rfl : i = b.length := by omega
        rw [List.take_length, c1] at h11
        have hof := hev eF c2
        have hof2 := hall eF c2
        have hof3 := (sound_all (hsnd eF c2) hof).1
        have hon : eF.st ≤ g := by simp [onB2] at c4; omega
        have hn0 : 0 ≤ eF.i + g - eF.st := by rw [hof.1]; omega
        have h1x : and1X eF.re = 1 := by rw [and1X_eq _ hof.2.1]; exact hof3
        have h1x' : IntKind.i64.wrap (((eF.re % 2 ^ IntKind.i64.bits).toNat &&& ((1 : Int) % 2 ^ IntKind.i64.bits).toNat : Nat) : Int) = 1 := h1x
        simp [h12, h11, w4_0, rs4, plRow, orc4, c3, found2, ev2RowR, hn0]
        exact ⟨k16, by omega, h1x'⟩
end Go.Proofs.YtdebhhpklhbihaaGreatDoor
