/-
  OWN WORK. Contracts: onairref07.Spans, Allowed.
-/
import Derived.Test.YtdebhhpklhbihaaGreatDoorG5RiI
set_option linter.unusedVariables false
set_option linter.unusedSimpArgs false
namespace Go.Proofs.YtdebhhpklhbihaaGreatDoor
open Go Go.Abs

def orc7 (p : Pl) : Nat → FuncId → List AV → AV := fun d f l =>
  if f = 999999 then (if d = 84 then .mobj [] else .junk) else
  if f = 76 then .bool (timedB p) else
  if f = 78 then (match l with | [_, .int _ n] => I (secR p.nu p.de n) | _ => .junk) else
  if f = 77 then (match l with | [_, .int _ n] => I (frmR p.nu p.de n) | _ => .junk) else
  if f = 79 then (match l with | [_, .int _ a, .int _ b, .int _ c] => .bool (permB p a b c) | _ => .junk) else .junk
def Inv7 (p : Pl) (item region first last : Int) (g : Nat → AV) (mm : AM) : Prop := ∃ (f : Int) (L : List Sp) (B : List (List AV)), g 12 = I f ∧ first ≤ f ∧ f ≤ last ∧ UpTo p item region first f L ∧ (L = [] ∧ g 11 = .sl .nil [] ∨ L ≠ [] ∧ ∃ k, g 11 = .bs k 0 L.length 2 ∧ 2 ≤ k ∧ k < B.length ∧ rowN B k = fl2 L) ∧ 2 ≤ B.length ∧ rowN B 0 = plRow p ∧ mm = ⟨B, [], fun _ => .gone, 0⟩

set_option maxRecDepth 100000 in
set_option maxHeartbeats 16000000 in
theorem spans7_pure0 (p : Pl) (item region : Int) (s : Sp) (hc : p.cls.length ≤ 1000) (hsh : p.sh.length ≤ 1000000000) (hit : p.its.length ≤ 1000000000) (hs : s.2 - s.1 ≤ 1000000) (hb : -9223372036854775808 ≤ s.1 ∧ s.2 ≤ 9223372036854775807) :
    ∃ rt, Pure Tryz.prog gl0 40 [.agg (plRow p), I item, I region, .agg [I s.1, I s.2]] (.sl rt ((permS p item region s).map spRow)) := by
  obtain ⟨c0, c1, _⟩ := clip_ok s
  have cl : (clipS s).2 - (clipS s).1 ≤ 1000000 := by simp only [clipS]; omega
  have hmx : (if s.1 < 0 then 0 else s.1) = (clipS s).1 := by simp only [clipS]; omega
  have hmn : (if 100000001 < s.2 then 100000001 else s.2) = (clipS s).2 := by simp only [clipS]; omega
  have hE : ∀ L, UpTo p item region (clipS s).1 (clipS s).2 L → L = permS p item region s := fun L h => h.eq hs
  have hN : (clipS s).2 ≤ (clipS s).1 → permS p item region s = [] := by
    intro h
    unfold permS
    simp only
    cases fndI item p.its with
    | none => rfl
    | some x => exact if_pos (.inr (.inr (.inl h)))
  generalize clipS s = c at *
  by_cases hle : c.2 ≤ c.1
  · have hP := hN hle
    rw [hP]
    refine ⟨.nil, pureE code40 (orc7 p) (by simp) ?_⟩
    simp [sc40, rs40, plRow, hmx, hmn, hle]
  · refine ⟨if permS p item region s = [] then .nil else .ro, pureE code40 (orc7 p) (by simp) ?_⟩
    have hw0 : IntKind.i64.wrap (c.2 - c.1) = c.2 - c.1 := by rw [wrap_in] <;> omega
    have hle2 : ¬ 1000000 < c.2 - c.1 := by omega
    simp [sc40, plRow, hmx, hmn, hle, hw0, hle2]
    refine vc_loopE w40_0 (Inv7 p item region c.1 c.2) (fun g _ => (c.2 - numOf (g 12)).toNat) ?_ ?_
    · refine ⟨c.1, [], _, by simp, Int.le_refl _, by omega, ⟨VS_nil, fun _ h => (by cases h), fun x => ?_, by simp⟩, .inl ⟨rfl, by simp⟩, ?_, ?_, rfl⟩
      · simp only [hasS_nil, false_iff]; rintro ⟨h1, h2, _⟩; omega
      · simp
      · simp [plRow]
    · rintro g mm ⟨f, L, B, g12, f1, f2, hU, hL, hB2, hB0, rfl⟩
      have hU' := hU
      obtain ⟨_, _, _, hLl⟩ := hU'
      have hB0' := hB0
      simp only [plRow] at hB0'
      by_cases hlt : f < c.2
      · have hst := hU.step c1 c0 f1 hlt
        obtain ⟨e1, e2, _⟩ := endF_ok (p := p) c1 (by omega) hlt
        have k76 := timed7_pure p hsh
        have k79 := perm7_pure p item region f hc hsh hit
        have k78 := rsecs_pure p.nu p.de f
        have k77 := rfrms_pure p.nu p.de (secR p.nu p.de f + 1)
        have hsb := secR_bd p.nu p.de f
        have hws : IntKind.i64.wrap (secR p.nu p.de f + 1) = secR p.nu p.de f + 1 := by rw [wrap_in] <;> omega
        cases ht : timedB p with
        | false =>
          have hend : endF p c.2 f = c.2 := by rw [endF, ht]; rfl
          rw [hend] at hst e1 e2
          rw [ht] at k76
          generalize hen : c.2 = en at *
          cases hpm : permB p item region f with
          | false =>
            rw [hpm] at hst k79
            simp only [Bool.false_eq_true, if_false] at hst
            rcases hL with ⟨hL0, g11⟩ | ⟨hL1, kb, g11, hk2, hkb, hrow⟩
            · simp [g12, g11, w40_0, hlt, hB0', orc7, ht, hpm]
              refine ⟨k76, k79, ag ?_, en, L, B, by simp, by omega, e2, hst, .inl ⟨hL0, by simp [g11]⟩, hB2, hB0, rfl⟩
              repeat (first | exact agree_refl _ _ | refine agree_cons _ rfl ?_)
            · simp [g12, g11, w40_0, hlt, hB0', orc7, ht, hpm]
              refine ⟨k76, k79, ag ?_, en, L, B, by simp, by omega, e2, hst, .inr ⟨hL1, kb, by simp [g11], hk2, hkb, hrow⟩, hB2, hB0, rfl⟩
              repeat (first | exact agree_refl _ _ | refine agree_cons _ rfl ?_)
          | true =>
            rw [hpm] at hst k79
            simp only [if_true] at hst
            rcases hL with ⟨hL0, g11⟩ | ⟨hL1, kb, g11, hk2, hkb, hrow⟩
            · rw [hL0] at hst
              have ha : addA [] f en = [(f, en)] := by simp [addA, e1]
              rw [ha] at hst
              simp [g12, g11, w40_0, hlt, hB0', orc7, ht, hpm]
              refine ⟨k76, k79, ag ?_, en, [(f, en)], B ++ [[I f, I en]], by simp, by omega, e2, hst, .inr ⟨by simp, B.length, by simp, hB2, by simp, by simp⟩, by simp; omega, by rw [rowN_app (by omega)]; exact hB0, rfl⟩
              repeat (first | exact agree_refl _ _ | refine agree_cons _ rfl ?_)
            · obtain ⟨A, t, rfl⟩ : ∃ A t, L = A ++ [t] := ⟨L.dropLast, L.getLast hL1, (List.dropLast_concat_getLast hL1).symm⟩
              have ha : addA (A ++ [t]) f en = if t.2 = f then A ++ [(t.1, en)] else A ++ [t] ++ [(f, en)] := by simp [addA, e1]
              rw [ha] at hst
              have hgt : (A ++ [t])[A.length]? = some t := by simp
              have g0 := fl2_get hgt
              have g1 := fl2_get1 hgt
              have hln : (A ++ [t]).length = A.length + 1 := by simp
              rw [hln] at g11 hLl
              have hwA : IntKind.i64.wrap (A.length : Int) = (A.length : Int) := by rw [wrap_in] <;> omega
              have gl : (fl2 (A ++ [t])).length = A.length * 2 + 2 := by rw [fl2_len, hln]; omega
              have hR2 : fl2 (A ++ [t] ++ [(f, en)]) = fl2 (A ++ [t]) ++ [I f, I en] := by rw [fl2_app]; rfl
              have hR1 : (fl2 (A ++ [t])).set (A.length * 2 + 1) (I en) = fl2 (A ++ [(t.1, en)]) := by rw [fl2_set1 _ _ t _ hgt]; simp
              generalize hR : fl2 (A ++ [t]) = R at *
              by_cases hsu : t.2 = f
              · rw [if_pos hsu] at hst
                simp [g12, g11, w40_0, hlt, hB0', orc7, ht, hpm, hwA, hrow, g0, g1, gl, hkb, hsu]
                refine ⟨k76, k79, by omega, ag ?_, en, A ++ [(t.1, en)], B.set kb (R.set (A.length * 2 + 1) (I en)), by simp, by omega, e2, hst, .inr ⟨by simp, kb, by simp [g11], hk2, by simpa using hkb, by rw [bs_eq _ hkb]; exact hR1⟩, by simpa using hB2, by rw [bs_ne _ (by omega)]; exact hB0, rfl⟩
                repeat (first | exact agree_refl _ _ | refine agree_cons _ rfl ?_)
              · rw [if_neg hsu] at hst
                simp [g12, g11, w40_0, hlt, hB0', orc7, ht, hpm, hwA, hrow, g0, g1, gl, hkb, hsu]
                have hRt : List.take ((A.length + 1) * 2) R = R := List.take_of_length_le (by omega)
                have hRne : ¬ R = [] := by rintro rfl; simp at gl
                simp only [hRt]
                refine ⟨k76, k79, by omega, ⟨⟨hRne, by omega⟩, by omega⟩, ag ?_, en, A ++ [t] ++ [(f, en)], B.set kb [] ++ [R ++ [I f, I en]], by simp, by omega, e2, hst, .inr ⟨by simp, B.length, by simp, hB2, by simp, ?_⟩, by simp; omega, by rw [rowN_app (by simp; omega), bs_ne _ (by omega)]; exact hB0, rfl⟩
                · repeat (first | exact agree_refl _ _ | refine agree_cons _ rfl ?_)
                · have := rowN_len_add (B.set kb []) [R ++ [I f, I en]] 0
                  rw [List.length_set] at this
                  rw [hR2]; simpa using this
        | true =>
          have hend : endF p c.2 f = min c.2 (frmR p.nu p.de (secR p.nu p.de f + 1)) := by rw [endF, ht]; rfl
          have hmin : (if frmR p.nu p.de (secR p.nu p.de f + 1) < c.2 then frmR p.nu p.de (secR p.nu p.de f + 1) else c.2) = endF p c.2 f := by rw [hend]; omega
          rw [ht] at k76
          clear hend
          generalize hEn : endF p c.2 f = en at *
          cases hpm : permB p item region f with
          | false =>
            rw [hpm] at hst k79
            simp only [Bool.false_eq_true, if_false] at hst
            rcases hL with ⟨hL0, g11⟩ | ⟨hL1, kb, g11, hk2, hkb, hrow⟩
            · simp [g12, g11, w40_0, hlt, hB0', orc7, ht, hws, hmin, hpm]
              refine ⟨k76, k78, k77, k79, ag ?_, ⟨en, L, B, by simp, by omega, e2, hst, .inl ⟨hL0, by simp [g11]⟩, hB2, hB0, rfl⟩, by omega⟩
              repeat (first | exact agree_refl _ _ | refine agree_cons _ rfl ?_)
            · simp [g12, g11, w40_0, hlt, hB0', orc7, ht, hws, hmin, hpm]
              refine ⟨k76, k78, k77, k79, ag ?_, ⟨en, L, B, by simp, by omega, e2, hst, .inr ⟨hL1, kb, by simp [g11], hk2, hkb, hrow⟩, hB2, hB0, rfl⟩, by omega⟩
              repeat (first | exact agree_refl _ _ | refine agree_cons _ rfl ?_)
          | true =>
            rw [hpm] at hst k79
            simp only [if_true] at hst
            rcases hL with ⟨hL0, g11⟩ | ⟨hL1, kb, g11, hk2, hkb, hrow⟩
            · rw [hL0] at hst
              have ha : addA [] f en = [(f, en)] := by simp [addA, e1]
              rw [ha] at hst
              simp [g12, g11, w40_0, hlt, hB0', orc7, ht, hws, hmin, hpm]
              refine ⟨k76, k78, k77, k79, ag ?_, ⟨en, [(f, en)], B ++ [[I f, I en]], by simp, by omega, e2, hst, .inr ⟨by simp, B.length, by simp, hB2, by simp, by simp⟩, by simp; omega, by rw [rowN_app (by omega)]; exact hB0, rfl⟩, by omega⟩
              repeat (first | exact agree_refl _ _ | refine agree_cons _ rfl ?_)
            · obtain ⟨A, t, rfl⟩ : ∃ A t, L = A ++ [t] := ⟨L.dropLast, L.getLast hL1, (List.dropLast_concat_getLast hL1).symm⟩
              have ha : addA (A ++ [t]) f en = if t.2 = f then A ++ [(t.1, en)] else A ++ [t] ++ [(f, en)] := by simp [addA, e1]
              rw [ha] at hst
              have hgt : (A ++ [t])[A.length]? = some t := by simp
              have g0 := fl2_get hgt
              have g1 := fl2_get1 hgt
              have hln : (A ++ [t]).length = A.length + 1 := by simp
              rw [hln] at g11 hLl
              have hwA : IntKind.i64.wrap (A.length : Int) = (A.length : Int) := by rw [wrap_in] <;> omega
              have gl : (fl2 (A ++ [t])).length = A.length * 2 + 2 := by rw [fl2_len, hln]; omega
              have hR2 : fl2 (A ++ [t] ++ [(f, en)]) = fl2 (A ++ [t]) ++ [I f, I en] := by rw [fl2_app]; rfl
              have hR1 : (fl2 (A ++ [t])).set (A.length * 2 + 1) (I en) = fl2 (A ++ [(t.1, en)]) := by rw [fl2_set1 _ _ t _ hgt]; simp
              generalize hR : fl2 (A ++ [t]) = R at *
              by_cases hsu : t.2 = f
              · rw [if_pos hsu] at hst
                simp [g12, g11, w40_0, hlt, hB0', orc7, ht, hws, hmin, hpm, hwA, hrow, g0, g1, gl, hkb, hsu]
                refine ⟨k76, k78, k77, k79, by omega, ag ?_, ⟨en, A ++ [(t.1, en)], B.set kb (R.set (A.length * 2 + 1) (I en)), by simp, by omega, e2, hst, .inr ⟨by simp, kb, by simp [g11], hk2, by simpa using hkb, by rw [bs_eq _ hkb]; exact hR1⟩, by simpa using hB2, by rw [bs_ne _ (by omega)]; exact hB0, rfl⟩, by omega⟩
                repeat (first | exact agree_refl _ _ | refine agree_cons _ rfl ?_)
              · rw [if_neg hsu] at hst
                simp [g12, g11, w40_0, hlt, hB0', orc7, ht, hws, hmin, hpm, hwA, hrow, g0, g1, gl, hkb, hsu]
                have hRt : List.take ((A.length + 1) * 2) R = R := List.take_of_length_le (by omega)
                have hRne : ¬ R = [] := by rintro rfl; simp at gl
                simp only [hRt]
                refine ⟨k76, k78, k77, k79, by omega, ⟨⟨hRne, by omega⟩, by omega⟩, ag ?_, ⟨en, A ++ [t] ++ [(f, en)], B.set kb [] ++ [R ++ [I f, I en]], by simp, by omega, e2, hst, .inr ⟨by simp, B.length, by simp, hB2, by simp, ?_⟩, by simp; omega, by rw [rowN_app (by simp; omega), bs_ne _ (by omega)]; exact hB0, rfl⟩, by omega⟩
                · repeat (first | exact agree_refl _ _ | refine agree_cons _ rfl ?_)
                · have := rowN_len_add (B.set kb []) [R ++ [I f, I en]] 0
                  rw [List.length_set] at this
                  rw [hR2]; simpa using this
      · obtain rfl : f = c.2 := by omega
        have hR := hE L hU
        rw [← hR]
        rcases hL with ⟨hL0, g11⟩ | ⟨hL1, kb, g11, hk2, hkb, hrow⟩
        · simp [g12, g11, w40_0, rs40, hL0]
        · have hcv := map_okRow ⟨B, [], fun _ => .gone, 0⟩ 4 (fl2_ok L)
          have hch := fl2_chunk' L
          have hfl := fl2_len L
          simp [g12, g11, w40_0, rs40, hL1, hrow, hcv, hch, hfl, hkb]
theorem spans7_pure (p : Pl) (item region : Int) (s : Sp) (hc : p.cls.length ≤ 1000) (hsh : p.sh.length ≤ 1000000000) (hit : p.its.length ≤ 1000000000) (hs : s.2 - s.1 ≤ 1000000) (hb : -9223372036854775808 ≤ s.1 ∧ s.2 ≤ 9223372036854775807) :
    Pure Tryz.prog gl0 40 [.agg (plRow p), I item, I region, .agg [I s.1, I s.2]] (.sl .ro ((permS p item region s).map spRow)) := by
  obtain ⟨rt, h⟩ := spans7_pure0 p item region s hc hsh hit hs hb
  exact pure_res h (Wk.sl _ _)

theorem one_iff {L : List Sp} {s : Sp} (h : VS L) (hs : s.1 < s.2) (hin : ∀ x, hasS L x → s.1 ≤ x ∧ x < s.2) : L = [s] ↔ subS [s] L = [] := by
  rw [covers_iff hs]
  constructor
  · rintro rfl x h1 h2; simp [h1, h2]
  · intro hc
    refine VS_unique h (VS_cons.2 ⟨hs, fun _ h => (by cases h), VS_nil⟩) fun x => ?_
    simp only [hasS_cons, hasS_nil, or_false]
    exact ⟨hin x, fun ⟨h1, h2⟩ => hc x h1 h2⟩
theorem allow_one {p : Pl} {item region f n : Int} (h1 : ¬ n < 1) (h2 : ¬ 1000000 < n) (h3 : ¬ f < 0) (h4 : ¬ 100000000 < f) (h5 : ¬ 100000000 < f + n - 1) : allowB p item region f n = decide (permS p item region (f, f + n) = [(f, f + n)]) := by
  have e1 : frB f = true := by simp [frB]; omega
  have e2 : frB (f + n - 1) = true := by simp [frB]; omega
  rw [allowB, if_neg (by rintro (h | h | h | h); exact h1 h; exact h2 h; rw [e1] at h; cases h; rw [e2] at h; cases h)]
  have hi := one_iff (permS_VS p item region (f, f + n)) (s := (f, f + n)) (by simp only; omega) (fun x hx => by
    have := (permS_has p item region (f, f + n) (by simp only; omega) x).1 hx
    exact ⟨this.1, this.2.1⟩)
  rw [Bool.eq_iff_iff, List.isEmpty_iff, decide_eq_true_eq, hi]

def orcA7 (L : List Sp) : Nat → FuncId → List AV → AV := fun _ _ _ => .sl .ro (L.map spRow)
set_option maxRecDepth 100000 in
set_option maxHeartbeats 8000000 in
theorem allowed7_pure (p : Pl) (item region f n : Int) (hc : p.cls.length ≤ 1000) (hsh : p.sh.length ≤ 1000000000) (hit : p.its.length ≤ 1000000000) :
    Pure Tryz.prog gl0 20 [.agg (plRow p), I item, I region, I f, I n] (.bool (allowB p item region f n)) := by
  refine pureE code20 (orcA7 (permS p item region (f, f + n))) (by simp) ?_
  by_cases b1 : n < 1
  · have : allowB p item region f n = false := by rw [allowB, if_pos (.inl b1)]
    rw [this]
    simp [sc20, rs20, plRow, b1]
  · by_cases b2 : 1000000 < n
    · have : allowB p item region f n = false := by rw [allowB, if_pos (.inr (.inl b2))]
      rw [this]
      simp [sc20, rs20, plRow, b1, b2]
    · by_cases b3 : f < 0
      · have : allowB p item region f n = false := by rw [allowB, if_pos (.inr (.inr (.inl (by simp [frB]; omega))))]
        rw [this]
        simp [sc20, rs20, plRow, b1, b2, b3]
      · by_cases b4 : 100000000 < f
        · have : allowB p item region f n = false := by rw [allowB, if_pos (.inr (.inr (.inl (by simp [frB]; omega))))]
          rw [this]
          simp [sc20, rs20, plRow, b1, b2, b3, b4]
        · have hw1 : IntKind.i64.wrap (f + n) = f + n := by rw [wrap_in] <;> omega
          have hw2 : IntKind.i64.wrap (f + n - 1) = f + n - 1 := by rw [wrap_in] <;> omega
          by_cases b5 : 100000000 < f + n - 1
          · have : allowB p item region f n = false := by rw [allowB, if_pos (.inr (.inr (.inr (by simp [frB]; omega))))]
            rw [this]
            simp [sc20, rs20, plRow, b1, b2, b3, b4, b5, hw1, hw2]
          · rw [allow_one b1 b2 b3 b4 b5]
            have k40 := spans7_pure p item region (f, f + n) hc hsh hit (by simp only; omega) ⟨by simp only; omega, by simp only; omega⟩
            generalize permS p item region (f, f + n) = L at *
            match L, k40 with
            | [], k40 =>
              simp [sc20, rs20, plRow, b1, b2, b3, b4, b5, hw1, hw2, orcA7]
              exact k40
            | [t], k40 =>
              simp [sc20, rs20, plRow, b1, b2, b3, b4, b5, hw1, hw2, orcA7, spRow]
              refine ⟨k40, ?_⟩
              rw [Bool.eq_iff_iff]
              obtain ⟨t1, t2⟩ := t
              simp
            | t :: u :: r, k40 =>
              have hne : ¬ ((r.length : Int) + 1 + 1 = 1) := by omega
              simp [sc20, rs20, plRow, b1, b2, b3, b4, b5, hw1, hw2, orcA7, hne]
              exact k40
end Go.Proofs.YtdebhhpklhbihaaGreatDoor
