/-
  OWN WORK. The law RundownItems on abstract arguments.
-/
import Derived.Test.YtdebhhpklhbihaaGreatDoorG5RiJ
import Derived.Test.YtdebhhpklhbihaaGreatDoorG5RhC
set_option linter.unusedVariables false
set_option linter.unusedSimpArgs false
namespace Go.Proofs.YtdebhhpklhbihaaGreatDoor
open Go Go.Abs

theorem bit_form0' : ∀ r : Nat, r < 8 → ∀ x : Nat, x < 256 → IntKind.i64.wrap (((((x : Int).fdiv (2 ^ min r IntKind.i64.bits) % 2 ^ IntKind.i64.bits).toNat &&& (1 % 2 ^ IntKind.i64.bits) : Nat)) : Int) = if x.testBit r then 1 else 0 := by
  decide +kernel
theorem bit_form' {x : Int} (h : 0 ≤ x ∧ x < 256) {r : Nat} (hr : r < 8) : IntKind.i64.wrap ((((x.fdiv (2 ^ min r IntKind.i64.bits) % 2 ^ IntKind.i64.bits).toNat &&& (1 % 2 ^ IntKind.i64.bits) : Nat)) : Int) = if bitI x r then 1 else 0 := by
  have := bit_form0' r hr x.toNat (by omega)
  rw [Int.toNat_of_nonneg h.1] at this
  exact this

def EvI (P : Pl) (ev : Ev2) : Prop := (∃ x, ev = fillE P x) ∨ (∃ e, fndN ev.id P.ens = some e ∧ ev.id ≠ 0 ∧ ev = evtE P e ev.st)
theorem bldL_evI (p : Pl) : ∀ (l : List Sp) (a : Int), ∀ e ∈ bldL p l a, EvI p e
  | [], a, e, h => by
    rw [bldL, List.mem_map] at h
    obtain ⟨x, _, rfl⟩ := h
    exact .inl ⟨x, rfl⟩
  | s :: r, a, e, h => by
    rw [bldL] at h
    cases hs : skipB p s a with
    | none => rw [hs] at h; exact bldL_evI p r a e h
    | some x =>
      rw [hs] at h
      simp only [List.append_assoc, List.mem_append, List.mem_map, List.mem_singleton] at h
      rcases h with ⟨y, _, rfl⟩ | rfl | h
      · exact .inl ⟨y, rfl⟩
      · obtain ⟨h1, h2, _, _, _, h6⟩ := skipB_some hs
        right
        refine ⟨x, ?_, ?_, rfl⟩
        · show fndN x.id p.ens = some x
          rw [h6]; exact h1
        · show x.id ≠ 0
          rw [h6]; exact h2
      · exact bldL_evI p r _ e h

theorem filter_at {α : Type} {q : α → Bool} {l : List α} {k : Nat} {a : α} (h : l[k]? = some a) (hq : q a = true) : (l.filter q)[((l.take k).filter q).length]? = some a := by
  obtain ⟨hk, ha⟩ := List.getElem?_eq_some_iff.1 h
  have e : l.take k ++ a :: l.drop (k + 1) = l := by
    have : l.drop k = a :: l.drop (k + 1) := by rw [List.drop_eq_getElem_cons hk, ha]
    rw [← this, List.take_append_drop]
  have e2 : l.filter q = (l.take k).filter q ++ a :: (l.drop (k + 1)).filter q := by
    conv => lhs; rw [← e]
    rw [List.filter_append, List.filter_cons_of_pos hq]
  rw [e2, List.getElem?_append_right (Nat.le_refl _)]
  simp

def orc66 (P : Pl) (l : List Sp) (b : List Ev2) : Nat → FuncId → List AV → AV := fun d f x =>
  if f = 9 then .bool true else if f = 10 then .agg (plRow P) else if f = 12 then .sl .ro (l.map spRow) else if f = 13 then .sl .ro (b.map ev2RowR) else
  if f = 19 then (match x with | [_, .int _ n] => enAV (fndN n P.ens) | _ => .junk) else
  if f = 20 then (match x with | [_, .int _ a, .int _ r, .int _ f, .int _ n] => .bool (allowB P a r f n) | _ => .junk) else .junk
def Inv66 (P : Pl) (b : List Ev2) (f : Nat → AV) (mm : AM) : Prop := ∃ (i : Nat) (bx : List (List AV)), f 7 = I i ∧ i ≤ b.length ∧ mm = ⟨plRow P :: bx, [], fun _ => .gone, 0⟩
def Inv66b (P : Pl) (e : En) (bx : List (List AV)) (f : Nat → AV) (mm : AM) : Prop := ∃ (r : Nat), f 10 = I r ∧ r ≤ 8 ∧ mm = ⟨plRow P :: (bx ++ [enRow e]), [], fun _ => .gone, 0⟩
def Inv66c (P : Pl) (e : En) (st : Int) (bx : List (List AV)) (f : Nat → AV) (mm : AM) : Prop := ∃ (k : Nat) (bx2 : List (List AV)), f 12 = I k ∧ k ≤ e.al.length ∧ f 11 = I (((e.al.take k).filter (altB P e st)).length : Nat) ∧ mm = ⟨plRow P :: (bx ++ enRow e :: bx2), [], fun _ => .gone, 0⟩

set_option maxRecDepth 100000 in
set_option maxHeartbeats 16000000 in
theorem law6 (p : Pl) (x : List Sp) (hp : OKP p) (hx : ∀ a ∈ x, is64 a.1 ∧ is64 a.2) : Pure Tryz.prog gl0 6 [.agg (plRow p), .sl .ro (x.map spRow)] (.bool true) := by
  have k9 := sane_pure
  have k10 := few_pure p
  obtain ⟨P, hP⟩ : ∃ P, fewP p = P := ⟨_, rfl⟩
  have hPk := few_ok hp
  have hPl : P.ln ≤ 1200 := by rw [← hP]; simp only [fewP]; omega
  have hPe : P.ens.length ≤ 16 := by rw [← hP]; simp only [fewP, List.length_take]; omega
  have hPc : P.cls.length ≤ 20 := by rw [← hP]; simp only [fewP, List.length_take]; omega
  have hPs : P.sh.length ≤ 6 := by rw [← hP]; simp only [fewP, List.length_take]; omega
  have hPi : P.its.length ≤ 20 := by rw [← hP]; simp only [fewP, List.length_take]; omega
  rw [hP] at k10 hPk
  obtain ⟨rt, k12'⟩ := starts_pure0 P x hx (by omega)
  have k12 := pure_res k12' (Wk.sl _ _)
  obtain ⟨hsl, hsb⟩ := startsS_bd P x
  have k13 := buildR_pure P (startsS P x) 0 (by omega) (by omega) (by omega) (by omega) hPk (by omega) (by omega) (fun s hs => by have := hsb s hs; omega)
  obtain ⟨l, hL⟩ : ∃ l, startsS P x = l := ⟨_, rfl⟩
  rw [hL] at k12 k13 hsl hsb
  have hev : ∀ e ∈ bldS P l 0, EvI P e ∧ EvOK e := by
    intro e he
    unfold bldS at he
    split at he
    · cases he
    · exact ⟨bldL_evI P _ _ e he, bldL_ok P hPk _ _ e he⟩
  have hbl : (bldS P l 0).length ≤ 1200 := by
    unfold bldS
    split
    · simp
    · have := gapOK_le (bldL_gap P l l 0 (fun _ h => h) (by omega)).1
      omega
  obtain ⟨b, hB⟩ : ∃ b, bldS P l 0 = b := ⟨_, rfl⟩
  rw [hB] at k13 hev hbl
  refine pureE code6 (orc66 P l b) (by simp) ?_
  simp only [plRow] at k10 k12 k13
  simp [sc6, plRow, orc66]
  refine ⟨k9, k10, k12, k13, ?_⟩
  clear k9 k10 k12 k12' k13
  refine vc_loopE w6_0 (Inv66 P b) (fun f _ => b.length - (numOf (f 7)).toNat) ?_ ?_
  · exact ⟨0, [], by simp, Nat.zero_le _, by simp [plRow]⟩
  · rintro f mm ⟨i, bx, h7, hi, rfl⟩
    rcases Nat.lt_or_ge i b.length with hlt | hge
    · obtain ⟨ev, he⟩ : ∃ e, b[i]? = some e := ⟨_, List.getElem?_eq_getElem hlt⟩
      obtain ⟨hI, hO⟩ := hev ev (List.mem_of_getElem? he)
      have hrow : rowN (b.map ev2RowR) i = ev2RowR ev := rowN_eq (by simp [he])
      have hilt : (i : Int) < (b.length : Int) := by omega
      have hw : IntKind.i64.wrap ((i : Int) + 1) = ((i + 1 : Nat) : Int) := by rw [wrap_in] <;> omega
      have k19 := entry8_pure P ev.id (by omega)
      rcases hI with ⟨y, hy⟩ | ⟨e, hfe, hne, hE⟩
      · have q1 : ev.id = 0 := by rw [hy]; rfl
        have q2 : ev.it = P.fi := by rw [hy]; rfl
        have q3 : ev.al = [] := by rw [hy]; rfl
        simp only [plRow, q1] at k19
        cases hf0 : fndN 0 P.ens with
        | none =>
          rw [hf0] at k19
          simp [h7, w6_0, hlt, hilt, hrow, plRow, ev2RowR, q1, q2, q3, orc66, hf0, enAV, hw]
          refine vc_drawM ?_
          simp [h7, w6_0, hlt, hilt, hrow, plRow, ev2RowR, q1, q2, q3, orc66, hf0, enAV, hw]
          refine ⟨k19, ag ?_, ⟨i + 1, _, by simp, by omega, by simp [plRow]; rfl⟩, by omega⟩
          repeat (first | exact agree_refl _ _ | refine agree_cons _ rfl ?_)
        | some e =>
          rw [hf0] at k19
          simp [h7, w6_0, hlt, hilt, hrow, plRow, ev2RowR, q1, q2, q3, orc66, hf0, enAV, enRow, hw]
          refine vc_drawM ?_
          simp [h7, w6_0, hlt, hilt, hrow, plRow, ev2RowR, q1, q2, q3, orc66, hf0, enAV, enRow, hw]
          refine ⟨k19, ag ?_, ⟨i + 1, _, by simp, by omega, by simp [plRow]; rfl⟩, by omega⟩
          repeat (first | exact agree_refl _ _ | refine agree_cons _ rfl ?_)
      · have q2 : ev.it = e.it := by rw [hE]; rfl
        have q3 : ev.fr = e.fr := by rw [hE]; rfl
        have q4 : ev.i = 0 := by rw [hE]; rfl
        have q5 : ev.re = evM P e ev.st := by rw [hE]; rfl
        have q6 : ev.al = e.al.filter (altB P e ev.st) := by rw [hE]; rfl
        have q7 := hO.2.1
        have q8 : e.al.length ≤ 8796093022208 := hPk e (fndN_mem hfe).1
        simp only [plRow] at k19
        rw [hfe] at k19
        simp [h7, w6_0, hlt, hilt, hrow, plRow, ev2RowR, hne, q2, q3, q4, orc66, hfe, enAV, enRow, hw]
        refine vc_drawM ?_
        simp [h7, w6_0, hlt, hilt, hrow, plRow, ev2RowR, hne, q2, q3, q4, orc66, hfe, enAV, enRow, hw]
        refine ⟨k19, ?_⟩
        refine vc_loopE w6_1 (Inv66b P e bx) (fun f _ => 8 - (numOf (f 10)).toNat) ?_ ?_
        · exact ⟨0, by simp, by omega, by simp [plRow, enRow]⟩
        · rintro f mm ⟨r, h10, hr, rfl⟩
          by_cases hrl : (r : Int) < P.rg ∧ r < 8
          · obtain ⟨hrg, hr8⟩ := hrl
            have hr8' : (r : Int) < 8 := by omega
            have hwr : IntKind.i64.wrap ((r : Int) + 1) = ((r + 1 : Nat) : Int) := by rw [wrap_in] <;> omega
            have k20 := allowed7_pure P e.it r ev.st e.fr (by omega) (by omega) (by omega)
            simp only [plRow] at k20
            have hbf := bit_form' q7 hr8
            have hal : bitI ev.re r = allowB P e.it r ev.st e.fr := by
              rw [q5, evM, mskS_bit, decide_eq_true (by omega), Bool.true_and]
            have hb1 : ((if allowB P e.it r ev.st e.fr = true then (1 : Int) else 0) == 1) = allowB P e.it r ev.st e.fr := by cases allowB P e.it r ev.st e.fr <;> rfl
            simp [h10, w6_1, hrg, hr8', hrow, plRow, ev2RowR, enRow, orc66, hwr, q2, q3, hbf, hal, hlt, hb1]
            refine ⟨k20, ag ?_, ⟨r + 1, by simp, by omega, by simp [plRow, enRow]⟩, by omega⟩
            repeat (first | exact agree_refl _ _ | refine agree_cons _ rfl ?_)
          · have hx : ¬ (r : Int) < P.rg ∨ (r : Int) < P.rg ∧ r = 8 := by
              by_cases h : (r : Int) < P.rg
              · exact .inr ⟨h, by omega⟩
              · exact .inl h
            rcases hx with hx | ⟨hx, rfl⟩
            all_goals
              simp [h10, w6_1, hx, plRow, enRow]
              refine vc_loopE w6_2 (Inv66c P e ev.st bx) (fun f _ => e.al.length - (numOf (f 12)).toNat) ?_ ?_
              · exact ⟨0, [], by simp, by omega, by simp, by simp [plRow, enRow]⟩
              · rintro f mm ⟨k, bx2, h12, hk, h11, rfl⟩
                rcases Nat.lt_or_ge k e.al.length with hkl | hkg
                · obtain ⟨x, hxk⟩ : ∃ x, e.al[k]? = some x := ⟨_, List.getElem?_eq_getElem hkl⟩
                  have hxrow : rowN (e.al.map spRow) k = spRow x := rowN_eq (by simp [hxk])
                  have hkl' : (k : Int) < (e.al.length : Int) := by omega
                  have hwk : IntKind.i64.wrap ((k : Int) + 1) = ((k + 1 : Nat) : Int) := by rw [wrap_in] <;> omega
                  have hcl : ((e.al.take k).filter (altB P e ev.st)).length ≤ k := Nat.le_trans (List.length_filter_le _ _) (by simp; omega)
                  obtain ⟨n, hn⟩ : ∃ n, ((e.al.take k).filter (altB P e ev.st)).length = n := ⟨_, rfl⟩
                  have htk : (e.al.take (k + 1)).filter (altB P e ev.st) = (e.al.take k).filter (altB P e ev.st) ++ if altB P e ev.st x then [x] else [] := by
                    rw [List.take_add_one, hxk, List.filter_append]; cases hq : altB P e ev.st x <;> simp [hq]
                  have k20 := allowed7_pure P x.2 x.1 ev.st e.fr (by omega) (by omega) (by omega)
                  rw [hn] at h11 hcl
                  simp only [plRow] at k20
                  cases hq : altB P e ev.st x with
                  | true =>
                    have hfl := filter_at hxk hq
                    rw [hn] at hfl
                    have hnl : n < ev.al.length := by rw [q6]; exact (List.getElem?_eq_some_iff.1 hfl).1
                    have hnl' : ¬ (ev.al.length : Int) ≤ (n : Int) := by omega
                    have hnrow : rowN (ev.al.map spRow) n = spRow x := rowN_eq (by rw [q6]; simp [hfl])
                    have hwn : IntKind.i64.wrap ((n : Int) + 1) = ((n + 1 : Nat) : Int) := by rw [wrap_in] <;> omega
                    have hq' := hq
                    simp only [altB, Bool.and_eq_true, decide_eq_true_eq] at hq'
                    obtain ⟨⟨c1, c2⟩, c3⟩ := hq'
                    rw [c3] at k20
                    simp [h12, h11, w6_2, hkl, hkl', hxrow, spRow, c1, c2, c3, hrow, hlt, plRow, ev2RowR, enRow, orc66, hwk, hwn, q2, q3, hnl, hnl', hnrow]
                    refine ⟨k20, ag ?_, ⟨k + 1, _, by simp, by omega, by rw [htk, hq]; simp [hn], by simp [plRow, enRow]; rfl⟩, by omega⟩
                    repeat (first | exact agree_refl _ _ | refine agree_cons _ rfl ?_)
                  | false =>
                    by_cases c1 : 1 ≤ x.1
                    · by_cases c2 : x.1 < P.rg
                      · have c3 : allowB P x.2 x.1 ev.st e.fr = false := by
                          simpa [altB, c1, c2] using hq
                        rw [c3] at k20
                        simp [h12, h11, w6_2, hkl, hkl', hxrow, spRow, c1, c2, c3, hrow, hlt, plRow, ev2RowR, enRow, orc66, hwk, q2, q3]
                        refine ⟨k20, ag ?_, ⟨k + 1, _, by simp, by omega, by rw [htk, hq]; simp [hn], by simp [plRow, enRow]; rfl⟩, by omega⟩
                        repeat (first | exact agree_refl _ _ | refine agree_cons _ rfl ?_)
                      · simp [h12, h11, w6_2, hkl, hkl', hxrow, spRow, c1, c2, hrow, hlt, plRow, ev2RowR, enRow, orc66, hwk, q2, q3]
                        refine ⟨ag ?_, ⟨k + 1, _, by simp, by omega, by rw [htk, hq]; simp [hn], by simp [plRow, enRow]; rfl⟩, by omega⟩
                        repeat (first | exact agree_refl _ _ | refine agree_cons _ rfl ?_)
                    · simp [h12, h11, w6_2, hkl, hkl', hxrow, spRow, c1, hrow, hlt, plRow, ev2RowR, enRow, orc66, hwk, q2, q3]
                      refine ⟨ag ?_, ⟨k + 1, _, by simp, by omega, by rw [htk, hq]; simp [hn], by simp [plRow, enRow]; rfl⟩, by omega⟩
                      repeat (first | exact agree_refl _ _ | refine agree_cons _ rfl ?_)
                · obtain rfl : k = e.al.length := by omega
                  have hee : ((e.al.filter (altB P e ev.st)).length : Int) = (ev.al.length : Int) := by rw [q6]
                  simp [h7, h12, h11, w6_2, hrow, hlt, plRow, ev2RowR, enRow, hee, hw]
                  refine ⟨ag ?_, ⟨i + 1, _, by simp, by omega, by simp [plRow]; rfl⟩, by omega⟩
                  repeat (first | exact agree_refl _ _ | refine agree_cons _ rfl ?_)
    · obtain rfl : i = b.length := by omega
      simp [h7, w6_0, rs6]
end Go.Proofs.YtdebhhpklhbihaaGreatDoor
