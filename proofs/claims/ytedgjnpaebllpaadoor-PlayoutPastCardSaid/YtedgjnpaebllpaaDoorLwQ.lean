/-
  OWN WORK. The law's Events, made in the caller's memory, so that its starts may be changed.
-/
import Derived.Test.YtedgjnpaebllpaaDoorLwM
import Derived.Test.YtedgjnpaebllpaaDoorMF
set_option linter.unusedVariables false
set_option linter.unusedSimpArgs false
namespace Go.Proofs.YtedgjnpaebllpaaDoor
open Go Go.Abs

section
variable {B : List (List AV)} {i j : Nat}
theorem rs_ne (v : List AV) (h : i ≠ j) : rowN (B.set i v) j = rowN B j := by simp [rowN, List.getD_eq_getElem?_getD, -getD_rowN, List.getElem?_set_ne h]
theorem rs_eq (v : List AV) (h : i < B.length) : rowN (B.set i v) i = v := by simp [rowN, List.getD_eq_getElem?_getD, -getD_rowN, List.getElem?_set_self h]
theorem ra_lt (C : List (List AV)) (h : j < B.length) : rowN (B ++ C) j = rowN B j := by simp [rowN, List.getD_eq_getElem?_getD, -getD_rowN, List.getElem?_append_left h]
theorem ra_eq (c : List AV) (h : j = B.length) : rowN (B ++ [c]) j = c := by subst h; simp [rowN, List.getD_eq_getElem?_getD, -getD_rowN]
end

/-- The cells of events. -/
def fe (s : List Evt) : List AV := (s.map evtRowF).flatten
theorem fe_cons (e : Evt) (s : List Evt) : fe (e :: s) = evtRowF e ++ fe s := by simp [fe]
theorem fe_len : ∀ (s : List Evt), (fe s).length = s.length * 7
  | [] => rfl
  | e :: s => by rw [fe_cons, List.length_append, fe_len s, List.length_cons, show (evtRowF e).length = 7 from rfl]; omega
theorem fe_snoc (s : List Evt) (e : Evt) : fe (s ++ [e]) = fe s ++ evtRowF e := by simp [fe]
theorem fe_drop : ∀ (s : List Evt) (k : Nat) (p : Evt), s[k]? = some p → (fe s).drop (k * 7) = evtRowF p ++ fe (s.drop (k + 1))
  | [], k, p, h => by simp at h
  | e :: s, 0, p, h => by simp at h; subst h; rw [fe_cons]; rfl
  | e :: s, k + 1, p, h => by
    rw [fe_cons, show (k + 1) * 7 = 7 + k * 7 by omega, ← List.drop_drop, show List.drop 7 (evtRowF e ++ fe s) = fe s from rfl, fe_drop s k p (by simpa using h)]; rfl
theorem fe_drop' (s : List Evt) (k c : Nat) (p : Evt) (h : s[k]? = some p) : (fe s).drop (k * 7 + c) = (evtRowF p ++ fe (s.drop (k + 1))).drop c := by
  rw [← List.drop_drop, fe_drop s k p h]

def orcQ : Nat → FuncId → List AV → AV := fun d g l => if g = 999999 then (if d = 98 then .mobj [] else .junk) else orcP d g l

/-- Events in a box. -/
def EV (b0 : Nat) (B : List (List AV)) (s : List Evt) (v : AV) : Prop := (s = [] ∧ v = .sl .nil []) ∨ ∃ id, v = .bs id 0 s.length 7 ∧ b0 ≤ id ∧ id < B.length ∧ rowN B id = fe s ∧ s ≠ []

set_option maxRecDepth 100000 in
set_option maxHeartbeats 4000000 in
theorem events_eff (Y : YT) (X : List Q4) (hX : ∀ x ∈ X, Q4OK x) (hl : X.length ≤ 9223372036854775807) (B0 : List (List AV)) (L0 : List Nat) (s0 : Nat → LS) (n0 : Nat) (K : AV → AM → Prop)
    (hK : ∀ B v, B0.length ≤ B.length → (∀ j, j < B0.length → rowN B j = rowN B0 j) → EV B0.length B (events X) v → K v ⟨B, L0, s0, n0⟩) : EffY Tryd.prog gl0 Y 22 [.sl .ro (X.map q4Row)] ⟨B0, L0, s0, n0⟩ K := by
  refine effE code22 orcQ (by simp) ?_
  simp [sc22, rs22]
  refine vc_loopE [3, 4, 5, 6, 7, 8, 9, 10, 11, 12, 13, 14, 15, 16, 17, 18, 19, 20, 21, 22, 23, 24, 25, 26, 27, 28, 29, 30, 31, 32, 33, 34, 35, 36, 37, 38, 39, 40, 41, 42, 43, 44, 45, 46, 47, 48, 49, 50, 51, 52, 53, 54, 55, 56, 57, 58, 59, 60, 61, 62, 63, 64, 65, 66, 67, 68, 69, 70, 71, 72, 73, 74, 75, 76, 77, 78, 79, 80, 81, 82, 83, 84, 85, 86, 87, 88, 89, 90, 91, 92, 93, 94, 95, 96, 97, 98, 99, 100, 101, 102]
    (fun f m => ∃ (s : List Evt) (B : List (List AV)), s.length ≤ X.length ∧ s.length ≤ 14 ∧ evs ((X.take 14).drop s.length) s = events X ∧ EOK s ∧ f 5 = I s.length ∧ f 4 = I (atS s) ∧ m = ⟨B, L0, s0, n0⟩ ∧ B0.length ≤ B.length ∧ (∀ j, j < B0.length → rowN B j = rowN B0 j) ∧ EV B0.length B s (f 3))
    (fun f m => 14 - (numOf (f 5)).toNat) ?_ ?_
  · exact ⟨[], B0, by simp, by simp, rfl, fun e he => by simp at he, by simp, by simp [atS], rfl, Nat.le_refl _, fun _ _ => rfl, .inl ⟨rfl, by simp⟩⟩
  · rintro f m ⟨s, B, hiX, hi14, hev, hok, h5, h4, rfl, hbl, hbo, hV⟩
    obtain ⟨i, hsl⟩ : ∃ i, s.length = i := ⟨_, rfl⟩
    rw [hsl] at hiX hi14 hev h5
    by_cases hend : i = X.length ∨ i = 14
    · have hev' : events X = s := by
        rw [List.drop_eq_nil_of_le (by simp; omega)] at hev
        exact hev.symm
      rw [← hev'] at hV
      obtain ⟨v, hv⟩ : ∃ v, f 3 = v := ⟨_, rfl⟩
      rw [hv] at hV
      have hfin := hK B v hbl hbo hV
      by_cases h1 : i < X.length
      · have h14 : i = 14 := by omega
        subst h14
        simp (config := { maxSteps := 1000000 }) [h5, h1, hv]
        exact hfin
      · simp (config := { maxSteps := 1000000 }) [h5, h1, hv]
        exact hfin
    · have h1 : i < X.length := by omega
      have h2 : i < 14 := by omega
      obtain ⟨x, hx⟩ : ∃ x, X[i]? = some x := ⟨_, List.getElem?_eq_getElem h1⟩
      have hrow : rowN (X.map q4Row) i = q4Row x := rowN_eq (by simp [hx])
      obtain ⟨⟨o1, o2⟩, ⟨o3, o4⟩, ⟨o5, o6⟩, ⟨o7, o8⟩⟩ := hX x (List.mem_of_getElem? hx)
      have p1 := pick_pure x.a 5 o1 o2 (by omega)
      have p2 := pick_pure x.a 4 o1 o2 (by omega)
      have p3 := pick_pure x.b 30 o3 o4 (by omega)
      have p4 := pick_pure x.c 100 o5 o6 (by omega)
      have p5 := pick_pure x.d 3 o7 o8 (by omega)
      have p6 := pick_pure x.d 4 o7 o8 (by omega)
      have b2 := pickI_bd' x.a 4 (by omega)
      have b3 := pickI_bd' x.b 30 (by omega)
      have b4 := pickI_bd' x.c 100 (by omega)
      have hat := atS_bd s (fun e he => (hok e he).2.1)
      rw [hsl] at hat
      have w2 : IntKind.i64.wrap (7 + pickI x.a 4) = 7 + pickI x.a 4 := by rw [wrap_in] <;> omega
      have w4 : IntKind.i64.wrap (2 * pickI x.c 100) = 2 * pickI x.c 100 := by rw [wrap_in] <;> omega
      have w4' : IntKind.i64.wrap (1 + 2 * pickI x.c 100) = 1 + 2 * pickI x.c 100 := by rw [wrap_in] <;> omega
      have w5 : IntKind.i64.wrap (atS s + pickI x.b 30) = atS s + pickI x.b 30 := by rw [wrap_in] <;> omega
      have hdr : (X.take 14).drop i = x :: (X.take 14).drop (i + 1) := drop_cons (by rw [List.getElem?_take_of_lt h2]; exact hx)
      rw [hdr, evs] at hev
      have hok' := newE_ok s x hok
      have hsl' : (s ++ [newE s x]).length = i + 1 := by simp [hsl]
      have hne' : s ++ [newE s x] ≠ [] := by simp
      have hat' : atS (s ++ [newE s x]) = atS s + pickI x.b 30 := by rw [atS_snoc, newE_fr]
      have hfe := fe_snoc s (newE s x)
      -- what is left to show
      have fin : ∀ (B' : List (List AV)) (v : AV), B0.length ≤ B'.length → (∀ j, j < B0.length → rowN B' j = rowN B0 j) → (∃ id, v = .bs id 0 (i + 1) 7 ∧ B0.length ≤ id ∧ id < B'.length ∧ rowN B' id = fe s ++ evtRowF (newE s x)) →
          ∃ (s' : List Evt), s'.length ≤ X.length ∧ s'.length ≤ 14 ∧ evs ((X.take 14).drop s'.length) s' = events X ∧ EOK s' ∧ ((i : Int) + 1 = s'.length) ∧ (atS s + pickI x.b 30 = atS s') ∧ B0.length ≤ B'.length ∧ (∀ j, j < B0.length → rowN B' j = rowN B0 j) ∧ EV B0.length B' s' v :=
        fun B' v g1 g2 ⟨id, g3, g4, g5, g6⟩ => ⟨s ++ [newE s x], by rw [hsl']; omega, by rw [hsl']; omega, by rw [hsl']; exact hev, hok', by rw [hsl']; omega, hat'.symm, g1, g2, .inr ⟨id, by rw [hsl']; exact g3, g4, g5, by rw [hfe]; exact g6, hne'⟩⟩
      rcases hV with ⟨rfl, h3⟩ | ⟨id, h3, j1, j2, j3, j4⟩
      · obtain rfl : i = 0 := by simpa using hsl.symm
        have hnew : newE [] x = baseE [] x := rfl
        have w11 : IntKind.i64.wrap 1 = 1 := by rw [wrap_in] <;> omega
        by_cases hd : pickI x.d 4 = 1
        · rw [hd] at p6
          have hr : evtRowF (newE [] x) = [I (pickI x.a 5), I (7 + pickI x.a 4), I (atS []), I (pickI x.b 30), I 0, I (1 + 2 * pickI x.c 100), .sl .full [[I 1, I 8]]] := by simp [hnew, baseE, evtRowF, alF, hd]
          obtain ⟨s', q1, q2, q3, q4, q5, q6, q7, q8, q9⟩ := fin (B ++ [evtRowF (newE [] x), evtRowF (newE [] x)]) (.bs (B.length + 1) 0 1 7) (by simp; omega) (fun j hj => by rw [ra_lt _ (by omega)]; exact hbo j hj) ⟨B.length + 1, rfl, by omega, by simp, by simp [fe]⟩
          rw [hr] at q8 q9
          simp (config := { maxSteps := 1000000 }) [h5, h4, h3, h1, hrow, q4Row, orcQ, orcP, w2, w4, w4', w5, w11, hd]
          refine ⟨p1, p2, p3, p4, p6, ag ?_, ⟨s', q1, q2, q3, q4, by simpa using q5, q6, by omega, q8, q9⟩⟩
          repeat (first | exact agree_refl _ _ | refine agree_cons _ rfl ?_)
        · have hr : evtRowF (newE [] x) = [I (pickI x.a 5), I (7 + pickI x.a 4), I (atS []), I (pickI x.b 30), I 0, I (1 + 2 * pickI x.c 100), .sl .nil []] := by simp [hnew, baseE, evtRowF, alF, hd]
          obtain ⟨s', q1, q2, q3, q4, q5, q6, q7, q8, q9⟩ := fin (B ++ [evtRowF (newE [] x), evtRowF (newE [] x)]) (.bs (B.length + 1) 0 1 7) (by simp; omega) (fun j hj => by rw [ra_lt _ (by omega)]; exact hbo j hj) ⟨B.length + 1, rfl, by omega, by simp, by simp [fe]⟩
          rw [hr] at q8 q9
          simp (config := { maxSteps := 1000000 }) [h5, h4, h3, h1, hrow, q4Row, orcQ, orcP, w2, w4, w4', w5, w11, hd]
          refine ⟨p1, p2, p3, p4, p6, ag ?_, ⟨s', q1, q2, q3, q4, by simpa using q5, q6, by omega, q8, q9⟩⟩
          repeat (first | exact agree_refl _ _ | refine agree_cons _ rfl ?_)
      · obtain ⟨k, rfl⟩ : ∃ k, i = k + 1 := ⟨i - 1, by have : s.length ≠ 0 := fun h => j4 (List.length_eq_zero_iff.1 h); omega⟩
        have hkl : k < s.length := by omega
        obtain ⟨p, hp⟩ : ∃ p, s[k]? = some p := ⟨_, List.getElem?_eq_getElem hkl⟩
        have hlast : s.getLast? = some p := by rw [List.getLast?_eq_getElem?, hsl]; exact hp
        have d0 := fe_drop s k p hp
        have d1 := fe_drop' s k 1 p hp
        have d3 := fe_drop' s k 3 p hp
        have d4 := fe_drop' s k 4 p hp
        have hpb := hok p (List.mem_of_getElem? hp)
        rw [hsl] at hpb h3
        have wk : IntKind.i64.wrap (k : Int) = (k : Int) := by rw [wrap_in] <;> omega
        have wp : IntKind.i64.wrap (p.i + p.fr) = p.i + p.fr := by rw [wrap_in] <;> omega
        have w12 : IntKind.i64.wrap ((k : Int) + 1 + 1) = (k : Int) + 1 + 1 := by rw [wrap_in] <;> omega
        have hk14 : (k : Int) + 1 < 14 := by omega
        have hk1 : (k : Int) + 1 < X.length := by omega
        have hpos : (0 : Int) < (k : Int) + 1 := by omega
        have hk0 : (0 : Int) ≤ (k : Int) + 1 := by omega
        have hkk : (k : Int) < (k : Int) + 1 := by omega
        have hfl : (fe s).length = (k + 1) * 7 := by rw [fe_len, hsl]
        simp only [evtRowF, List.cons_append, List.nil_append, List.drop_succ_cons, List.drop_zero] at d0 d1 d3 d4
        have hbox : ∀ (r c : List AV), rowN ((B ++ [r]).set id [] ++ [c]) B.length = r := fun r c => by rw [ra_lt _ (by simp), rs_ne _ (by omega), ra_eq _ rfl]
        have hfne : ¬ fe s = [] := fun h => by rw [h] at hfl; simp at hfl
        have htk : List.take ((k + 1) * 7) (fe s) = fe s := List.take_of_length_le (by omega)
        have hid1 : id < B.length + 1 := by omega
        have fin' := fin ((B ++ [evtRowF (newE s x)]).set id [] ++ [fe s ++ evtRowF (newE s x)]) (.bs (B.length + 1) 0 (k + 1 + 1) 7) (by simp; omega) (fun j hj => by rw [ra_lt _ (by simp; omega), rs_ne _ (by omega), ra_lt _ (by omega)]; exact hbo j hj) ⟨B.length + 1, rfl, by omega, by simp, by rw [ra_eq _ (by simp)]⟩
        by_cases hd3 : pickI x.d 3 = 0
        · have hnew : newE s x = { baseE s x with id := p.id, it := p.it, i := p.i + p.fr } := by simp [newE, hlast, hd3]
          rw [hd3] at p5
          by_cases hd : pickI x.d 4 = 1
          · rw [hd] at p6
            have hr : evtRowF (newE s x) = [I p.id, I p.it, I (atS s), I (pickI x.b 30), I (p.i + p.fr), I (1 + 2 * pickI x.c 100), .sl .full [[I 1, I 8]]] := by simp [hnew, baseE, evtRowF, alF, hd]
            rw [hr] at fin'
            obtain ⟨s', q1, q2, q3, q4, q5, q6, q7, q8, q9⟩ := fin'
            simp (config := { maxSteps := 1000000 }) [h5, h4, h3, h1, hk1, h2, hk14, hpos, hk0, hkk, hrow, hkl, q4Row, orcQ, orcP, w2, w4, w4', w5, wk, wp, w12, hd, hd3, j3, ra_lt _ j2, d0, d1, d3, d4, hbox, hfne, htk, hid1, hfl]
            refine ⟨p1, p2, p3, p4, p5, p6, by omega, ag ?_, ⟨s', q1, q2, q3, q4, by simpa using q5, q6, by omega, q8, q9⟩, by omega⟩
            repeat (first | exact agree_refl _ _ | refine agree_cons _ rfl ?_)
          · have hr : evtRowF (newE s x) = [I p.id, I p.it, I (atS s), I (pickI x.b 30), I (p.i + p.fr), I (1 + 2 * pickI x.c 100), .sl .nil []] := by simp [hnew, baseE, evtRowF, alF, hd]
            rw [hr] at fin'
            obtain ⟨s', q1, q2, q3, q4, q5, q6, q7, q8, q9⟩ := fin'
            simp (config := { maxSteps := 1000000 }) [h5, h4, h3, h1, hk1, h2, hk14, hpos, hk0, hkk, hrow, hkl, q4Row, orcQ, orcP, w2, w4, w4', w5, wk, wp, w12, hd, hd3, j3, ra_lt _ j2, d0, d1, d3, d4, hbox, hfne, htk, hid1, hfl]
            refine ⟨p1, p2, p3, p4, p5, p6, by omega, ag ?_, ⟨s', q1, q2, q3, q4, by simpa using q5, q6, by omega, q8, q9⟩, by omega⟩
            repeat (first | exact agree_refl _ _ | refine agree_cons _ rfl ?_)
        · have hnew : newE s x = baseE s x := by simp [newE, hlast, hd3]
          by_cases hd : pickI x.d 4 = 1
          · rw [hd] at p6
            have hr : evtRowF (newE s x) = [I (pickI x.a 5), I (7 + pickI x.a 4), I (atS s), I (pickI x.b 30), I 0, I (1 + 2 * pickI x.c 100), .sl .full [[I 1, I 8]]] := by simp [hnew, baseE, evtRowF, alF, hd]
            rw [hr] at fin'
            obtain ⟨s', q1, q2, q3, q4, q5, q6, q7, q8, q9⟩ := fin'
            simp (config := { maxSteps := 1000000 }) [h5, h4, h3, h1, hk1, h2, hk14, hpos, hk0, hkk, hrow, hkl, q4Row, orcQ, orcP, w2, w4, w4', w5, wk, wp, w12, hd, hd3, j3, ra_lt _ j2, d0, d1, d3, d4, hbox, hfne, htk, hid1, hfl]
            refine ⟨p1, p2, p3, p4, p5, p6, by omega, ag ?_, ⟨s', q1, q2, q3, q4, by simpa using q5, q6, by omega, q8, q9⟩, by omega⟩
            repeat (first | exact agree_refl _ _ | refine agree_cons _ rfl ?_)
          · have hr : evtRowF (newE s x) = [I (pickI x.a 5), I (7 + pickI x.a 4), I (atS s), I (pickI x.b 30), I 0, I (1 + 2 * pickI x.c 100), .sl .nil []] := by simp [hnew, baseE, evtRowF, alF, hd]
            rw [hr] at fin'
            obtain ⟨s', q1, q2, q3, q4, q5, q6, q7, q8, q9⟩ := fin'
            simp (config := { maxSteps := 1000000 }) [h5, h4, h3, h1, hk1, h2, hk14, hpos, hk0, hkk, hrow, hkl, q4Row, orcQ, orcP, w2, w4, w4', w5, wk, wp, w12, hd, hd3, j3, ra_lt _ j2, d0, d1, d3, d4, hbox, hfne, htk, hid1, hfl]
            refine ⟨p1, p2, p3, p4, p5, p6, by omega, ag ?_, ⟨s', q1, q2, q3, q4, by simpa using q5, q6, by omega, q8, q9⟩, by omega⟩
            repeat (first | exact agree_refl _ _ | refine agree_cons _ rfl ?_)
end Go.Proofs.YtedgjnpaebllpaaDoor
