/-
  OWN WORK. Plain law: what rundown.Build returns is gapless, and its entries are starts.
-/
import Derived.Test.YtdebhhpklhbihaaGreatDoorG4MN
import Derived.Test.YtdebhhpklhbihaaGreatDoorG4RwS
set_option linter.unusedVariables false
set_option linter.unusedSimpArgs false
namespace Go.Proofs.YtdebhhpklhbihaaGreatDoor
open Go Go.Abs

/-- One event follows the other, up to the end; each is a fill or a start. -/
def gapOK (l0 : List Sp) (ln : Int) : Int → List Ev2 → Prop
  | pos, [] => pos = ln
  | pos, e :: r => e.st = pos ∧ 1 ≤ e.fr ∧ (e.id = 0 ∨ (e.id, e.st) ∈ l0) ∧ gapOK l0 ln (pos + e.fr) r
theorem gapOK_le {l0 : List Sp} {ln : Int} : ∀ {b : List Ev2} {pos : Int}, gapOK l0 ln pos b → pos + b.length ≤ ln
  | [], pos, h => by simp only [gapOK] at h; simp; omega
  | e :: r, pos, h => by
    obtain ⟨_, h2, _, h4⟩ := h
    have := gapOK_le h4
    simp only [List.length_cons]; omega
theorem gap_fill {l0 : List Sp} {ln : Int} (p : Pl) (fr t : Int) (rest : List Ev2) : ∀ (n : Nat) (a : Int), (t - a).toNat ≤ n → a ≤ t → gapOK l0 ln t rest → gapOK l0 ln a ((fillL fr t a).map (fillE p) ++ rest) := by
  intro n
  induction n with
  | zero => intro a h h1 h2; obtain rfl : a = t := by omega
            rw [fillL, if_neg (by omega)]; exact h2
  | succ n ih =>
    intro a h h1 h2
    rw [fillL]
    split
    · rename_i hlt
      have hN : 1 ≤ fillN fr t a ∧ fillN fr t a ≤ t - a := by unfold fillN; split <;> omega
      exact ⟨rfl, hN.1, .inl rfl, ih (a + fillN fr t a) (by omega) (by omega) h2⟩
    · obtain rfl : a = t := by omega
      exact h2
def cntE (b : List Ev2) : Nat := (b.filter fun e => decide (e.id ≠ 0)).length
theorem cntE_app (a b : List Ev2) : cntE (a ++ b) = cntE a + cntE b := by simp [cntE]
theorem cntE_fill (p : Pl) (xs : List (Int × Int)) : cntE (xs.map (fillE p)) = 0 := by
  induction xs with
  | nil => rfl
  | cons x xs ih => simp only [List.map_cons, cntE, List.filter_cons] at *; simpa [fillE] using ih
theorem cntE_cons (e : Ev2) (b : List Ev2) : cntE (e :: b) = (if e.id = 0 then 0 else 1) + cntE b := by
  simp only [cntE, List.filter_cons]
  by_cases h : e.id = 0
  · simp [h]
  · simp [h]; omega

theorem skipB_some {p : Pl} {s : Sp} {a : Int} {e : En} (h : skipB p s a = some e) : fndN s.1 p.ens = some e ∧ s.1 ≠ 0 ∧ 1 ≤ e.fr ∧ a ≤ s.2 ∧ s.2 + e.fr ≤ p.ln ∧ e.id = s.1 := by
  unfold skipB at h
  cases hf : fndN s.1 p.ens with
  | none => rw [hf] at h; cases h
  | some x =>
    rw [hf] at h
    simp only at h
    split at h
    · cases h
    · rename_i hn
      cases h
      simp only [not_or] at hn
      exact ⟨rfl, hn.1, by omega, by omega, by omega, (fndN_mem hf).2⟩

theorem bldL_gap (p : Pl) (l0 : List Sp) : ∀ (l : List Sp) (a : Int), (∀ s ∈ l, s ∈ l0) → a ≤ p.ln → gapOK l0 p.ln a (bldL p l a) ∧ cntE (bldL p l a) ≤ l.length
  | [], a, _, h => by
    rw [bldL]
    have := gap_fill (l0 := l0) p (filFr p) p.ln [] _ a (Nat.le_refl _) h rfl
    rw [List.append_nil] at this
    exact ⟨this, by rw [cntE_fill]; exact Nat.zero_le _⟩
  | s :: r, a, hm, h => by
    rw [bldL]
    cases hs : skipB p s a with
    | none =>
      obtain ⟨h1, h2⟩ := bldL_gap p l0 r a (fun t ht => hm t (by simp [ht])) h
      exact ⟨h1, by simp only [List.length_cons]; omega⟩
    | some e =>
      obtain ⟨h1, h2, h3, h4, h5, h6⟩ := skipB_some hs
      obtain ⟨i1, i2⟩ := bldL_gap p l0 r (s.2 + e.fr) (fun t ht => hm t (by simp [ht])) (by omega)
      simp only [List.append_assoc, List.singleton_append]
      refine ⟨gap_fill p _ _ _ _ a (Nat.le_refl _) h4 ⟨rfl, h3, .inr ?_, i1⟩, ?_⟩
      · have : (e.id, s.2) = s := by rw [h6]
        show (e.id, s.2) ∈ l0
        rw [this]; exact hm s (by simp)
      · rw [cntE_app, cntE_fill, cntE_cons]
        simp only [List.length_cons]
        split <;> omega

theorem gapOK_drop {l0 : List Sp} {ln : Int} {b : List Ev2} {pos : Int} {i : Nat} {e : Ev2} (h : gapOK l0 ln pos (b.drop i)) (he : b[i]? = some e) : e.st = pos ∧ 1 ≤ e.fr ∧ (e.id = 0 ∨ (e.id, e.st) ∈ l0) ∧ gapOK l0 ln (pos + e.fr) (b.drop (i + 1)) := by
  rw [drop_cons he] at h
  exact h

def orc3 (P : Pl) (x : List Sp) (a : Int) : Nat → FuncId → List AV → AV := fun d f l =>
  if f = 9 then .bool true else if f = 10 then .agg (plRow P) else if f = 11 then I a else if f = 12 then .sl .ro ((startsS P x).map spRow) else if f = 13 then .sl .ro ((bldS P (startsS P x) a).map ev2RowR) else .junk
def Inv3 (p P : Pl) (l : List Sp) (b : List Ev2) (f : Nat → AV) (mm : AM) : Prop := ∃ (i : Nat) (pos : Int), f 14 = I i ∧ f 12 = I pos ∧ i ≤ b.length ∧ 0 ≤ pos ∧ f 13 = I (cntE (b.take i) : Nat) ∧ gapOK l P.ln pos (b.drop i) ∧ mm = ⟨[plRow p, plRow P], [], fun _ => .gone, 0⟩
def Inv3b (p P : Pl) (l : List Sp) (e : Ev2) (f : Nat → AV) (mm : AM) : Prop := ∃ (k : Nat), f 16 = I k ∧ k ≤ l.length ∧ f 15 = .bool (decide ((e.id, e.st) ∈ l.take k)) ∧ mm = ⟨[plRow p, plRow P], [], fun _ => .gone, 0⟩

def OKP (p : Pl) : Prop := ∀ e ∈ p.ens, e.al.length ≤ 8796093022208
theorem few_ok {p : Pl} (h : OKP p) : OKP (fewP p) := fun e he => h e (List.mem_of_mem_take he)

set_option maxRecDepth 100000 in
set_option maxHeartbeats 8000000 in
theorem law3 (p : Pl) (x : List Sp) (at_ : Int) (hp : OKP p) (hx : ∀ a ∈ x, is64 a.1 ∧ is64 a.2) (ha : is64 at_) : Pure Tryz.prog gl0 3 [.agg (plRow p), .sl .ro (x.map spRow), I at_] (.bool true) := by
  have k9 := sane_pure
  have k10 := few_pure p
  obtain ⟨P, hP⟩ : ∃ P, fewP p = P := ⟨_, rfl⟩
  have hPk := few_ok hp
  have hPl : P.ln ≤ 1200 := by rw [← hP]; simp only [fewP]; omega
  have hPe : P.ens.length ≤ 16 := by rw [← hP]; simp only [fewP, List.length_take]; omega
  have hPc : P.cls.length ≤ 20 := by rw [← hP]; simp only [fewP, List.length_take]; omega
  have hPs : P.sh.length ≤ 6 := by rw [← hP]; simp only [fewP, List.length_take]; omega
  have hPi : P.its.length ≤ 20 := by rw [← hP]; simp only [fewP, List.length_take]; omega
  rw [hP] at k10 hPk
  by_cases h1 : P.ln < 1
  · refine pureE code3 (orc3 P x 0) (by simp) ?_
    simp only [plRow] at k10
    simp [sc3, rs3, plRow, orc3, h1]
    exact ⟨k9, k10⟩
  · have k11 := pick_pure at_ P.ln ha.1 ha.2 (by omega)
    have hab := pickI_bd' at_ P.ln (by omega)
    obtain ⟨a, hA⟩ : ∃ a, pickI at_ P.ln = a := ⟨_, rfl⟩
    rw [hA] at k11 hab
    obtain ⟨rt, k12'⟩ := starts_pure0 P x hx (by omega)
    have k12 := pure_res k12' (Wk.sl _ _)
    obtain ⟨hsl, hsb⟩ := startsS_bd P x
    have k13 := buildR_pure P (startsS P x) a (by omega) (by omega) (by omega) (by omega) hPk (by omega) (by omega) (fun s hs => by have := hsb s hs; omega)
    obtain ⟨l, hL⟩ : ∃ l, startsS P x = l := ⟨_, rfl⟩
    have hbd : bldS P (startsS P x) a = bldL P (startsS P x) a := by rw [bldS, if_neg (by omega)]
    obtain ⟨g1, g2⟩ := bldL_gap P (startsS P x) (startsS P x) a (fun _ h => h) (by omega)
    rw [← hbd] at g1 g2
    refine pureE code3 (orc3 P x a) (by simp) ?_
    obtain ⟨b, hB⟩ : ∃ b, bldS P (startsS P x) a = b := ⟨_, rfl⟩
    rw [hB] at k13 g1 g2
    rw [hL] at k12 k13 hsl hsb g1 g2
    rw [hL] at hB
    have hbl := gapOK_le g1
    simp only [plRow] at k9 k10 k11 k12 k13
    simp [sc3, plRow, orc3, h1, hL, hB]
    refine ⟨k9, k10, k11, k12, k13, ?_⟩
    refine vc_loopE w3_0 (Inv3 p P l b) (fun f _ => b.length - (numOf (f 14)).toNat) ?_ ?_
    · exact ⟨0, a, by simp, by simp, Nat.zero_le _, hab.1, by simp [cntE], by simpa using g1, rfl⟩
    · rintro f mm ⟨i, pos, h14, h12, hi, hpos, h13, hg, rfl⟩
      rcases Nat.lt_or_ge i b.length with hlt | hge
      · obtain ⟨e, he⟩ : ∃ e, b[i]? = some e := ⟨_, List.getElem?_eq_getElem hlt⟩
        obtain ⟨e1, e2, e3, e4⟩ := gapOK_drop hg he
        have hgl := gapOK_le e4
        have hrow : rowN (b.map ev2RowR) i = ev2RowR e := rowN_eq (by simp [he])
        have hilt : (i : Int) < (b.length : Int) := by omega
        have hw : IntKind.i64.wrap ((i : Int) + 1) = ((i + 1 : Nat) : Int) := by rw [wrap_in] <;> omega
        have hw2 : IntKind.i64.wrap (pos + e.fr) = pos + e.fr := by rw [wrap_in] <;> omega
        have hn1 : ¬ e.fr < 1 := by omega
        have hct : cntE (b.take (i + 1)) = cntE (b.take i) + if e.id = 0 then 0 else 1 := by
          rw [List.take_add_one, he, cntE_app]
          simp only [Option.toList, cntE_cons]
          simp [cntE]
        have hcl : cntE (b.take i) ≤ b.length := Nat.le_trans (List.length_filter_le _ _) (by rw [List.length_take]; omega)
        by_cases hz : e.id = 0
        · rw [if_pos hz] at hct
          simp [h14, h12, h13, w3_0, hlt, hilt, hrow, ev2RowR, e1, hn1, hz, hw, hw2]
          refine ⟨ag ?_, ⟨i + 1, pos + e.fr, by simp, by simp, by omega, by omega, by simp [h13, hct], e4, rfl⟩, by omega⟩
          repeat (first | exact agree_refl _ _ | refine agree_cons _ rfl ?_)
        · rw [if_neg hz] at hct
          simp [h14, h12, h13, w3_0, hlt, hilt, hrow, ev2RowR, e1, hn1, hz, hw, hw2]
          have hw3 : IntKind.i64.wrap ((cntE (b.take i) : Int) + 1) = ((cntE (b.take i) + 1 : Nat) : Int) := by rw [wrap_in] <;> omega
          have hmem : (e.id, e.st) ∈ l := e3.resolve_left hz
          simp [hw3]
          refine vc_loopE w3_1 (Inv3b p P l e) (fun f _ => l.length - (numOf (f 16)).toNat) ?_ ?_
          · exact ⟨0, by simp, Nat.zero_le _, by simp, rfl⟩
          · rintro g mm ⟨k, g16, hk, g15, rfl⟩
            rcases Nat.lt_or_ge k l.length with klt | kge
            · obtain ⟨s, hs⟩ : ∃ s, l[k]? = some s := ⟨_, List.getElem?_eq_getElem klt⟩
              have hsrow := rowN_sp hs
              have kilt : (k : Int) < (l.length : Int) := by omega
              have hwk : IntKind.i64.wrap ((k : Int) + 1) = ((k + 1 : Nat) : Int) := by rw [wrap_in] <;> omega
              have htk : l.take (k + 1) = l.take k ++ [s] := by rw [List.take_add_one, hs]; rfl
              by_cases hm : (e.id, e.st) ∈ l.take k
              · rw [decide_eq_true hm] at g15
                simp [g16, g15, w3_1, klt, kilt, hwk]
                refine ⟨ag ?_, ⟨k + 1, by simp, by omega, by rw [decide_eq_true (show (e.id, e.st) ∈ l.take (k + 1) by rw [htk]; simp [hm])]; simp, rfl⟩, by omega⟩
                repeat (first | exact agree_refl _ _ | refine agree_cons _ rfl ?_)
              · rw [decide_eq_false hm] at g15
                simp [g16, g15, h14, w3_1, klt, kilt, hwk, hsrow, hrow, hlt, hilt, ev2RowR, e1]
                refine ⟨ag ?_, ⟨k + 1, by simp, by omega, ?_, rfl⟩, by omega⟩
                · repeat (first | exact agree_refl _ _ | refine agree_cons _ rfl ?_)
                · have : decide ((e.id, e.st) ∈ l.take (k + 1)) = (s.1 == e.id && s.2 == pos) := by
                    have hm' := hm
                    rw [e1] at hm'
                    rw [htk, Bool.eq_iff_iff]
                    simp only [decide_eq_true_eq, List.mem_append, e1, hm', false_or, List.mem_singleton, Bool.and_eq_true, beq_iff_eq]
                    constructor
                    · intro h; rw [← h]; exact ⟨rfl, rfl⟩
                    · rintro ⟨h1, h2⟩; rw [← h1, ← h2]
                  rw [this]; simp
            · obtain rfl : k = l.length := by omega
              have g15' : g 15 = .bool true := by rw [g15]; simp [hmem]
              simp [g16, g15', h14, w3_1, w3_0, hw]
              refine ⟨ag ?_, ⟨i + 1, pos + e.fr, by simp, by simp, by omega, by omega, by simp [h13, hct], e4, rfl⟩, by omega⟩
              repeat (first | exact agree_refl _ _ | refine agree_cons _ rfl ?_)
      · obtain rfl : i = b.length := by omega
        rw [List.drop_length] at hg
        have hpl : pos = P.ln := hg
        rw [List.take_length] at h13
        have hnl : ¬ b.length < b.length := by omega
        have hcl : (cntE b : Int) ≤ (l.length : Int) := by omega
        simp [h14, h12, h13, w3_0, rs3, hpl, plRow, hcl]
end Go.Proofs.YtdebhhpklhbihaaGreatDoor
