/-
  OWN WORK. Plain law: the rundown of a schedule of a valid plan is valid, and has an event for every entry, at its start.
-/
import Derived.Test.YtdebhhpklhbihaaGreatDoorG7RhC
import Derived.Test.YtdebhhpklhbihaaGreatDoorG7MT
set_option linter.unusedVariables false
set_option linter.unusedSimpArgs false
namespace Go.Proofs.YtdebhhpklhbihaaGreatDoor
open Go Go.Abs

theorem andN_self {x : Int} (h : 0 ≤ x ∧ x < 256) : andN x x = 0 := by
  have key : ∀ n : Nat, n < 256 → andN (n : Int) (n : Int) = 0 := by decide +kernel
  have := key x.toNat (by omega)
  rwa [Int.toNat_of_nonneg h.1] at this
theorem mskS_congr {b c : Nat → Bool} : ∀ (n : Nat), (∀ i, i < n → b i = c i) → mskS b n = mskS c n
  | 0, _ => rfl
  | n + 1, h => by rw [mskS, mskS, mskS_congr n (fun i hi => h i (by omega)), h n (by omega)]
theorem and1_msk {b : Nat → Bool} {n : Nat} (hn : 1 ≤ n ∧ n ≤ 8) (h0 : b 0 = true) : and1X (mskS b n) = 1 := by
  have hb := mskS_256 b n hn.2
  rw [and1X_eq _ hb]
  have h1 := mskS_bit b n 0
  rw [h0] at h1
  have h2 : decide (0 < n) = true := by simp; omega
  rw [h2] at h1
  simp only [bitI, Nat.testBit_zero, Bool.and_true, decide_eq_true_eq] at h1
  omega

structure VP (p : Pl) : Prop where
  rg : 1 ≤ p.rg ∧ p.rg ≤ 8
  ln : 1 ≤ p.ln ∧ p.ln ≤ 100000000
  fill : ∃ y, fndI p.fi p.its = some y ∧ y.ki = 5 ∧ 1 ≤ y.fr ∧ y.fr ≤ 100000000
  its : ∀ y ∈ p.its, itB y = true
  ens : ∀ e ∈ p.ens, 1 ≤ e.id ∧ fitsB p e = true ∧ altsB p e = true
theorem allE_mem {p : Pl} : ∀ {l : List En} {seen : List Int}, allE p seen l = true → ∀ e ∈ l, 1 ≤ e.id ∧ fitsB p e = true ∧ altsB p e = true
  | x :: r, seen, h, e, he => by
    rw [allE, Bool.and_eq_true] at h
    rcases List.mem_cons.1 he with rfl | he
    · have h1 := h.1
      simp only [entB, Bool.and_eq_true, wi, decide_eq_true_eq] at h1
      exact ⟨h1.1.1, h1.2.2.1, h1.2.2.2.1⟩
    · exact allE_mem h.2 e he
theorem pvB_VP {p : Pl} (h : pvB p = true) : VP p := by
  simp only [pvB, Bool.and_eq_true] at h
  obtain ⟨h1, h2, h3, h4, h5⟩ := h
  simp only [soundB8, Bool.and_eq_true, wi, decide_eq_true_eq] at h1
  simp only [itemsB, Bool.and_eq_true, decide_eq_true_eq] at h2
  simp only [entsB, Bool.and_eq_true, decide_eq_true_eq] at h4
  refine ⟨h1.2.2.2.2.1, h1.2.2.2.2.2, ?_, allI_mem h2.2.2.1, allE_mem h4.2⟩
  have hf := h2.2.2.2
  unfold fillB at hf
  cases hx : fndI p.fi p.its with
  | none => rw [hx] at hf; cases hf
  | some y =>
    rw [hx] at hf
    have hb := itB_bd (allI_mem h2.2.2.1 y (fndI_mem hx).1)
    exact ⟨y, rfl, by simpa using hf, by omega, by omega⟩

theorem fill_allow {p : Pl} (h : VP p) (r f n : Int) (hr : 0 ≤ r ∧ r < 8) (hn : 1 ≤ n ∧ n ≤ 1000000) (hf : 0 ≤ f ∧ f + n - 1 ≤ 100000000) : allowB p p.fi r f n = true := by
  obtain ⟨y, hy, hk, _⟩ := h.fill
  exact (allowB_iff _ _ _ _ _).2 ⟨⟨by omega, by omega, by omega, by omega⟩, fun x h1 h2 => ⟨y, hy, hr, by omega, .inl hk⟩⟩
theorem fill_sound {p : Pl} (h : VP p) (hl : p.ln ≤ 1000000) (x : Int × Int) (hx : 0 ≤ x.1 ∧ 1 ≤ x.2 ∧ x.2 ≤ filFr p ∧ x.1 + x.2 ≤ p.ln) : soundB p (fillE p x) = true := by
  obtain ⟨y, hy, hk, hy1, hy2⟩ := h.fill
  have hff : filFr p = y.fr := by simp only [filFr, hy]
  rw [hff] at hx
  have hre : (fillE p x).re = filM p := rfl
  have hm : alwM p (fillE p x) = filM p := by
    refine mskS_congr _ fun i hi => ?_
    exact fill_allow h i x.1 x.2 (by omega) (by omega) (by omega)
  have hrg := h.rg
  have h1 : and1X (filM p) = 1 := and1_msk (n := (min p.rg 8).toNat) (by omega) rfl
  have h2 : andN (filM p) (filM p) = 0 := andN_self (mskS_256 _ _ (by omega))
  have hw : IntKind.i64.wrap (y.fr - x.2) = y.fr - x.2 := by rw [wrap_in] <;> omega
  have hit : (fillE p x).it = p.fi := rfl
  have hfr : (fillE p x).fr = x.2 := rfl
  have hi0 : (fillE p x).i = 0 := rfl
  have hal : (fillE p x).al = [] := rfl
  rw [soundB, hit, hy]
  simp only
  rw [hm, hre, hfr, hi0, hal, hw, h1, h2, if_neg (by omega), if_neg (by omega)]
  simp [altOK]

theorem ascK_all {lo up : Int} {ks : List Int} (h : ascK lo up none ks = true) : ks.Pairwise (· < ·) ∧ ∀ k ∈ ks, lo ≤ k ∧ k ≤ up := by
  obtain ⟨h1, h2⟩ := ascK_spec h
  exact ⟨h1, fun k hk => ⟨(h2 k hk).1, (h2 k hk).2.1⟩⟩
theorem altOK_ok {p : Pl} {ev : Ev2} (hi : ev.i = 0) (hf : 0 ≤ ev.fr ∧ ev.fr ≤ 100000000) : ∀ {l : List Sp} {last : Int}, (l.map (·.1)).Pairwise (· < ·) → (∀ a ∈ l, last < a.1 ∧ a.1 < p.rg ∧ (∃ y, fndI a.2 p.its = some y ∧ y.fr = ev.fr) ∧ allowB p a.2 a.1 ev.st ev.fr = true) → altOK p ev last l = true
  | [], _, _, _ => rfl
  | a :: r, last, h1, h2 => by
    obtain ⟨a1, a2, ⟨y, hy, hyf⟩, a4⟩ := h2 a (by simp)
    simp only [List.map_cons, List.pairwise_cons] at h1
    have hw : IntKind.i64.wrap (0 + ev.fr) = ev.fr := by rw [wrap_in] <;> omega
    rw [altOK, hy]
    simp only
    rw [hi, hw, hyf, if_neg (by omega), a4]
    simp only [Bool.true_eq_false, if_false]
    refine altOK_ok hi hf h1.2 fun b hb => ?_
    obtain ⟨b1, b2, b3, b4⟩ := h2 b (by simp [hb])
    exact ⟨h1.1 b.1 (List.mem_map_of_mem (f := fun x : Sp => x.1) hb), b2, b3, b4⟩
theorem fitsB_spec {p : Pl} {e : En} (h : fitsB p e = true) : ∃ y, fndI e.it p.its = some y ∧ 1 ≤ e.fr ∧ e.fr ≤ y.fr := by
  unfold fitsB at h
  cases hf : fndI e.it p.its with
  | none => rw [hf] at h; cases h
  | some y =>
    rw [hf] at h
    simp only at h
    split at h
    · cases h
    · split at h
      · cases h
      · rename_i h2
        have h2 : wi e.fr 1 y.fr = true := by simpa using h2
        simp only [wi, decide_eq_true_eq] at h2
        exact ⟨y, rfl, h2⟩
theorem evt_sound {p : Pl} (h : VP p) {e : En} (he : e ∈ p.ens) (s : Int) (ha : allowB p e.it 0 s e.fr = true) : soundB p (evtE p e s) = true := by
  obtain ⟨e1, e2, e3⟩ := h.ens e he
  obtain ⟨y, hy, hf1, hf2⟩ := fitsB_spec e2
  have hyb := itB_bd (h.its y (fndI_mem hy).1)
  have hrg := h.rg
  have hm : alwM p (evtE p e s) = evM p e s := rfl
  have h1 : and1X (evM p e s) = 1 := and1_msk (n := (min p.rg 8).toNat) (by omega) ha
  have h2 : andN (evM p e s) (evM p e s) = 0 := andN_self (mskS_256 _ _ (by omega))
  have hw : IntKind.i64.wrap (y.fr - e.fr) = y.fr - e.fr := by rw [wrap_in] <;> omega
  simp only [altsB, Bool.and_eq_true, Bool.not_eq_true'] at e3
  obtain ⟨g1, g2⟩ := ascK_all e3.1
  have hall : ∀ a ∈ e.al, fitA p e a = true := fun a ha => by
    have := e3.2.2
    rw [List.any_eq_false] at this
    simpa using this a ha
  have halt : altOK p (evtE p e s) 0 (e.al.filter (altB p e s)) = true := by
    refine altOK_ok rfl ⟨by show 0 ≤ e.fr; omega, by show e.fr ≤ 100000000; omega⟩ ?_ fun a ha => ?_
    · exact List.Pairwise.sublist (List.Sublist.map _ List.filter_sublist) g1
    · obtain ⟨ha1, ha2⟩ := List.mem_filter.1 ha
      simp only [altB, Bool.and_eq_true, decide_eq_true_eq] at ha2
      have hfa := hall a ha1
      unfold fitA at hfa
      cases hx : fndI a.2 p.its with
      | none => rw [hx] at hfa; cases hfa
      | some z =>
        rw [hx] at hfa
        simp only [Bool.and_eq_true, decide_eq_true_eq] at hfa
        exact ⟨by omega, ha2.1.2, ⟨z, rfl, hfa.1⟩, ha2.2⟩
  have hre : (evtE p e s).re = evM p e s := rfl
  have hit : (evtE p e s).it = e.it := rfl
  have hfr : (evtE p e s).fr = e.fr := rfl
  have hi0 : (evtE p e s).i = 0 := rfl
  have hal : (evtE p e s).al = e.al.filter (altB p e s) := rfl
  have hid : (evtE p e s).id = e.id := rfl
  rw [soundB, hit, hy]
  simp only
  rw [hm, hre, hfr, hi0, hal, hid, hw, h1, h2, halt, if_neg (by omega), if_neg (by omega)]
  simp; omega
end Go.Proofs.YtdebhhpklhbihaaGreatDoor
/-
  OWN WORK. The law RundownCompiled on abstract arguments.
-/
namespace Go.Proofs.YtdebhhpklhbihaaGreatDoor
open Go Go.Abs

theorem filFr_pos {p : Pl} (h : VP p) : 1 ≤ filFr p := by
  obtain ⟨y, hy, _, hy1, _⟩ := h.fill
  simp only [filFr, hy]; exact hy1
theorem vch_cons {p : Pl} {a : Int} {e : Ev2} {r : List Ev2} (h1 : e.st = a) (h2 : soundB p e = true) (h3 : IntKind.i64.wrap (a + e.fr) = a + e.fr) (h4 : vchain p (a + e.fr) r = true) : vchain p a (e :: r) = true := by
  rw [vchain, if_neg (by rw [h2]; simp [h1]), h3]; exact h4
theorem vch_fill {p : Pl} (h : VP p) (hl : p.ln ≤ 1000000) (rest : List Ev2) : ∀ (n : Nat) (a t : Int), (t - a).toNat ≤ n → 0 ≤ a → a ≤ t → t ≤ p.ln → vchain p t rest = true → vchain p a ((fillL (filFr p) t a).map (fillE p) ++ rest) = true := by
  have hp := filFr_pos h
  intro n
  induction n with
  | zero =>
    intro a t h1 h2 h3 h4 h5
    obtain rfl : a = t := by omega
    rw [fillL, if_neg (by omega)]; exact h5
  | succ n ih =>
    intro a t h1 h2 h3 h4 h5
    rw [fillL]
    split
    · rename_i hlt
      have hN : 1 ≤ fillN (filFr p) t a ∧ fillN (filFr p) t a ≤ t - a ∧ fillN (filFr p) t a ≤ filFr p := by
        unfold fillN
        rw [if_pos hp]; omega
      rw [List.map_cons, List.cons_append]
      refine vch_cons rfl (fill_sound h hl _ ⟨h2, hN.1, hN.2.2, by simp only; omega⟩) ?_ ?_
      · show IntKind.i64.wrap (a + fillN (filFr p) t a) = a + fillN (filFr p) t a
        rw [wrap_in] <;> omega
      · exact ih _ t (by show (t - (a + fillN (filFr p) t a)).toNat ≤ n; omega) (by show 0 ≤ a + fillN (filFr p) t a; omega) (by show a + fillN (filFr p) t a ≤ t; omega) h4 h5
    · obtain rfl : a = t := by omega
      exact h5
theorem bld_chain {p : Pl} (h : VP p) (hl : p.ln ≤ 1000000) : ∀ (l : List Sp) (a : Int), 0 ≤ a → a ≤ p.ln → schOK p l a → vchain p a (bldL p l a) = true ∧ ∀ s ∈ l, ∃ e, fndN s.1 p.ens = some e ∧ 1 ≤ e.fr ∧ evtE p e s.2 ∈ bldL p l a ∧ 0 ≤ s.2 ∧ s.2 + e.fr ≤ p.ln
  | [], a, h0, h1, _ => by
    refine ⟨?_, fun s hs => (by cases hs)⟩
    rw [bldL]
    have := vch_fill h hl [] _ a p.ln (Nat.le_refl _) h0 h1 (Int.le_refl _) (by simp [vchain])
    rwa [List.append_nil] at this
  | s :: r, a, h0, h1, hs => by
    obtain ⟨e, he, hf, h2, h3, h4, h5, h6, h7, h8, h9⟩ := hs
    obtain ⟨he1, he2⟩ := fndN_mem he
    have hid := (h.ens e he1).1
    have hsk : skipB p s a = some e := by
      unfold skipB
      rw [he]
      simp only
      rw [if_neg (by omega)]
    obtain ⟨i1, i2⟩ := bld_chain h hl r (s.2 + e.fr) (by omega) (by omega) h9
    have hb : bldL p (s :: r) a = (fillL (filFr p) s.2 a).map (fillE p) ++ (evtE p e s.2 :: bldL p r (s.2 + e.fr)) := by
      rw [bldL, hsk]
      simp
    rw [hb]
    refine ⟨vch_fill h hl _ _ a s.2 (Nat.le_refl _) h0 h2 (by omega) ?_, fun t ht => ?_⟩
    · refine vch_cons rfl (evt_sound h he1 _ h8) ?_ i1
      show IntKind.i64.wrap (s.2 + e.fr) = s.2 + e.fr
      rw [wrap_in] <;> omega
    · rcases List.mem_cons.1 ht with rfl | ht
      · exact ⟨e, he, hf.1, by simp, h3, h7⟩
      · obtain ⟨x, x1, x2, x3, x4⟩ := i2 t ht
        exact ⟨x, x1, x2, by simp [x3], x4⟩
theorem vch_valid {p : Pl} {b : List Ev2} (h : vchain p 0 b = true) (hln : 1 ≤ p.ln) : validB p b = true := by
  cases b with
  | nil =>
    simp only [vchain, decide_eq_true_eq] at h
    omega
  | cons e r =>
    have hst : e.st = 0 := by
      rw [vchain] at h
      split at h
      · cases h
      · rename_i hn
        simp only [not_or] at hn
        omega
    rw [validB, hst, if_neg (by omega)]
    exact h
theorem cnt_one {f : Int} {b : List Ev2} (h : cnt2 f b = 1) {x y : Ev2} (hx : x ∈ b) (hxo : onB2 f x = true) (hy : y ∈ b) (hyo : onB2 f y = true) : x = y := by
  have h1 : x ∈ b.filter (onB2 f) := List.mem_filter.2 ⟨hx, hxo⟩
  have h2 : y ∈ b.filter (onB2 f) := List.mem_filter.2 ⟨hy, hyo⟩
  unfold cnt2 at h
  obtain ⟨z, hz⟩ := List.length_eq_one_iff.1 h
  rw [hz] at h1 h2
  simp only [List.mem_singleton] at h1 h2
  rw [h1, h2]

def orc7 (P : Pl) (b : List Ev2) : Nat → FuncId → List AV → AV := fun d f x =>
  if f = 9 then .bool true else if f = 10 then .agg (plRow P) else if f = 21 then compR P else if f = 22 then .bool (pvB P) else if f = 13 then .sl .ro (b.map ev2RowR) else
  if f = 14 then .bool true else (match x with | [_, .int _ g] => found2 g (fnd2 g b) | _ => .junk)
def Inv7 (P : Pl) (l : List Sp) (f : Nat → AV) (mm : AM) : Prop := ∃ (i : Nat) (bx : List (List AV)), f 8 = I i ∧ i ≤ l.length ∧ mm = ⟨plRow P :: bx, [], fun _ => .gone, 0⟩

set_option maxRecDepth 100000 in
set_option maxHeartbeats 16000000 in
theorem law7 (p : Pl) (hp : OKP p) (hbk : p.bks.length ≤ 8796093022208) (hea : ∀ e ∈ p.ens, e.ea ≤ 9223372036854775807) : Pure Tryz.prog gl0 7 [.agg (plRow p)] (.bool true) := by
  have k9 := sane_pure
  have k10 := few_pure p
  obtain ⟨P, hP⟩ : ∃ P, fewP p = P := ⟨_, rfl⟩
  have hPk := few_ok hp
  have hPl : P.ln ≤ 1200 := by rw [← hP]; simp only [fewP]; omega
  have hPe : P.ens.length ≤ 16 := by rw [← hP]; simp only [fewP, List.length_take]; omega
  have hPc : P.cls.length ≤ 20 := by rw [← hP]; simp only [fewP, List.length_take]; omega
  have hPs : P.sh.length ≤ 6 := by rw [← hP]; simp only [fewP, List.length_take]; omega
  have hPi : P.its.length ≤ 20 := by rw [← hP]; simp only [fewP, List.length_take]; omega
  have hPb : P.bks.length ≤ 8796093022208 := by rw [← hP]; exact hbk
  have hPea : ∀ e ∈ P.ens, e.ea ≤ 9223372036854775807 := by
    rw [← hP]
    intro e he
    exact hea e (List.mem_of_mem_take he)
  rw [hP] at k10 hPk
  have hPS : PlS P := ⟨by omega, by omega, by omega, hPb, by omega, hPk⟩
  have k21 := compile21 P hPS (by omega) (by omega) (by omega) hPea
  have k22 := pvalid_pure P hPS
  cases hv : pvB P with
  | false =>
    rw [hv] at k22
    have hr : compR P = .tup [.sl .nil [], .sl .nil [], I 80] := by rw [compR, if_pos hv]
    rw [hr] at k21
    refine pureE code7 (orc7 P []) (by simp) ?_
    simp only [plRow] at k10 k21 k22
    simp [sc7, rs7, plRow, orc7, hr, hv]
    exact ⟨k9, k10, k21, k22⟩
  | true =>
    rw [hv] at k22
    have VPP := pvB_VP hv
    cases hg : earG P (idsP P) [] [] 0 (-1) with
    | none =>
      have hr : compR P = .tup [.sl .nil [], .sl .ro ((conS (bd0 P) (idsP P)).map rowI), I 90] := by rw [compR, if_neg (by simp [hv]), hg]
      rw [hr] at k21
      refine pureE code7 (orc7 P []) (by simp) ?_
      simp only [plRow] at k10 k21 k22
      simp [sc7, rs7, plRow, orc7, hr, hv]
      exact ⟨k9, k10, k21, k22⟩
    | some l =>
      have hr : compR P = .tup [slAV8 l, .sl .nil [], I 0] := by rw [compR, if_neg (by simp [hv]), hg]
      rw [hr] at k21
      obtain ⟨hids, hsch⟩ := earG_ok hg
      have hll : l.length = P.ens.length := by
        have := congrArg List.length hids
        simpa [idsP] using this
      have hln := VPP.ln
      have hbd : bldS P l 0 = bldL P l 0 := by rw [bldS, if_neg (by omega)]
      obtain ⟨hch, hmem⟩ := bld_chain VPP (by omega) l 0 (by omega) (by omega) hsch
      have hgap := (bldL_gap P l l 0 (fun _ h => h) (by omega)).1
      have hev : ∀ e ∈ bldL P l 0, EvOK e := bldL_ok P hPk l 0
      have hval := vch_valid hch hln.1
      have hlb : ∀ s ∈ l, 0 ≤ s.2 ∧ s.2 ≤ 1200 := fun s hs => by
        obtain ⟨e, _, h1, _, h2, h3⟩ := hmem s hs
        omega
      have k13 := buildR_pure P l 0 (by omega) (by omega) (by omega) (by omega) hPk (by omega) (by omega) (fun s hs => by have := hlb s hs; omega)
      rw [hbd] at k13
      obtain ⟨b, hB⟩ : ∃ b, bldL P l 0 = b := ⟨_, rfl⟩
      rw [hB] at k13 hch hmem hgap hev hval
      have hbl : b.length ≤ 1200 := by
        have := gapOK_le hgap
        omega
      have hall := gapOK_all hgap
      have k14 := valid2_pure P b (by omega) (by omega) (by omega) (fun e he => (hev e he).2.2) (by omega)
      rw [hval] at k14
      have hsl : slAV8 l = .sl (if l = [] then .nil else .ro) (l.map spRow) := by
        unfold slAV8
        by_cases h : l = []
        · rw [if_pos h, if_pos h, h]; rfl
        · rw [if_neg h, if_neg h]
      obtain ⟨rt, hrt⟩ : ∃ rt : Rt, (if l = [] then Rt.nil else Rt.ro) = rt := ⟨_, rfl⟩
      rw [hrt] at hsl
      have hcv : ∀ m, cvn m 6 (.sl rt (l.map spRow)) = .sl rt (l.map spRow) := fun m => by
        rw [← hrt]
        split <;> rfl
      have k13' : Abs.Pure Tryz.prog gl0 13 [.agg (plRow P), .sl rt (l.map spRow), I 0] (.sl .ro (b.map ev2RowR)) := pure_weak k13 ⟨Wk.refl _, Wk.sl _ _, Wk.refl _, trivial⟩
      rw [hsl] at k21 hr
      have hne : ¬ ((l.length : Int) ≠ (P.ens.length : Int)) := by omega
      have hll' : ((l.length : Int) != (P.ens.length : Int)) = false := by simp; omega
      refine pureE code7 (orc7 P b) (by simp) ?_
      simp only [plRow] at k10 k21 k22 k13' k14
      simp [sc7, plRow, orc7, hr, hv, hcv, hll, hll']
      refine ⟨k9, k10, k21, k22, k13', k14, ?_⟩
      clear k9 k10 k21 k22 k13 k13' k14
      refine vc_loopE w7_0 (Inv7 P l) (fun f _ => l.length - (numOf (f 8)).toNat) ?_ ?_
      · exact ⟨0, [], by simp, by omega, by simp [plRow]⟩
      · rintro f mm ⟨i, bx, h8, hi, rfl⟩
        rcases Nat.lt_or_ge i l.length with hlt | hge
        · obtain ⟨s, hs⟩ : ∃ s, l[i]? = some s := ⟨_, List.getElem?_eq_getElem hlt⟩
          have hrow := rowN_sp hs
          have hilt : (i : Int) < (l.length : Int) := by omega
          have hlt' : i < P.ens.length := by omega
          have hilt' : (i : Int) < (P.ens.length : Int) := by omega
          have hw : IntKind.i64.wrap ((i : Int) + 1) = ((i + 1 : Nat) : Int) := by rw [wrap_in] <;> omega
          obtain ⟨e, e1, e2, e3, e4, e5⟩ := hmem s (List.mem_of_getElem? hs)
          obtain ⟨he1, he2⟩ := fndN_mem e1
          have k16 := at2_pure b s.2 (by omega) (fun ev he => by
            have h1 := hall ev he
            obtain ⟨h2, h3, h4⟩ := hev ev he
            exact ⟨by omega, by omega, by omega, h4⟩) ⟨by omega, by omega⟩
          obtain ⟨c1, ev, c2, c3, c4⟩ := gap_one hgap e4 (by omega : s.2 < P.ln)
          have hon : onB2 s.2 (evtE P e s.2) = true := by simp [onB2, evtE]; omega
          have hee := cnt_one c1 c2 c4 e3 hon
          subst hee
          rw [c3] at k16
          have hz : (0 : Int) + s.2 - s.2 = 0 := by omega
          have hz' : (evtE P e s.2).i + s.2 - (evtE P e s.2).st = 0 := hz
          have hrw : ev2RowR (evtE P e s.2) = [I s.1, I e.it, I s.2, I e.fr, I 0, I (evM P e s.2), .sl .ro ((e.al.filter (altB P e s.2)).map spRow)] := by rw [← he2]; rfl
          have hfo : found2 s.2 (fnd2 s.2 b) = .tup [.agg [I s.1, I e.it, I s.2, I e.fr, I 0, I (evM P e s.2), .sl .ro ((e.al.filter (altB P e s.2)).map spRow)], I 0, .bool true] := by rw [c3, found2, hrw, hz']
          rw [found2, hrw, hz'] at k16
          simp [h8, w7_0, hll, hlt, hilt, hlt', hilt', hrow, spRow, plRow, orc7, hfo, hw]
          refine ⟨k16, ag ?_, ⟨i + 1, bx ++ [[I s.1, I e.it, I s.2, I e.fr, I 0, I (evM P e s.2), .sl .ro ((e.al.filter (altB P e s.2)).map spRow)]], by simp, by omega, by simp [plRow]⟩, by omega⟩
          repeat (first | exact agree_refl _ _ | refine agree_cons _ rfl ?_)
        · have hin : ¬ (i : Int) < (l.length : Int) := by omega
          have hin' : ¬ (i : Int) < (P.ens.length : Int) := by omega
          simp [h8, w7_0, hll, hin, hin', rs7]
end Go.Proofs.YtdebhhpklhbihaaGreatDoor
