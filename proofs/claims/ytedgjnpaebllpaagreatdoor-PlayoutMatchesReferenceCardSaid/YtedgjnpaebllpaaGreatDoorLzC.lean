/-
  OWN WORK. Contracts of the reference's loudness (onairref14) and powers (onairref12).
-/
import Derived.Test.YtedgjnpaebllpaaGreatDoorLwI
import Derived.Test.YtedgjnpaebllpaaGreatDoorLwM
set_option linter.unusedVariables false
set_option linter.unusedSimpArgs false
namespace Go.Proofs.YtedgjnpaebllpaaGreatDoor
open Go Go.Abs

def limR (n a b : Int) : Int := if n < a then a else if b < n then b else n
theorem limR_I (g : Int) : limR g 250 4000 = limI g := by
  unfold limR limI
  split <;> (try split) <;> (try split) <;> omega
theorem rlimited_pure (n a b : Int) : Pure Tryz.prog gl0 58 [I n, I a, I b] (I (limR n a b)) := by
  refine pureE code58 (fun _ _ _ => .junk) (by simp) ?_
  by_cases h1 : n < a
  · simp [sc58, rs58, limR, h1]
  · by_cases h2 : b < n
    · simp [sc58, rs58, limR, h1, h2]
    · simp [sc58, rs58, limR, h1, h2]

theorem rnext_pure (g t : Int) : Pure Tryz.prog gl0 59 [I g, I t] (I (nxt (limI g) (limI t))) := by
  have h1 := rlimited_pure g 250 4000
  have h2 := rlimited_pure t 250 4000
  rw [limR_I] at h1 h2
  have b1 := limI_bd g
  have b2 := limI_bd t
  refine pureE code59 (fun d _ _ => if d = 6 then I (limI g) else I (limI t)) (by simp) ?_
  generalize limI g = G at *
  generalize limI t = T at *
  have w1 : IntKind.i64.wrap (G + 20) = G + 20 := by rw [wrap_in] <;> omega
  have w2 : IntKind.i64.wrap (G - 20) = G - 20 := by rw [wrap_in] <;> omega
  have hn : nxt G T = if G + 20 < T then G + 20 else if T < G - 20 then G - 20 else T := by
    unfold nxt
    split <;> (try split) <;> (try split) <;> omega
  rw [hn]
  by_cases c1 : G + 20 < T
  · simp [sc59, rs59, w1, w2, c1]
    exact ⟨h1, h2⟩
  · by_cases c2 : T < G - 20
    · simp [sc59, rs59, w1, w2, c1, c2]
      exact ⟨h1, h2⟩
    · simp [sc59, rs59, w1, w2, c1, c2]
      exact ⟨h1, h2⟩

theorem ramp_reach (t : Int) : ∀ (k : Nat) (g : Int), t - g ≤ 20 * k → g - t ≤ 20 * k → ramp t k g = t
  | 0, g, h1, h2 => by simp only [ramp]; omega
  | k + 1, g, h1, h2 => by
    simp only [ramp]
    refine ramp_reach t k _ ?_ ?_ <;> (unfold nxt; split <;> (try split) <;> omega)
theorem ramp_add (t : Int) : ∀ (j k : Nat) (g : Int), ramp t (j + k) g = ramp t k (ramp t j g)
  | 0, k, g => by rw [Nat.zero_add]; rfl
  | j + 1, k, g => by rw [show j + 1 + k = (j + k) + 1 by omega]; simp only [ramp]; exact ramp_add t j k _
theorem ramp_200 (t g : Int) (n : Nat) (ht : 250 ≤ t ∧ t ≤ 4000) (hg : 250 ≤ g ∧ g ≤ 4000) : ramp t (min n 200) g = ramp t n g := by
  rcases Nat.le_total n 200 with h | h
  · rw [Nat.min_eq_left h]
  · rw [Nat.min_eq_right h]
    have h200 := ramp_reach t 200 g (by omega) (by omega)
    rw [h200, show n = 200 + (n - 200) by omega, ramp_add, h200, ramp_self]

set_option maxRecDepth 100000 in
theorem rramp_pure (g t n : Int) (hn : n ≤ 1000000) : Pure Tryz.prog gl0 31 [I g, I t, I n] (I (ramp (limI t) n.toNat (limI g))) := by
  have h1 := rlimited_pure g 250 4000
  rw [limR_I] at h1
  have b1 := limI_bd g
  have b2 := limI_bd t
  rw [← ramp_200 _ _ _ b2 b1]
  obtain ⟨N, hN⟩ : ∃ N, N = min n.toNat 200 := ⟨_, rfl⟩
  rw [← hN]
  refine pureE code31 (fun _ f l => if f = 58 then I (limI g) else match l with | [.int _ a, _] => I (nxt (limI a) (limI t)) | _ => .junk) (by simp) ?_
  simp [sc31, rs31]
  refine ⟨h1, ?_⟩
  refine vc_loopE [0, 7, 10, 11, 12, 13, 14, 15, 16, 17, 18, 19, 20, 21] (fun f m => ∃ (i : Nat) (a : Int), i ≤ N ∧ f 7 = I i ∧ f 0 = I a ∧ (250 ≤ a ∧ a ≤ 4000) ∧ ramp (limI t) (N - i) a = ramp (limI t) N (limI g)) (fun f m => N - (numOf (f 7)).toNat) ?_ ?_
  · exact ⟨0, limI g, by omega, by simp, by simp, b1, rfl⟩
  · rintro f m ⟨i, a, hi, h7, h0, hb, hr⟩
    have hw : IntKind.i64.wrap ((i : Int) + 1) = ((i + 1 : Nat) : Int) := by rw [wrap_in] <;> omega
    by_cases hend : i = N
    · subst hend
      simp [ramp] at hr
      by_cases c1 : (i : Int) < n
      · have c2 : ¬ ((i : Int) < 200) := by omega
        simp [h7, h0, c1, c2]
        exact hr
      · simp [h7, h0, c1]
        exact hr
    · have c1 : (i : Int) < n := by omega
      have c2 : (i : Int) < 200 := by omega
      have hnx := rnext_pure a t
      simp [h7, h0, c1, c2, hw]
      refine ⟨hnx, ag ?_, ⟨i + 1, by omega, by simp, ?_, ?_⟩, by omega⟩
      · repeat (first | exact agree_refl _ _ | refine agree_cons _ rfl ?_)
      · exact nxt_bd _ _ (limI_bd a) b2
      · rw [limI_id a hb.1 hb.2, ← hr, show N - i = (N - (i + 1)) + 1 by omega]; rfl

def selR (l : List Pic) (a : Int) : List Int := (l.filter fun p => decide (200 ≤ p.power ∧ a ≤ 10 * p.power)).map fun p => p.power
def meanR (l : List Pic) (a : Int) : Int := if selR l a = [] then 0 else mean1 (selR l a)
theorem selR_bd (l : List Pic) (a : Int) (hp : PowOK l) : bd (selR l a) := by
  intro x hx
  simp only [selR, List.mem_map, List.mem_filter, decide_eq_true_eq] at hx
  obtain ⟨p, ⟨h1, h2, _⟩, rfl⟩ := hx
  exact ⟨h2, (hp p h1).2⟩
theorem selR_len (l : List Pic) (a : Int) : (selR l a).length ≤ l.length := by
  simp only [selR, List.length_map]; exact List.length_filter_le _ _
theorem selR_snoc (l : List Pic) (p : Pic) (a : Int) : selR (l ++ [p]) a = if 200 ≤ p.power ∧ a ≤ 10 * p.power then selR l a ++ [p.power] else selR l a := by
  by_cases h : 200 ≤ p.power ∧ a ≤ 10 * p.power <;> simp [selR, List.filter_append, h]
theorem meas_R (l : List Pic) (hp : PowOK l) : meanR l (meanR l 0) = meas (pw l) := by
  have h0 : selR l 0 = pw l := by
    unfold selR pw
    congr 1
    apply List.filter_congr
    intro p hpm
    have := hp p hpm
    by_cases h : 200 ≤ p.power
    · have : (0 : Int) ≤ 10 * p.power := by omega
      simp [h, this]
    · simp [h]
  have h1 : ∀ a, selR l a = (pw l).filter fun x => decide (a ≤ 10 * x) := by
    intro a
    unfold selR pw
    rw [List.filter_map, List.filter_filter]
    congr 1
    apply List.filter_congr
    intro p _
    simp [Bool.and_comm]
  have hm0 : meanR l 0 = if pw l = [] then 0 else mean1 (pw l) := by unfold meanR; rw [h0]
  rw [hm0]
  by_cases hq : pw l = []
  · simp only [hq, if_true, meas]
    unfold meanR
    rw [h0, if_pos hq]
  · simp only [hq, if_false, meas]
    unfold meanR
    rw [h1]
    have : (pw l).filter (fun x => decide (mean1 (pw l) ≤ 10 * x)) = loud (pw l) := rfl
    rw [this, if_neg (loud_ne _ (pw_bd l hp) hq)]

set_option maxRecDepth 100000 in
set_option maxHeartbeats 1000000 in
theorem rmean_pure (l : List Pic) (a : Int) (hl : l.length ≤ 1000000000) (hp : PowOK l) : Pure Tryz.prog gl0 88 [powsAV l, I a] (I (meanR l a)) := by
  refine pureE code88 (fun _ _ l => match l with | [.int _ p, _, _] => I (limR p 0 1000000) | _ => .junk) (by simp) ?_
  simp [sc88, rs88, powsAV]
  refine vc_loopE [5, 6, 7, 8, 9, 10, 11, 12, 13, 14, 15, 16, 17, 18, 19, 20, 21, 22, 23, 24, 25, 26, 27, 28, 29, 30, 31, 32] (fun f m => ∃ (i : Nat), i ≤ l.length ∧ f 7 = I i ∧ f 5 = I (selR (l.take i) a).sum ∧ f 6 = I (selR (l.take i) a).length ∧ m = ⟨[], [], fun _ => .gone, 0⟩) (fun f m => l.length - (numOf (f 7)).toNat) ?_ ?_
  · exact ⟨0, by omega, by simp, by simp [selR], by simp [selR], rfl⟩
  · rintro f m ⟨i, hi, h7, h5, h6, rfl⟩
    rcases Nat.lt_or_ge i l.length with hlt | hge
    · obtain ⟨p, hpi⟩ : ∃ p, l[i]? = some p := ⟨_, List.getElem?_eq_getElem hlt⟩
      have hrow : rowN (l.map fun p => [I p.power]) i = [I p.power] := rowN_eq (by simp [hpi])
      have hpw := hp p (List.mem_of_getElem? hpi)
      have hli := rlimited_pure p.power 0 1000000
      have hlr : limR p.power 0 1000000 = p.power := by unfold limR; split <;> (try split) <;> omega
      rw [hlr] at hli
      have htk : l.take (i + 1) = l.take i ++ [p] := by rw [List.take_add_one, hpi]; rfl
      have hsn := selR_snoc (l.take i) p a
      rw [← htk] at hsn
      have hw : IntKind.i64.wrap ((i : Int) + 1) = ((i + 1 : Nat) : Int) := by rw [wrap_in] <;> omega
      have hlen := selR_len (l.take i) a
      have hsb := sum_bd (selR (l.take i) a) (selR_bd _ a fun x hx => hp x (List.mem_of_mem_take hx))
      rw [List.length_take] at hlen
      obtain ⟨S, hS⟩ : ∃ S, S = selR (l.take i) a := ⟨_, rfl⟩
      rw [← hS] at h5 h6 hsn hlen hsb
      have w1 : IntKind.i64.wrap (S.sum + p.power) = S.sum + p.power := by rw [wrap_in] <;> omega
      have w2 : IntKind.i64.wrap ((S.length : Int) + 1) = ((S.length + 1 : Nat) : Int) := by rw [wrap_in] <;> omega
      have w3 : IntKind.i64.wrap (10 * p.power) = 10 * p.power := by rw [wrap_in] <;> omega
      by_cases c1 : 200 ≤ p.power
      · by_cases c2 : a ≤ 10 * p.power
        · rw [if_pos ⟨c1, c2⟩] at hsn
          simp [h7, h5, h6, hrow, hlt, hw, hlr, w1, w2, w3, c1, c2]
          refine ⟨hli, ag ?_, ⟨i + 1, by omega, by simp, by rw [hsn]; simp, by rw [hsn]; simp⟩, by omega⟩
          repeat (first | exact agree_refl _ _ | refine agree_cons _ rfl ?_)
        · rw [if_neg (fun h => c2 h.2)] at hsn
          simp [h7, h5, h6, hrow, hlt, hw, hlr, w1, w2, w3, c1, c2]
          refine ⟨hli, ag ?_, ⟨i + 1, by omega, by simp, by rw [hsn], by rw [hsn]⟩, by omega⟩
          repeat (first | exact agree_refl _ _ | refine agree_cons _ rfl ?_)
      · rw [if_neg (fun h => c1 h.1)] at hsn
        simp [h7, h5, h6, hrow, hlt, hw, hlr, w1, w2, w3, c1]
        refine ⟨hli, ag ?_, ⟨i + 1, by omega, by simp, by rw [hsn], by rw [hsn]⟩, by omega⟩
        repeat (first | exact agree_refl _ _ | refine agree_cons _ rfl ?_)
    · have htk : l.take i = l := List.take_of_length_le hge
      rw [htk] at h5 h6
      have hlen := selR_len l a
      have hsb := sum_bd (selR l a) (selR_bd l a hp)
      by_cases hq : selR l a = []
      · simp [h7, h5, h6, Nat.not_lt.2 hge, meanR, hq]
      · have hne : ¬ ((selR l a).length : Int) = 0 := by
          have : (selR l a).length ≠ 0 := fun h => hq (List.length_eq_zero_iff.1 h)
          omega
        have hd0 : 0 ≤ (selR l a).sum.tdiv ((selR l a).length : Int) := Int.tdiv_nonneg hsb.1 (by omega)
        have hd1 : (selR l a).sum.tdiv ((selR l a).length : Int) ≤ (selR l a).sum := by
          rw [Int.tdiv_eq_ediv_of_nonneg hsb.1]
          exact Int.ediv_le_self _ hsb.1
        have w1 : IntKind.i64.wrap ((selR l a).sum.tdiv ((selR l a).length : Int)) = (selR l a).sum.tdiv ((selR l a).length : Int) := by rw [wrap_in] <;> omega
        simp [h7, h5, h6, Nat.not_lt.2 hge, meanR, hq, mean1, w1]

theorem meanR_bd (l : List Pic) (a : Int) (hl : l.length ≤ 1000000000) (hp : PowOK l) : 0 ≤ meanR l a ∧ meanR l a ≤ 1000000000000000 := by
  unfold meanR
  split
  · omega
  · have hlen := selR_len l a
    have hsb := sum_bd (selR l a) (selR_bd l a hp)
    unfold mean1
    rw [Int.tdiv_eq_ediv_of_nonneg hsb.1]
    have h1 := Int.ediv_le_self (b := ((selR l a).length : Int)) hsb.1
    have h2 : 0 ≤ (selR l a).sum / ((selR l a).length : Int) := Int.ediv_nonneg hsb.1 (by omega)
    omega

theorem rmeasure_pure (l : List Pic) (hl : l.length ≤ 1000000000) (hp : PowOK l) : Pure Tryz.prog gl0 74 [powsAV l] (I (meas (pw l))) := by
  have h1 := rmean_pure l 0 hl hp
  have h2 := rmean_pure l (meanR l 0) hl hp
  rw [meas_R l hp] at h2
  refine pureE code74 (fun d _ _ => if d = 5 then I (meanR l 0) else I (meas (pw l))) (by simp) ?_
  simp [sc74, rs74, powsAV]
  exact ⟨h1, h2⟩

theorem rgain_pure (l : List Pic) (hl : l.length ≤ 1000000000) (hp : PowOK l) : Pure Tryz.prog gl0 60 [powsAV l] (I (gainL (pw l))) := by
  have h1 := rmeasure_pure l hl hp
  have hb := meas_bd (pw l) (pw_bd l hp) (by have := pw_len l; omega)
  by_cases h0 : meas (pw l) = 0
  · rw [h0] at h1
    refine pureE code60 (fun d _ _ => I 0) (by simp) ?_
    simp [sc60, rs60, powsAV, gainL, h0]
    exact h1
  · have h2 := rlimited_pure ((20000000 : Int).tdiv (meas (pw l))) 250 4000
    rw [limR_I] at h2
    have hd : 0 ≤ (20000000 : Int).tdiv (meas (pw l)) ∧ (20000000 : Int).tdiv (meas (pw l)) ≤ 20000000 := by
      rw [Int.tdiv_eq_ediv_of_nonneg (by omega)]
      exact ⟨Int.ediv_nonneg (by omega) hb.1, Int.ediv_le_self _ (by omega)⟩
    have w : IntKind.i64.wrap ((20000000 : Int).tdiv (meas (pw l))) = (20000000 : Int).tdiv (meas (pw l)) := by rw [wrap_in] <;> omega
    refine pureE code60 (fun _ g _ => if g = 74 then I (meas (pw l)) else I (limI ((20000000 : Int).tdiv (meas (pw l))))) (by simp) ?_
    simp [sc60, rs60, powsAV, gainL, h0, w]
    exact ⟨h1, h2⟩

set_option maxRecDepth 100000 in
theorem rpowers_pure (a : Asset) (hl : a.pics.length ≤ 1000000000) : Pure Tryz.prog gl0 61 [.agg (assetRow a)] (powsAV a.pics) := by
  obtain ⟨it, l⟩ := a
  simp only at hl
  by_cases h0 : l = []
  · subst h0
    refine pure_res (r := .sl .nil []) ?_ (Wk.sl _ _)
    refine pureE code61 (fun _ _ _ => .junk) (by simp) ?_
    simp [sc61, rs61, assetRow]
    refine vc_loopE [3, 4, 5, 6, 7, 8, 9, 10, 11, 12, 13, 14, 15, 16, 17, 18, 19, 20] (fun f m => f 4 = I 0 ∧ f 3 = .sl .nil [] ∧ m = ⟨[[I it, .sl .ro []]], [], fun _ => .gone, 0⟩) (fun _ _ => 0) ⟨by simp, by simp, rfl⟩ ?_
    rintro f m ⟨h4, h3, rfl⟩
    simp [h4, h3]
  · refine pureE code61 (fun _ _ _ => .junk) (by simp) ?_
    simp [sc61, rs61, assetRow]
    refine vc_loopE [3, 4, 5, 6, 7, 8, 9, 10, 11, 12, 13, 14, 15, 16, 17, 18, 19, 20] (fun f m => ∃ (i : Nat) (rt : Rt) (L' : List Nat), i ≤ l.length ∧ f 4 = I i ∧ f 3 = .sl rt ((l.map fun p => [I p.power]).take i) ∧ m = ⟨[[I it, .sl .ro (l.map picRow)]], L', fun _ => .gone, 0⟩ ∧ ((i = 0 ∧ rt = .nil ∧ L' = []) ∨ (0 < i ∧ rt = .own 0 1 ∧ L' = [i]))) (fun f _ => l.length - (numOf (f 4)).toNat) ⟨0, .nil, [], by omega, by simp, by simp, rfl, .inl ⟨rfl, rfl, rfl⟩⟩ ?_
    rintro f m ⟨i, rt, L', hi, h4, h3, rfl, hrt⟩
    rcases Nat.lt_or_ge i l.length with hlt | hge
    · obtain ⟨p, hpi⟩ : ∃ p, l[i]? = some p := ⟨_, List.getElem?_eq_getElem hlt⟩
      have hrow : rowN (l.map picRow) i = picRow p := rowN_eq (by simp [hpi])
      have htk : (l.map fun p => [I p.power]).take (i + 1) = (l.map fun p => [I p.power]).take i ++ [[I p.power]] := by rw [List.take_add_one]; simp [hpi]
      have hr1 : ∀ row ∈ (l.map fun p => [I p.power]).take i, row.length = 1 := by
        intro row h
        obtain ⟨x, _, rfl⟩ := List.mem_map.1 (List.mem_of_mem_take h)
        rfl
      have w11 : IntKind.i64.wrap 1 = 1 := by rw [wrap_in] <;> omega
      have hw : IntKind.i64.wrap ((i : Int) + 1) = ((i + 1 : Nat) : Int) := by rw [wrap_in] <;> omega
      have hmin : min i l.length = i := by omega
      rcases hrt with ⟨rfl, rfl, rfl⟩ | ⟨hpos, rfl, rfl⟩
      · simp at h3 htk
        simp [h4, h3, hrow, hlt, w11, picRow]
        refine ⟨ag ?_, ⟨1, by omega, by simp, .own 0 1, by simp [htk], by simp⟩, by omega⟩
        repeat (first | exact agree_refl _ _ | refine agree_cons _ rfl ?_)
      · simp [h4, h3, hrow, hlt, hw, picRow, hmin]
        refine ⟨⟨by rintro row (h | rfl); exact hr1 row h; rfl, by omega⟩, ag ?_, ⟨i + 1, by omega, by simp, .own 0 1, ⟨rfl, htk.symm⟩, by simp⟩, by omega⟩
        repeat (first | exact agree_refl _ _ | refine agree_cons _ rfl ?_)
    · have htk : (l.map fun p => [I p.power]).take i = l.map fun p => [I p.power] := List.take_of_length_le (by simpa using hge)
      rw [htk] at h3
      rcases hrt with ⟨rfl, rfl, rfl⟩ | ⟨hpos, rfl, rfl⟩
      · exact absurd (List.length_eq_zero_iff.1 (by omega)) h0
      · simp [h4, h3, Nat.not_lt.2 hge, powsAV]

set_option maxRecDepth 100000 in
theorem rtarget_pure (L : List Asset) (hL : LibOK L) (item : Int) : Pure Tryz.prog gl0 32 [.sl .ro (L.map assetRow), I item] (I (tgtI L item)) := by
  have hf : Pure Tryz.prog gl0 24 [.sl .ro (L.map assetRow), I item] (foundA (fnd item L)) := refFind_pure L item hL.1
  cases hfn : fnd item L with
  | none =>
    rw [hfn] at hf
    refine pureE code32 (fun _ _ _ => zeroA) (by simp) ?_
    simp [sc32, rs32, zeroA, tgtI, hfn]
    exact hf
  | some a =>
    rw [hfn] at hf
    have hm := fnd_mem hfn
    have hp := rpowers_pure a (hL.1.2 a hm)
    have hg := rgain_pure a.pics (hL.1.2 a hm) (hL.2 a hm)
    refine pureE code32 (fun _ g _ => if g = 24 then foundA (some a) else if g = 61 then powsAV a.pics else I (gainL (pw a.pics))) (by simp) ?_
    simp [sc32, rs32, foundA, assetRow, powsAV, tgtI, hfn]
    exact ⟨hf, hp, hg⟩

theorem begs_snoc (f : Int) (l : List Evt) (e : Evt) : begs f (l ++ [e]) = begs f l ++ begs f [e] := by simp [begs, List.filter_append]

def orc12 (L : List Asset) : Nat → FuncId → List AV → AV := fun _ g a => if g = 32 then (match a with | [_, .int _ it] => I (tgtI L it) | _ => .junk) else (match a with | [.int _ x, .int _ t, .int _ n] => I (ramp (limI t) n.toNat (limI x)) | _ => .junk)

set_option maxRecDepth 100000 in
set_option maxHeartbeats 1000000 in
theorem rGain_pure (L : List Asset) (hL : LibOK L) (l : List Evt) (f : Int) (hl : l.length ≤ 1000000000) (hs : ∀ e ∈ l, Small e) (hf : SmallF f) (ch ve ed : Int) (cues : AV) (hc : ok1 cues = true) :
    Pure Tryz.prog gl0 12 [.agg [I ch, I 0, I 0, I 0, .sl .nil [], I 0, I 0, I 0, I 0, .sl .nil [], .sl .nil [], .sl .nil [], .sl .nil [], .sl .ro (l.map evtRow), cues, I ed, .sl .nil [], I ve], .sl .ro (L.map assetRow), I f] (I (gainF L (begs f l) 1000)) := by
  refine pureE code12 (orc12 L) (by simp) ?_
  simp [sc12, rs12, isCell_ok1 hc]
  refine vc_loopE [7, 8, 9, 10, 11, 12, 13, 14, 15, 16, 17, 18, 19, 20, 21, 22, 23, 24, 25, 26, 27, 28, 29, 30, 31, 32, 33, 34, 35, 36, 37, 38, 39, 40, 41, 42, 43, 44] (fun g m => ∃ (i : Nat) (rest : List (List AV)), i ≤ l.length ∧ g 8 = I i ∧ g 7 = I (gainF L (begs f (l.take i)) 1000) ∧ m = ⟨_ :: rest, [], fun _ => .gone, 0⟩) (fun g _ => l.length - (numOf (g 8)).toNat) ⟨0, [], by omega, by simp, by simp [begs, gainF], rfl⟩ ?_
  rintro g m ⟨i, rest, hi, h8, h7, rfl⟩
  rcases Nat.lt_or_ge i l.length with hlt | hge
  · obtain ⟨e, he⟩ : ∃ e, l[i]? = some e := ⟨_, List.getElem?_eq_getElem hlt⟩
    have hrow : rowN (l.map evtRow) i = evtRow e := rowN_eq (by simp [he])
    obtain ⟨⟨a1, a2⟩, ⟨a3, a4⟩, a5, a6⟩ := hs e (List.mem_of_getElem? he)
    have hw : IntKind.i64.wrap ((i : Int) + 1) = ((i + 1 : Nat) : Int) := by rw [wrap_in] <;> omega
    have htk : l.take (i + 1) = l.take i ++ [e] := by rw [List.take_add_one, he]; rfl
    have hbd := gainF_bd L (begs f (l.take i)) 1000 ⟨by omega, by omega⟩
    obtain ⟨G, hG⟩ : ∃ G, G = gainF L (begs f (l.take i)) 1000 := ⟨_, rfl⟩
    have hgn : gainF L (begs f (l.take (i + 1))) 1000 = gainF L (begs f [e]) G := by rw [htk, begs_snoc, gainF_app, hG]
    rw [← hG] at h7 hbd
    have hal := isCell_ok1 (ok1_alA e.al)
    by_cases c1 : f < e.st
    · have hn : begs f [e] = [] := begs_no f e [] (by omega)
      simp [h8, h7, hrow, hlt, hw, evtRow, hal, c1]
      refine ⟨ag ?_, ⟨i + 1, by omega, by simp, by rw [hgn, hn]; rfl⟩, by omega⟩
      repeat (first | exact agree_refl _ _ | refine agree_cons _ rfl ?_)
    · by_cases c2 : e.fr < 1
      · have hn : begs f [e] = [] := begs_no f e [] (by omega)
        simp [h8, h7, hrow, hlt, hw, evtRow, hal, c1, c2]
        refine ⟨ag ?_, ⟨i + 1, by omega, by simp, by rw [hgn, hn]; rfl⟩, by omega⟩
        repeat (first | exact agree_refl _ _ | refine agree_cons _ rfl ?_)
      · have hn : begs f [e] = [(e.it, frs f e)] := begs_yes f e [] (by omega) (by omega)
        rw [hn] at hgn
        simp only [gainF] at hgn
        have htg := rtarget_pure L hL e.it
        have htb := tgtI_bd L e.it
        obtain ⟨hf1, hf2⟩ := hf
        have w1 : IntKind.i64.wrap (f - e.st) = f - e.st := by rw [wrap_in] <;> omega
        have w2 : IntKind.i64.wrap (f - e.st + 1) = f - e.st + 1 := by rw [wrap_in] <;> omega
        have hfr : frs f e = if f - e.st + 1 < e.fr then f - e.st + 1 else e.fr := by
          unfold frs; split <;> split <;> omega
        have hle : frs f e ≤ 1000000 := by unfold frs; split <;> omega
        have hra := rramp_pure G (tgtI L e.it) (frs f e) hle
        rw [limI_id _ htb.1 htb.2, limI_id _ hbd.1 hbd.2] at hra
        rw [hfr] at hra hgn
        simp [h8, h7, hrow, hlt, hw, evtRow, hal, c1, c2, orc12, w1, w2, limI_id _ htb.1 htb.2, limI_id _ hbd.1 hbd.2]
        refine ⟨htg, hra, ag ?_, ⟨i + 1, by omega, by simp, hgn.symm⟩, by omega⟩
        repeat (first | exact agree_refl _ _ | refine agree_cons _ rfl ?_)
  · have htk : l.take i = l := List.take_of_length_le hge
    rw [htk] at h7
    simp [h8, h7, Nat.not_lt.2 hge]
end Go.Proofs.YtedgjnpaebllpaaGreatDoor
