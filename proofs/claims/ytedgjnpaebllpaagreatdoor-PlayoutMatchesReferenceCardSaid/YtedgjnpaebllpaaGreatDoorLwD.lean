/-
  OWN WORK. Contracts: loudness.limit, way.next, Next, Ramp; media.Powers; slices.Clone; rundown.At.
-/
import Derived.Test.YtedgjnpaebllpaaGreatDoorLwA
set_option linter.unusedVariables false
set_option linter.unusedSimpArgs false
namespace Go.Proofs.YtedgjnpaebllpaaGreatDoor
open Go Go.Abs

def limI (g : Int) : Int := if (4000 : Int) < (if g < 250 then 250 else g) then 4000 else (if g < 250 then 250 else g)
theorem limI_bd (g : Int) : 250 ≤ limI g ∧ limI g ≤ 4000 := by unfold limI; split <;> split <;> omega
theorem limI_id (g : Int) (h : 250 ≤ g) (h' : g ≤ 4000) : limI g = g := by unfold limI; split <;> split <;> omega

theorem limit_pure (g : Int) : Pure Tryz.prog gl0 55 [I g] (I (limI g)) := by
  refine pureE code55 (fun _ _ _ => .junk) (by simp) ?_
  simp [sc55, rs55, limI]

def nxt (g t : Int) : Int := if g < t - 20 then g + 20 else if t + 20 < g then g - 20 else t
theorem nxt_bd (g t : Int) (h : 250 ≤ g ∧ g ≤ 4000) (h' : 250 ≤ t ∧ t ≤ 4000) : 250 ≤ nxt g t ∧ nxt g t ≤ 4000 := by
  unfold nxt; split
  · omega
  · split <;> omega
theorem nxt_self (t : Int) : nxt t t = t := by
  unfold nxt; split
  · omega
  · split <;> omega

theorem next1_pure (g t : Int) (h : 250 ≤ g ∧ g ≤ 4000) (h' : 250 ≤ t ∧ t ≤ 4000) : Pure Tryz.prog gl0 56 [.agg [I t], I g] (I (nxt g t)) := by
  refine pureE code56 (fun _ _ _ => .junk) (by simp) ?_
  have w1 : IntKind.i64.wrap (t - 20) = t - 20 := by rw [wrap_in] <;> omega
  have w2 : IntKind.i64.wrap (t + 20) = t + 20 := by rw [wrap_in] <;> omega
  have w3 : IntKind.i64.wrap (g + 20) = g + 20 := by rw [wrap_in] <;> omega
  have w4 : IntKind.i64.wrap (g - 20) = g - 20 := by rw [wrap_in] <;> omega
  by_cases h1 : g < t - 20
  · simp [sc56, rs56, w1, w2, w3, w4, h1, nxt]
  · by_cases h2 : t + 20 < g
    · simp [sc56, rs56, w1, w2, w3, w4, h1, h2, nxt]
    · simp [sc56, rs56, w1, w2, w3, w4, h1, h2, nxt]

def ramp (t : Int) : Nat → Int → Int
  | 0, g => g
  | k + 1, g => ramp t k (nxt g t)
theorem ramp_self (t : Int) : ∀ k, ramp t k t = t
  | 0 => rfl
  | k + 1 => by rw [ramp, nxt_self]; exact ramp_self t k
theorem ramp_bd (t : Int) (h' : 250 ≤ t ∧ t ≤ 4000) : ∀ k g, 250 ≤ g ∧ g ≤ 4000 → 250 ≤ ramp t k g ∧ ramp t k g ≤ 4000
  | 0, _, h => h
  | k + 1, g, h => ramp_bd t h' k _ (nxt_bd g t h h')

set_option maxRecDepth 100000 in
theorem ramp_pure (g t n : Int) (hn : n ≤ 9223372036854775000) : Pure Tryz.prog gl0 29 [I g, I t, I n] (I (ramp (limI t) n.toNat (limI g))) := by
  have h1 := limit_pure g
  have h2 := limit_pure t
  have bt := limI_bd t
  obtain ⟨N, hN⟩ : ∃ N : Nat, n.toNat = N := ⟨_, rfl⟩
  rw [hN]
  have hmx : max n 0 = (N : Int) := by omega
  have hmi : (if n < 0 then 0 else n) = (N : Int) := by split <;> omega
  refine pureE code29 (fun _ f l => match f, l with
    | 55, [.int _ a] => I (limI a)
    | 56, [.agg [.int _ b], .int _ a] => I (nxt a b)
    | _, _ => .junk) (by simp) ?_
  simp [sc29, rs29, hmx, hmi]
  refine ⟨h1, h2, ?_⟩
  refine vc_loopE [0, 18, 19, 20, 21, 22, 23, 24, 25, 26, 27] (fun f m => ∃ (i : Nat) (a : Int), i ≤ N ∧ f 18 = I i ∧ f 0 = I a ∧ (250 ≤ a ∧ a ≤ 4000) ∧ ramp (limI t) (N - i) a = ramp (limI t) N (limI g) ∧ m = ⟨[[I (limI t)]], [], fun _ => .gone, 0⟩) (fun f m => N - (numOf (f 18)).toNat) ?_ ?_
  · exact ⟨0, limI g, by omega, by simp, by simp, limI_bd g, by simp, rfl⟩
  · rintro f m ⟨i, a, hi, h18, h0, hb, hr, rfl⟩
    by_cases hin : i = N
    · have hlt : ¬ i < N := by omega
      rw [hin] at hr
      simp [ramp] at hr
      simp [h18, h0, hlt, hin, hr, hmx, hmi]
    · have hlt : i < N := by omega
      by_cases ha : a = limI t
      · have : ramp (limI t) (N - i) a = limI t := by rw [ha]; exact ramp_self _ _
        rw [this] at hr
        simp [h18, h0, hlt, ha, ← hr, hmx, hmi]
      · have hw : IntKind.i64.wrap ((i : Int) + 1) = ((i + 1 : Nat) : Int) := by rw [wrap_in] <;> omega
        have h3 := next1_pure a (limI t) hb bt
        have hs : N - i = (N - (i + 1)) + 1 := by omega
        rw [hs, ramp] at hr
        simp [h18, h0, hlt, ha, hw, hmx, hmi]
        refine ⟨h3, ag ?_, ⟨i + 1, by omega, by simp, nxt_bd a _ hb bt, hr⟩, by omega⟩
        repeat (first | exact agree_refl _ _ | refine agree_cons _ rfl ?_)

/-- media.Powers -/
theorem power1_pure (p : Pic) : Pure Tryz.prog gl0 73 [.agg (picRow p)] (I p.power) := by
  refine pureE code73 (fun _ _ _ => .junk) (by simp) ?_
  simp [sc73, rs73, picRow]

def powsAV (l : List Pic) : AV := .sl .ro (l.map fun p => [I p.power])

set_option maxRecDepth 100000 in
theorem column_pure (l : List Pic) (hl : l.length ≤ 1000000000) : Pure Tryz.prog gl0 72 [.sl .ro (l.map picRow), .fn 73 [] []] (powsAV l) := by
  refine pureE code72 (fun _ _ a => match a with | [.agg [_, _, x]] => x | _ => .junk) (by simp) ?_
  simp [sc72, rs72]
  refine ⟨by omega, ?_⟩
  refine vc_loopE [4, 5, 7, 13, 14, 15, 16, 17, 18, 19, 20, 21, 22, 23] (fun f m => ∃ (i : Nat) (B : List (List AV)), i ≤ l.length ∧ f 13 = I i ∧ f 5 = .sl (.own 0 1) ((l.take i).map fun p => [I p.power]) ∧ m = ⟨B, [i], fun _ => .gone, 0⟩) (fun f m => l.length - (numOf (f 13)).toNat) ?_ ?_
  · exact ⟨0, [], by omega, by simp, by simp, rfl⟩
  · rintro f m ⟨i, B, hi, h13, h5, rfl⟩
    rcases Nat.lt_or_ge i l.length with hlt | hge
    · obtain ⟨p, hp⟩ : ∃ p, l[i]? = some p := ⟨_, List.getElem?_eq_getElem hlt⟩
      have hrow : rowN (l.map picRow) i = picRow p := rowN_eq (by simp [hp])
      have hw : IntKind.i64.wrap ((i : Int) + 1) = ((i + 1 : Nat) : Int) := by rw [wrap_in] <;> omega
      have hp1 : Pure Tryz.prog gl0 73 [.agg [.bool p.key, .str p.data, I p.power]] (I p.power) := power1_pure p
      have htk : l.take (i + 1) = l.take i ++ [p] := by rw [List.take_add_one, hp]; rfl
      have hmin : min i l.length = i := by omega
      simp [h13, h5, hlt, hrow, picRow, hw, hmin]
      refine ⟨hp1, ⟨fun r hr => ?_, by omega⟩, ag ?_, ⟨i + 1, by omega, by simp, by rw [← List.map_take, ← List.map_take, htk]; simp⟩, by omega⟩
      · rcases hr with h | h
        · have := List.mem_of_mem_take h
          simp at this
          obtain ⟨_, _, rfl⟩ := this
          rfl
        · rw [h]; rfl
      repeat (first | exact agree_refl _ _ | refine agree_cons _ rfl ?_)
    · have : i = l.length := by omega
      subst this
      simp [h13, h5, powsAV]
end Go.Proofs.YtedgjnpaebllpaaGreatDoor
