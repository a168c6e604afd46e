/-
  OWN WORK. The contract of the reference's Code (onairref16).
-/
import Derived.Test.YtedgjnpaebllpaaGreatDoorLzF
import Derived.Test.YtedgjnpaebllpaaGreatDoorLzE
set_option linter.unusedVariables false
set_option linter.unusedSimpArgs false
namespace Go.Proofs.YtedgjnpaebllpaaGreatDoor
open Go Go.Abs

def tl25 : SC := (.seq (.ops [⟨(some 9), (.mv (.const (.str ⟨#[]⟩))), none, []⟩]) (.seq (.seq (.ops [⟨(some 31), (.mv (.tmp 8)), none, []⟩, ⟨(some 10), (.mv (.tmp 31)), none, []⟩]) (.block 0 (.loop (.seq (.seq (.ops [⟨(some 32), (.mv (.tmp 10)), none, []⟩, ⟨(some 33), (.mv (.tmp 2)), none, []⟩, ⟨(some 34), (.bin .leq (.tmp 32) (.tmp 33)), none, []⟩]) (.cond (.tmp 34) .skip (.exit 0))) (.seq (.block 1 (.ops [⟨(some 37), (.mv (.tmp 7)), none, []⟩, ⟨(some 38), (.mv (.tmp 0)), none, []⟩, ⟨(some 39), (.mv (.tmp 10)), none, []⟩, ⟨(some 40), (.call (.func 49) [(.tmp 37), (.tmp 38), (.tmp 39)]), none, []⟩, ⟨(some 9), (.mv (.tmp 40)), none, []⟩])) (.ops [⟨(some 35), (.mv (.tmp 10)), none, []⟩, ⟨(some 36), (.bin .add (.tmp 35) (.const (.int .i64 1))), none, []⟩, ⟨(some 10), (.mv (.tmp 36)), none, []⟩])))))) (.seq (.ops [⟨(some 41), (.mv (.tmp 9)), none, []⟩, ⟨(some 6), (.mv (.tmp 41)), none, []⟩]) .ret)))
def hd25 (t : SC) : SC := (.seq (.ops [⟨(some 6), (.mv (.const (.str ⟨#[]⟩))), none, []⟩]) (.seq (.seq (.ops [⟨(some 11), (.mv (.tmp 2)), none, []⟩, ⟨(some 12), (.mv (.tmp 1)), none, []⟩, ⟨(some 13), (.bin .leq (.tmp 11) (.tmp 12)), none, []⟩]) (.cond (.tmp 13) (.seq (.ops [⟨(some 6), (.mv (.const (.str ⟨#[64, 0, 0]⟩))), none, []⟩]) .ret) .skip)) (.seq (.ops [⟨(some 14), (.build [(.int .i64 0), (.int .i64 0), (.int .i64 0), (.int .i64 0), (.int .i64 0), (.str ⟨#[]⟩), (.int .i64 0), (.int .i64 0), (.int .i64 0), (.int .i64 0), (.str ⟨#[]⟩), (.int .i64 0)] []), none, []⟩, ⟨(some 15), (.box (.tmp 14)), none, []⟩, ⟨(some 7), (.mv (.tmp 15)), none, []⟩]) (.seq (.ops [⟨(some 16), (.mv (.tmp 1)), none, []⟩, ⟨(some 17), (.mv (.tmp 2)), none, []⟩, ⟨(some 18), (.mv (.tmp 1)), none, []⟩, ⟨(some 19), (.bin .sub (.tmp 17) (.tmp 18)), none, []⟩, ⟨(some 20), (.bin .quo (.tmp 19) (.const (.int .i64 128))), none, []⟩, ⟨(some 21), (.bin .mul (.tmp 20) (.const (.int .i64 128))), none, []⟩, ⟨(some 22), (.bin .add (.tmp 16) (.tmp 21)), none, []⟩, ⟨(some 8), (.mv (.tmp 22)), none, []⟩]) (.seq (.seq (.ops [⟨(some 23), (.mv (.tmp 8)), none, []⟩, ⟨(some 24), (.mv (.tmp 1)), none, []⟩, ⟨(some 25), (.bin .eql (.tmp 23) (.tmp 24)), none, []⟩]) (.cond (.tmp 25) (.seq (.ops [⟨(some 26), (.mv (.tmp 7)), none, []⟩, ⟨(some 27), (.nilc (.tmp 26)), none, []⟩, ⟨(some 28), (.faddr 0 (.tmp 27)), none, []⟩, ⟨none, (.store 1 (.tmp 28) (.const (.int .i64 1))), none, []⟩]) (.ops [⟨(some 29), (.mv (.tmp 8)), none, []⟩, ⟨(some 30), (.bin .add (.tmp 29) (.const (.int .i64 1))), none, []⟩, ⟨(some 8), (.mv (.tmp 30)), none, []⟩])) .skip)) t)))))
theorem sc25_eq : sc25 = hd25 tl25 := rfl
def orc25 : Nat → FuncId → List AV → AV := fun _ _ _ => .gd false .junk

set_option maxRecDepth 100000 in
set_option maxHeartbeats 2000000 in
theorem loop25 (blk : Cue → ByteArray) (l : List Cue) (hl : l.length ≤ 1000000000) (hBO : BlkOK blk l) (hB : ∀ c ∈ l, Pure Tryz.prog gl0 69 [.agg (cueRow c)] (.tup [.str (blk c), I 0])) (first N f : Int) (hf : -2000000 ≤ first ∧ first ≤ 2000000) (hN : 1 ≤ N ∧ N ≤ 2000000) (hfN : first + N = f + 1) (s0 : ByteArray) (sees : Int) (E : List (Nat × AV))
    (h0 : Abs.look E 0 = .sl .full (l.map cueRow)) (h2 : Abs.look E 2 = I f) (h7 : Abs.look E 7 = .ptr 0 0) (h8 : Abs.look E 8 = I first) :
    vc Tryz.prog gl0 orc25 Y0 tl25 ⟨envT 42 E, ⟨[sRow sees zCue zCue 0], [], fun _ => .gone, 0⟩⟩ (post Tryz.prog gl0 orc25 rs25 (.str (iterS blk l first N.toNat (s0, st0 sees)).1)) := by
  simp [tl25, h0, h2, h7, h8]
  refine vc_loopE [9, 10, 32, 33, 34, 35, 36, 37, 38, 39, 40]
    (fun g m => ∃ (i : Nat) (rest : List (List AV)) (a : Int) (sh bl : Cue) (n : Nat) (s : ByteArray), i ≤ N.toNat ∧ g 10 = I (first + i) ∧ g 9 = .str s ∧ (0 < i → s = (iterS blk l first i (s0, st0 sees)).1) ∧ RelS blk (iterS blk l first i (s0, st0 sees)).2 a sh bl n ∧ m = ⟨sRow a sh bl n :: rest, [], fun _ => .gone, 0⟩) (fun g _ => (first + N - numOf (g 10)).toNat) ?_ ?_
  · exact ⟨0, [], sees, zCue, zCue, 0, ⟨#[]⟩, by omega, by simp, by simp, fun h => absurd h (by omega), relS0 blk sees, rfl⟩
  · rintro g m ⟨i, rest, a, sh, bl, n, s, hi, h10, h9, hs, hR, rfl⟩
    have hIi := iterS_inv blk l hBO first s0 (st0 sees) (st0_inv sees) i
    by_cases hend : i = N.toNat
    · have hge : ¬ (first + (i : Int) ≤ f) := by omega
      have hs' := hs (by omega)
      simp [h10, h9, h2, hge, rs25]
      rw [hs', hend]
    · have hlt : first + (i : Int) ≤ f := by omega
      have w2 : IntKind.i64.wrap (first + (i : Int) + 1) = first + ((i + 1 : Nat) : Int) := by rw [wrap_in] <;> omega
      have hact := ractive_pure l .full (first + i) hl
      simp [h10, h9, h0, h2, h7, hlt, orc25]
      refine rsend_eff Y0 blk l (first + i) hact (fun c hc => ⟨(hBO c hc).1, hB c hc⟩) rblockZ_pure _ hIi a sh bl n hR rest _ _ _ _ ?_
      intro a' sh' bl' m' rest' hR'
      simp [w2]
      refine ⟨ag ?_, ⟨i + 1, by omega, by omega, by simp [iterS], rest', a', sh', bl', m', by simpa [iterS] using hR', ⟨rfl, rfl⟩⟩, by omega⟩
      repeat (first | exact agree_refl _ _ | refine agree_cons _ rfl ?_)

set_option maxRecDepth 100000 in
set_option maxHeartbeats 2000000 in
theorem rcode_pure (blk : Cue → ByteArray) (l : List Cue) (hl : l.length ≤ 1000000000) (hBO : BlkOK blk l) (hB : ∀ c ∈ l, Pure Tryz.prog gl0 69 [.agg (cueRow c)] (.tup [.str (blk c), I 0])) (fr f : Int) (h1 : 0 ≤ fr) (h2 : fr ≤ 1000000) (h3 : 0 ≤ f) (h4 : f ≤ 1000000) :
    Pure Tryz.prog gl0 25 [.sl .full (l.map cueRow), I fr, I f] (.str (codeR blk l fr f)) := by
  refine pureE code25 orc25 (by simp) ?_
  rw [sc25_eq]
  by_cases hle : f ≤ fr
  · have hc : codeR blk l fr f = ⟨#[64, 0, 0]⟩ := by simp only [codeR, hle, if_true, code1]
    rw [hc]
    simp [hd25, rs25, hle]
  · have htm : (f - fr).tmod 128 = (f - fr) % 128 := Int.tmod_eq_emod_of_nonneg (by omega)
    have htd : (f - fr).tdiv 128 = (f - fr) / 128 := Int.tdiv_eq_ediv_of_nonneg (by omega)
    have w1 : IntKind.i64.wrap (f - fr) = f - fr := by rw [wrap_in] <;> omega
    have w2 : IntKind.i64.wrap ((f - fr).tdiv 128) = (f - fr) / 128 := by rw [htd, wrap_in] <;> omega
    have w3 : IntKind.i64.wrap ((f - fr) / 128 * 128) = (f - fr) / 128 * 128 := by rw [wrap_in] <;> omega
    have w4 : IntKind.i64.wrap (fr + (f - fr) / 128 * 128) = fr + (f - fr) / 128 * 128 := by rw [wrap_in] <;> omega
    by_cases hs : f - fr < 128
    · have hq : (f - fr) / 128 = 0 := by omega
      have w5 : IntKind.i64.wrap (fr + 1) = fr + 1 := by rw [wrap_in] <;> omega
      have w6 : IntKind.i64.wrap fr = fr := by rw [wrap_in] <;> omega
      have w0 : IntKind.i64.wrap 0 = 0 := by rw [wrap_in] <;> omega
      have hc : codeR blk l fr f = (iterS blk l (fr + 1) (f - fr).toNat (codeS 1 0 0 0, st0 1)).1 := by simp only [codeR, hle, hs, if_true, if_false]
      rw [hc]
      simp [hd25, hle, w1, w2, hq, w0, w6, w5]
      refine loop25 blk l hl hBO hB (fr + 1) (f - fr) f ⟨by omega, by omega⟩ ⟨by omega, by omega⟩ (by omega) _ 1 _ ?_ ?_ ?_ ?_ <;> simp
    · have hq : ¬ fr + (f - fr) / 128 * 128 = fr := by omega
      have hfirst : fr + (f - fr) / 128 * 128 = f - (f - fr) % 128 := by omega
      have hc : codeR blk l fr f = (iterS blk l (f - (f - fr) % 128) ((f - fr) % 128 + 1).toNat (codeS 1 0 0 0, st0 0)).1 := by simp only [codeR, hle, hs, if_false, htm]
      rw [hc]
      have hq' : ¬ (f - fr) / 128 = 0 := by omega
      simp [hd25, hle, w1, w2, w3, w4, hq, hq']
      refine loop25 blk l hl hBO hB (f - (f - fr) % 128) ((f - fr) % 128 + 1) f ⟨by omega, by omega⟩ ⟨by omega, by omega⟩ (by omega) _ 0 _ ?_ ?_ ?_ ?_ <;> simp [hfirst]
end Go.Proofs.YtedgjnpaebllpaaGreatDoor
