/-
  OWN WORK. Contracts: captionstream.Code; Block of the two cues.
-/
import Derived.Test.YtedgjnpaebllpaaGreatDoorLwO2
set_option linter.unusedVariables false
set_option linter.unusedSimpArgs false
namespace Go.Proofs.YtedgjnpaebllpaaGreatDoor
open Go Go.Abs

/-- A sender's codes, one behind the other. -/
def iterS (blk : Cue → ByteArray) (l : List Cue) (first : Int) : Nat → ByteArray × St → ByteArray × St
  | 0, p => p
  | n + 1, p => let q := iterS blk l first n p; stepS blk (actv (first + n) l) q.2
def st0 (sees : Int) : St := ⟨sees, zCue, zCue, eB, 0⟩
def codeR (blk : Cue → ByteArray) (l : List Cue) (fr f : Int) : ByteArray :=
  if f ≤ fr then codeS 1 0 0 0 else
  if f - fr < 128 then (iterS blk l (fr + 1) (f - fr).toNat (codeS 1 0 0 0, st0 1)).1
  else (iterS blk l (f - (f - fr).tmod 128) ((f - fr).tmod 128 + 1).toNat (codeS 1 0 0 0, st0 0)).1

theorem st0_inv (n : Int) : InvS (st0 n) := ⟨⟨Int.le_refl 0, (by decide : (0 : Int) ≤ 1001)⟩, Nat.zero_le _, .inl rfl⟩

def orc28 : Nat → FuncId → List AV → AV := fun _ f a => if f = 39 then .str (codeS 1 0 0 0) else .gd false .junk

theorem sender_eff (Y : YT) (l : List Cue) (sees : Int) (K : AV → AM → Prop) (h : K (.fn 62 [] [.ptr 0 0, .ptr 4 0, .ptr 1 0, .ptr 2 0, .ptr 3 0, .ptr 5 0]) ⟨boxS .full l (st0 sees) [], [], fun _ => .gone, 0⟩) :
    EffY Tryz.prog gl0 Y 40 [.sl .full (l.map cueRow), I sees] ⟨[], [], fun _ => .gone, 0⟩ K := by
  refine effE code40 (fun _ _ _ => .junk) (by simp) ?_
  simp [sc40, rs40]
  exact h

theorem iterS_inv (blk : Cue → ByteArray) (l : List Cue) (hB : BlkOK blk l) (first : Int) (s : ByteArray) (st : St) (h : InvS st) : ∀ n, InvS (iterS blk l first n (s, st)).2
  | 0 => h
  | n + 1 => by
    simp only [iterS]
    refine stepS_inv blk l hB _ (fun c hc => ?_) _ (iterS_inv blk l hB first s st h n)
    rcases actv_mem _ l none c hc with h | h
    · cases h
    · exact h

def lp20 : SC := (.seq (.ops [⟨(some 42), (.bin .lss (.tmp 41) (.tmp 40)), none, []⟩]) (.seq (.cond (.tmp 42) .skip (.exit 0)) (.seq (.block 1 (.seq (.ops [⟨(some 43), (.mv (.tmp 41)), none, []⟩, ⟨(some 13), (.mv (.tmp 43)), none, []⟩]) (.ops [⟨(some 44), (.mv (.tmp 12)), none, []⟩, ⟨(some 45), (.mv (.tmp 11)), none, []⟩, ⟨(some 46), (.mv (.tmp 13)), none, []⟩, ⟨(some 47), (.bin .add (.tmp 45) (.tmp 46)), none, []⟩, ⟨(some 48), (.call (.tmp 44) [(.tmp 47)]), none, []⟩, ⟨(some 7), (.mv (.tmp 48)), none, []⟩]))) (.ops [⟨(some 49), (.bin .add (.tmp 41) (.const (.int .i64 1))), none, []⟩, ⟨(some 41), (.mv (.tmp 49)), none, []⟩]))))

set_option maxRecDepth 100000 in
set_option maxHeartbeats 2000000 in
theorem loop28 (blk : Cue → ByteArray) (l : List Cue) (hl : l.length ≤ 1000000000) (hB : BlkOK blk l) (first N : Int) (hf : 0 ≤ first ∧ first ≤ 2000000) (hN : 0 ≤ N ∧ N ≤ 2000000) (s : ByteArray) (st : St) (hI : InvS st) (E : List (Nat × AV)) (rest : List (List AV)) (Q : Exit → AS → Prop)
    (h41 : Abs.look E 41 = I 0) (h40 : Abs.look E 40 = I N) (h12 : Abs.look E 12 = .fn 62 [] [.ptr 0 0, .ptr 4 0, .ptr 1 0, .ptr 2 0, .ptr 3 0, .ptr 5 0]) (h11 : Abs.look E 11 = I first) (h7 : Abs.look E 7 = .str s)
    (hQ : ∀ E' m', Abs.look E' 7 = .str (iterS blk l first N.toNat (s, st)).1 → Q (.exit 0) ⟨envT 51 E', m'⟩) : vc Tryz.prog gl0 orc28 Y0 (.loop lp20) ⟨envT 51 E, ⟨boxS .full l st rest, [], fun _ => .gone, 0⟩⟩ Q := by
  refine vc_loopE [7, 13, 41, 42, 43, 44, 45, 46, 47, 48, 49] (fun g m => ∃ (i : Nat) (rest : List (List AV)), i ≤ N.toNat ∧ g 41 = I i ∧ g 7 = .str (iterS blk l first i (s, st)).1 ∧ m = ⟨boxS .full l (iterS blk l first i (s, st)).2 rest, [], fun _ => .gone, 0⟩) (fun g m => N.toNat - (numOf (g 41)).toNat) ?_ ?_
  · exact ⟨0, rest, by omega, by simp [h41], by simp [h7, iterS], rfl⟩
  · rintro g m ⟨i, rest, hi, hg41, hg7, rfl⟩
    have hIi := iterS_inv blk l hB first s st hI i
    by_cases hend : i = N.toNat
    · have hge : ¬ ((i : Int) < N) := by omega
      simp [lp20, hg41, h40, hge]
      exact hQ _ _ (by simp [hg7, hend])
    · have hlt : (i : Int) < N := by omega
      have w1 : IntKind.i64.wrap (first + (i : Int)) = first + i := by rw [wrap_in] <;> omega
      have w2 : IntKind.i64.wrap ((i : Int) + 1) = ((i + 1 : Nat) : Int) := by rw [wrap_in] <;> omega
      simp [lp20, hg41, h40, h11, h12, hlt, orc28, w1, w2]
      refine send_eff Y0 blk l .full rfl hl hB (first + i) _ hIi _ rest rfl _ fun rest' => ?_
      simp [w2]
      refine ⟨ag ?_, ⟨i + 1, by omega, by simp, by simp [iterS], rest', by simp [iterS]⟩, by omega⟩
      repeat (first | exact agree_refl _ _ | refine agree_cons _ rfl ?_)

set_option maxRecDepth 100000 in
set_option maxHeartbeats 2000000 in
theorem code28_pure (blk : Cue → ByteArray) (l : List Cue) (hl : l.length ≤ 1000000000) (hB : BlkOK blk l) (fr f : Int) (h1 : 0 ≤ fr) (h2 : fr ≤ 1000000) (h3 : 0 ≤ f) (h4 : f ≤ 1000000) :
    Pure Tryz.prog gl0 20 [.sl .full (l.map cueRow), I fr, I f] (.str (codeR blk l fr f)) := by
  have c1 := code_pure 1 0 0 0
  refine pureE code20 orc28 (by simp) ?_
  by_cases hle : f ≤ fr
  · simp [sc20, rs20, orc28, hle, codeR]
    exact c1
  · have u1 := wu f (by omega) (by omega)
    have u2 := wu fr (by omega) (by omega)
    have u3 := wu (f - fr) (by omega) (by omega)
    have htm : (f - fr).tmod 128 = (f - fr) % 128 := Int.tmod_eq_emod_of_nonneg (by omega)
    have w1 : IntKind.i64.wrap ((f - fr).tmod 128) = (f - fr).tmod 128 := by rw [htm, wrap_in] <;> omega
    have w2 : IntKind.i64.wrap (f - (f - fr).tmod 128) = f - (f - fr).tmod 128 := by rw [htm, wrap_in] <;> omega
    have w3 : IntKind.i64.wrap (fr + 1) = fr + 1 := by rw [wrap_in] <;> omega
    simp [sc20, rs20, orc28, hle, u1, u2, u3, w1, w2, w3]
    refine ⟨c1, ?_, ?_⟩
    · intro h
      have hN : IntKind.i64.wrap (IntKind.i64.wrap (f - (fr + 1)) + 1) = f - fr := by
        have e1 : IntKind.i64.wrap (f - (fr + 1)) = f - (fr + 1) := by rw [wrap_in] <;> omega
        rw [e1, wrap_in] <;> omega
      refine sender_eff Y0 l 1 _ ?_
      refine loop28 blk l hl hB (fr + 1) (f - fr) ⟨by omega, by omega⟩ ⟨by omega, by omega⟩ (codeS 1 0 0 0) (st0 1) (st0_inv 1) _ _ _ (by simp) (by simp [hN]) (by simp) (by simp) (by simp) fun E' m' h7 => ?_
      simp [h7, codeR, hle, h]
    · intro h
      have hN : IntKind.i64.wrap (IntKind.i64.wrap (f - (f - (f - fr).tmod 128)) + 1) = (f - fr).tmod 128 + 1 := by
        have e1 : IntKind.i64.wrap (f - (f - (f - fr).tmod 128)) = (f - fr).tmod 128 := by rw [htm, wrap_in] <;> omega
        rw [e1, htm, wrap_in] <;> omega
      have h' : ¬ f - fr < 128 := by omega
      refine sender_eff Y0 l 0 _ ?_
      refine loop28 blk l hl hB (f - (f - fr).tmod 128) ((f - fr).tmod 128 + 1) ⟨by rw [htm]; omega, by rw [htm]; omega⟩ ⟨by rw [htm]; omega, by rw [htm]; omega⟩ (codeS 1 0 0 0) (st0 0) (st0_inv 0) _ _ _ (by simp) (by simp [hN]) (by simp) (by simp) (by simp) fun E' m' h7 => ?_
      simp [h7, codeR, hle, h']

/-- The two cues of a program. -/
def tHi : ByteArray := ⟨#[72, 105]⟩
def tGood : ByteArray := ⟨#[71, 111, 111, 100, 32, 101, 118, 101, 110, 105, 110, 103]⟩
def bHi : ByteArray := ⟨#[7, 128, 235, 177, 161, 17, 72, 105]⟩
def bGood : ByteArray := ⟨#[17, 174, 190, 245, 154, 25, 71, 111, 111, 100, 32, 101, 118, 101, 110, 105, 110, 103]⟩
def lvlC : FuncId → Nat := fun f => bif Nat.beq f 999999 then 77 else 100
theorem rowsHi : Pure Tryz.prog gl0 77 [.str tHi] (.tup [.sl .ro [[.str tHi]], .bool true]) := pure_run tab_ok lvlC 3000 0 (by kernel_rfl) rfl
theorem rowsGood : Pure Tryz.prog gl0 77 [.str tGood] (.tup [.sl .ro [[.str tGood]], .bool true]) := pure_run tab_ok lvlC 3000 0 (by kernel_rfl) rfl
end Go.Proofs.YtedgjnpaebllpaaGreatDoor
