/-
  OWN WORK. Contracts: caption.Valid, captionstream.Block of the two cues of a program; what Code says of them.
-/
import Derived.Test.YtedgjnpaebllpaaGreatDoorLwO3
import Derived.Test.YtedgjnpaebllpaaGreatDoorLwJ
set_option linter.unusedVariables false
set_option linter.unusedSimpArgs false
namespace Go.Proofs.YtedgjnpaebllpaaGreatDoor
open Go Go.Abs

theorem joinHi : Pure Tryz.prog gl0 78 [.sl .ro [[.str tHi]], .str ⟨#[10]⟩] (.str tHi) := pure_run tab_ok lvlC 300 0 (by kernel_rfl) rfl
theorem joinGood : Pure Tryz.prog gl0 78 [.sl .ro [[.str tGood]], .str ⟨#[10]⟩] (.str tGood) := pure_run tab_ok lvlC 300 0 (by kernel_rfl) rfl
theorem sumHi : Pure Tryz.prog gl0 80 [.str tHi] (I 2316712640) := pure_run tab_ok lvlC 3000 0 (by kernel_rfl) rfl
theorem putHi : Pure Tryz.prog gl0 79 [I 2316712640] (.tup [.str ⟨#[128, 235, 177, 161, 17]⟩, I 0]) := pure_run tab_ok lvlC 3000 0 (by kernel_rfl) rfl
theorem sumGood : ∃ n : Int, Pure Tryz.prog gl0 80 [.str tGood] (I n) ∧ Pure Tryz.prog gl0 79 [I n] (.tup [.str ⟨#[174, 190, 245, 154, 25]⟩, I 0]) :=
  ⟨3383668631, pure_run tab_ok lvlC 3000 0 (by kernel_rfl) rfl, pure_run tab_ok lvlC 3000 0 (by kernel_rfl) rfl⟩

set_option maxRecDepth 100000 in
theorem valid_pure (c : Cue) (R : List (List AV)) (hr : Pure Tryz.prog gl0 77 [.str c.tx] (.tup [.sl .ro R, .bool true])) (h1 : 1 ≤ c.id ∧ c.id ≤ 1000) (h2 : 0 ≤ c.fr) (h3 : c.fr < c.to) (h4 : c.to ≤ 1000000) (h5 : 0 ≤ c.pr ∧ c.pr ≤ 3) :
    Pure Tryz.prog gl0 76 [.agg (cueRow c)] (.bool true) := by
  refine pureE code76 (fun _ _ _ => .tup [.sl .ro R, .bool true]) (by simp) ?_
  have e1 : ¬ c.id < 1 := by omega
  have e2 : ¬ 4611686018427387903 < c.id := by omega
  have e3 : ¬ c.to = 0 := by omega
  have e4 : ¬ c.fr < 0 := by omega
  have e5 : ¬ c.to ≤ c.fr := by omega
  have e6 : ¬ 100000000 < c.to := by omega
  have e7 : ¬ c.pr < 0 := by omega
  have e8 : ¬ 3 < c.pr := by omega
  simp [-eqFs, -eqF, sc76, rs76, cueRow, e1, e2, e3, e4, e5, e6, e7, e8]
  exact hr

set_option maxRecDepth 100000 in
theorem block_pure (c : Cue) (S : Int) (p : ByteArray) (hp : p.size = 5) (hx : c.tx.size ≤ 50) (hv : Pure Tryz.prog gl0 76 [.agg (cueRow c)] (.bool true)) (hr : Pure Tryz.prog gl0 77 [.str c.tx] (.tup [.sl .ro [[.str c.tx]], .bool true]))
    (hj : Pure Tryz.prog gl0 78 [.sl .ro [[.str c.tx]], .str ⟨#[10]⟩] (.str c.tx)) (hs : Pure Tryz.prog gl0 80 [.str c.tx] (I S)) (hq : Pure Tryz.prog gl0 79 [I S] (.tup [.str p, I 0])) :
    Pure Tryz.prog gl0 64 [.agg (cueRow c)] (.tup [.str (⟨#[UInt8.ofNat (IntKind.u8.wrap ((5 : Int) + c.tx.size)).toNat]⟩ ++ p ++ c.tx), I 0]) := by
  refine pureE code64 (fun _ f _ => if f = 76 then .bool true else if f = 77 then .tup [.sl .ro [[.str c.tx]], .bool true] else if f = 78 then .str c.tx else if f = 80 then I S else .tup [.str p, I 0]) (by simp) ?_
  have w1 : IntKind.i64.wrap ((5 : Int) + c.tx.size) = 5 + c.tx.size := by rw [wrap_in] <;> omega
  have w2 : IntKind.i64.wrap ((5 : Int) + c.tx.size + 1) = 5 + c.tx.size + 1 := by rw [wrap_in] <;> omega
  have e1 : ¬ (96 : Int) < 5 + c.tx.size + 1 := by omega
  have e2 : (#[UInt8.ofNat (IntKind.u8.wrap ((5 : Int) + c.tx.size)).toNat] : Array UInt8).size + p.size + c.tx.size ≤ 9223372036854775807 := by simp; omega
  simp only [cueRow] at hv
  simp [sc64, rs64, cueRow, hp, w1, w2, e1]
  exact ⟨hv, hr, hj, hs, hq, (show (1 : Nat) ≤ 9223372036854775802 by omega), (show 1 + 5 + c.tx.size ≤ 9223372036854775807 by omega)⟩

def cue1 (d : Int) : Cue := ⟨1, pickI d 100, pickI d 100 + 40, 0, tHi⟩
def cue2 (c : Int) : Cue := ⟨2, pickI c 150, pickI c 150 + 60, 1, tGood⟩
def cues (c d : Int) : List Cue := [cue1 d, cue2 c]
def blkF (c : Cue) : ByteArray := if c.id = 1 then bHi else bGood
theorem cues_ok (c d : Int) : BlkOK blkF (cues c d) := by
  intro x hx
  have b1 := pickI_bd' d 100 (by omega)
  have b2 := pickI_bd' c 150 (by omega)
  simp only [cues, List.mem_cons, List.not_mem_nil, or_false] at hx
  rcases hx with rfl | rfl
  · refine ⟨⟨(by decide : 0 < 8), (by decide : 8 ≤ 1000)⟩, ?_⟩
    have h := block_pure (cue1 d) _ _ rfl (by decide : 2 ≤ 50) (valid_pure (cue1 d) _ rowsHi ⟨(by decide : (1 : Int) ≤ 1), (by decide : (1 : Int) ≤ 1000)⟩ b1.1 (show pickI d 100 < pickI d 100 + 40 by omega) (show pickI d 100 + 40 ≤ 1000000 by omega) ⟨(by decide : (0 : Int) ≤ 0), (by decide : (0 : Int) ≤ 3)⟩) rowsHi joinHi sumHi putHi
    have e : (⟨#[UInt8.ofNat (IntKind.u8.wrap ((5 : Int) + (cue1 d).tx.size)).toNat]⟩ ++ ⟨#[128, 235, 177, 161, 17]⟩ ++ (cue1 d).tx : ByteArray) = bHi := by
      show (⟨#[UInt8.ofNat (IntKind.u8.wrap ((5 : Int) + (2 : Nat))).toNat]⟩ ++ ⟨#[128, 235, 177, 161, 17]⟩ ++ tHi : ByteArray) = bHi
      decide +kernel
    rw [e] at h
    exact h
  · obtain ⟨n, h1, h2⟩ := sumGood
    refine ⟨⟨(by decide : 0 < 18), (by decide : 18 ≤ 1000)⟩, ?_⟩
    have h := block_pure (cue2 c) _ _ rfl (by decide : 12 ≤ 50) (valid_pure (cue2 c) _ rowsGood ⟨(by decide : (1 : Int) ≤ 2), (by decide : (2 : Int) ≤ 1000)⟩ b2.1 (show pickI c 150 < pickI c 150 + 60 by omega) (show pickI c 150 + 60 ≤ 1000000 by omega) ⟨(by decide : (0 : Int) ≤ 1), (by decide : (1 : Int) ≤ 3)⟩) rowsGood joinGood h1 h2
    have e : (⟨#[UInt8.ofNat (IntKind.u8.wrap ((5 : Int) + (cue2 c).tx.size)).toNat]⟩ ++ ⟨#[174, 190, 245, 154, 25]⟩ ++ (cue2 c).tx : ByteArray) = bGood := by
      show (⟨#[UInt8.ofNat (IntKind.u8.wrap ((5 : Int) + (12 : Nat))).toNat]⟩ ++ ⟨#[174, 190, 245, 154, 25]⟩ ++ tGood : ByteArray) = bGood
      decide +kernel
    rw [e] at h
    exact h
end Go.Proofs.YtedgjnpaebllpaaGreatDoor
