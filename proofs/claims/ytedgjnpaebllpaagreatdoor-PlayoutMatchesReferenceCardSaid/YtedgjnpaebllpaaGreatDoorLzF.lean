/-
  OWN WORK. The contract of the reference's sender of captions (onairref16).
-/
import Derived.Test.YtedgjnpaebllpaaGreatDoorLwO3
set_option linter.unusedVariables false
set_option linter.unusedSimpArgs false
namespace Go.Proofs.YtedgjnpaebllpaaGreatDoor
open Go Go.Abs

def tb49 : SC := (.seq (.ops [⟨(some 116), (.mv (.tmp 0)), none, []⟩, ⟨(some 117), (.load true 5 (.tmp 7)), none, []⟩, ⟨(some 118), (.nilc (.tmp 116)), none, []⟩, ⟨(some 119), (.faddr 6 (.tmp 118)), none, []⟩, ⟨none, (.store 5 (.tmp 119) (.tmp 117)), none, []⟩]) (.seq (.ops [⟨(some 120), (.mv (.tmp 0)), none, []⟩, ⟨(some 121), (.nilc (.tmp 120)), none, []⟩, ⟨(some 122), (.faddr 11 (.tmp 121)), none, []⟩, ⟨(some 123), (.load false 1 (.tmp 122)), none, []⟩, ⟨(some 124), (.bin .add (.tmp 123) (.const (.int .i64 1))), none, []⟩, ⟨(some 125), (.nilc (.tmp 120)), none, []⟩, ⟨(some 126), (.faddr 11 (.tmp 125)), none, []⟩, ⟨none, (.store 1 (.tmp 126) (.tmp 124)), none, []⟩]) (.seq (.seq (.ops [⟨(some 127), (.mv (.tmp 0)), none, []⟩, ⟨(some 128), (.nilc (.tmp 127)), none, []⟩, ⟨(some 129), (.faddr 11 (.tmp 128)), none, []⟩, ⟨(some 130), (.load false 1 (.tmp 129)), none, []⟩, ⟨(some 131), (.bin .mul (.const (.int .i64 2)) (.tmp 130)), none, []⟩, ⟨(some 132), (.mv (.tmp 9)), none, []⟩, ⟨(some 133), (.lenS (.tmp 132)), none, []⟩, ⟨(some 134), (.bin .geq (.tmp 131) (.tmp 133)), none, []⟩]) (.cond (.tmp 134) (.seq (.ops [⟨(some 135), (.mv (.tmp 0)), none, []⟩, ⟨(some 136), (.nilc (.tmp 135)), none, []⟩, ⟨(some 137), (.faddr 0 (.tmp 136)), none, []⟩, ⟨none, (.store 1 (.tmp 137) (.const (.int .i64 2))), none, []⟩]) (.seq (.ops [⟨(some 138), (.mv (.tmp 0)), none, []⟩, ⟨(some 139), (.load true 5 (.tmp 7)), none, []⟩, ⟨(some 140), (.nilc (.tmp 138)), none, []⟩, ⟨(some 141), (.faddr 1 (.tmp 140)), none, []⟩, ⟨none, (.store 5 (.tmp 141) (.tmp 139)), none, []⟩]) (.ops [⟨(some 142), (.mv (.tmp 0)), none, []⟩, ⟨(some 143), (.nilc (.tmp 142)), none, []⟩, ⟨(some 144), (.faddr 11 (.tmp 143)), none, []⟩, ⟨none, (.store 1 (.tmp 144) (.const (.int .i64 0))), none, []⟩]))) .skip)) (.seq (.ops [⟨(some 145), (.mv (.tmp 11)), none, []⟩, ⟨(some 146), (.b2s (.tmp 145)), none, []⟩, ⟨(some 6), (.mv (.tmp 146)), none, []⟩]) .ret))))
def ta49 (t : SC) : SC := (.seq (.ops [⟨(some 73), (.mv (.tmp 0)), none, []⟩, ⟨(some 74), (.nilc (.tmp 73)), none, []⟩, ⟨(some 75), (.faddr 11 (.tmp 74)), none, []⟩, ⟨(some 76), (.load false 1 (.tmp 75)), none, []⟩, ⟨(some 77), (.bin .add (.const (.int .i64 192)) (.tmp 76)), none, []⟩, ⟨(some 78), (.conv .u8 (.tmp 77)), none, []⟩, ⟨(some 79), (.bsl 1 3 [(0, (.tmp 78)), (1, (.const (.int .u8 0))), (2, (.const (.int .u8 0)))]), none, []⟩, ⟨(some 11), (.mv (.tmp 79)), none, []⟩]) (.seq (.seq (.ops [⟨(some 80), (.mv (.tmp 0)), none, []⟩, ⟨(some 81), (.nilc (.tmp 80)), none, []⟩, ⟨(some 82), (.faddr 11 (.tmp 81)), none, []⟩, ⟨(some 83), (.load false 1 (.tmp 82)), none, []⟩, ⟨(some 84), (.bin .eql (.tmp 83) (.const (.int .i64 0))), none, []⟩]) (.cond (.tmp 84) (.ops [⟨(some 85), (.mv (.tmp 11)), none, []⟩, ⟨(some 86), (.iaddr 1 (.tmp 85) (.const (.int .i64 0))), none, []⟩, ⟨none, (.store 1 (.tmp 86) (.const (.int .u8 128))), none, []⟩]) .skip)) (.seq (.seq (.ops [⟨(some 12), (.mv (.const (.int .i64 0))), none, []⟩]) (.block 0 (.loop (.seq (.seq (.ops [⟨(some 87), (.mv (.tmp 12)), none, []⟩, ⟨(some 88), (.bin .lss (.tmp 87) (.const (.int .i64 2))), none, []⟩, ⟨(some 89), (.mv (.tmp 88)), none, []⟩, ⟨(some 90), (.mv (.tmp 0)), (some ((some 89), true)), [(.tmp 0)]⟩, ⟨(some 91), (.nilc (.tmp 90)), (some ((some 89), true)), [(.tmp 90)]⟩, ⟨(some 92), (.faddr 11 (.tmp 91)), (some ((some 89), true)), [(.tmp 91)]⟩, ⟨(some 93), (.load false 1 (.tmp 92)), (some ((some 89), true)), [(.tmp 92)]⟩, ⟨(some 94), (.bin .mul (.const (.int .i64 2)) (.tmp 93)), (some ((some 89), true)), [(.const (.int .i64 2)), (.tmp 93)]⟩, ⟨(some 95), (.mv (.tmp 12)), (some ((some 89), true)), [(.tmp 12)]⟩, ⟨(some 96), (.bin .add (.tmp 94) (.tmp 95)), (some ((some 89), true)), [(.tmp 94), (.tmp 95)]⟩, ⟨(some 97), (.mv (.tmp 9)), (some ((some 89), true)), [(.tmp 9)]⟩, ⟨(some 98), (.lenS (.tmp 97)), (some ((some 89), true)), [(.tmp 97)]⟩, ⟨(some 99), (.bin .lss (.tmp 96) (.tmp 98)), (some ((some 89), true)), [(.tmp 96), (.tmp 98)]⟩, ⟨(some 100), (.pick (.tmp 89) (.tmp 99) (.const (.bool false))), none, []⟩]) (.cond (.tmp 100) .skip (.exit 0))) (.seq (.block 1 (.ops [⟨(some 103), (.mv (.tmp 11)), none, []⟩, ⟨(some 104), (.mv (.tmp 12)), none, []⟩, ⟨(some 105), (.bin .add (.const (.int .i64 1)) (.tmp 104)), none, []⟩, ⟨(some 106), (.mv (.tmp 9)), none, []⟩, ⟨(some 107), (.mv (.tmp 0)), none, []⟩, ⟨(some 108), (.nilc (.tmp 107)), none, []⟩, ⟨(some 109), (.faddr 11 (.tmp 108)), none, []⟩, ⟨(some 110), (.load false 1 (.tmp 109)), none, []⟩, ⟨(some 111), (.bin .mul (.const (.int .i64 2)) (.tmp 110)), none, []⟩, ⟨(some 112), (.mv (.tmp 12)), none, []⟩, ⟨(some 113), (.bin .add (.tmp 111) (.tmp 112)), none, []⟩, ⟨(some 114), (.idxS (.tmp 106) (.tmp 113)), none, []⟩, ⟨(some 115), (.iaddr 1 (.tmp 103) (.tmp 105)), none, []⟩, ⟨none, (.store 1 (.tmp 115) (.tmp 114)), none, []⟩])) (.ops [⟨(some 101), (.mv (.tmp 12)), none, []⟩, ⟨(some 102), (.bin .add (.tmp 101) (.const (.int .i64 1))), none, []⟩, ⟨(some 12), (.mv (.tmp 102)), none, []⟩])))))) t)))
def hd49 (t : SC) : SC := (.seq (.ops [⟨(some 6), (.mv (.const (.str ⟨#[]⟩))), none, []⟩]) (.seq (.ops [⟨(some 14), (.mv (.tmp 1)), none, []⟩, ⟨(some 15), (.mv (.tmp 2)), none, []⟩, ⟨(some 16), (.call (.func 68) [(.tmp 14), (.tmp 15)]), none, []⟩, ⟨(some 13), (.mv (.tmp 16)), none, []⟩, ⟨(some 17), (.ext (.tmp 13) 0), none, []⟩, ⟨(some 18), (.ext (.tmp 13) 1), none, []⟩, ⟨(some 7), (.alloc [(.int .i64 0), (.int .i64 0), (.int .i64 0), (.int .i64 0), (.str ⟨#[]⟩)]), none, []⟩, ⟨none, (.store 5 (.tmp 7) (.tmp 17)), none, []⟩, ⟨(some 8), (.mv (.tmp 18)), none, []⟩]) (.seq (.ops [⟨(some 20), (.load true 5 (.tmp 7)), none, []⟩, ⟨(some 21), (.call (.func 69) [(.tmp 20)]), none, []⟩, ⟨(some 19), (.mv (.tmp 21)), none, []⟩, ⟨(some 22), (.ext (.tmp 19) 0), none, []⟩, ⟨(some 23), (.ext (.tmp 19) 1), none, []⟩, ⟨(some 9), (.mv (.tmp 22)), none, []⟩, ⟨(some 10), (.mv (.tmp 23)), none, []⟩]) (.seq (.seq (.ops [⟨(some 24), (.mv (.tmp 8)), none, []⟩, ⟨(some 25), (.un .not (.tmp 24)), none, []⟩, ⟨(some 26), (.mv (.tmp 25)), none, []⟩, ⟨(some 27), (.mv (.tmp 10)), (some ((some 26), false)), [(.tmp 10)]⟩, ⟨(some 28), (.bin .neq (.tmp 27) (.const (.int .i64 0))), (some ((some 26), false)), [(.tmp 27), (.const (.int .i64 0))]⟩, ⟨(some 29), (.pick (.tmp 26) (.const (.bool true)) (.tmp 28)), none, []⟩]) (.cond (.tmp 29) (.seq (.ops [⟨(some 30), (.mv (.tmp 0)), none, []⟩, ⟨(some 31), (.nilc (.tmp 30)), none, []⟩, ⟨(some 32), (.faddr 11 (.tmp 31)), none, []⟩, ⟨none, (.store 1 (.tmp 32) (.const (.int .i64 0))), none, []⟩]) (.seq (.seq (.ops [⟨(some 33), (.mv (.tmp 0)), none, []⟩, ⟨(some 34), (.nilc (.tmp 33)), none, []⟩, ⟨(some 35), (.faddr 0 (.tmp 34)), none, []⟩, ⟨(some 36), (.load false 1 (.tmp 35)), none, []⟩, ⟨(some 37), (.bin .eql (.tmp 36) (.const (.int .i64 1))), none, []⟩]) (.cond (.tmp 37) (.seq (.ops [⟨(some 6), (.mv (.const (.str ⟨#[0, 0, 0]⟩))), none, []⟩]) .ret) .skip)) (.seq (.ops [⟨(some 38), (.mv (.tmp 0)), none, []⟩, ⟨(some 39), (.nilc (.tmp 38)), none, []⟩, ⟨(some 40), (.faddr 0 (.tmp 39)), none, []⟩, ⟨none, (.store 1 (.tmp 40) (.const (.int .i64 1))), none, []⟩]) (.seq (.ops [⟨(some 6), (.mv (.const (.str ⟨#[64, 0, 0]⟩))), none, []⟩]) .ret)))) .skip)) (.seq (.seq (.draw [⟨(some 41), (.mv (.tmp 0)), none, []⟩, ⟨(some 42), (.nilc (.tmp 41)), none, []⟩, ⟨(some 43), (.faddr 0 (.tmp 42)), none, []⟩, ⟨(some 44), (.load false 1 (.tmp 43)), none, []⟩, ⟨(some 45), (.bin .eql (.tmp 44) (.const (.int .i64 2))), none, []⟩, ⟨(some 46), (.mv (.tmp 45)), none, []⟩, ⟨(some 47), (.mv (.tmp 0)), (some ((some 46), true)), [(.tmp 0)]⟩, ⟨(some 48), (.nilc (.tmp 47)), (some ((some 46), true)), [(.tmp 47)]⟩, ⟨(some 49), (.faddr 1 (.tmp 48)), (some ((some 46), true)), [(.tmp 48)]⟩, ⟨(some 50), (.load true 5 (.tmp 49)), (some ((some 46), true)), [(.tmp 49)]⟩, ⟨(some 51), (.load true 5 (.tmp 7)), (some ((some 46), true)), [(.tmp 7)]⟩] [⟨(some 52), (.eqA false [1, 1, 1, 1, 2] (.tmp 50) (.tmp 51)), (some ((some 46), true)), [(.tmp 50), (.tmp 51)]⟩, ⟨(some 53), (.pick (.tmp 46) (.tmp 52) (.const (.bool false))), none, []⟩]) (.cond (.tmp 53) (.seq (.ops [⟨(some 54), (.mv (.tmp 0)), none, []⟩, ⟨(some 55), (.nilc (.tmp 54)), none, []⟩, ⟨(some 56), (.faddr 11 (.tmp 55)), none, []⟩, ⟨none, (.store 1 (.tmp 56) (.const (.int .i64 0))), none, []⟩]) (.seq (.ops [⟨(some 6), (.mv (.const (.str ⟨#[0, 0, 0]⟩))), none, []⟩]) .ret)) .skip)) (.seq (.seq (.draw [⟨(some 57), (.mv (.tmp 0)), none, []⟩, ⟨(some 58), (.nilc (.tmp 57)), none, []⟩, ⟨(some 59), (.faddr 11 (.tmp 58)), none, []⟩, ⟨(some 60), (.load false 1 (.tmp 59)), none, []⟩, ⟨(some 61), (.bin .gtr (.tmp 60) (.const (.int .i64 0))), none, []⟩, ⟨(some 62), (.mv (.tmp 61)), none, []⟩, ⟨(some 63), (.mv (.tmp 0)), (some ((some 62), true)), [(.tmp 0)]⟩, ⟨(some 64), (.nilc (.tmp 63)), (some ((some 62), true)), [(.tmp 63)]⟩, ⟨(some 65), (.faddr 6 (.tmp 64)), (some ((some 62), true)), [(.tmp 64)]⟩, ⟨(some 66), (.load true 5 (.tmp 65)), (some ((some 62), true)), [(.tmp 65)]⟩, ⟨(some 67), (.load true 5 (.tmp 7)), (some ((some 62), true)), [(.tmp 7)]⟩] [⟨(some 68), (.eqA true [1, 1, 1, 1, 2] (.tmp 66) (.tmp 67)), (some ((some 62), true)), [(.tmp 66), (.tmp 67)]⟩, ⟨(some 69), (.pick (.tmp 62) (.tmp 68) (.const (.bool false))), none, []⟩]) (.cond (.tmp 69) (.ops [⟨(some 70), (.mv (.tmp 0)), none, []⟩, ⟨(some 71), (.nilc (.tmp 70)), none, []⟩, ⟨(some 72), (.faddr 11 (.tmp 71)), none, []⟩, ⟨none, (.store 1 (.tmp 72) (.const (.int .i64 0))), none, []⟩]) .skip)) t))))))
theorem sc49_eq : sc49 = hd49 (ta49 tb49) := rfl

def sRow (a : Int) (sh bl : Cue) (n : Int) : List AV := [I a, I sh.id, I sh.fr, I sh.to, I sh.pr, .str sh.tx, I bl.id, I bl.fr, I bl.to, I bl.pr, .str bl.tx, I n]

def orc49 (w : Option Cue) (b : ByteArray) (e : Int) : Nat → FuncId → List AV → AV := fun d g _ => if g = 999999 then (if d = 79 then .mobj [] else .junk) else if g = 68 then .tup [.agg (cueRow (w.getD zCue)), .bool w.isSome] else .tup [.str b, I e]

set_option maxRecDepth 100000 in
set_option maxHeartbeats 1000000 in
/-- The end of a call: the block is kept, the place is moved. -/
theorem end49 (w : Option Cue) (Y : YT) (c : Cue) (b : ByteArray) (a N : Int) (sh bl : Cue) (hN : 0 ≤ N ∧ N ≤ 600) (hsz : b.size ≤ 1000) (x0 x1 x2 : Int) (rest0 : List (List AV)) (L' : List Nat) (s' : Nat → LS) (n' : Nat) (E : List (Nat × AV)) (K : AV → AM → Prop)
    (h0 : Abs.look E 0 = .ptr 0 0) (h7 : Abs.look E 7 = .ptr (rest0.length + 1) 0) (h9 : Abs.look E 9 = .str b) (h11 : Abs.look E 11 = .bs (rest0.length + 2) 0 3 1)
    (hK : ∀ rest', K (.str ⟨#[UInt8.ofNat x0.toNat, UInt8.ofNat x1.toNat, UInt8.ofNat x2.toNat]⟩) ⟨(if (b.size : Int) ≤ 2 * (N + 1) then sRow 2 c c 0 else sRow a sh c (N + 1)) :: rest', L', s', n'⟩) :
    vc Tryz.prog gl0 (orc49 w b 0) Y tb49 ⟨envT 147 E, ⟨sRow a sh bl N :: (rest0 ++ [cueRow c, [.int .u8 x0, .int .u8 x1, .int .u8 x2]]), L', s', n'⟩⟩ (postE Tryz.prog gl0 (orc49 w b 0) rs49 K) := by
  have w1 : IntKind.i64.wrap (N + 1) = N + 1 := by rw [wrap_in] <;> omega
  have w2 : IntKind.i64.wrap (2 * (N + 1)) = 2 * (N + 1) := by rw [wrap_in] <;> omega
  by_cases hc : (b.size : Int) ≤ 2 * (N + 1)
  · simp only [hc, if_true] at hK
    simp [tb49, rs49, h0, h7, h9, h11, sRow, cueRow, w1, w2, hc]
    exact hK _
  · simp only [hc, if_false] at hK
    simp [tb49, rs49, h0, h7, h9, h11, sRow, cueRow, w1, w2, hc]
    exact hK _
set_option maxRecDepth 100000 in
theorem two_ext (b : ByteArray) (k : Nat) (h : k < b.size) : two ((b.extract k b.size).data.toList) = (((b.data.toList.getD k 0).toNat : Int), if k + 1 < b.size then ((b.data.toList.getD (k + 1) 0).toNat : Int) else 0) := by
  have h1 : (b.extract k b.size).data.toList = b.data.toList.drop k := by
    have hs : b.data.toList.length = b.size := by rw [Array.length_toList]; rfl
    rw [ByteArray.data_extract, Array.toList_extract, List.extract_eq_take_drop, List.take_of_length_le (by rw [List.length_drop, hs]; omega)]
  have hs : b.data.toList.length = b.size := by rw [Array.length_toList]; rfl
  rw [h1]
  generalize b.data.toList = l at hs
  rw [← hs] at h ⊢
  rw [List.drop_eq_getElem_cons h]
  by_cases h2 : k + 1 < l.length
  · rw [List.drop_eq_getElem_cons h2]
    simp [two, List.getD, h, h2]
  · rw [List.drop_eq_nil_of_le (by omega)]
    simp [two, List.getD, h, h2]

set_option maxRecDepth 100000 in
set_option maxHeartbeats 2000000 in
theorem mid49 (w : Option Cue) (Y : YT) (c : Cue) (b : ByteArray) (a : Int) (N : Nat) (sh bl : Cue) (h2 : 2 * N < b.size) (hsz : b.size ≤ 1000) (rest0 : List (List AV)) (L' : List Nat) (s' : Nat → LS) (n' : Nat) (E : List (Nat × AV)) (K : AV → AM → Prop)
    (h0 : Abs.look E 0 = .ptr 0 0) (h7 : Abs.look E 7 = .ptr (rest0.length + 1) 0) (h9 : Abs.look E 9 = .str b)
    (hK : ∀ rest', K (.str (codeS (if N = 0 then 2 else 3) N (two ((b.extract (2 * N) b.size).data.toList)).1 (two ((b.extract (2 * N) b.size).data.toList)).2)) ⟨(if (b.size : Int) ≤ 2 * ((N : Int) + 1) then sRow 2 c c 0 else sRow a sh c ((N : Int) + 1)) :: rest', L', s', n'⟩) :
    vc Tryz.prog gl0 (orc49 w b 0) Y (ta49 tb49) ⟨envT 147 E, ⟨sRow a sh bl N :: (rest0 ++ [cueRow c]), L', s', n'⟩⟩ (postE Tryz.prog gl0 (orc49 w b 0) rs49 K) := by
  rw [two_ext b (2 * N) h2] at hK
  have w1 : IntKind.i64.wrap (192 + (N : Int)) = 192 + (N : Int) := by rw [wrap_in] <;> omega
  have w2 : IntKind.i64.wrap (2 * (N : Int)) = 2 * (N : Int) := by rw [wrap_in] <;> omega
  have w3 : IntKind.i64.wrap (2 * (N : Int) + 1) = 2 * (N : Int) + 1 := by rw [wrap_in] <;> omega
  have w11 : IntKind.i64.wrap 1 = 1 := by rw [wrap_in] <;> omega
  have w12 : IntKind.i64.wrap 2 = 2 := by rw [wrap_in] <;> omega
  have hlt0 : 2 * (N : Int) < (b.size : Int) := by omega
  have t1 : (2 * (N : Int)).toNat = 2 * N := by omega
  have t2 : (2 * (N : Int) + 1).toNat = 2 * N + 1 := by omega
  have ho : orc49 w b 0 79 999999 [] = .mobj [] := rfl
  -- the first byte
  obtain ⟨x0, hx0⟩ : ∃ x0 : Int, x0 = if N = 0 then 128 else IntKind.u8.wrap (192 + (N : Int)) := ⟨_, rfl⟩
  have hcode : ∀ p q : Int, codeS (if N = 0 then 2 else 3) N p q = ⟨#[UInt8.ofNat x0.toNat, UInt8.ofNat p.toNat, UInt8.ofNat q.toNat]⟩ := by
    intro p q
    by_cases hN : N = 0
    · subst hN
      simp only [if_true] at hx0 ⊢
      rw [hx0]
      unfold codeS
      congr 2
    · simp only [hN, if_false] at hx0 ⊢
      rw [hx0]
      unfold codeS
      have e1 : IntKind.i64.wrap (3 * 64) = 192 := by rw [wrap_in] <;> omega
      rw [e1, w1]
  have fin : ∀ (E' : List (Nat × AV)) (x1 x2 : Int), Abs.look E' 0 = .ptr 0 0 → Abs.look E' 7 = .ptr (rest0.length + 1) 0 → Abs.look E' 9 = .str b → Abs.look E' 11 = .bs (rest0.length + 2) 0 3 1 → x1 = ((b.data.toList.getD (2 * N) 0).toNat : Int) → x2 = (if 2 * N + 1 < b.size then ((b.data.toList.getD (2 * N + 1) 0).toNat : Int) else 0) →
      vc Tryz.prog gl0 (orc49 w b 0) Y tb49 ⟨envT 147 E', ⟨sRow a sh bl N :: (rest0 ++ [cueRow c, [.int .u8 x0, .int .u8 x1, .int .u8 x2]]), L', s', n'⟩⟩ (postE Tryz.prog gl0 (orc49 w b 0) rs49 K) := by
    intro E' x1 x2 g0 g7 g9 g11 gx1 gx2
    refine end49 w Y c b a N sh bl ⟨by omega, by omega⟩ hsz x0 x1 x2 rest0 L' s' n' E' K g0 g7 g9 g11 fun rest' => ?_
    have := hK rest'
    rw [hcode, ← gx1, ← gx2] at this
    exact this
  simp only [sRow, cueRow] at fin
  by_cases hN : N = 0
  · have hNt := eq_true hN
    have hx0' : x0 = 128 := by rw [hx0, if_pos hN]
    simp [ta49, h0, h7, h9, sRow, cueRow, ho, hNt, w1]
    refine vc_loopE [12, 87, 88, 89, 90, 91, 92, 93, 94, 95, 96, 97, 98, 99, 100, 101, 102, 103, 104, 105, 106, 107, 108, 109, 110, 111, 112, 113, 114, 115]
      (fun g m => ∃ x1 x2 : Int, m = ⟨[I a, I sh.id, I sh.fr, I sh.to, I sh.pr, .str sh.tx, I bl.id, I bl.fr, I bl.to, I bl.pr, .str bl.tx, I N] :: (rest0 ++ [[I c.id, I c.fr, I c.to, I c.pr, .str c.tx], [.int .u8 x0, .int .u8 x1, .int .u8 x2]]), L', s', n'⟩ ∧ ((g 12 = I 0 ∧ x1 = 0 ∧ x2 = 0) ∨ (g 12 = I 1 ∧ x1 = ((b.data.toList.getD (2 * N) 0).toNat : Int) ∧ x2 = 0) ∨ (g 12 = I 2 ∧ x1 = ((b.data.toList.getD (2 * N) 0).toNat : Int) ∧ x2 = ((b.data.toList.getD (2 * N + 1) 0).toNat : Int) ∧ 2 * N + 1 < b.size))) (fun g _ => 2 - (numOf (g 12)).toNat) ?_ ?_
    · exact ⟨0, 0, by rw [hx0'], .inl ⟨by simp, rfl, rfl⟩⟩
    · rintro g m ⟨x1, x2, rfl, ⟨h12, rfl, rfl⟩ | ⟨h12, e1, rfl⟩ | ⟨h12, e1, e2, hlt1⟩⟩
      · simp [h12, h0, h7, h9, w2, w11, hlt0]
        refine ⟨by omega, ag ?_, ?_⟩
        rotate_left
        · rw [t1]
        repeat (first | exact agree_refl _ _ | refine agree_cons _ rfl ?_)
      · by_cases hlt1 : 2 * N + 1 < b.size
        · have hlt1' : 2 * (N : Int) + 1 < (b.size : Int) := by omega
          simp [h12, h0, h7, h9, w2, w3, w12, hlt1']
          refine ⟨by omega, ag ?_, ?_⟩
          rotate_left
          · exact ⟨_, _, ⟨rfl, rfl⟩, by simpa using e1, by rw [t2], hlt1⟩
          repeat (first | exact agree_refl _ _ | refine agree_cons _ rfl ?_)
        · have hlt1' : ¬ 2 * (N : Int) + 1 < (b.size : Int) := by omega
          simp [h12, h0, h7, h9, w2, w3, hlt1']
          refine fin _ _ _ ?_ ?_ ?_ ?_ e1 (by rw [if_neg hlt1]) <;> simp [h0, h7, h9]
      · simp [h12, h0, h7, h9]
        refine fin _ _ _ ?_ ?_ ?_ ?_ e1 (by rw [if_pos hlt1]; exact e2) <;> simp [h0, h7, h9]
  · have hNt := eq_false hN
    have hx0' : x0 = IntKind.u8.wrap (192 + (N : Int)) := by rw [hx0, if_neg hN]
    simp [ta49, h0, h7, h9, sRow, cueRow, ho, hNt, w1]
    refine vc_loopE [12, 87, 88, 89, 90, 91, 92, 93, 94, 95, 96, 97, 98, 99, 100, 101, 102, 103, 104, 105, 106, 107, 108, 109, 110, 111, 112, 113, 114, 115]
      (fun g m => ∃ x1 x2 : Int, m = ⟨[I a, I sh.id, I sh.fr, I sh.to, I sh.pr, .str sh.tx, I bl.id, I bl.fr, I bl.to, I bl.pr, .str bl.tx, I N] :: (rest0 ++ [[I c.id, I c.fr, I c.to, I c.pr, .str c.tx], [.int .u8 x0, .int .u8 x1, .int .u8 x2]]), L', s', n'⟩ ∧ ((g 12 = I 0 ∧ x1 = 0 ∧ x2 = 0) ∨ (g 12 = I 1 ∧ x1 = ((b.data.toList.getD (2 * N) 0).toNat : Int) ∧ x2 = 0) ∨ (g 12 = I 2 ∧ x1 = ((b.data.toList.getD (2 * N) 0).toNat : Int) ∧ x2 = ((b.data.toList.getD (2 * N + 1) 0).toNat : Int) ∧ 2 * N + 1 < b.size))) (fun g _ => 2 - (numOf (g 12)).toNat) ?_ ?_
    · exact ⟨0, 0, by rw [hx0'], .inl ⟨by simp, rfl, rfl⟩⟩
    · rintro g m ⟨x1, x2, rfl, ⟨h12, rfl, rfl⟩ | ⟨h12, e1, rfl⟩ | ⟨h12, e1, e2, hlt1⟩⟩
      · simp [h12, h0, h7, h9, w2, w11, hlt0]
        refine ⟨by omega, ag ?_, ?_⟩
        rotate_left
        · rw [t1]
        repeat (first | exact agree_refl _ _ | refine agree_cons _ rfl ?_)
      · by_cases hlt1 : 2 * N + 1 < b.size
        · have hlt1' : 2 * (N : Int) + 1 < (b.size : Int) := by omega
          simp [h12, h0, h7, h9, w2, w3, w12, hlt1']
          refine ⟨by omega, ag ?_, ?_⟩
          rotate_left
          · exact ⟨_, _, ⟨rfl, rfl⟩, by simpa using e1, by rw [t2], hlt1⟩
          repeat (first | exact agree_refl _ _ | refine agree_cons _ rfl ?_)
        · have hlt1' : ¬ 2 * (N : Int) + 1 < (b.size : Int) := by omega
          simp [h12, h0, h7, h9, w2, w3, hlt1']
          refine fin _ _ _ ?_ ?_ ?_ ?_ e1 (by rw [if_neg hlt1]) <;> simp [h0, h7, h9]
      · simp [h12, h0, h7, h9]
        refine fin _ _ _ ?_ ?_ ?_ ?_ e1 (by rw [if_pos hlt1]; exact e2) <;> simp [h0, h7, h9]
theorem byteArray_ext {a b : ByteArray} (h : a.toList = b.toList) : a = b := by
  have key : ∀ (bs : ByteArray) (n i : Nat) (acc : List UInt8), bs.size - i = n → ByteArray.toList.loop bs i acc = acc.reverse ++ bs.data.toList.drop i := by
    intro bs n
    induction n with
    | zero =>
      intro i acc h
      unfold ByteArray.toList.loop
      rw [if_neg (by omega), List.drop_eq_nil_of_le (by rw [Array.length_toList]; show bs.size ≤ i; omega)]
      simp
    | succ n ih =>
      intro i acc h
      unfold ByteArray.toList.loop
      have hlt : i < bs.data.toList.length := by rw [Array.length_toList]; show i < bs.size; omega
      rw [if_pos (by omega), ih (i + 1) _ (by omega), List.drop_eq_getElem_cons hlt]
      have : bs.get! i = bs.data.toList[i] := by
        have hlt' : i < bs.data.size := by simpa using hlt
        simp [ByteArray.get!, getElem!_pos bs.data i hlt']
      rw [this]
      simp
  have e : ∀ bs : ByteArray, bs.toList = bs.data.toList := fun bs => by
    unfold ByteArray.toList
    rw [key bs bs.size 0 [] (by omega)]
    simp
  rw [e, e] at h
  cases a; cases b
  simp at h
  simpa using h
theorem eqC_eq {a b : Cue} (h : eqC a b = true) : a = b := by
  obtain ⟨a1, a2, a3, a4, a5⟩ := a
  obtain ⟨b1, b2, b3, b4, b5⟩ := b
  simp [eqC, cueRow] at h
  obtain ⟨h1, h2, h3, h4, h5⟩ := h
  subst h1 h2 h3 h4
  rw [byteArray_ext h5]

/-- How the reference's sender stands for the program's. -/
def RelS (blk : Cue → ByteArray) (st : St) (a : Int) (sh bl : Cue) (n : Nat) : Prop :=
  a = st.sees ∧ sh = st.cue ∧ (n = 0 → st.blk = eB) ∧ (n ≠ 0 → st.blk = blk bl ∧ bl = st.snd ∧ st.sent = 2 * (n : Int) ∧ st.blk ≠ eB)
theorem code0 : codeS 0 0 0 0 = ⟨#[0, 0, 0]⟩ := by decide +kernel
theorem code1 : codeS 1 0 0 0 = ⟨#[64, 0, 0]⟩ := by decide +kernel
theorem relS0 (blk : Cue → ByteArray) (s : Int) : RelS blk (st0 s) s zCue zCue 0 := ⟨rfl, rfl, fun _ => rfl, fun h => absurd rfl h⟩

set_option maxRecDepth 100000 in
set_option maxHeartbeats 4000000 in
theorem rsend_eff (Y : YT) (blk : Cue → ByteArray) (l : List Cue) (f : Int) (hact : Pure Tryz.prog gl0 68 [.sl .full (l.map cueRow), I f] (.tup [.agg (cueRow ((actv f l).getD zCue)), .bool (actv f l).isSome]))
    (hblk : ∀ c ∈ l, (0 < (blk c).size ∧ (blk c).size ≤ 1000) ∧ Pure Tryz.prog gl0 69 [.agg (cueRow c)] (.tup [.str (blk c), I 0])) (hz : Pure Tryz.prog gl0 69 [.agg (cueRow zCue)] (.tup [.str ⟨#[]⟩, I 160]))
    (st : St) (hI : InvS st) (a : Int) (sh bl : Cue) (n : Nat) (hR : RelS blk st a sh bl n) (rest : List (List AV)) (L' : List Nat) (s' : Nat → LS) (n' : Nat) (K : AV → AM → Prop)
    (hK : ∀ a' sh' bl' m' rest', RelS blk (stepS blk (actv f l) st).2 a' sh' bl' m' → K (.str (stepS blk (actv f l) st).1) ⟨sRow a' sh' bl' m' :: rest', L', s', n'⟩) :
    EffY Tryz.prog gl0 Y 49 [.ptr 0 0, .sl .full (l.map cueRow), I f] ⟨sRow a sh bl n :: rest, L', s', n'⟩ K := by
  obtain ⟨rfl, rfl, hR1, hR2⟩ := hR
  cases hw : actv f l with
  | none =>
    rw [hw] at hact hK
    refine effE code49 (orc49 none ⟨#[]⟩ 160) (by simp) ?_
    rw [sc49_eq]
    have hz' := hz
    simp only [cueRow, zCue, eB] at hz'
    simp only [stepS, code0, code1] at hK
    simp only [Option.getD_none, Option.isSome_none, cueRow, zCue, eB] at hact
    by_cases h1 : st.sees = 1
    · simp only [h1, if_true] at hK
      simp [hd49, rs49, orc49, sRow, cueRow, zCue, eB, h1]
      refine ⟨hact, hz', ?_⟩
      exact hK 1 st.cue bl 0 _ ⟨by first | rfl | exact h1.symm, rfl, fun _ => rfl, fun h => absurd rfl h⟩
    · simp only [h1, if_false] at hK
      simp [hd49, rs49, orc49, sRow, cueRow, zCue, eB, h1]
      refine ⟨hact, hz', ?_⟩
      exact hK 1 st.cue bl 0 _ ⟨rfl, rfl, fun _ => rfl, fun h => absurd rfl h⟩
  | some c =>
    have hcm : c ∈ l := by
      rcases actv_mem f l none c hw with h | h
      · cases h
      · exact h
    obtain ⟨⟨hb1, hb2⟩, hbk⟩ := hblk c hcm
    rw [hw] at hact hK
    refine effE code49 (orc49 (some c) (blk c) 0) (by simp) ?_
    rw [sc49_eq]
    simp only [Option.getD_some, Option.isSome_some] at hact
    simp only [cueRow] at hact hbk
    have hbe : blk c ≠ eB := fun h => by rw [h] at hb1; exact absurd hb1 (by decide)
    by_cases hA : st.sees = 2 ∧ eqC st.cue c = true
    · obtain ⟨hs2, heq⟩ := hA
      simp only [stepS, hs2, heq, and_self, if_true, code0] at hK
      simp only [eqC, cueRow] at heq
      simp [-eqFs, -eqF, hd49, rs49, orc49, sRow, cueRow, hs2, heq]
      refine ⟨hact, hbk, ?_⟩
      exact hK 2 st.cue bl 0 _ ⟨by first | rfl | exact hs2.symm, rfl, fun _ => rfl, fun h => absurd rfl h⟩
    · -- from the block's beginning
      have hbeg : (st.blk = eB ∨ eqC st.snd c = false) → ∀ rest', K (.str (codeS (if (0 : Nat) = 0 then 2 else 3) ((0 : Nat) : Int) (two (((blk c).extract (2 * 0) (blk c).size).data.toList)).1 (two (((blk c).extract (2 * 0) (blk c).size).data.toList)).2)) ⟨(if ((blk c).size : Int) ≤ 2 * (((0 : Nat) : Int) + 1) then sRow 2 c c 0 else sRow st.sees st.cue c (((0 : Nat) : Int) + 1)) :: rest', L', s', n'⟩ := by
        intro hor rest'
        have hst : stepS blk (some c) st = putS 2 c { st with blk := blk c, sent := 0, snd := c } := by simp only [stepS]; rw [if_neg hA, if_pos hor]
        rw [hst] at hK
        by_cases hc : ((blk c).size : Int) ≤ 2 * (((0 : Nat) : Int) + 1)
        · have hc' : (0 : Int) + 2 ≥ ((blk c).size : Int) := by omega
          rw [if_pos hc]
          refine hK 2 c c 0 rest' ?_
          simp only [putS, if_pos hc']
          exact ⟨rfl, rfl, fun _ => rfl, fun h => absurd rfl h⟩
        · have hc' : ¬ (0 : Int) + 2 ≥ ((blk c).size : Int) := by omega
          rw [if_neg hc]
          refine hK st.sees st.cue c 1 rest' ?_
          simp only [putS, if_neg hc']
          exact ⟨rfl, rfl, fun h => absurd h (by omega), fun _ => ⟨rfl, rfl, rfl, hbe⟩⟩
      have hsz0 : 2 * 0 < (blk c).size := by omega
      have go : ∀ (E : List (Nat × AV)), Abs.look E 0 = .ptr 0 0 → Abs.look E 7 = .ptr (rest.length + 1) 0 → Abs.look E 9 = .str (blk c) → (st.blk = eB ∨ eqC st.snd c = false) → vc Tryz.prog gl0 (orc49 (some c) (blk c) 0) Y (ta49 tb49) ⟨envT 147 E, ⟨[I st.sees, I st.cue.id, I st.cue.fr, I st.cue.to, I st.cue.pr, .str st.cue.tx, I bl.id, I bl.fr, I bl.to, I bl.pr, .str bl.tx, I 0] :: (rest ++ [[I c.id, I c.fr, I c.to, I c.pr, .str c.tx]]), L', s', n'⟩⟩ (postE Tryz.prog gl0 (orc49 (some c) (blk c) 0) rs49 K) :=
        fun E g0 g7 g9 hor => mid49 (some c) Y c (blk c) st.sees 0 st.cue bl hsz0 hb2 rest L' s' n' E K g0 g7 g9 (hbeg hor)
      by_cases hn : n = 0
      · subst hn
        have hor : st.blk = eB ∨ eqC st.snd c = false := .inl (hR1 rfl)
        by_cases hs2 : st.sees = 2
        · have heq : eqC st.cue c = false := by
            cases h : eqC st.cue c with
            | false => rfl
            | true => exact absurd ⟨hs2, h⟩ hA
          simp only [eqC, cueRow] at heq
          simp only [hs2] at go
          simp [-eqFs, -eqF, hd49, orc49, sRow, cueRow, hs2, heq]
          refine ⟨hact, hbk, ?_⟩
          refine go _ ?_ ?_ ?_ hor <;> simp
        · simp [-eqFs, -eqF, hd49, orc49, sRow, cueRow, hs2]
          refine ⟨hact, hbk, ?_⟩
          refine go _ ?_ ?_ ?_ hor <;> simp
      · obtain ⟨q1, q2, q3, q4⟩ := hR2 hn
        have hnp : 0 < n := by omega
        cases hbc : eqC bl c with
        | false =>
          have hor : st.blk = eB ∨ eqC st.snd c = false := .inr (by rw [← q2]; exact hbc)
          simp only [eqC, cueRow] at hbc
          by_cases hs2 : st.sees = 2
          · have heq : eqC st.cue c = false := by
              cases h : eqC st.cue c with
              | false => rfl
              | true => exact absurd ⟨hs2, h⟩ hA
            simp only [eqC, cueRow] at heq
            simp only [hs2] at go
            simp [-eqFs, -eqF, hd49, orc49, sRow, cueRow, hs2, heq, hnp, hbc]
            refine ⟨hact, hbk, ?_⟩
            refine go _ ?_ ?_ ?_ hor <;> simp
          · simp [-eqFs, -eqF, hd49, orc49, sRow, cueRow, hs2, hnp, hbc]
            refine ⟨hact, hbk, ?_⟩
            refine go _ ?_ ?_ ?_ hor <;> simp
        | true =>
          have hblc := eqC_eq hbc
          have hst : stepS blk (some c) st = putS 3 c st := by
            simp only [stepS]
            rw [if_neg hA, if_neg]
            rintro (h | h)
            · exact q4 h
            · rw [← q2, hbc] at h; cases h
          have hb : st.blk = blk c := by rw [q1, hblc]
          have hlt : 2 * n < (blk c).size := by
            rcases hI.2.2 with h | h
            · exact absurd h q4
            · rw [hb] at h; omega
          have hcont : ∀ rest', K (.str (codeS (if n = 0 then 2 else 3) (n : Int) (two (((blk c).extract (2 * n) (blk c).size).data.toList)).1 (two (((blk c).extract (2 * n) (blk c).size).data.toList)).2)) ⟨(if ((blk c).size : Int) ≤ 2 * ((n : Int) + 1) then sRow 2 c c 0 else sRow st.sees st.cue c ((n : Int) + 1)) :: rest', L', s', n'⟩ := by
            intro rest'
            have hd : st.sent.tdiv 2 = (n : Int) := by rw [q3, Int.tdiv_eq_ediv_of_nonneg (by omega)]; omega
            have ht : st.sent.toNat = 2 * n := by omega
            rw [hst] at hK
            by_cases hc : ((blk c).size : Int) ≤ 2 * ((n : Int) + 1)
            · have hc' : st.sent + 2 ≥ (st.blk.size : Int) := by rw [hb]; omega
              rw [if_pos hc]
              have := hK 2 c c 0 rest' (by
                simp only [putS, if_pos hc']
                exact ⟨rfl, rfl, fun _ => rfl, fun h => absurd rfl h⟩)
              simp only [putS, hd, ht, hb] at this
              rw [if_neg hn]
              exact this
            · have hc' : ¬ st.sent + 2 ≥ (st.blk.size : Int) := by rw [hb]; omega
              rw [if_neg hc]
              have := hK st.sees st.cue c (n + 1) rest' (by
                simp only [putS, if_neg hc']
                exact ⟨rfl, rfl, fun h => absurd h (by omega), fun _ => ⟨hb, by rw [← q2, hblc], by show st.sent + 2 = 2 * ((n + 1 : Nat) : Int); omega, q4⟩⟩)
              simp only [putS, hd, ht, hb] at this
              rw [if_neg hn]
              exact this
          have go2 : ∀ (E : List (Nat × AV)), Abs.look E 0 = .ptr 0 0 → Abs.look E 7 = .ptr (rest.length + 1) 0 → Abs.look E 9 = .str (blk c) → vc Tryz.prog gl0 (orc49 (some c) (blk c) 0) Y (ta49 tb49) ⟨envT 147 E, ⟨[I st.sees, I st.cue.id, I st.cue.fr, I st.cue.to, I st.cue.pr, .str st.cue.tx, I bl.id, I bl.fr, I bl.to, I bl.pr, .str bl.tx, I n] :: (rest ++ [[I c.id, I c.fr, I c.to, I c.pr, .str c.tx]]), L', s', n'⟩⟩ (postE Tryz.prog gl0 (orc49 (some c) (blk c) 0) rs49 K) :=
            fun E g0 g7 g9 => mid49 (some c) Y c (blk c) st.sees n st.cue bl hlt hb2 rest L' s' n' E K g0 g7 g9 hcont
          simp only [eqC, cueRow] at hbc
          by_cases hs2 : st.sees = 2
          · have heq : eqC st.cue c = false := by
              cases h : eqC st.cue c with
              | false => rfl
              | true => exact absurd ⟨hs2, h⟩ hA
            simp only [eqC, cueRow] at heq
            simp only [hs2] at go2
            simp [-eqFs, -eqF, hd49, orc49, sRow, cueRow, hs2, heq, hnp, hbc]
            refine ⟨hact, hbk, ?_⟩
            refine go2 _ ?_ ?_ ?_ <;> simp
          · simp [-eqFs, -eqF, hd49, orc49, sRow, cueRow, hs2, hnp, hbc]
            refine ⟨hact, hbk, ?_⟩
            refine go2 _ ?_ ?_ ?_ <;> simp
end Go.Proofs.YtedgjnpaebllpaaGreatDoor
