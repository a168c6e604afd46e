/-
  OWN WORK. Contracts of the reference's captions: Active, Valid, Content, Block (onairref11, onairref16).
-/
import Derived.Test.YtedgjnpaebllpaaGreatDoorLwP
set_option linter.unusedVariables false
set_option linter.unusedSimpArgs false
namespace Go.Proofs.YtedgjnpaebllpaaGreatDoor
open Go Go.Abs

set_option maxRecDepth 100000 in
theorem rahead_pure (x b : Cue) : Pure Tryz.prog gl0 82 [.agg (cueRow x), .agg (cueRow b)] (.bool (pref (some b) x)) := by
  refine pureE code82 (fun _ _ _ => .junk) (by simp) ?_
  by_cases h1 : x.pr = b.pr
  · by_cases h2 : x.fr = b.fr
    · simp [sc82, rs82, cueRow, pref, h1, h2]
    · simp [sc82, rs82, cueRow, pref, h1, h2]
  · simp [sc82, rs82, cueRow, pref, h1]

def orc68 : Nat → FuncId → List AV → AV := fun _ _ a => match a with
  | [.agg [.int _ i1, .int _ f1, .int _ t1, .int _ p1, .str s1], .agg [.int _ i2, .int _ f2, .int _ t2, .int _ p2, .str s2]] => .bool (pref (some ⟨i2, f2, t2, p2, s2⟩) ⟨i1, f1, t1, p1, s1⟩)
  | _ => .junk

set_option maxRecDepth 100000 in
set_option maxHeartbeats 1000000 in
theorem ractive_pure (l : List Cue) (rt : Rt) (f : Int) (hl : l.length ≤ 1000000000) : Pure Tryz.prog gl0 68 [.sl rt (l.map cueRow), I f] (.tup [.agg (cueRow ((actv f l).getD zCue)), .bool (actv f l).isSome]) := by
  refine pureE code68 orc68 (by simp) ?_
  simp [sc68, rs68]
  refine vc_loopE [7, 8, 10, 11, 12, 13, 14, 15, 16, 17, 18, 19, 20, 21, 22, 23, 24, 25, 26, 27, 28, 29, 30, 31, 32, 33, 34, 35, 36, 37, 38, 39, 40, 41, 42, 43, 44, 45, 46, 47] (fun s m => ∃ i : Nat, s 8 = I i ∧ i ≤ l.length ∧ s 7 = .bool ((l.take i).foldl (actStep f) none).isSome ∧ m = ⟨[cueRow zCue, cueRow (((l.take i).foldl (actStep f) none).getD zCue)], [], fun _ => .gone, 0⟩) (fun s m => l.length - (numOf (s 8)).toNat) ⟨0, by simp, by omega, by simp, by simp [cueRow, zCue, eB]⟩ ?_
  rintro s m ⟨i, hi, hle, h7, rfl⟩
  rcases Nat.lt_or_ge i l.length with hlt | hge
  · obtain ⟨a, ha⟩ : ∃ a, l[i]? = some a := ⟨l[i], List.getElem?_eq_getElem hlt⟩
    have hrow : rowN (l.map cueRow) i = cueRow a := rowN_eq (by simp [ha])
    have hw : IntKind.i64.wrap ((i : Int) + 1) = ((i + 1 : Nat) : Int) := by rw [wrap_in] <;> omega
    have htk : (l.take (i + 1)).foldl (actStep f) none = actStep f ((l.take i).foldl (actStep f) none) a := by
      rw [List.take_add_one, ha]; simp [List.foldl_append]
    generalize (l.take i).foldl (actStep f) none = b at htk h7
    by_cases h1 : a.fr ≤ f
    · by_cases h2 : f < a.to
      · cases b with
        | none =>
          simp only [Option.isSome_none] at h7
          simp [hi, h7, hrow, hlt, hw, cueRow, h1, h2, zCue]
          refine ⟨ag ?_, ⟨i + 1, by simp, by omega, ?_⟩, by omega⟩
          · repeat (first | exact agree_refl _ _ | refine agree_cons _ rfl ?_)
          · rw [htk]
            simp [actStep, h1, h2, pref, cueRow]
        | some c =>
          have hp := rahead_pure a c
          simp only [Option.isSome_some] at h7
          cases hpc : pref (some c) a with
          | true =>
            rw [hpc] at hp
            simp [hi, h7, hrow, hlt, hw, cueRow, h1, h2, zCue, orc68, hpc]
            refine ⟨hp, ag ?_, ⟨i + 1, by simp, by omega, ?_⟩, by omega⟩
            · repeat (first | exact agree_refl _ _ | refine agree_cons _ rfl ?_)
            · rw [htk]
              simp [actStep, h1, h2, hpc, cueRow]
          | false =>
            rw [hpc] at hp
            simp [hi, h7, hrow, hlt, hw, cueRow, h1, h2, zCue, orc68, hpc]
            refine ⟨hp, ag ?_, ⟨i + 1, by simp, by omega, ?_⟩, by omega⟩
            · repeat (first | exact agree_refl _ _ | refine agree_cons _ rfl ?_)
            · rw [htk]
              simp [actStep, h1, h2, hpc, cueRow]
      · simp [hi, h7, hrow, hlt, hw, cueRow, h1, h2, zCue]
        refine ⟨ag ?_, ⟨i + 1, by simp, by omega, ?_⟩, by omega⟩
        · repeat (first | exact agree_refl _ _ | refine agree_cons _ rfl ?_)
        · rw [htk]
          simp [actStep, h1, h2, cueRow]
    · simp [hi, h7, hrow, hlt, hw, cueRow, h1, zCue]
      refine ⟨ag ?_, ⟨i + 1, by simp, by omega, ?_⟩, by omega⟩
      · repeat (first | exact agree_refl _ _ | refine agree_cons _ rfl ?_)
      · rw [htk]
        simp [actStep, h1, cueRow]
  · have htk : l.take i = l := List.take_of_length_le hge
    rw [htk] at h7 ⊢
    simp [hi, h7, Nat.not_lt.2 hge, cueRow, zCue, actv]

theorem rrowsHi : Pure Tryz.prog gl0 95 [.str tHi] (.tup [.sl .ro [[.str tHi]], .bool true]) := pure_run tab_ok lvlC 3000 0 (by kernel_rfl) rfl
theorem rrowsGood : Pure Tryz.prog gl0 95 [.str tGood] (.tup [.sl .ro [[.str tGood]], .bool true]) := pure_run tab_ok lvlC 3000 0 (by kernel_rfl) rfl
theorem rrowsE : Pure Tryz.prog gl0 95 [.str eB] (.tup [.sl .nil [], .bool false]) := pure_run tab_ok lvlC 3000 0 (by kernel_rfl) rfl
theorem rsumHi : Pure Tryz.prog gl0 86 [.str tHi] (I 2316712640) := pure_run tab_ok lvlC 3000 0 (by kernel_rfl) rfl
theorem rputHi : Pure Tryz.prog gl0 85 [I 2316712640] (.tup [.str ⟨#[128, 235, 177, 161, 17]⟩, I 0]) := pure_run tab_ok lvlC 3000 0 (by kernel_rfl) rfl
theorem rsumGood : Pure Tryz.prog gl0 86 [.str tGood] (I 3383668631) := pure_run tab_ok lvlC 3000 0 (by kernel_rfl) rfl
theorem rputGood : Pure Tryz.prog gl0 85 [I 3383668631] (.tup [.str ⟨#[174, 190, 245, 154, 25]⟩, I 0]) := pure_run tab_ok lvlC 3000 0 (by kernel_rfl) rfl

set_option maxRecDepth 100000 in
theorem rvalidC_pure (c : Cue) (R : List (List AV)) (hr : Pure Tryz.prog gl0 95 [.str c.tx] (.tup [.sl .ro R, .bool true])) (h1 : 1 ≤ c.id ∧ c.id ≤ 1000) (h2 : 0 ≤ c.fr) (h3 : c.fr < c.to) (h4 : c.to ≤ 1000000) (h5 : 0 ≤ c.pr ∧ c.pr ≤ 3) :
    Pure Tryz.prog gl0 83 [.agg (cueRow c)] (.bool true) := by
  refine pureE code83 (fun _ _ _ => .tup [.sl .ro R, .bool true]) (by simp) ?_
  have e1 : ¬ c.id < 1 := by omega
  have e2 : ¬ 4611686018427387903 < c.id := by omega
  have e3 : ¬ c.to = 0 := by omega
  have e6 : c.to ≤ 100000000 := by omega
  simp [sc83, rs83, cueRow, e1, e2, e3, h2, h3, e6, h5.1, h5.2]
  exact hr

set_option maxRecDepth 100000 in
theorem rvalidZ_pure : Pure Tryz.prog gl0 83 [.agg (cueRow zCue)] (.bool false) := by
  refine pureE code83 (fun _ _ _ => .junk) (by simp) ?_
  simp [sc83, rs83, cueRow, zCue]

set_option maxRecDepth 100000 in
theorem rcontent_pure (c : Cue) (hx : c.tx.size ≤ 50) (hr : Pure Tryz.prog gl0 95 [.str c.tx] (.tup [.sl .ro [[.str c.tx]], .bool true])) : Pure Tryz.prog gl0 84 [.agg (cueRow c)] (.tup [.str (⟨#[]⟩ ++ c.tx), .bool true]) := by
  refine pureE code84 (fun _ _ _ => .tup [.sl .ro [[.str c.tx]], .bool true]) (by simp) ?_
  have w11 : IntKind.i64.wrap 1 = 1 := by rw [wrap_in] <;> omega
  simp [sc84, rs84, cueRow]
  refine ⟨hr, ?_⟩
  refine vc_loopE [6, 7, 14, 15, 16, 17, 18, 19, 20, 21, 22, 23, 24, 25, 26, 27, 28, 29] (fun g m => ((g 7 = I 0 ∧ g 6 = .str ⟨#[]⟩) ∨ (g 7 = I 1 ∧ g 6 = .str (⟨#[]⟩ ++ c.tx))) ∧ m = ⟨_, [], fun _ => .gone, 0⟩) (fun g _ => 1 - (numOf (g 7)).toNat) ⟨.inl ⟨by simp, by simp⟩, rfl⟩ ?_
  rintro g m ⟨⟨h7, h6⟩ | ⟨h7, h6⟩, rfl⟩
  · simp [h7, h6, w11]
    refine ⟨by show 0 + c.tx.size ≤ _; omega, ag ?_⟩
    repeat (first | exact agree_refl _ _ | refine agree_cons _ rfl ?_)
  · simp [h7, h6]

set_option maxRecDepth 100000 in
theorem rcontentZ_pure : Pure Tryz.prog gl0 84 [.agg (cueRow zCue)] (.tup [.str ⟨#[]⟩, .bool false]) := by
  have hr := rrowsE
  refine pureE code84 (fun _ _ _ => .tup [.sl .nil [], .bool false]) (by simp) ?_
  simp [sc84, rs84, cueRow, zCue]
  refine ⟨hr, ?_⟩
  refine vc_loopE [6, 7, 14, 15, 16, 17, 18, 19, 20, 21, 22, 23, 24, 25, 26, 27, 28, 29] (fun g m => (g 7 = I 0 ∧ g 6 = .str ⟨#[]⟩) ∧ m = ⟨_, [], fun _ => .gone, 0⟩) (fun g _ => 0) ⟨⟨by simp, by simp⟩, rfl⟩ ?_
  rintro g m ⟨⟨h7, h6⟩, rfl⟩
  simp [h7, h6]

theorem empty_append (s : ByteArray) : (⟨#[]⟩ : ByteArray) ++ s = s := ByteArray.empty_append

set_option maxRecDepth 100000 in
theorem rblock_pure (c : Cue) (S : Int) (p : ByteArray) (hp : p.size = 5) (hx : c.tx.size ≤ 50) (hv : Pure Tryz.prog gl0 83 [.agg (cueRow c)] (.bool true)) (hr : Pure Tryz.prog gl0 95 [.str c.tx] (.tup [.sl .ro [[.str c.tx]], .bool true]))
    (hs : Pure Tryz.prog gl0 86 [.str c.tx] (I S)) (hq : Pure Tryz.prog gl0 85 [I S] (.tup [.str p, I 0])) :
    Pure Tryz.prog gl0 69 [.agg (cueRow c)] (.tup [.str (⟨#[UInt8.ofNat (IntKind.u8.wrap ((5 : Int) + c.tx.size)).toNat]⟩ ++ p ++ c.tx), I 0]) := by
  have hc := rcontent_pure c hx hr
  rw [empty_append] at hc
  refine pureE code69 (fun _ f _ => if f = 83 then .bool true else if f = 84 then .tup [.str c.tx, .bool true] else if f = 86 then I S else .tup [.str p, I 0]) (by simp) ?_
  have w1 : IntKind.i64.wrap ((5 : Int) + c.tx.size) = 5 + c.tx.size := by rw [wrap_in] <;> omega
  have w2 : IntKind.i64.wrap ((5 : Int) + c.tx.size + 1) = 5 + c.tx.size + 1 := by rw [wrap_in] <;> omega
  have e1 : ¬ (96 : Int) < 5 + c.tx.size + 1 := by omega
  simp only [cueRow] at hv hc
  simp [sc69, rs69, cueRow, hp, w1, w2, e1]
  exact ⟨hv, hc, hs, hq, (show (1 : Nat) ≤ 9223372036854775802 by omega), (show 1 + 5 + c.tx.size ≤ 9223372036854775807 by omega)⟩

set_option maxRecDepth 100000 in
theorem rblockZ_pure : Pure Tryz.prog gl0 69 [.agg (cueRow zCue)] (.tup [.str ⟨#[]⟩, I 160]) := by
  have hv := rvalidZ_pure
  have hc := rcontentZ_pure
  refine pureE code69 (fun _ f _ => if f = 83 then .bool false else .tup [.str ⟨#[]⟩, .bool false]) (by simp) ?_
  simp only [cueRow, zCue] at hv hc
  simp [sc69, rs69, cueRow, zCue]
  exact ⟨hv, hc⟩

theorem rcues_ok (c d : Int) : ∀ x ∈ cues c d, Pure Tryz.prog gl0 69 [.agg (cueRow x)] (.tup [.str (blkF x), I 0]) := by
  intro x hx
  have b1 := pickI_bd' d 100 (by omega)
  have b2 := pickI_bd' c 150 (by omega)
  simp only [cues, List.mem_cons, List.not_mem_nil, or_false] at hx
  rcases hx with rfl | rfl
  · have h := rblock_pure (cue1 d) _ _ rfl (by decide : 2 ≤ 50) (rvalidC_pure (cue1 d) _ rrowsHi ⟨(by decide : (1 : Int) ≤ 1), (by decide : (1 : Int) ≤ 1000)⟩ b1.1 (show pickI d 100 < pickI d 100 + 40 by omega) (show pickI d 100 + 40 ≤ 1000000 by omega) ⟨(by decide : (0 : Int) ≤ 0), (by decide : (0 : Int) ≤ 3)⟩) rrowsHi rsumHi rputHi
    have e : (⟨#[UInt8.ofNat (IntKind.u8.wrap ((5 : Int) + (cue1 d).tx.size)).toNat]⟩ ++ ⟨#[128, 235, 177, 161, 17]⟩ ++ (cue1 d).tx : ByteArray) = bHi := by
      show (⟨#[UInt8.ofNat (IntKind.u8.wrap ((5 : Int) + (2 : Nat))).toNat]⟩ ++ ⟨#[128, 235, 177, 161, 17]⟩ ++ tHi : ByteArray) = bHi
      decide +kernel
    rw [e] at h
    exact h
  · have h := rblock_pure (cue2 c) _ _ rfl (by decide : 12 ≤ 50) (rvalidC_pure (cue2 c) _ rrowsGood ⟨(by decide : (1 : Int) ≤ 2), (by decide : (2 : Int) ≤ 1000)⟩ b2.1 (show pickI c 150 < pickI c 150 + 60 by omega) (show pickI c 150 + 60 ≤ 1000000 by omega) ⟨(by decide : (0 : Int) ≤ 1), (by decide : (1 : Int) ≤ 3)⟩) rrowsGood rsumGood rputGood
    have e : (⟨#[UInt8.ofNat (IntKind.u8.wrap ((5 : Int) + (cue2 c).tx.size)).toNat]⟩ ++ ⟨#[174, 190, 245, 154, 25]⟩ ++ (cue2 c).tx : ByteArray) = bGood := by
      show (⟨#[UInt8.ofNat (IntKind.u8.wrap ((5 : Int) + (12 : Nat))).toNat]⟩ ++ ⟨#[174, 190, 245, 154, 25]⟩ ++ tGood : ByteArray) = bGood
      decide +kernel
    rw [e] at h
    exact h
end Go.Proofs.YtedgjnpaebllpaaGreatDoor
