/-
  OWN WORK. The contract of the reference's Next (onairref17).
-/
import Derived.Test.YtedgjnpaebllpaaGreatDoorLzA
set_option linter.unusedVariables false
set_option linter.unusedSimpArgs false
namespace Go.Proofs.YtedgjnpaebllpaaGreatDoor
open Go Go.Abs

def tl26 : SC := (.seq (.ops [⟨(some 59), (.build [(.int .i64 0), (.int .i64 0), (.sl .nil [])] []), none, []⟩, ⟨(some 9), (.alloc [(.int .i64 0), (.int .i64 0), (.sl .nil [])]), none, []⟩, ⟨none, (.store 3 (.tmp 9) (.tmp 59)), none, []⟩]) (.seq (.seq (.ops [⟨(some 10), (.mv (.const (.int .i64 0))), none, []⟩]) (.block 2 (.loop (.seq (.seq (.ops [⟨(some 60), (.mv (.tmp 10)), none, []⟩, ⟨(some 61), (.mv (.tmp 0)), none, []⟩, ⟨(some 62), (.len (.tmp 61)), none, []⟩, ⟨(some 63), (.bin .lss (.tmp 60) (.tmp 62)), none, []⟩]) (.cond (.tmp 63) .skip (.exit 2))) (.seq (.block 3 (.seq (.ops [⟨(some 67), (.mv (.tmp 0)), none, []⟩, ⟨(some 68), (.mv (.tmp 10)), none, []⟩, ⟨(some 69), (.iaddr 7 (.tmp 67) (.tmp 68)), none, []⟩, ⟨(some 70), (.load true 7 (.tmp 69)), none, []⟩, ⟨(some 71), (.call (.func 51) [(.tmp 70)]), none, []⟩, ⟨(some 66), (.mv (.tmp 71)), none, []⟩, ⟨(some 72), (.ext (.tmp 66) 0), none, []⟩, ⟨(some 73), (.ext (.tmp 66) 1), none, []⟩, ⟨(some 11), (.alloc [(.int .i64 0), (.int .i64 0), (.sl .nil [])]), none, []⟩, ⟨none, (.store 3 (.tmp 11) (.tmp 72)), none, []⟩, ⟨(some 12), (.mv (.tmp 73)), none, []⟩]) (.seq (.ops [⟨(some 74), (.mv (.tmp 12)), none, []⟩, ⟨(some 75), (.mv (.tmp 74)), none, []⟩, ⟨(some 76), (.mv (.tmp 0)), (some ((some 75), true)), [(.tmp 0)]⟩, ⟨(some 77), (.mv (.tmp 10)), (some ((some 75), true)), [(.tmp 10)]⟩, ⟨(some 78), (.iaddr 7 (.tmp 76) (.tmp 77)), (some ((some 75), true)), [(.tmp 76), (.tmp 77)]⟩, ⟨(some 79), (.faddr 4 (.tmp 78)), (some ((some 75), true)), [(.tmp 78)]⟩, ⟨(some 80), (.load false 1 (.tmp 79)), (some ((some 75), true)), [(.tmp 79)]⟩, ⟨(some 81), (.bin .eql (.tmp 80) (.const (.int .i64 0))), (some ((some 75), true)), [(.tmp 80), (.const (.int .i64 0))]⟩, ⟨(some 82), (.pick (.tmp 75) (.tmp 81) (.const (.bool false))), none, []⟩, ⟨(some 83), (.mv (.tmp 82)), none, []⟩, ⟨(some 84), (.faddr 0 (.tmp 11)), (some ((some 83), true)), [(.tmp 11)]⟩, ⟨(some 85), (.load false 1 (.tmp 84)), (some ((some 83), true)), [(.tmp 84)]⟩, ⟨(some 86), (.mv (.tmp 1)), (some ((some 83), true)), [(.tmp 1)]⟩, ⟨(some 87), (.bin .gtr (.tmp 85) (.tmp 86)), (some ((some 83), true)), [(.tmp 85), (.tmp 86)]⟩, ⟨(some 88), (.pick (.tmp 83) (.tmp 87) (.const (.bool false))), none, []⟩, ⟨(some 89), (.mv (.tmp 88)), none, []⟩, ⟨(some 90), (.faddr 0 (.tmp 11)), (some ((some 89), true)), [(.tmp 11)]⟩, ⟨(some 91), (.load false 1 (.tmp 90)), (some ((some 89), true)), [(.tmp 90)]⟩, ⟨(some 92), (.bin .sub (.tmp 91) (.const (.int .i64 20))), (some ((some 89), true)), [(.tmp 91), (.const (.int .i64 20))]⟩, ⟨(some 93), (.mv (.tmp 1)), (some ((some 89), true)), [(.tmp 1)]⟩, ⟨(some 94), (.bin .leq (.tmp 92) (.tmp 93)), (some ((some 89), true)), [(.tmp 92), (.tmp 93)]⟩, ⟨(some 95), (.pick (.tmp 89) (.tmp 94) (.const (.bool false))), none, []⟩, ⟨(some 96), (.mv (.tmp 95)), none, []⟩, ⟨(some 97), (.faddr 1 (.tmp 9)), (some ((some 96), true)), [(.tmp 9)]⟩, ⟨(some 98), (.load false 1 (.tmp 97)), (some ((some 96), true)), [(.tmp 97)]⟩, ⟨(some 99), (.bin .eql (.tmp 98) (.const (.int .i64 0))), (some ((some 96), true)), [(.tmp 98), (.const (.int .i64 0))]⟩, ⟨(some 100), (.mv (.tmp 99)), (some ((some 96), true)), [(.tmp 99)]⟩, ⟨(some 101), (.faddr 0 (.tmp 11)), (some ((some 100), false)), [(.tmp 11)]⟩, ⟨(some 102), (.load false 1 (.tmp 101)), (some ((some 100), false)), [(.tmp 101)]⟩, ⟨(some 103), (.faddr 0 (.tmp 9)), (some ((some 100), false)), [(.tmp 9)]⟩, ⟨(some 104), (.load false 1 (.tmp 103)), (some ((some 100), false)), [(.tmp 103)]⟩, ⟨(some 105), (.bin .lss (.tmp 102) (.tmp 104)), (some ((some 100), false)), [(.tmp 102), (.tmp 104)]⟩, ⟨(some 106), (.pick (.tmp 100) (.const (.bool true)) (.tmp 105)), (some ((some 96), true)), [(.tmp 100), (.const (.bool true)), (.tmp 105)]⟩, ⟨(some 107), (.pick (.tmp 96) (.tmp 106) (.const (.bool false))), none, []⟩]) (.cond (.tmp 107) (.ops [⟨(some 108), (.load true 3 (.tmp 11)), none, []⟩, ⟨none, (.store 3 (.tmp 9) (.tmp 108)), none, []⟩]) .skip)))) (.ops [⟨(some 64), (.mv (.tmp 10)), none, []⟩, ⟨(some 65), (.bin .add (.tmp 64) (.const (.int .i64 1))), none, []⟩, ⟨(some 10), (.mv (.tmp 65)), none, []⟩])))))) (.seq (.ops [⟨(some 109), (.load true 3 (.tmp 9)), none, []⟩, ⟨none, (.store 3 (.tmp 4) (.tmp 109)), none, []⟩]) .ret)))
def hd26 (t : SC) : SC := (.seq (.ops [⟨(some 4), (.alloc [(.int .i64 0), (.int .i64 0), (.sl .nil [])]), none, []⟩]) (.seq (.seq (.ops [⟨(some 5), (.mv (.const (.int .i64 0))), none, []⟩]) (.block 0 (.loop (.seq (.seq (.ops [⟨(some 13), (.mv (.tmp 5)), none, []⟩, ⟨(some 14), (.mv (.tmp 0)), none, []⟩, ⟨(some 15), (.len (.tmp 14)), none, []⟩, ⟨(some 16), (.bin .lss (.tmp 13) (.tmp 15)), none, []⟩]) (.cond (.tmp 16) .skip (.exit 0))) (.seq (.block 1 (.seq (.ops [⟨(some 19), (.mv (.tmp 0)), none, []⟩, ⟨(some 20), (.mv (.tmp 5)), none, []⟩, ⟨(some 21), (.iaddr 7 (.tmp 19) (.tmp 20)), none, []⟩, ⟨(some 22), (.load true 7 (.tmp 21)), none, []⟩, ⟨(some 23), (.call (.func 50) [(.tmp 22)]), none, []⟩, ⟨(some 6), (.mv (.tmp 23)), none, []⟩]) (.seq (.draw [⟨(some 24), (.mv (.tmp 6)), none, []⟩, ⟨(some 25), (.mv (.tmp 24)), none, []⟩, ⟨(some 26), (.mv (.tmp 0)), (some ((some 25), true)), [(.tmp 0)]⟩, ⟨(some 27), (.mv (.tmp 5)), (some ((some 25), true)), [(.tmp 5)]⟩, ⟨(some 28), (.iaddr 7 (.tmp 26) (.tmp 27)), (some ((some 25), true)), [(.tmp 26), (.tmp 27)]⟩, ⟨(some 29), (.faddr 2 (.tmp 28)), (some ((some 25), true)), [(.tmp 28)]⟩, ⟨(some 30), (.load false 1 (.tmp 29)), (some ((some 25), true)), [(.tmp 29)]⟩, ⟨(some 31), (.mv (.tmp 1)), (some ((some 25), true)), [(.tmp 1)]⟩, ⟨(some 32), (.bin .leq (.tmp 30) (.tmp 31)), (some ((some 25), true)), [(.tmp 30), (.tmp 31)]⟩, ⟨(some 33), (.pick (.tmp 25) (.tmp 32) (.const (.bool false))), none, []⟩, ⟨(some 34), (.mv (.tmp 33)), none, []⟩, ⟨(some 35), (.mv (.tmp 1)), (some ((some 34), true)), [(.tmp 1)]⟩, ⟨(some 36), (.mv (.tmp 0)), (some ((some 34), true)), [(.tmp 0)]⟩, ⟨(some 37), (.mv (.tmp 5)), (some ((some 34), true)), [(.tmp 5)]⟩, ⟨(some 38), (.iaddr 7 (.tmp 36) (.tmp 37)), (some ((some 34), true)), [(.tmp 36), (.tmp 37)]⟩, ⟨(some 39), (.faddr 2 (.tmp 38)), (some ((some 34), true)), [(.tmp 38)]⟩, ⟨(some 40), (.load false 1 (.tmp 39)), (some ((some 34), true)), [(.tmp 39)]⟩, ⟨(some 41), (.mv (.tmp 0)), (some ((some 34), true)), [(.tmp 0)]⟩, ⟨(some 42), (.mv (.tmp 5)), (some ((some 34), true)), [(.tmp 5)]⟩, ⟨(some 43), (.iaddr 7 (.tmp 41) (.tmp 42)), (some ((some 34), true)), [(.tmp 41), (.tmp 42)]⟩, ⟨(some 44), (.faddr 3 (.tmp 43)), (some ((some 34), true)), [(.tmp 43)]⟩, ⟨(some 45), (.load false 1 (.tmp 44)), (some ((some 34), true)), [(.tmp 44)]⟩, ⟨(some 46), (.bin .add (.tmp 40) (.tmp 45)), (some ((some 34), true)), [(.tmp 40), (.tmp 45)]⟩] [⟨(some 47), (.bin .lss (.tmp 35) (.tmp 46)), (some ((some 34), true)), [(.tmp 35), (.tmp 46)]⟩, ⟨(some 48), (.pick (.tmp 34) (.tmp 47) (.const (.bool false))), none, []⟩]) (.cond (.tmp 48) (.seq (.ops [⟨(some 50), (.mv (.tmp 0)), none, []⟩, ⟨(some 51), (.mv (.tmp 5)), none, []⟩, ⟨(some 52), (.iaddr 7 (.tmp 50) (.tmp 51)), none, []⟩, ⟨(some 53), (.load true 7 (.tmp 52)), none, []⟩, ⟨(some 54), (.call (.func 51) [(.tmp 53)]), none, []⟩, ⟨(some 49), (.mv (.tmp 54)), none, []⟩, ⟨(some 55), (.ext (.tmp 49) 0), none, []⟩, ⟨(some 56), (.ext (.tmp 49) 1), none, []⟩, ⟨(some 7), (.alloc [(.int .i64 0), (.int .i64 0), (.sl .nil [])]), none, []⟩, ⟨none, (.store 3 (.tmp 7) (.tmp 55)), none, []⟩, ⟨(some 8), (.mv (.tmp 56)), none, []⟩]) (.seq (.seq (.ops [⟨(some 57), (.mv (.tmp 8)), none, []⟩]) (.cond (.tmp 57) (.seq (.ops [⟨(some 58), (.load true 3 (.tmp 7)), none, []⟩, ⟨none, (.store 3 (.tmp 4) (.tmp 58)), none, []⟩]) .ret) .skip)) (.exit 0))) .skip)))) (.ops [⟨(some 17), (.mv (.tmp 5)), none, []⟩, ⟨(some 18), (.bin .add (.tmp 17) (.const (.int .i64 1))), none, []⟩, ⟨(some 5), (.mv (.tmp 18)), none, []⟩])))))) t))
theorem sc26_eq : sc26 = hd26 tl26 := rfl

/-- The best offer, event by event. -/
def offR (f : Int) (b : Option Opt) (e : Evt) : Option Opt := if 1 ≤ e.fr then offE f b e else b
theorem offR_all (f : Int) : ∀ (l : List Evt) (b : Option Opt), l.foldl (offR f) b = (plc l).foldl (offE f) b
  | [], _ => rfl
  | e :: l, b => by
    rw [List.foldl_cons, offR_all f l]
    by_cases h : 1 ≤ e.fr
    · rw [plc_yes e l h, List.foldl_cons, offR, if_pos h]
    · rw [plc_no e l h, offR, if_neg h]
def bestRow : Option Opt → List AV
  | none => zrow
  | some o => ownRow o
def BestOK : Option Opt → Prop
  | none => True
  | some o => 1 ≤ o.fr ∧ o.st ≤ 1000000
theorem offR_ok (f : Int) (b : Option Opt) (e : Evt) (h : Small e) (hb : BestOK b) : BestOK (offR f b e) := by
  obtain ⟨⟨a1, a2⟩, ⟨a3, a4⟩, a5, a6⟩ := h
  unfold offR
  split
  · unfold offE
    split
    · have ho : BestOK (some (optE e)) := ⟨by simp only [optE]; omega, by simp only [optE]; omega⟩
      cases b with
      | none => exact ho
      | some p =>
        simp only [offS]
        split
        · exact ho
        · exact hb
    · exact hb
  · exact hb
theorem find_plc (f : Int) (l : List Evt) : (plc l).find? (onB f) = l.find? (onB f) := by
  unfold plc
  rw [List.find?_filter]
  congr 1
  funext e
  simp only [onB]
  by_cases h : e.st ≤ f ∧ f < e.st + e.fr
  · have : 1 ≤ e.fr := by omega
    simp [h, this]
  · simp [h]

def orc26 (f : Int) : Nat → FuncId → List AV → AV := fun _ g a => match a with
  | [.agg [_, _, .int _ st, .int _ fr, .int _ i, _, al]] => if g = 50 then .bool (decide (1 ≤ fr)) else
      if 1 ≤ fr then .tup [.agg [I (st - i), I (fr + i), (match al with | .sl .ro _ => .sl .ro [[I 1, I 8]] | _ => .sl .ro [])], .bool (decide (0 ≤ st - i) && (match al with | .sl .ro _ => true | _ => false))] else .tup [zOr, .bool false]
  | _ => .junk
theorem orc26_50 (f : Int) (d : Nat) (e : Evt) : orc26 f d 50 [.agg (evtRow e)] = .bool (decide (1 ≤ e.fr)) := rfl
theorem orc26_51 (f : Int) (d : Nat) (e : Evt) : orc26 f d 51 [.agg (evtRow e)] = (if 1 ≤ e.fr then .tup [.agg (ownRow (optE e)), .bool (valE e)] else .tup [zOr, .bool false]) := by
  cases hal : e.al <;> simp [orc26, evtRow, ownRow, optE, valE, alA, alO, hal]

set_option maxRecDepth 100000 in
set_option maxHeartbeats 4000000 in
theorem tail26 (l : List Evt) (f : Int) (hl : l.length ≤ 1000000000) (hs : ∀ e ∈ l, Small e) (hf : -1000000 ≤ f ∧ f ≤ 1000000) (E : List (Nat × AV)) (rest : List (List AV)) (L' : List Nat) (h0 : Abs.look E 0 = .sl .ro (l.map evtRow)) (h1 : Abs.look E 1 = I f) (h4 : Abs.look E 4 = .ptr 0 0) :
    vc Tryz.prog gl0 (orc26 f) Y0 tl26 ⟨envT 110 E, ⟨zrow :: rest, L', fun _ => .gone, 0⟩⟩ (post Tryz.prog gl0 (orc26 f) rs26 (.agg (bestRow (offers f (plc l))))) := by
  simp [tl26, h0, h1, h4, zrow]
  refine vc_loopE [10, 11, 12, 60, 61, 62, 63, 64, 65, 66, 67, 68, 69, 70, 71, 72, 73, 74, 75, 76, 77, 78, 79, 80, 81, 82, 83, 84, 85, 86, 87, 88, 89, 90, 91, 92, 93, 94, 95, 96, 97, 98, 99, 100, 101, 102, 103, 104, 105, 106, 107, 108]
    (fun g m => ∃ (i : Nat) (more : List (List AV)), i ≤ l.length ∧ g 10 = I i ∧ m = ⟨zrow :: (rest ++ bestRow ((l.take i).foldl (offR f) none) :: more), L', fun _ => .gone, 0⟩ ∧ BestOK ((l.take i).foldl (offR f) none)) (fun g _ => l.length - (numOf (g 10)).toNat) ⟨0, [], by omega, by simp, by simp [bestRow, zrow], trivial⟩ ?_
  rintro g m ⟨i, more, hi, h10, rfl, hb⟩
  rcases Nat.lt_or_ge i l.length with hlt | hge
  · obtain ⟨e, he⟩ : ∃ e, l[i]? = some e := ⟨_, List.getElem?_eq_getElem hlt⟩
    have hrow : rowN (l.map evtRow) i = evtRow e := rowN_eq (by simp [he])
    have hsm := hs e (List.mem_of_getElem? he)
    have hof := rof_pure e hsm
    have hw : IntKind.i64.wrap ((i : Int) + 1) = ((i + 1 : Nat) : Int) := by rw [wrap_in] <;> omega
    have htk : (l.take (i + 1)).foldl (offR f) none = offR f ((l.take i).foldl (offR f) none) e := by
      rw [List.take_add_one, he]; simp [List.foldl_append]
    generalize (l.take i).foldl (offR f) none = b at htk hb
    have hb' := offR_ok f b e hsm hb
    rw [← htk] at hb'
    obtain ⟨⟨a1, a2⟩, ⟨a3, a4⟩, a5, a6⟩ := hsm
    obtain ⟨X, hX⟩ : ∃ X, X = e.st - e.i := ⟨_, rfl⟩
    have wX : IntKind.i64.wrap (X - 20) = X - 20 := by rw [wrap_in] <;> omega
    have hout : ∀ (v : Bool), v = valE e → ¬ (v = true ∧ e.i = 0 ∧ f < X ∧ X - 20 ≤ f) → offR f b e = b := by
      intro v hv hno
      unfold offR
      split
      · unfold offE
        rw [if_neg]
        rintro ⟨q1, q2, q3⟩
        simp only [folB, decide_eq_true_eq] at q3
        exact hno ⟨by rw [hv]; exact q1, q2, by omega, by omega⟩
      · rfl
    cases hal : e.al with
    | false =>
      have hve : valE e = false := by simp [valE, hal]
      have hn := hout false hve.symm (fun h => by cases h.1)
      rw [hve] at hof
      simp only [evtRow, hal, alA, Bool.false_eq_true, if_false, ownRow, optE, alO, ← hX] at hof
      by_cases c0 : 1 ≤ e.fr
      · simp only [c0, if_true] at hof
        simp [h0, h1, h10, hlt, hrow, evtRow, hal, alA, orc26, c0, hw, ← hX]
        refine ⟨hof, ag ?_, ⟨i + 1, by omega, by simp, by rw [htk, hn], hb'⟩, by omega⟩
        repeat (first | exact agree_refl _ _ | refine agree_cons _ rfl ?_)
      · simp only [c0, if_false, zOr] at hof
        simp [h0, h1, h10, hlt, hrow, evtRow, hal, alA, orc26, c0, hw, zOr]
        refine ⟨hof, ag ?_, ⟨i + 1, by omega, by simp, by rw [htk, hn], hb'⟩, by omega⟩
        repeat (first | exact agree_refl _ _ | refine agree_cons _ rfl ?_)
    | true =>
      by_cases c0 : 1 ≤ e.fr
      · by_cases c1 : 0 ≤ X
        · have hve : valE e = true := by simp [valE, hal]; omega
          rw [hve] at hof
          simp only [evtRow, hal, alA, if_true, ownRow, optE, alO, ← hX, c0] at hof
          by_cases c2 : e.i = 0
          · have c2' := eq_true c2
            by_cases c3 : f < X
            · by_cases c4 : X - 20 ≤ f
              · have hyes : offR f b e = offS b (optE e) := by
                  unfold offR
                  rw [if_pos c0]
                  unfold offE
                  rw [if_pos ⟨hve, c2, by simp only [folB, decide_eq_true_eq]; omega⟩]
                have hbr : bestRow (some (optE e)) = [I X, I (e.fr + e.i), .sl .ro [[I 1, I 8]]] := by simp [bestRow, ownRow, optE, alO, hal, hX]
                cases b with
                | none =>
                  have hn : offR f none e = some (optE e) := hyes
                  simp [h0, h1, h10, hlt, hrow, evtRow, hal, alA, orc26, hw, ← hX, wX, c0, c1, c2', c3, c4, bestRow, zrow]
                  refine ⟨hof, ag ?_, ⟨i + 1, by omega, by simp, by rw [htk, hn]; exact hbr.symm, hb'⟩, by omega⟩
                  repeat (first | exact agree_refl _ _ | refine agree_cons _ rfl ?_)
                | some p =>
                  have hpf : ¬ p.fr = 0 := by have := hb.1; omega
                  by_cases c5 : X < p.st
                  · have hn : offR f (some p) e = some (optE e) := by rw [hyes]; simp only [offS]; rw [if_pos (by simp only [optE]; omega)]
                    simp [h0, h1, h10, hlt, hrow, evtRow, hal, alA, orc26, hw, ← hX, wX, c0, c1, c2', c3, c4, c5, hpf, bestRow, ownRow, alO]
                    refine ⟨hof, ag ?_, ⟨i + 1, by omega, by simp, by rw [htk, hn]; exact hbr.symm, hb'⟩, by omega⟩
                    repeat (first | exact agree_refl _ _ | refine agree_cons _ rfl ?_)
                  · have hn : offR f (some p) e = some p := by rw [hyes]; simp only [offS]; rw [if_neg (by simp only [optE]; omega)]
                    simp [h0, h1, h10, hlt, hrow, evtRow, hal, alA, orc26, hw, ← hX, wX, c0, c1, c2', c3, c4, c5, hpf, bestRow, ownRow, alO]
                    refine ⟨hof, ag ?_, ⟨i + 1, by omega, by simp, by rw [htk, hn], hb'⟩, by omega⟩
                    repeat (first | exact agree_refl _ _ | refine agree_cons _ rfl ?_)
              · have hn := hout true hve.symm (fun h => c4 h.2.2.2)
                simp [h0, h1, h10, hlt, hrow, evtRow, hal, alA, orc26, hw, ← hX, wX, c0, c1, c2', c3, c4]
                refine ⟨hof, ag ?_, ⟨i + 1, by omega, by simp, by rw [htk, hn], hb'⟩, by omega⟩
                repeat (first | exact agree_refl _ _ | refine agree_cons _ rfl ?_)
            · have hn := hout true hve.symm (fun h => c3 h.2.2.1)
              simp [h0, h1, h10, hlt, hrow, evtRow, hal, alA, orc26, hw, ← hX, wX, c0, c1, c2', c3]
              refine ⟨hof, ag ?_, ⟨i + 1, by omega, by simp, by rw [htk, hn], hb'⟩, by omega⟩
              repeat (first | exact agree_refl _ _ | refine agree_cons _ rfl ?_)
          · have hn := hout true hve.symm (fun h => c2 h.2.1)
            have c2b : (e.i == 0) = false := by simp [c2]
            simp [h0, h1, h10, hlt, hrow, evtRow, hal, alA, orc26, hw, ← hX, wX, c0, c1, c2b]
            refine ⟨hof, ag ?_, ⟨i + 1, by omega, by simp, by rw [htk, hn], hb'⟩, by omega⟩
            repeat (first | exact agree_refl _ _ | refine agree_cons _ rfl ?_)
        · have hve : valE e = false := by simp [valE, hal]; omega
          have hn := hout false hve.symm (fun h => by cases h.1)
          rw [hve] at hof
          simp only [evtRow, hal, alA, if_true, ownRow, optE, alO, ← hX, c0] at hof
          simp [h0, h1, h10, hlt, hrow, evtRow, hal, alA, orc26, hw, ← hX, wX, c0, c1]
          refine ⟨hof, ag ?_, ⟨i + 1, by omega, by simp, by rw [htk, hn], hb'⟩, by omega⟩
          repeat (first | exact agree_refl _ _ | refine agree_cons _ rfl ?_)
      · have hn : offR f b e = b := by unfold offR; rw [if_neg c0]
        simp only [evtRow, hal, alA, if_true, c0, if_false, zOr] at hof
        simp [h0, h1, h10, hlt, hrow, evtRow, hal, alA, orc26, c0, hw, zOr]
        refine ⟨hof, ag ?_, ⟨i + 1, by omega, by simp, by rw [htk, hn], hb'⟩, by omega⟩
        repeat (first | exact agree_refl _ _ | refine agree_cons _ rfl ?_)
  · have htk : l.take i = l := List.take_of_length_le hge
    rw [htk, offR_all]
    have hoff : (plc l).foldl (offE f) none = offers f (plc l) := rfl
    rw [hoff]
    cases offers f (plc l) with
    | none => simp [h0, h1, h4, h10, Nat.not_lt.2 hge, rs26, zrow, bestRow]
    | some o => simp [h0, h1, h4, h10, Nat.not_lt.2 hge, rs26, zrow, bestRow, ownRow, alO]
theorem find_take2 {q : List Evt} {p : Evt → Bool} {i : Nat} {e : Evt} (h : ∀ x ∈ q.take i, p x = false) (hy : q[i]? = some e) (he : p e = true) : q.find? p = some e := by
  have hlt := (List.getElem?_eq_some_iff.1 hy).1
  have hsp : q = q.take i ++ e :: q.drop (i + 1) := by
    have := List.take_append_drop i q
    rw [drop_cons hy] at this
    exact this.symm
  rw [hsp, List.find?_append]
  have hn : (q.take i).find? p = none := List.find?_eq_none.2 fun x hx => by simp [h x hx]
  rw [hn]
  simp [he]

/-- What is returned: the row of the opt-out that is found, or of none. -/
def nextRow (f : Int) (l : List Evt) : List AV := match l.find? (onB f) with
  | some e => if valE e = true then ownRow (optE e) else bestRow (offers f (plc l))
  | none => bestRow (offers f (plc l))

set_option maxRecDepth 100000 in
set_option maxHeartbeats 4000000 in
theorem rnext0_pure (l : List Evt) (f : Int) (hl : l.length ≤ 1000000000) (hs : ∀ e ∈ l, Small e) (hf : -1000000 ≤ f ∧ f ≤ 1000000) : Pure Tryz.prog gl0 26 [.sl .ro (l.map evtRow), I f] (.agg (nextRow f l)) := by
  refine pureE code26 (orc26 f) (by simp) ?_
  rw [sc26_eq]
  simp [hd26]
  refine vc_loopE [5, 6, 7, 8, 13, 14, 15, 16, 17, 18, 19, 20, 21, 22, 23, 24, 25, 26, 27, 28, 29, 30, 31, 32, 33, 34, 35, 36, 37, 38, 39, 40, 41, 42, 43, 44, 45, 46, 47, 48, 49, 50, 51, 52, 53, 54, 55, 56, 57, 58]
    (fun g m => ∃ (i : Nat), i ≤ l.length ∧ g 5 = I i ∧ m = ⟨[zrow], [], fun _ => .gone, 0⟩ ∧ ∀ x ∈ l.take i, onB f x = false) (fun g _ => l.length - (numOf (g 5)).toNat) ⟨0, by omega, by simp, by simp [zrow], by simp⟩ ?_
  rintro g m ⟨i, hi, h5, rfl, hno⟩
  rcases Nat.lt_or_ge i l.length with hlt | hge
  · obtain ⟨e, he⟩ : ∃ e, l[i]? = some e := ⟨_, List.getElem?_eq_getElem hlt⟩
    have hrow : rowN (l.map evtRow) i = evtRow e := rowN_eq (by simp [he])
    have hsm := hs e (List.mem_of_getElem? he)
    have hof := rof_pure e hsm
    have hpl := rplaced_pure e hsm
    have hw : IntKind.i64.wrap ((i : Int) + 1) = ((i + 1 : Nat) : Int) := by rw [wrap_in] <;> omega
    obtain ⟨⟨a1, a2⟩, ⟨a3, a4⟩, a5, a6⟩ := hsm
    have w1 : IntKind.i64.wrap (e.st + e.fr) = e.st + e.fr := by rw [wrap_in] <;> omega
    have htk : l.take (i + 1) = l.take i ++ [e] := by rw [List.take_add_one, he]; rfl
    have hnext : onB f e = false → ∀ x ∈ l.take (i + 1), onB f x = false := by
      intro hon
      rw [htk]
      intro x hx
      rcases List.mem_append.1 hx with h | h
      · exact hno x h
      · simp at h; subst h; exact hon
    have hde : decide (0 ≤ e.st - e.i) = decide (e.i ≤ e.st) := by simp
    cases hon : onB f e with
    | false =>
      have hno' := hnext hon
      have h2 : ¬ (e.st ≤ f ∧ f < e.st + e.fr) := by simpa [onB] using hon
      by_cases c0 : 1 ≤ e.fr
      · simp only [c0, decide_true] at hpl
        by_cases c1 : e.st ≤ f
        · have c2 : ¬ f < e.st + e.fr := fun h => h2 ⟨c1, h⟩
          cases hal : e.al with
          | false =>
            simp only [evtRow, hal, alA, Bool.false_eq_true, if_false] at hpl
            simp [h5, hlt, hrow, evtRow, hal, alA, orc26, hw, w1, c0, c1, c2]
            refine ⟨hpl, ag ?_, ⟨i + 1, by omega, by simp, hno'⟩, by omega⟩
            repeat (first | exact agree_refl _ _ | refine agree_cons _ rfl ?_)
          | true =>
            simp only [evtRow, hal, alA, if_true] at hpl
            simp [h5, hlt, hrow, evtRow, hal, alA, orc26, hw, w1, c0, c1, c2]
            refine ⟨hpl, ag ?_, ⟨i + 1, by omega, by simp, hno'⟩, by omega⟩
            repeat (first | exact agree_refl _ _ | refine agree_cons _ rfl ?_)
        · cases hal : e.al with
          | false =>
            simp only [evtRow, hal, alA, Bool.false_eq_true, if_false] at hpl
            simp [h5, hlt, hrow, evtRow, hal, alA, orc26, hw, w1, c0, c1]
            refine ⟨hpl, ag ?_, ⟨i + 1, by omega, by simp, hno'⟩, by omega⟩
            repeat (first | exact agree_refl _ _ | refine agree_cons _ rfl ?_)
          | true =>
            simp only [evtRow, hal, alA, if_true] at hpl
            simp [h5, hlt, hrow, evtRow, hal, alA, orc26, hw, w1, c0, c1]
            refine ⟨hpl, ag ?_, ⟨i + 1, by omega, by simp, hno'⟩, by omega⟩
            repeat (first | exact agree_refl _ _ | refine agree_cons _ rfl ?_)
      · simp only [c0, decide_false] at hpl
        cases hal : e.al with
        | false =>
          simp only [evtRow, hal, alA, Bool.false_eq_true, if_false] at hpl
          simp [h5, hlt, hrow, evtRow, hal, alA, orc26, hw, w1, c0]
          refine ⟨hpl, ag ?_, ⟨i + 1, by omega, by simp, hno'⟩, by omega⟩
          repeat (first | exact agree_refl _ _ | refine agree_cons _ rfl ?_)
        | true =>
          simp only [evtRow, hal, alA, if_true] at hpl
          simp [h5, hlt, hrow, evtRow, hal, alA, orc26, hw, w1, c0]
          refine ⟨hpl, ag ?_, ⟨i + 1, by omega, by simp, hno'⟩, by omega⟩
          repeat (first | exact agree_refl _ _ | refine agree_cons _ rfl ?_)
    | true =>
      have h2 : e.st ≤ f ∧ f < e.st + e.fr := by simpa [onB] using hon
      have hfind := find_take2 hno he hon
      have c0 : 1 ≤ e.fr := by omega
      simp only [c0, decide_true] at hpl
      simp only [c0, if_true] at hof
      have hnr : nextRow f l = if valE e = true then ownRow (optE e) else bestRow (offers f (plc l)) := by simp only [nextRow, hfind]
      rw [hnr]
      cases hal : e.al with
      | false =>
        have hve : valE e = false := by simp [valE, hal]
        simp only [evtRow, hal, alA, Bool.false_eq_true, if_false] at hpl
        simp only [evtRow, hal, alA, Bool.false_eq_true, if_false, ownRow, optE, alO, hve] at hof
        simp only [hve, Bool.false_eq_true, if_false]
        simp [h5, hlt, hrow, evtRow, hal, alA, orc26, hw, w1, c0, h2.1, h2.2]
        refine ⟨hpl, hof, ?_⟩
        refine tail26 l f hl hs hf _ _ _ ?_ ?_ ?_ <;> simp
      | true =>
        simp only [evtRow, hal, alA, if_true] at hpl
        by_cases c1 : e.i ≤ e.st
        · have hve : valE e = true := by simp [valE, hal]; omega
          simp only [evtRow, hal, alA, if_true, ownRow, optE, alO, hve] at hof
          simp only [hve, if_true]
          simp [h5, hlt, hrow, evtRow, hal, alA, orc26, hw, w1, c0, c1, h2.1, h2.2, rs26, zrow, ownRow, optE, alO]
          exact ⟨hpl, hof⟩
        · have hve : valE e = false := by simp [valE, hal]; omega
          simp only [evtRow, hal, alA, if_true, ownRow, optE, alO, hve] at hof
          simp only [hve, Bool.false_eq_true, if_false]
          simp [h5, hlt, hrow, evtRow, hal, alA, orc26, hw, w1, c0, c1, h2.1, h2.2]
          refine ⟨hpl, hof, ?_⟩
          refine tail26 l f hl hs hf _ _ _ ?_ ?_ ?_ <;> simp
  · have htk : l.take i = l := List.take_of_length_le hge
    rw [htk] at hno
    have hfn : l.find? (onB f) = none := List.find?_eq_none.2 fun x hx => by simp [hno x hx]
    have hnr : nextRow f l = bestRow (offers f (plc l)) := by simp only [nextRow, hfn]
    rw [hnr]
    simp [h5, Nat.not_lt.2 hge]
    refine tail26 l f hl hs hf _ _ _ ?_ ?_ ?_ <;> simp

theorem nextRow_wk (f : Int) (l : List Evt) : Wk (.agg (nextRow f l)) (.agg (ownRow (nextS f l))) := by
  have hb : Wk (.agg (bestRow (offers f (plc l)))) (.agg (ownRow ((offers f (plc l)).getD zO))) := by
    cases offers f (plc l) with
    | none => exact wk_agg ⟨Wk.refl _, Wk.refl _, Wk.sl _ _, trivial⟩
    | some o => exact Wk.refl _
  unfold nextRow nextS
  rw [find_plc]
  cases l.find? (onB f) with
  | none => exact hb
  | some e =>
    simp only
    split
    · exact Wk.refl _
    · exact hb
theorem rnext_opt_pure (l : List Evt) (f : Int) (hl : l.length ≤ 1000000000) (hs : ∀ e ∈ l, Small e) (hf : -1000000 ≤ f ∧ f ≤ 1000000) : Pure Tryz.prog gl0 26 [.sl .ro (l.map evtRow), I f] (.agg (ownRow (nextS f l))) :=
  pure_res (rnext0_pure l f hl hs hf) (nextRow_wk f l)
end Go.Proofs.YtedgjnpaebllpaaGreatDoor
