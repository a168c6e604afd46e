/-
  OWN WORK. The law PlayoutGenuineMatchesReference on abstract arguments.
-/
import Derived.Test.YtedgjnpaebllpaaDoorLwB
import Derived.Test.YtedgjnpaebllpaaDoorLwS
set_option linter.unusedVariables false
set_option linter.unusedSimpArgs false
namespace Go.Proofs.YtedgjnpaebllpaaDoor
open Go Go.Abs

def i64 (n : Int) : Prop := -9223372036854775808 ≤ n ∧ n ≤ 9223372036854775807

theorem libs_ok (xs : List Int) (k : Nat) (hk : k ≤ 3) : BigOK (libs xs k) := by
  refine ⟨by simp [libs]; omega, fun a ha => ?_⟩
  simp [libs] at ha
  obtain ⟨j, hj, rfl⟩ := ha
  simp [libA, libPics, nPics]
  omega

def unitOf (r : List AV) : Unit := match r with
  | [.int _ ch, .int _ fr, .int _ ve, .int _ it, .int _ ix, .bool key, .str data, .int _ re, .int _ ga, .str cap, .int _ os, .int _ of, al] => ⟨ch, fr, ve, it, ix, key, data, re, ga, cap, os, of, al⟩
  | _ => ⟨0, 0, 0, 0, 0, false, ⟨#[]⟩, 0, 0, ⟨#[]⟩, 0, 0, .sl .nil []⟩
theorem unitOf_row (u : Unit) : unitOf (unitRow u) = u := rfl

@[simp] theorem cvn_lib (m : AM) (L : List Asset) : cvn m 6 (libAV L) = libAV L := rfl
@[simp] theorem hasP_lib (L : List Asset) : hasP 6 (libAV L) = false := rfl
@[simp] theorem isCell_lib (L : List Asset) : isCell (libAV L) = true := rfl
@[simp] theorem cvn_ints (m : AM) (xs : List Int) : cvn m 6 (ints xs) = ints xs := rfl
@[simp] theorem hasP_ints (xs : List Int) : hasP 6 (ints xs) = false := rfl

def orc3 (L : List Asset) : Nat → FuncId → List AV → AV := fun d f l => match f with
  | 8 => .bool true
  | 9 => .sl .ro (L.map assetRow)
  | 10 => (match l with | [.int _ a, .int _ b] => I (pickI a b) | _ => .junk)
  | 11 => (match l with | [_, .int _ a] => foundA (fnd a L) | _ => .junk)
  | _ => (match l with | [_, .agg r] => .bool (genB L (unitOf r)) | _ => .junk)

def c3 : SC := (.seq (.ops [⟨(some 82), (.bin .lss (.tmp 81) (.tmp 80)), none, []⟩]) (.seq (.cond (.tmp 82) .skip (.exit 0)) (.seq (.block 1 (.seq (.ops [⟨(some 83), (.iaddr 13 (.tmp 79) (.tmp 81)), none, []⟩, ⟨(some 84), (.load true 13 (.tmp 83)), none, []⟩, ⟨(some 12), (.alloc [(.int .i64 0), (.int .i64 0), (.int .i64 0), (.int .i64 0), (.int .i64 0), (.bool false), (.str ⟨#[]⟩), (.int .i64 0), (.int .i64 0), (.str ⟨#[]⟩), (.int .i64 0), (.int .i64 0), (.sl .nil [])]), none, []⟩, ⟨none, (.store 13 (.tmp 12) (.tmp 84)), none, []⟩]) (.seq (.draw [⟨(some 85), (.mv (.tmp 6)), none, []⟩, ⟨(some 86), (.load true 13 (.tmp 12)), none, []⟩, ⟨(some 87), (.call (.func 12) [(.tmp 85), (.tmp 86)]), none, []⟩, ⟨(some 88), (.mv (.tmp 6)), none, []⟩, ⟨(some 89), (.load true 13 (.tmp 12)), none, []⟩, ⟨(some 90), (.call (.func 13) [(.tmp 88), (.tmp 89)]), none, []⟩, ⟨(some 91), (.binB .neq (.tmp 87) (.tmp 90)), none, []⟩] []) (.cond (.tmp 91) (.seq (.ops [⟨(some 4), (.mv (.const (.bool false))), none, []⟩]) .ret) .skip)))) (.ops [⟨(some 92), (.bin .add (.tmp 81) (.const (.int .i64 1))), none, []⟩, ⟨(some 81), (.mv (.tmp 92)), none, []⟩]))))

set_option maxRecDepth 100000 in
set_option maxHeartbeats 4000000 in
theorem loop3 (L : List Asset) (hL : BigOK L) (us : List Unit) (h5 : us.length = 5) (hok : ∀ u ∈ us, ok1 u.al = true) (E : List (Nat × AV)) (B : List (List AV)) (Q : Exit → AS → Prop)
    (h79 : Abs.look E 79 = .sl .full (us.map unitRow)) (h80 : Abs.look E 80 = I 5) (h6 : Abs.look E 6 = .sl .ro (L.map assetRow)) (h81 : Abs.look E 81 = I 0)
    (hQ : ∀ E' B', Abs.look E' 5 = Abs.look E 5 → Q (.exit 0) ⟨envT 94 E', ⟨B', [], fun _ => .gone, 0⟩⟩) : vc Tryd.prog gl0 (orc3 L) Y0 (.loop c3) ⟨envT 94 E, ⟨B, [], fun _ => .gone, 0⟩⟩ Q := by
  refine vc_loopE [4, 12, 81, 82, 83, 84, 85, 86, 87, 88, 89, 90, 91, 92] (fun f m => ∃ (i : Nat) (B : List (List AV)), i ≤ 5 ∧ f 81 = I i ∧ m = ⟨B, [], fun _ => .gone, 0⟩) (fun f m => 6 - (numOf (f 81)).toNat) ?_ ?_
  · exact ⟨0, B, by omega, by simp [h81], rfl⟩
  · rintro f m ⟨i, B, hi, hf81, rfl⟩
    by_cases h : i = 5
    · subst h
      simp [c3, hf81, h80]
      exact hQ _ _ (by simp)
    · have hlt : i < us.length := by omega
      obtain ⟨u, hu⟩ : ∃ u, us[i]? = some u := ⟨_, List.getElem?_eq_getElem hlt⟩
      have hal := hok u (List.mem_of_getElem? hu)
      have hrow : rowN (us.map unitRow) i = unitRow u := rowN_eq (by simp [hu])
      have hw1 : IntKind.i64.wrap ((i : Int) + 1) = ((i + 1 : Nat) : Int) := by rw [wrap_in] <;> omega
      have hi5 : (i : Int) < 5 := by omega
      have hi5n : i < 5 := by omega
      have c5 : ∀ m, cvn m 5 u.al = u.al := fun m => cvn_ok1 m 4 hal
      have p5 : hasP 5 u.al = false := hasP_ok1 4 hal
      have g1 : Pure Tryd.prog gl0 12 [.sl .ro (L.map assetRow), .agg [I u.ch, I u.fr, I u.ve, I u.it, I u.ix, .bool u.key, .str u.data, I u.re, I u.ga, .str u.cap, I u.os, I u.of, u.al]] (.bool (genB L u)) := genuine_pure L u hL hal
      have g2 : Pure Tryd.prog gl0 13 [.sl .ro (L.map assetRow), .agg [I u.ch, I u.fr, I u.ve, I u.it, I u.ix, .bool u.key, .str u.data, I u.re, I u.ga, .str u.cap, I u.os, I u.of, u.al]] (.bool (genB L u)) := refGenuine_pure L u hL hal
      simp [c3, hf81, h80, h79, h6, h5, hi5, hi5n, hrow, unitRow, orc3, unitOf, c5, p5, isCell_ok1 hal, hw1]
      refine ⟨g1, g2, ag ?_, ⟨i + 1, by omega, by simp⟩, by omega⟩
      repeat (first | exact agree_refl _ _ | refine agree_cons _ rfl ?_)

end Go.Proofs.YtedgjnpaebllpaaDoor
