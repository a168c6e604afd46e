/-
  OWN WORK. The law PlayoutMatchesReference on abstract arguments.
-/
import Derived.Test.YtedgjnpaebllpaaGreatDoorLzH
set_option linter.unusedVariables false
set_option linter.unusedSimpArgs false
namespace Go.Proofs.YtedgjnpaebllpaaGreatDoor
open Go Go.Abs

theorem unit_al2 (ch ve ed c d : Int) (ev : List Evt) (L : List Asset) (f : Int) : ∃ rt b, (unitS ch ve ed c d ev L f).al = .sl rt (if b = true then [[I 1, I 8]] else []) := by
  unfold unitS
  repeat' split
  all_goals first | exact ⟨.nil, false, rfl⟩ | exact ⟨.ro, (nextS f ev).al, rfl⟩

def orc3 (P : List AV) (L : List Asset) (f1 f2 : Int) (U : Int → Unit) (G : Int → Int) : Nat → FuncId → List AV → AV := fun d g a =>
  if g = 4 then .bool true else if g = 5 then .agg P else if g = 6 then .sl .ro (L.map assetRow) else if g = 7 then (if d = 21 then I f1 else I f2) else if g = 8 then .bool true else
  match a with
  | [_, _, .int _ f] => if g = 9 then .agg (unitRow (U f)) else if g = 10 then .agg (unitRow (U f)) else I (G f)
  | [.int _ ch, .int _ f] => .agg (unitRow (slateU ch 0 f))
  | _ => .junk

set_option maxRecDepth 100000 in
set_option maxHeartbeats 4000000 in
theorem law3 (X : List Q4) (n : Q4) (xs : List Int) (frame : Int) (hX : ∀ x ∈ X, Q4OK x) (hl : X.length ≤ 9223372036854775807) (hn : Q4OK n) (hx : ∀ x ∈ xs, i64 x) (hxl : xs.length ≤ 9223372036854775807) (hfr : i64 frame) :
    Pure Tryz.prog gl0 3 [.sl .ro (X.map q4Row), .agg (q4Row n), ints xs, I frame] (.bool true) := by
  have hsane := sane_pure
  have hprog := program_pure X n hX hl hn
  have hlib : Pure Tryz.prog gl0 6 [ints xs] (.sl .ro ((libs xs 3).map assetRow)) := library_pure xs hx hxl
  have hL := libs_pow xs
  have hpk := pick_pure frame 450 hfr.1 hfr.2 (by omega)
  have hb1 := pickI_bd' frame 450 (by omega)
  have hpk2 := pick_pure frame 60 hfr.1 hfr.2 (by omega)
  have hb2 := pickI_bd' frame 60 (by omega)
  generalize pickI frame 450 = f1 at hpk hb1
  generalize pickI frame 60 = f2 at hpk2 hb2
  obtain ⟨hch, hsm, h14⟩ := events_all X
  have hed := pickI_bd' n.c 60 (by omega)
  generalize libs xs 3 = L at hlib hL
  obtain ⟨U, hU⟩ : ∃ U : Int → Unit, ∀ f, unitS (pickI n.a 40) (pickI n.b 100) (pickI n.c 60) n.c n.d (events X) L f = U f := ⟨_, fun _ => rfl⟩
  obtain ⟨G, hG⟩ : ∃ G : Int → Int, ∀ f, gainF L (begs f (events X)) 1000 = G f := ⟨_, fun _ => rfl⟩
  refine pureE code3 (orc3 (progAV X n) L f1 f2 U G) (by simp) ?_
  simp [sc3, orc3, q4Row, progAV, cuesAV]
  refine ⟨hsane, hprog, hlib, hpk, hpk2, ?_⟩
  have hget : ∀ i : Nat, i < 3 → ∃ f : Int, (-1 ≤ f ∧ f < 450) ∧ rowN [[I f1], [I f2], [I (-1)]] i = [I f] := by
    intro i hi
    match i, hi with
    | 0, _ => exact ⟨f1, by omega, rfl⟩
    | 1, _ => exact ⟨f2, by omega, rfl⟩
    | 2, _ => exact ⟨-1, by omega, rfl⟩
  refine vc_loopE [8, 13, 26, 27, 28, 29, 30, 31, 32, 33, 34, 35, 36, 37, 38, 39, 40, 41, 42, 43, 44, 45, 46, 47, 48, 49, 50, 51, 52, 53, 54, 55, 56, 57, 58, 59, 60, 61, 62, 63]
    (fun g m => ∃ (i : Nat), i ≤ 3 ∧ g 26 = I i ∧ m = ⟨_, [], fun _ => .gone, 0⟩) (fun g _ => 3 - (numOf (g 26)).toNat) ⟨0, by omega, by simp, rfl⟩ ?_
  rintro g m ⟨i, hi, h26, rfl⟩
  by_cases hi3 : i = 3
  · subst hi3
    simp [h26, rs3]
  · have hi2 : i < 3 := by omega
    have hi2' : (i : Int) < 3 := by omega
    obtain ⟨f, hfb, hrow⟩ := hget i hi2
    have hw : IntKind.i64.wrap ((i : Int) + 1) = ((i + 1 : Nat) : Int) := by rw [wrap_in] <;> omega
    have hu1 := unit_pure (pickI n.a 40) (pickI n.b 100) (pickI n.c 60) n.c n.d ⟨by omega, by omega⟩ (events X) (by omega) hsm L hL f ⟨by omega, by omega⟩
    have hr1 := runit_pure (pickI n.a 40) (pickI n.b 100) (pickI n.c 60) n.c n.d ⟨by omega, by omega⟩ (events X) (by omega) hsm L hL f ⟨by omega, by omega⟩
    have hg1 := gain_pure L hL (events X) f (by omega) hsm ⟨by omega, by omega⟩ (pickI n.a 40) (pickI n.b 100) (pickI n.c 60) (cuesAV n.c n.d) rfl
    have hg2 := rGain_pure L hL (events X) f (by omega) hsm ⟨by omega, by omega⟩ (pickI n.a 40) (pickI n.b 100) (pickI n.c 60) (cuesAV n.c n.d) rfl
    have hs1 := slate_pure n.a f
    have hs2 := rslate_pure n.a f
    have oku := unit_al (pickI n.a 40) (pickI n.b 100) (pickI n.c 60) n.c n.d (events X) L f
    obtain ⟨rt, b, hal⟩ := unit_al2 (pickI n.a 40) (pickI n.b 100) (pickI n.c 60) n.c n.d (events X) L f
    have hsame := same23 _ rt b hal oku
    have hsame2 := same23 (slateU n.a 0 f) .nil false rfl rfl
    rw [hU] at hu1 hr1 oku hal hsame
    rw [hG] at hg1 hg2
    have c5 : ∀ m, cvn m 5 (U f).al = (U f).al := fun m => cvn_ok1 m 4 oku
    simp [h26, hi2', hi2, hrow, hw, orc3, unitRow, isCell_ok1 oku, c5, slateU, eB]
    refine ⟨hu1, hr1, hsame, hg1, hg2, hs1, hs2, hsame2, ag ?_, ⟨i + 1, by omega, by simp⟩, by omega⟩
    repeat (first | exact agree_refl _ _ | refine agree_cons _ rfl ?_)
end Go.Proofs.YtedgjnpaebllpaaGreatDoor
