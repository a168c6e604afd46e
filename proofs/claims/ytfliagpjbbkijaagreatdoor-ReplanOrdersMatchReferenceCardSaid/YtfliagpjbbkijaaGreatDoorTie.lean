/-
  DERIVED. GIVEN WITH THE SEED: THE PROGRAM's TIES (one call each: nine closed facts by the kernel) AND EACH ROW's TIE, after the 31st guide's Derived/Test/Toyas{Tie, Card}.lean. No idea stands in it: it is a product of the set-up. Laid BY PROGRAM, IN A SANDBOX (cutbox-door.mjs). By AI agents, Wed Nov 11 2026. No macro, syntax, notation, axiom, sorry.
-/
import Derived.Test.YtfliagpjbbkijaaGreatDoorRows
import Derived.LaidByTextLater
import Derived.SevenTiedAt
import Derived.LaidSub
import Derived.LaidOnce
namespace Go.Proofs.YtfliagpjbbkijaaGreatDoor
open Go
set_option maxRecDepth 100000
theorem seatTie1 : Tryz.prog.laidByTextLater [("onair/timecode.rates", Rows.laid_onair_timecode_rates), ("onair/replan.errWire", Rows.laid_onair_replan_errWire), ("onair/replan.errReplan", Rows.laid_onair_replan_errReplan)] [.data, .sentinel, .sentinel] true :=
  Program.laidByTextLater_by_one 68 8 33 (by kernel_rfl) (by kernel_rfl) (by kernel_rfl) (by kernel_rfl) (by kernel_rfl) (by kernel_rfl) (fun _ _ => by kernel_rfl)
theorem noOwnUnsafe : Tryz.pinned.checked.prog.headLifts.contains "ownunsafe" = false := by kernel_rfl
theorem tie : Tryz.prog.laidByTextLater [("onair/timecode.rates", Rows.laid_onair_timecode_rates), ("onair/replan.errWire", Rows.laid_onair_replan_errWire), ("onair/replan.errReplan", Rows.laid_onair_replan_errReplan)] [.data, .sentinel, .sentinel] true :=
  Program.laidByTextLater.sub seatTie1 ["onair/timecode.rates", "onair/replan.errWire", "onair/replan.errReplan"] (by kernel_rfl) (by kernel_rfl)
theorem replanRoundTrip_row_tie : Rows.replanRoundTripRow.laidByTextAt .later Tryz.pinned [.data, .sentinel, .sentinel] true :=
  OpenClaim.laidByTextAt_later rfl rfl tie noOwnUnsafe
theorem replanDecodedAgain_row_tie : Rows.replanDecodedAgainRow.laidByTextAt .later Tryz.pinned [.data, .sentinel, .sentinel] true :=
  OpenClaim.laidByTextAt_later rfl rfl tie noOwnUnsafe
theorem replanOrdersMatchReference_row_tie : Rows.replanOrdersMatchReferenceRow.laidByTextAt .later Tryz.pinned [.data, .sentinel, .sentinel] true :=
  OpenClaim.laidByTextAt_later rfl rfl tie noOwnUnsafe
theorem replanRoundTripUpto_row_tie : Rows.replanRoundTripUptoRow.laidByTextAt .later Tryz.pinned [.data, .sentinel, .sentinel] true :=
  OpenClaim.laidByTextAt_later rfl rfl tie noOwnUnsafe
theorem replanDecodedAgainUpto_row_tie : Rows.replanDecodedAgainUptoRow.laidByTextAt .later Tryz.pinned [.data, .sentinel, .sentinel] true :=
  OpenClaim.laidByTextAt_later rfl rfl tie noOwnUnsafe
theorem replanOrdersMatchReferenceUpto_row_tie : Rows.replanOrdersMatchReferenceUptoRow.laidByTextAt .later Tryz.pinned [.data, .sentinel, .sentinel] true :=
  OpenClaim.laidByTextAt_later rfl rfl tie noOwnUnsafe
end Go.Proofs.YtfliagpjbbkijaaGreatDoor
