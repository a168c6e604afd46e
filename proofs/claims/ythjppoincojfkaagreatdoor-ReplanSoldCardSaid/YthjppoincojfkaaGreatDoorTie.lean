/-
  DERIVED. GIVEN WITH THE SEED: THE PROGRAM's TIES (one call each: nine closed facts by the kernel) AND EACH ROW's TIE, after the 31st guide's Derived/Test/Toyas{Tie, Card}.lean. No idea stands in it: it is a product of the set-up. Laid BY PROGRAM, IN A SANDBOX (cutbox-door.mjs). By AI agents, Wed Nov 11 2026. No macro, syntax, notation, axiom, sorry.
-/
import Derived.Test.YthjppoincojfkaaGreatDoorRows
import Derived.LaidByTextLater
import Derived.SevenTiedAt
import Derived.LaidSub
import Derived.LaidOnce
namespace Go.Proofs.YthjppoincojfkaaGreatDoor
open Go
set_option maxRecDepth 100000
theorem seatTie1 : Tryz.prog.laidByTextLater [("onair/timecode.rates", Rows.laid_onair_timecode_rates), ("onair/replan.errWire", Rows.laid_onair_replan_errWire), ("onair/replan.errReplan", Rows.laid_onair_replan_errReplan)] [.data, .sentinel, .sentinel] true :=
  Program.laidByTextLater_by_one 68 8 33 (by kernel_rfl) (by kernel_rfl) (by kernel_rfl) (by kernel_rfl) (by kernel_rfl) (by kernel_rfl) (fun _ _ => by kernel_rfl)
theorem noOwnUnsafe : Tryz.pinned.checked.prog.headLifts.contains "ownunsafe" = false := by kernel_rfl
theorem tie : Tryz.prog.laidByTextLater [("onair/timecode.rates", Rows.laid_onair_timecode_rates), ("onair/replan.errWire", Rows.laid_onair_replan_errWire), ("onair/replan.errReplan", Rows.laid_onair_replan_errReplan)] [.data, .sentinel, .sentinel] true :=
  Program.laidByTextLater.sub seatTie1 ["onair/timecode.rates", "onair/replan.errWire", "onair/replan.errReplan"] (by kernel_rfl) (by kernel_rfl)
theorem replanKeepsPast_row_tie : Rows.replanKeepsPastRow.laidByTextAt .later Tryz.pinned [.data, .sentinel, .sentinel] true :=
  OpenClaim.laidByTextAt_later rfl rfl tie noOwnUnsafe
theorem replanCovers_row_tie : Rows.replanCoversRow.laidByTextAt .later Tryz.pinned [.data, .sentinel, .sentinel] true :=
  OpenClaim.laidByTextAt_later rfl rfl tie noOwnUnsafe
theorem replanPermitted_row_tie : Rows.replanPermittedRow.laidByTextAt .later Tryz.pinned [.data, .sentinel, .sentinel] true :=
  OpenClaim.laidByTextAt_later rfl rfl tie noOwnUnsafe
theorem replanOnce_row_tie : Rows.replanOnceRow.laidByTextAt .later Tryz.pinned [.data, .sentinel, .sentinel] true :=
  OpenClaim.laidByTextAt_later rfl rfl tie noOwnUnsafe
theorem replanOthers_row_tie : Rows.replanOthersRow.laidByTextAt .later Tryz.pinned [.data, .sentinel, .sentinel] true :=
  OpenClaim.laidByTextAt_later rfl rfl tie noOwnUnsafe
theorem replanCues_row_tie : Rows.replanCuesRow.laidByTextAt .later Tryz.pinned [.data, .sentinel, .sentinel] true :=
  OpenClaim.laidByTextAt_later rfl rfl tie noOwnUnsafe
theorem replanBlackout_row_tie : Rows.replanBlackoutRow.laidByTextAt .later Tryz.pinned [.data, .sentinel, .sentinel] true :=
  OpenClaim.laidByTextAt_later rfl rfl tie noOwnUnsafe
theorem replanSold_row_tie : Rows.replanSoldRow.laidByTextAt .later Tryz.pinned [.data, .sentinel, .sentinel] true :=
  OpenClaim.laidByTextAt_later rfl rfl tie noOwnUnsafe
theorem replanKeepsPastUpto_row_tie : Rows.replanKeepsPastUptoRow.laidByTextAt .later Tryz.pinned [.data, .sentinel, .sentinel] true :=
  OpenClaim.laidByTextAt_later rfl rfl tie noOwnUnsafe
theorem replanCoversUpto_row_tie : Rows.replanCoversUptoRow.laidByTextAt .later Tryz.pinned [.data, .sentinel, .sentinel] true :=
  OpenClaim.laidByTextAt_later rfl rfl tie noOwnUnsafe
theorem replanPermittedUpto_row_tie : Rows.replanPermittedUptoRow.laidByTextAt .later Tryz.pinned [.data, .sentinel, .sentinel] true :=
  OpenClaim.laidByTextAt_later rfl rfl tie noOwnUnsafe
theorem replanOnceUpto_row_tie : Rows.replanOnceUptoRow.laidByTextAt .later Tryz.pinned [.data, .sentinel, .sentinel] true :=
  OpenClaim.laidByTextAt_later rfl rfl tie noOwnUnsafe
theorem replanOthersUpto_row_tie : Rows.replanOthersUptoRow.laidByTextAt .later Tryz.pinned [.data, .sentinel, .sentinel] true :=
  OpenClaim.laidByTextAt_later rfl rfl tie noOwnUnsafe
theorem replanCuesUpto_row_tie : Rows.replanCuesUptoRow.laidByTextAt .later Tryz.pinned [.data, .sentinel, .sentinel] true :=
  OpenClaim.laidByTextAt_later rfl rfl tie noOwnUnsafe
theorem replanBlackoutUpto_row_tie : Rows.replanBlackoutUptoRow.laidByTextAt .later Tryz.pinned [.data, .sentinel, .sentinel] true :=
  OpenClaim.laidByTextAt_later rfl rfl tie noOwnUnsafe
theorem replanSoldUpto_row_tie : Rows.replanSoldUptoRow.laidByTextAt .later Tryz.pinned [.data, .sentinel, .sentinel] true :=
  OpenClaim.laidByTextAt_later rfl rfl tie noOwnUnsafe
end Go.Proofs.YthjppoincojfkaaGreatDoor
