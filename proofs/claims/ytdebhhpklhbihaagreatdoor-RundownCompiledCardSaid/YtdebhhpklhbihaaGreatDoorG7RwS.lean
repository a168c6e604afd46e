/-
  OWN WORK. The fixed examples of the laws on rundowns: 'sane' returns true.
-/
import Derived.Test.YtdebhhpklhbihaaGreatDoorG7RwS1
import Derived.Test.YtdebhhpklhbihaaGreatDoorG7RwS2
import Derived.Test.YtdebhhpklhbihaaGreatDoorG7RwS3
import Derived.Test.YtdebhhpklhbihaaGreatDoorG7RwS4
set_option linter.unusedVariables false
set_option linter.unusedSimpArgs false
namespace Go.Proofs.YtdebhhpklhbihaaGreatDoor
open Go Go.Abs

def orcSane : Nat → FuncId → List AV → AV := fun d g _ =>
  if d = 9 then exPl else if d = 13 then .sl .ro [exA, exB, exC, exD] else if d = 20 then .bool true else if d = 27 then .bool false else if d = 32 then .bool true else if d = 39 then .bool false else
  if d = 43 then .tup [.agg exC, I 5, .bool true] else if d = 48 then .sl .ro [exA, exB, [I 5, I 12, I 35, I 15, I 0, I 1, .sl .nil []]] else if d = 50 then .sl .ro [[I 12, I 0, I 35, I 15]] else if d = 61 then .sl .nil [] else
  if d = 120 then .sl .ro exL2 else .junk

set_option maxRecDepth 100000 in
set_option maxHeartbeats 4000000 in
theorem sane_pure : Pure Tryz.prog gl0 9 [] (.bool true) := by
  have h0 := ex_pure
  have h1 := ex_build1
  have h2 := ex_build2
  have h3 := ex_valid1
  have h4 := ex_valid2
  have h5 := ex_same1
  have h6 := ex_same2
  have h7 := ex_at
  have h8 := ex_before
  have h9 := ex_aired1
  have h10 := ex_aired2
  simp only [exPl, exA, exB, exC, exD, exL2] at h0 h1 h2 h3 h4 h5 h6 h7 h8 h9 h10
  refine pureE code9 orcSane (by simp) ?_
  simp (config := { maxSteps := 1000000 }) [sc9, rs9, orcSane, exPl, exA, exB, exC, exD, exL2]
  exact ⟨h0, h1, h3, h4, h5, h6, h7, h8, h9, h10, h2⟩
end Go.Proofs.YtdebhhpklhbihaaGreatDoor
