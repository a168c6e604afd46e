/-
  OWN WORK, printed by program: the code of this seat's functions, simplified.
-/
import Derived.Test.YtdebhhpklhbihaaGreatDoorG7MG
import Derived.Test.YtdebhhpklhbihaaGreatDoorProg
import Derived.KernelRfl
set_option linter.unusedVariables false
set_option linter.unusedSimpArgs false
set_option maxRecDepth 100000
namespace Go.Proofs.YtdebhhpklhbihaaGreatDoor
open Go Go.Abs
noncomputable def sc43 : SC := (⟨_, by cbv⟩ : {c : SC // c = scOf Tryz.prog Tryz.f43}).1
def rs43 : List SOp := [(.mv (.tmp 4))]
theorem code43 : FCode Tryz.prog 43 sc43 rs43 45 := ⟨Tryz.f43, _, Tryz.func43, rfl, by kernel_rfl, by kernel_rfl, by kernel_rfl, rfl⟩
def w43_0 : List Nat := [7, 8, 9, 10, 11, 21, 22, 23, 24, 25, 26, 27, 28, 29, 30, 31, 32, 33, 34, 35, 36, 37, 38, 39, 40, 41, 42, 43]
noncomputable def sc44 : SC := (⟨_, by cbv⟩ : {c : SC // c = scOf Tryz.prog Tryz.f44}).1
def rs44 : List SOp := [(.mv (.tmp 2))]
theorem code44 : FCode Tryz.prog 44 sc44 rs44 49 := ⟨Tryz.f44, _, Tryz.func44, rfl, by kernel_rfl, by kernel_rfl, by kernel_rfl, rfl⟩
noncomputable def sc45 : SC := (⟨_, by cbv⟩ : {c : SC // c = scOf Tryz.prog Tryz.f45}).1
def rs45 : List SOp := [(.mv (.tmp 2))]
theorem code45 : FCode Tryz.prog 45 sc45 rs45 73 := ⟨Tryz.f45, _, Tryz.func45, rfl, by kernel_rfl, by kernel_rfl, by kernel_rfl, rfl⟩
def w45_0 : List Nat := [2, 4, 27, 28, 29, 30, 31, 32, 33, 34, 35, 36, 37, 38, 39, 40, 41, 42, 43, 44, 45, 46, 47, 48, 49, 50, 51, 52, 53, 54, 55, 56, 57, 58, 59, 60]
noncomputable def sc46 : SC := (⟨_, by cbv⟩ : {c : SC // c = scOf Tryz.prog Tryz.f46}).1
def rs46 : List SOp := [(.mv (.tmp 2))]
theorem code46 : FCode Tryz.prog 46 sc46 rs46 93 := ⟨Tryz.f46, _, Tryz.func46, rfl, by kernel_rfl, by kernel_rfl, by kernel_rfl, rfl⟩
def w46_0 : List Nat := [2, 4, 5, 28, 29, 30, 31, 32, 33, 34, 35, 36, 37, 38, 39, 40, 41, 42, 43, 44, 45, 46, 47, 48, 49, 50, 51, 52, 53, 54, 55, 56, 57, 58, 59, 60, 61, 62, 63, 64, 65, 66, 67, 68, 69, 70, 71, 72, 73, 74, 75, 76, 77, 78, 79, 80, 81, 82, 83, 84, 85, 86, 87, 88, 89, 90, 91, 92]
noncomputable def sc47 : SC := (⟨_, by cbv⟩ : {c : SC // c = scOf Tryz.prog Tryz.f47}).1
def rs47 : List SOp := [(.mv (.tmp 2))]
theorem code47 : FCode Tryz.prog 47 sc47 rs47 56 := ⟨Tryz.f47, _, Tryz.func47, rfl, by kernel_rfl, by kernel_rfl, by kernel_rfl, rfl⟩
def w47_0 : List Nat := [2, 5, 20, 21, 22, 23, 24, 25, 26, 27, 28, 29, 30, 31, 32, 33, 34, 35, 36, 37, 38, 39, 40, 41, 42, 43, 44, 45, 46, 47, 48, 49, 50, 51, 52, 53, 54, 55]
noncomputable def sc48 : SC := (⟨_, by cbv⟩ : {c : SC // c = scOf Tryz.prog Tryz.f48}).1
def rs48 : List SOp := [(.mv (.tmp 2))]
theorem code48 : FCode Tryz.prog 48 sc48 rs48 26 := ⟨Tryz.f48, _, Tryz.func48, rfl, by kernel_rfl, by kernel_rfl, by kernel_rfl, rfl⟩
def w48_0 : List Nat := [2, 4, 18, 19, 20, 21, 22, 23, 24, 25]
noncomputable def sc56 : SC := scOf Tryz.prog Tryz.f56
noncomputable def rs56 : List SOp := rsOf Tryz.prog Tryz.f56
theorem code56 : FCode Tryz.prog 56 sc56 rs56 32 := ⟨Tryz.f56, _, Tryz.func56, rfl, by kernel_rfl, by kernel_rfl, by kernel_rfl, rfl⟩
noncomputable def sc57 : SC := scOf Tryz.prog Tryz.f57
noncomputable def rs57 : List SOp := rsOf Tryz.prog Tryz.f57
theorem code57 : FCode Tryz.prog 57 sc57 rs57 52 := ⟨Tryz.f57, _, Tryz.func57, rfl, by kernel_rfl, by kernel_rfl, by kernel_rfl, rfl⟩
noncomputable def sc58 : SC := scOf Tryz.prog Tryz.f58
noncomputable def rs58 : List SOp := rsOf Tryz.prog Tryz.f58
theorem code58 : FCode Tryz.prog 58 sc58 rs58 31 := ⟨Tryz.f58, _, Tryz.func58, rfl, by kernel_rfl, by kernel_rfl, by kernel_rfl, rfl⟩
noncomputable def sc59 : SC := (⟨_, by cbv⟩ : {c : SC // c = scOf Tryz.prog Tryz.f59}).1
def rs59 : List SOp := [(.load true 7 (.tmp 6)), (.mv (.tmp 7))]
theorem code59 : FCode Tryz.prog 59 sc59 rs59 25 := ⟨Tryz.f59, _, Tryz.func59, rfl, by kernel_rfl, by kernel_rfl, by kernel_rfl, rfl⟩
def w59_0 : List Nat := [7, 9, 13, 14, 15, 16, 17, 18, 19, 20, 21, 22, 23]
noncomputable def sc60 : SC := (⟨_, by cbv⟩ : {c : SC // c = scOf Tryz.prog Tryz.f60}).1
def rs60 : List SOp := [(.mv (.tmp 2))]
theorem code60 : FCode Tryz.prog 60 sc60 rs60 5 := ⟨Tryz.f60, _, Tryz.func60, rfl, by kernel_rfl, by kernel_rfl, by kernel_rfl, rfl⟩
noncomputable def sc61 : SC := (⟨_, by cbv⟩ : {c : SC // c = scOf Tryz.prog Tryz.f61}).1
def rs61 : List SOp := []
theorem code61 : FCode Tryz.prog 61 sc61 rs61 45 := ⟨Tryz.f61, _, Tryz.func61, rfl, by kernel_rfl, by kernel_rfl, by kernel_rfl, rfl⟩
def w61_0 : List Nat := [8, 9, 20, 21, 22, 23, 24, 25, 26, 27, 28, 29, 30, 31, 32, 33, 34, 35, 36, 37, 38, 39, 40, 41, 42, 43, 44]
noncomputable def sc62 : SC := (⟨_, by cbv⟩ : {c : SC // c = scOf Tryz.prog Tryz.f62}).1
def rs62 : List SOp := [(.load true 5 (.tmp 4)), (.mv (.tmp 5))]
theorem code62 : FCode Tryz.prog 62 sc62 rs62 12 := ⟨Tryz.f62, _, Tryz.func62, rfl, by kernel_rfl, by kernel_rfl, by kernel_rfl, rfl⟩
noncomputable def sc63 : SC := (⟨_, by cbv⟩ : {c : SC // c = scOf Tryz.prog Tryz.f63}).1
def rs63 : List SOp := [(.mv (.tmp 4))]
theorem code63 : FCode Tryz.prog 63 sc63 rs63 22 := ⟨Tryz.f63, _, Tryz.func63, rfl, by kernel_rfl, by kernel_rfl, by kernel_rfl, rfl⟩
def w63_0 : List Nat := [5, 6, 10, 11, 12, 13, 14, 15, 16, 17, 18, 19, 20]
noncomputable def sc64 : SC := (⟨_, by cbv⟩ : {c : SC // c = scOf Tryz.prog Tryz.f64}).1
def rs64 : List SOp := [(.mv (.tmp 2))]
theorem code64 : FCode Tryz.prog 64 sc64 rs64 3 := ⟨Tryz.f64, _, Tryz.func64, rfl, by kernel_rfl, by kernel_rfl, by kernel_rfl, rfl⟩
noncomputable def sc65 : SC := (⟨_, by cbv⟩ : {c : SC // c = scOf Tryz.prog Tryz.f65}).1
def rs65 : List SOp := [(.mv (.tmp 7))]
theorem code65 : FCode Tryz.prog 65 sc65 rs65 15 := ⟨Tryz.f65, _, Tryz.func65, rfl, by kernel_rfl, by kernel_rfl, by kernel_rfl, rfl⟩
noncomputable def sc66 : SC := (⟨_, by cbv⟩ : {c : SC // c = scOf Tryz.prog Tryz.f66}).1
def rs66 : List SOp := [(.mv (.tmp 4))]
theorem code66 : FCode Tryz.prog 66 sc66 rs66 10 := ⟨Tryz.f66, _, Tryz.func66, rfl, by kernel_rfl, by kernel_rfl, by kernel_rfl, rfl⟩
noncomputable def sc67 : SC := (⟨_, by cbv⟩ : {c : SC // c = scOf Tryz.prog Tryz.f67}).1
def rs67 : List SOp := [(.mv (.tmp 4))]
theorem code67 : FCode Tryz.prog 67 sc67 rs67 14 := ⟨Tryz.f67, _, Tryz.func67, rfl, by kernel_rfl, by kernel_rfl, by kernel_rfl, rfl⟩
noncomputable def sc68 : SC := (⟨_, by cbv⟩ : {c : SC // c = scOf Tryz.prog Tryz.f68}).1
def rs68 : List SOp := [(.mv (.tmp 4))]
theorem code68 : FCode Tryz.prog 68 sc68 rs68 66 := ⟨Tryz.f68, _, Tryz.func68, rfl, by kernel_rfl, by kernel_rfl, by kernel_rfl, rfl⟩
def w68_0 : List Nat := [8, 10, 11, 18, 19, 20, 21, 22, 23, 24, 25, 26, 27, 28, 29, 30, 31, 32, 33, 34, 35, 36, 37, 38, 39, 40, 41, 42, 43, 44, 45, 46, 47, 48, 49, 50, 51, 52, 53, 54, 55, 56, 57, 58, 59, 60, 61, 62, 63, 64]
def w68_1 : List Nat := [8, 11, 24, 25, 26, 27, 28, 29, 30, 31, 32, 33, 34, 35, 36, 37, 38, 39, 40, 41, 42, 43, 44, 45, 46, 47, 48, 49, 50, 51, 52, 53, 54, 55, 56, 57, 58]
noncomputable def sc69 : SC := (⟨_, by cbv⟩ : {c : SC // c = scOf Tryz.prog Tryz.f69}).1
def rs69 : List SOp := [(.load true 5 (.tmp 4)), (.mv (.tmp 5))]
theorem code69 : FCode Tryz.prog 69 sc69 rs69 22 := ⟨Tryz.f69, _, Tryz.func69, rfl, by kernel_rfl, by kernel_rfl, by kernel_rfl, rfl⟩
def w69_0 : List Nat := [5, 7, 11, 12, 13, 14, 15, 16, 17, 18, 19, 20]
noncomputable def sc70 : SC := (⟨_, by cbv⟩ : {c : SC // c = scOf Tryz.prog Tryz.f70}).1
def rs70 : List SOp := [(.mv (.tmp 2))]
theorem code70 : FCode Tryz.prog 70 sc70 rs70 21 := ⟨Tryz.f70, _, Tryz.func70, rfl, by kernel_rfl, by kernel_rfl, by kernel_rfl, rfl⟩
noncomputable def sc71 : SC := (⟨_, by cbv⟩ : {c : SC // c = scOf Tryz.prog Tryz.f71}).1
def rs71 : List SOp := [(.mv (.tmp 4))]
theorem code71 : FCode Tryz.prog 71 sc71 rs71 12 := ⟨Tryz.f71, _, Tryz.func71, rfl, by kernel_rfl, by kernel_rfl, by kernel_rfl, rfl⟩
noncomputable def sc72 : SC := (⟨_, by cbv⟩ : {c : SC // c = scOf Tryz.prog Tryz.f72}).1
def rs72 : List SOp := [(.mv (.tmp 8))]
theorem code72 : FCode Tryz.prog 72 sc72 rs72 10 := ⟨Tryz.f72, _, Tryz.func72, rfl, by kernel_rfl, by kernel_rfl, by kernel_rfl, rfl⟩
noncomputable def sc73 : SC := (⟨_, by cbv⟩ : {c : SC // c = scOf Tryz.prog Tryz.f73}).1
def rs73 : List SOp := [(.mv (.tmp 4))]
theorem code73 : FCode Tryz.prog 73 sc73 rs73 18 := ⟨Tryz.f73, _, Tryz.func73, rfl, by kernel_rfl, by kernel_rfl, by kernel_rfl, rfl⟩
noncomputable def sc74 : SC := (⟨_, by cbv⟩ : {c : SC // c = scOf Tryz.prog Tryz.f74}).1
def rs74 : List SOp := [(.mv (.tmp 3))]
theorem code74 : FCode Tryz.prog 74 sc74 rs74 11 := ⟨Tryz.f74, _, Tryz.func74, rfl, by kernel_rfl, by kernel_rfl, by kernel_rfl, rfl⟩
noncomputable def sc75 : SC := (⟨_, by cbv⟩ : {c : SC // c = scOf Tryz.prog Tryz.f75}).1
def rs75 : List SOp := [(.mv (.tmp 4))]
theorem code75 : FCode Tryz.prog 75 sc75 rs75 23 := ⟨Tryz.f75, _, Tryz.func75, rfl, by kernel_rfl, by kernel_rfl, by kernel_rfl, rfl⟩
noncomputable def sc80 : SC := (⟨_, by cbv⟩ : {c : SC // c = scOf Tryz.prog Tryz.f80}).1
def rs80 : List SOp := []
theorem code80 : FCode Tryz.prog 80 sc80 rs80 35 := ⟨Tryz.f80, _, Tryz.func80, rfl, by kernel_rfl, by kernel_rfl, by kernel_rfl, rfl⟩
noncomputable def sc81 : SC := scOf Tryz.prog Tryz.f81
noncomputable def rs81 : List SOp := rsOf Tryz.prog Tryz.f81
theorem code81 : FCode Tryz.prog 81 sc81 rs81 9 := ⟨Tryz.f81, _, Tryz.func81, rfl, by kernel_rfl, by kernel_rfl, by kernel_rfl, rfl⟩
noncomputable def sc82 : SC := (⟨_, by cbv⟩ : {c : SC // c = scOf Tryz.prog Tryz.f82}).1
def rs82 : List SOp := [(.mv (.tmp 4))]
theorem code82 : FCode Tryz.prog 82 sc82 rs82 31 := ⟨Tryz.f82, _, Tryz.func82, rfl, by kernel_rfl, by kernel_rfl, by kernel_rfl, rfl⟩
noncomputable def sc83 : SC := (⟨_, by cbv⟩ : {c : SC // c = scOf Tryz.prog Tryz.f83}).1
def rs83 : List SOp := [(.mv (.tmp 4))]
theorem code83 : FCode Tryz.prog 83 sc83 rs83 74 := ⟨Tryz.f83, _, Tryz.func83, rfl, by kernel_rfl, by kernel_rfl, by kernel_rfl, rfl⟩
def w83_0 : List Nat := [8, 10, 11, 12, 47, 48, 49, 50, 51, 52, 53, 54, 55, 56, 57, 58, 59, 60, 61, 62, 63, 64, 65, 66]
noncomputable def sc84 : SC := (⟨_, by cbv⟩ : {c : SC // c = scOf Tryz.prog Tryz.f84}).1
def rs84 : List SOp := [(.mv (.tmp 6)), (.mv (.tmp 7))]
theorem code84 : FCode Tryz.prog 84 sc84 rs84 70 := ⟨Tryz.f84, _, Tryz.func84, rfl, by kernel_rfl, by kernel_rfl, by kernel_rfl, rfl⟩
def w84_0 : List Nat := [6, 7, 9, 10, 11, 45, 46, 47, 48, 49, 50, 51, 52, 53, 54, 55, 56, 57, 58, 59, 60, 61, 62, 63, 64, 65, 66, 67, 68, 69]
noncomputable def sc85 : SC := (⟨_, by cbv⟩ : {c : SC // c = scOf Tryz.prog Tryz.f85}).1
def rs85 : List SOp := [(.mv (.tmp 2))]
theorem code85 : FCode Tryz.prog 85 sc85 rs85 8 := ⟨Tryz.f85, _, Tryz.func85, rfl, by kernel_rfl, by kernel_rfl, by kernel_rfl, rfl⟩
noncomputable def sc86 : SC := (⟨_, by cbv⟩ : {c : SC // c = scOf Tryz.prog Tryz.f86}).1
def rs86 : List SOp := [(.mv (.tmp 2))]
theorem code86 : FCode Tryz.prog 86 sc86 rs86 36 := ⟨Tryz.f86, _, Tryz.func86, rfl, by kernel_rfl, by kernel_rfl, by kernel_rfl, rfl⟩
def w86_0 : List Nat := [3, 5, 11, 12, 13, 14, 15, 16, 17, 18, 19, 20, 21, 22]
def w86_1 : List Nat := [6, 8, 27, 28, 29, 30, 31, 32, 33, 34]
noncomputable def sc87 : SC := (⟨_, by cbv⟩ : {c : SC // c = scOf Tryz.prog Tryz.f87}).1
def rs87 : List SOp := [(.mv (.tmp 6))]
theorem code87 : FCode Tryz.prog 87 sc87 rs87 15 := ⟨Tryz.f87, _, Tryz.func87, rfl, by kernel_rfl, by kernel_rfl, by kernel_rfl, rfl⟩
noncomputable def sc88 : SC := (⟨_, by cbv⟩ : {c : SC // c = scOf Tryz.prog Tryz.f88}).1
def rs88 : List SOp := [(.mv (.tmp 2))]
theorem code88 : FCode Tryz.prog 88 sc88 rs88 11 := ⟨Tryz.f88, _, Tryz.func88, rfl, by kernel_rfl, by kernel_rfl, by kernel_rfl, rfl⟩
noncomputable def sc89 : SC := (⟨_, by cbv⟩ : {c : SC // c = scOf Tryz.prog Tryz.f89}).1
def rs89 : List SOp := [(.mv (.tmp 2))]
theorem code89 : FCode Tryz.prog 89 sc89 rs89 41 := ⟨Tryz.f89, _, Tryz.func89, rfl, by kernel_rfl, by kernel_rfl, by kernel_rfl, rfl⟩
def w89_0 : List Nat := [2, 3, 5, 19, 20, 21, 22, 23, 24, 25, 26, 27, 28, 29, 30, 31, 32, 33, 34, 35, 36, 37, 38, 39, 40]
noncomputable def sc90 : SC := (⟨_, by cbv⟩ : {c : SC // c = scOf Tryz.prog Tryz.f90}).1
def rs90 : List SOp := [(.mv (.tmp 8))]
theorem code90 : FCode Tryz.prog 90 sc90 rs90 46 := ⟨Tryz.f90, _, Tryz.func90, rfl, by kernel_rfl, by kernel_rfl, by kernel_rfl, rfl⟩
def w90_0 : List Nat := [8, 9, 10, 11, 14, 15, 16, 17, 18, 19, 20, 21, 22, 23, 24, 25, 26, 27, 28, 29, 30, 31, 32, 33, 34, 35, 36, 37, 38, 39, 40, 41, 42, 43, 44, 45]
noncomputable def sc91 : SC := (⟨_, by cbv⟩ : {c : SC // c = scOf Tryz.prog Tryz.f91}).1
def rs91 : List SOp := [(.mv (.tmp 2))]
theorem code91 : FCode Tryz.prog 91 sc91 rs91 5 := ⟨Tryz.f91, _, Tryz.func91, rfl, by kernel_rfl, by kernel_rfl, by kernel_rfl, rfl⟩
noncomputable def sc92 : SC := (⟨_, by cbv⟩ : {c : SC // c = scOf Tryz.prog Tryz.f92}).1
def rs92 : List SOp := [(.mv (.tmp 8))]
theorem code92 : FCode Tryz.prog 92 sc92 rs92 46 := ⟨Tryz.f92, _, Tryz.func92, rfl, by kernel_rfl, by kernel_rfl, by kernel_rfl, rfl⟩
def w92_0 : List Nat := [8, 9, 10, 11, 14, 15, 16, 17, 18, 19, 20, 21, 22, 23, 24, 25, 26, 27, 28, 29, 30, 31, 32, 33, 34, 35, 36, 37, 38, 39, 40, 41, 42, 43, 44, 45]
noncomputable def sc93 : SC := (⟨_, by cbv⟩ : {c : SC // c = scOf Tryz.prog Tryz.f93}).1
def rs93 : List SOp := [(.mv (.tmp 2))]
theorem code93 : FCode Tryz.prog 93 sc93 rs93 5 := ⟨Tryz.f93, _, Tryz.func93, rfl, by kernel_rfl, by kernel_rfl, by kernel_rfl, rfl⟩
noncomputable def sc94 : SC := (⟨_, by cbv⟩ : {c : SC // c = scOf Tryz.prog Tryz.f94}).1
def rs94 : List SOp := [(.mv (.tmp 4))]
theorem code94 : FCode Tryz.prog 94 sc94 rs94 65 := ⟨Tryz.f94, _, Tryz.func94, rfl, by kernel_rfl, by kernel_rfl, by kernel_rfl, rfl⟩
noncomputable def sc95 : SC := (⟨_, by cbv⟩ : {c : SC // c = scOf Tryz.prog Tryz.f95}).1
def rs95 : List SOp := [(.mv (.tmp 4))]
theorem code95 : FCode Tryz.prog 95 sc95 rs95 37 := ⟨Tryz.f95, _, Tryz.func95, rfl, by kernel_rfl, by kernel_rfl, by kernel_rfl, rfl⟩
noncomputable def sc96 : SC := (⟨_, by cbv⟩ : {c : SC // c = scOf Tryz.prog Tryz.f96}).1
def rs96 : List SOp := [(.mv (.tmp 4))]
theorem code96 : FCode Tryz.prog 96 sc96 rs96 38 := ⟨Tryz.f96, _, Tryz.func96, rfl, by kernel_rfl, by kernel_rfl, by kernel_rfl, rfl⟩
end Go.Proofs.YtdebhhpklhbihaaGreatDoor
