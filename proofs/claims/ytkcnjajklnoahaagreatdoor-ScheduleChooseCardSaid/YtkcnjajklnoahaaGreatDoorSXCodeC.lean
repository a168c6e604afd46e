import Derived.Test.YtkcnjajklnoahaaGreatDoorSXMG
import Derived.Test.YtkcnjajklnoahaaGreatDoorProg
import Derived.KernelRfl
set_option linter.unusedVariables false
set_option linter.unusedSimpArgs false
set_option maxRecDepth 100000
namespace Go.Proofs.YtkcnjajklnoahaaGreatDoor
open Go Go.Abs
noncomputable def sc79 : SC := (⟨_, by cbv⟩ : {c : SC // c = scH Tryz.prog Tryz.f79 [[7],[9]]}).1
def rs79 : List SOp := [(.mv (.tmp 2))]
theorem code79 : FCode Tryz.prog 79 sc79 rs79 73 := ⟨Tryz.f79, _, Tryz.func79, rfl, by kernel_rfl, by kernel_rfl, by kernel_rfl, rfl⟩
def w79_0 : List Nat := [2, 4, 27, 28, 29, 30, 31, 32, 33, 34, 35, 36, 37, 38, 39, 40, 41, 42, 43, 44, 45, 46, 47, 48, 49, 50, 51, 52, 53, 54, 55, 56, 57, 58, 59, 60]
noncomputable def sc80 : SC := (⟨_, by cbv⟩ : {c : SC // c = scH Tryz.prog Tryz.f80 [[18],[7]]}).1
def rs80 : List SOp := [(.mv (.tmp 2))]
theorem code80 : FCode Tryz.prog 80 sc80 rs80 93 := ⟨Tryz.f80, _, Tryz.func80, rfl, by kernel_rfl, by kernel_rfl, by kernel_rfl, rfl⟩
def w80_0 : List Nat := [2, 4, 5, 28, 29, 30, 31, 32, 33, 34, 35, 36, 37, 38, 39, 40, 41, 42, 43, 44, 45, 46, 47, 48, 49, 50, 51, 52, 53, 54, 55, 56, 57, 58, 59, 60, 61, 62, 63, 64, 65, 66, 67, 68, 69, 70, 71, 72, 73, 74, 75, 76, 77, 78, 79, 80, 81, 82, 83, 84, 85, 86, 87, 88, 89, 90, 91, 92]
noncomputable def sc81 : SC := (⟨_, by cbv⟩ : {c : SC // c = scH Tryz.prog Tryz.f81 []}).1
def rs81 : List SOp := [(.mv (.tmp 2))]
theorem code81 : FCode Tryz.prog 81 sc81 rs81 56 := ⟨Tryz.f81, _, Tryz.func81, rfl, by kernel_rfl, by kernel_rfl, by kernel_rfl, rfl⟩
def w81_0 : List Nat := [2, 5, 20, 21, 22, 23, 24, 25, 26, 27, 28, 29, 30, 31, 32, 33, 34, 35, 36, 37, 38, 39, 40, 41, 42, 43, 44, 45, 46, 47, 48, 49, 50, 51, 52, 53, 54, 55]
noncomputable def sc82 : SC := (⟨_, by cbv⟩ : {c : SC // c = scH Tryz.prog Tryz.f82 []}).1
def rs82 : List SOp := [(.mv (.tmp 2))]
theorem code82 : FCode Tryz.prog 82 sc82 rs82 26 := ⟨Tryz.f82, _, Tryz.func82, rfl, by kernel_rfl, by kernel_rfl, by kernel_rfl, rfl⟩
def w82_0 : List Nat := [2, 4, 18, 19, 20, 21, 22, 23, 24, 25]
noncomputable def sc83 : SC := (⟨_, by cbv⟩ : {c : SC // c = scH Tryz.prog Tryz.f83 []}).1
def rs83 : List SOp := [(.mv (.tmp 2))]
theorem code83 : FCode Tryz.prog 83 sc83 rs83 9 := ⟨Tryz.f83, _, Tryz.func83, rfl, by kernel_rfl, by kernel_rfl, by kernel_rfl, rfl⟩
noncomputable def sc84 : SC := (⟨_, by cbv⟩ : {c : SC // c = scH Tryz.prog Tryz.f84 []}).1
def rs84 : List SOp := [(.mv (.tmp 4))]
theorem code84 : FCode Tryz.prog 84 sc84 rs84 11 := ⟨Tryz.f84, _, Tryz.func84, rfl, by kernel_rfl, by kernel_rfl, by kernel_rfl, rfl⟩
noncomputable def sc85 : SC := (⟨_, by cbv⟩ : {c : SC // c = scH Tryz.prog Tryz.f85 [[12],[11,2,1,1,1,0,2,2,2,0,2,2,0]]}).1
def rs85 : List SOp := [(.mv (.tmp 8))]
theorem code85 : FCode Tryz.prog 85 sc85 rs85 108 := ⟨Tryz.f85, _, Tryz.func85, rfl, by kernel_rfl, by kernel_rfl, by kernel_rfl, rfl⟩
def w85_0 : List Nat := [15, 17, 87, 88, 89, 90, 91, 92, 93, 94, 95, 96, 97, 98, 99, 100, 101, 102, 103]
noncomputable def sc86 : SC := (⟨_, by cbv⟩ : {c : SC // c = scH Tryz.prog Tryz.f86 []}).1
def rs86 : List SOp := [(.load true 5 (.tmp 4)), (.mv (.tmp 5))]
theorem code86 : FCode Tryz.prog 86 sc86 rs86 22 := ⟨Tryz.f86, _, Tryz.func86, rfl, by kernel_rfl, by kernel_rfl, by kernel_rfl, rfl⟩
def w86_0 : List Nat := [5, 7, 11, 12, 13, 14, 15, 16, 17, 18, 19, 20]
noncomputable def sc87 : SC := (⟨_, by cbv⟩ : {c : SC // c = scH Tryz.prog Tryz.f87 []}).1
def rs87 : List SOp := [(.mv (.tmp 2))]
theorem code87 : FCode Tryz.prog 87 sc87 rs87 11 := ⟨Tryz.f87, _, Tryz.func87, rfl, by kernel_rfl, by kernel_rfl, by kernel_rfl, rfl⟩
noncomputable def sc88 : SC := (⟨_, by cbv⟩ : {c : SC // c = scH Tryz.prog Tryz.f88 []}).1
def rs88 : List SOp := [(.mv (.tmp 4))]
theorem code88 : FCode Tryz.prog 88 sc88 rs88 23 := ⟨Tryz.f88, _, Tryz.func88, rfl, by kernel_rfl, by kernel_rfl, by kernel_rfl, rfl⟩
noncomputable def sc89 : SC := (⟨_, by cbv⟩ : {c : SC // c = scH Tryz.prog Tryz.f89 []}).1
def rs89 : List SOp := [(.mv (.tmp 6))]
theorem code89 : FCode Tryz.prog 89 sc89 rs89 55 := ⟨Tryz.f89, _, Tryz.func89, rfl, by kernel_rfl, by kernel_rfl, by kernel_rfl, rfl⟩
def w89_0 : List Nat := [7, 9, 10, 13, 14, 15, 16, 17, 18, 19, 20, 21, 22, 23, 24, 25, 26, 27, 28, 29, 30, 31, 32, 33, 34, 35, 36, 37, 38, 39, 40, 41, 42, 43, 44, 45, 46, 47, 48, 49, 50, 51, 52, 53]
noncomputable def sc90 : SC := (⟨_, by cbv⟩ : {c : SC // c = scH Tryz.prog Tryz.f90 []}).1
def rs90 : List SOp := [(.mv (.tmp 6))]
theorem code90 : FCode Tryz.prog 90 sc90 rs90 11 := ⟨Tryz.f90, _, Tryz.func90, rfl, by kernel_rfl, by kernel_rfl, by kernel_rfl, rfl⟩
noncomputable def sc97 : SC := (⟨_, by cbv⟩ : {c : SC // c = scH Tryz.prog Tryz.f97 []}).1
def rs97 : List SOp := [(.mv (.tmp 6)), (.mv (.tmp 7))]
theorem code97 : FCode Tryz.prog 97 sc97 rs97 43 := ⟨Tryz.f97, _, Tryz.func97, rfl, by kernel_rfl, by kernel_rfl, by kernel_rfl, rfl⟩
def w97_0 : List Nat := [6, 7, 9, 10, 17, 18, 19, 20, 21, 22, 23, 24, 25, 26, 27, 28, 29, 30, 31, 32, 33, 34, 35, 36, 37, 38, 39, 40, 41, 42]
noncomputable def sc98 : SC := (⟨_, by cbv⟩ : {c : SC // c = scH Tryz.prog Tryz.f98 [[10],[13],[19],[6]]}).1
def rs98 : List SOp := [(.mv (.tmp 4))]
theorem code98 : FCode Tryz.prog 98 sc98 rs98 60 := ⟨Tryz.f98, _, Tryz.func98, rfl, by kernel_rfl, by kernel_rfl, by kernel_rfl, rfl⟩
noncomputable def sc104 : SC := Qq Tryz.prog Tryz.f104
noncomputable def rs104 : List SOp := Yb Tryz.prog Tryz.f104
theorem code104 : FCode Tryz.prog 104 sc104 rs104 27 := ⟨Tryz.f104, _, Tryz.func104, rfl, by kernel_rfl, by kernel_rfl, by kernel_rfl, rfl⟩
noncomputable def sc105 : SC := (⟨_, by cbv⟩ : {c : SC // c = scH Tryz.prog Tryz.f105 []}).1
def rs105 : List SOp := [(.mv (.tmp 6))]
theorem code105 : FCode Tryz.prog 105 sc105 rs105 15 := ⟨Tryz.f105, _, Tryz.func105, rfl, by kernel_rfl, by kernel_rfl, by kernel_rfl, rfl⟩
noncomputable def sc106 : SC := (⟨_, by cbv⟩ : {c : SC // c = scH Tryz.prog Tryz.f106 []}).1
def rs106 : List SOp := [(.mv (.tmp 2))]
theorem code106 : FCode Tryz.prog 106 sc106 rs106 41 := ⟨Tryz.f106, _, Tryz.func106, rfl, by kernel_rfl, by kernel_rfl, by kernel_rfl, rfl⟩
def w106_0 : List Nat := [2, 3, 5, 19, 20, 21, 22, 23, 24, 25, 26, 27, 28, 29, 30, 31, 32, 33, 34, 35, 36, 37, 38, 39, 40]
noncomputable def sc107 : SC := (⟨_, by cbv⟩ : {c : SC // c = scH Tryz.prog Tryz.f107 []}).1
def rs107 : List SOp := [(.mv (.tmp 8))]
theorem code107 : FCode Tryz.prog 107 sc107 rs107 46 := ⟨Tryz.f107, _, Tryz.func107, rfl, by kernel_rfl, by kernel_rfl, by kernel_rfl, rfl⟩
def w107_0 : List Nat := [8, 9, 10, 11, 14, 15, 16, 17, 18, 19, 20, 21, 22, 23, 24, 25, 26, 27, 28, 29, 30, 31, 32, 33, 34, 35, 36, 37, 38, 39, 40, 41, 42, 43, 44, 45]
noncomputable def sc108 : SC := (⟨_, by cbv⟩ : {c : SC // c = scH Tryz.prog Tryz.f108 []}).1
def rs108 : List SOp := [(.mv (.tmp 2))]
theorem code108 : FCode Tryz.prog 108 sc108 rs108 5 := ⟨Tryz.f108, _, Tryz.func108, rfl, by kernel_rfl, by kernel_rfl, by kernel_rfl, rfl⟩
noncomputable def sc109 : SC := (⟨_, by cbv⟩ : {c : SC // c = scH Tryz.prog Tryz.f109 []}).1
def rs109 : List SOp := [(.mv (.tmp 8))]
theorem code109 : FCode Tryz.prog 109 sc109 rs109 46 := ⟨Tryz.f109, _, Tryz.func109, rfl, by kernel_rfl, by kernel_rfl, by kernel_rfl, rfl⟩
def w109_0 : List Nat := [8, 9, 10, 11, 14, 15, 16, 17, 18, 19, 20, 21, 22, 23, 24, 25, 26, 27, 28, 29, 30, 31, 32, 33, 34, 35, 36, 37, 38, 39, 40, 41, 42, 43, 44, 45]
noncomputable def sc110 : SC := (⟨_, by cbv⟩ : {c : SC // c = scH Tryz.prog Tryz.f110 []}).1
def rs110 : List SOp := [(.mv (.tmp 2))]
theorem code110 : FCode Tryz.prog 110 sc110 rs110 5 := ⟨Tryz.f110, _, Tryz.func110, rfl, by kernel_rfl, by kernel_rfl, by kernel_rfl, rfl⟩
noncomputable def sc111 : SC := (⟨_, by cbv⟩ : {c : SC // c = scH Tryz.prog Tryz.f111 [[12,2,2,2,2,2,2,2,2,2,2,0,0,0],[21]]}).1
def rs111 : List SOp := [(.mv (.tmp 4))]
theorem code111 : FCode Tryz.prog 111 sc111 rs111 65 := ⟨Tryz.f111, _, Tryz.func111, rfl, by kernel_rfl, by kernel_rfl, by kernel_rfl, rfl⟩
noncomputable def sc112 : SC := (⟨_, by cbv⟩ : {c : SC // c = scH Tryz.prog Tryz.f112 [[8],[6]]}).1
def rs112 : List SOp := [(.mv (.tmp 4))]
theorem code112 : FCode Tryz.prog 112 sc112 rs112 37 := ⟨Tryz.f112, _, Tryz.func112, rfl, by kernel_rfl, by kernel_rfl, by kernel_rfl, rfl⟩
noncomputable def sc113 : SC := (⟨_, by cbv⟩ : {c : SC // c = scH Tryz.prog Tryz.f113 [[12,2,2,2,2,2,2,2,2,2,2,0,0,0]]}).1
def rs113 : List SOp := [(.mv (.tmp 4))]
theorem code113 : FCode Tryz.prog 113 sc113 rs113 38 := ⟨Tryz.f113, _, Tryz.func113, rfl, by kernel_rfl, by kernel_rfl, by kernel_rfl, rfl⟩
noncomputable def sc114 : SC := (⟨_, by cbv⟩ : {c : SC // c = scH Tryz.prog Tryz.f114 [[3]]}).1
def rs114 : List SOp := [(.mv (.tmp 2))]
theorem code114 : FCode Tryz.prog 114 sc114 rs114 95 := ⟨Tryz.f114, _, Tryz.func114, rfl, by kernel_rfl, by kernel_rfl, by kernel_rfl, rfl⟩
noncomputable def sc115 : SC := (⟨_, by cbv⟩ : {c : SC // c = scH Tryz.prog Tryz.f115 [[12]]}).1
def rs115 : List SOp := [(.mv (.tmp 4))]
theorem code115 : FCode Tryz.prog 115 sc115 rs115 66 := ⟨Tryz.f115, _, Tryz.func115, rfl, by kernel_rfl, by kernel_rfl, by kernel_rfl, rfl⟩
def w115_0 : List Nat := [8, 10, 11, 18, 19, 20, 21, 22, 23, 24, 25, 26, 27, 28, 29, 30, 31, 32, 33, 34, 35, 36, 37, 38, 39, 40, 41, 42, 43, 44, 45, 46, 47, 48, 49, 50, 51, 52, 53, 54, 55, 56, 57, 58, 59, 60, 61, 62, 63, 64]
def w115_1 : List Nat := [8, 11, 24, 25, 26, 27, 28, 29, 30, 31, 32, 33, 34, 35, 36, 37, 38, 39, 40, 41, 42, 43, 44, 45, 46, 47, 48, 49, 50, 51, 52, 53, 54, 55, 56, 57, 58]
noncomputable def sc116 : SC := (⟨_, by cbv⟩ : {c : SC // c = scH Tryz.prog Tryz.f116 []}).1
def rs116 : List SOp := [(.mv (.tmp 2))]
theorem code116 : FCode Tryz.prog 116 sc116 rs116 21 := ⟨Tryz.f116, _, Tryz.func116, rfl, by kernel_rfl, by kernel_rfl, by kernel_rfl, rfl⟩
noncomputable def sc117 : SC := (⟨_, by cbv⟩ : {c : SC // c = scH Tryz.prog Tryz.f117 [[6]]}).1
def rs117 : List SOp := [(.mv (.tmp 4))]
theorem code117 : FCode Tryz.prog 117 sc117 rs117 12 := ⟨Tryz.f117, _, Tryz.func117, rfl, by kernel_rfl, by kernel_rfl, by kernel_rfl, rfl⟩
noncomputable def sc118 : SC := (⟨_, by cbv⟩ : {c : SC // c = scH Tryz.prog Tryz.f118 []}).1
def rs118 : List SOp := [(.mv (.tmp 8))]
theorem code118 : FCode Tryz.prog 118 sc118 rs118 10 := ⟨Tryz.f118, _, Tryz.func118, rfl, by kernel_rfl, by kernel_rfl, by kernel_rfl, rfl⟩
noncomputable def sc119 : SC := (⟨_, by cbv⟩ : {c : SC // c = scH Tryz.prog Tryz.f119 []}).1
def rs119 : List SOp := [(.mv (.tmp 4))]
theorem code119 : FCode Tryz.prog 119 sc119 rs119 18 := ⟨Tryz.f119, _, Tryz.func119, rfl, by kernel_rfl, by kernel_rfl, by kernel_rfl, rfl⟩
noncomputable def sc120 : SC := (⟨_, by cbv⟩ : {c : SC // c = scH Tryz.prog Tryz.f120 []}).1
def rs120 : List SOp := [(.mv (.tmp 3))]
theorem code120 : FCode Tryz.prog 120 sc120 rs120 11 := ⟨Tryz.f120, _, Tryz.func120, rfl, by kernel_rfl, by kernel_rfl, by kernel_rfl, rfl⟩
noncomputable def sc121 : SC := (⟨_, by cbv⟩ : {c : SC // c = scH Tryz.prog Tryz.f121 []}).1
def rs121 : List SOp := [(.load true 4 (.tmp 2)), (.mv (.tmp 3))]
theorem code121 : FCode Tryz.prog 121 sc121 rs121 17 := ⟨Tryz.f121, _, Tryz.func121, rfl, by kernel_rfl, by kernel_rfl, by kernel_rfl, rfl⟩
def w121_0 : List Nat := [3, 5, 7, 8, 9, 10, 11, 12, 13, 14, 15]
noncomputable def sc122 : SC := (⟨_, by cbv⟩ : {c : SC // c = scH Tryz.prog Tryz.f122 []}).1
def rs122 : List SOp := [(.mv (.tmp 4))]
theorem code122 : FCode Tryz.prog 122 sc122 rs122 11 := ⟨Tryz.f122, _, Tryz.func122, rfl, by kernel_rfl, by kernel_rfl, by kernel_rfl, rfl⟩
noncomputable def sc123 : SC := (⟨_, by cbv⟩ : {c : SC // c = scH Tryz.prog Tryz.f123 []}).1
def rs123 : List SOp := [(.load false 1 (.tmp 10))]
theorem code123 : FCode Tryz.prog 123 sc123 rs123 34 := ⟨Tryz.f123, _, Tryz.func123, rfl, by kernel_rfl, by kernel_rfl, by kernel_rfl, rfl⟩
end Go.Proofs.YtkcnjajklnoahaaGreatDoor
