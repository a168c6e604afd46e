import Derived.Test.YtkcnjajklnoahaaGreatDoorSXMG
import Derived.Test.YtkcnjajklnoahaaGreatDoorProg
import Derived.KernelRfl
set_option linter.unusedVariables false
set_option linter.unusedSimpArgs false
set_option maxRecDepth 100000
namespace Go.Proofs.YtkcnjajklnoahaaGreatDoor
open Go Go.Abs
noncomputable def sc6 : SC := (⟨_, by cbv⟩ : {c : SC // c = scH Tryz.prog Tryz.f6 [[5]]}).1
def rs6 : List SOp := [(.mv (.tmp 6))]
theorem code6 : FCode Tryz.prog 6 sc6 rs6 109 := ⟨Tryz.f6, _, Tryz.func6, rfl, by kernel_rfl, by kernel_rfl, by kernel_rfl, rfl⟩
def w6_0 : List Nat := [10, 11, 37, 38, 39, 40, 41, 42, 43, 44, 45, 46, 47, 48, 49, 50, 51, 52, 53, 54, 55, 56]
def w6_1 : List Nat := [12, 13, 57, 58, 59, 60, 61, 62, 63, 64, 65, 66, 67, 68, 69, 70, 71, 72, 73, 74, 75, 76, 77]
noncomputable def sc8 : SC := (⟨_, by cbv⟩ : {c : SC // c = scH Tryz.prog Tryz.f8 [[9],[9,1,1,1,1,0,2,2,2,2]]}).1
def rs8 : List SOp := [(.mv (.tmp 2))]
theorem code8 : FCode Tryz.prog 8 sc8 rs8 127 := ⟨Tryz.f8, _, Tryz.func8, rfl, by kernel_rfl, by kernel_rfl, by kernel_rfl, rfl⟩
def w8_0 : List Nat := [9, 10, 66, 67, 68, 69, 70, 71, 72, 73, 74, 75, 76, 77, 78, 79, 80, 81, 82, 83, 84, 85, 86, 87, 88, 89, 90]
def w8_1 : List Nat := [2, 11, 12, 13, 14, 91, 92, 93, 94, 95, 96, 97, 98, 99, 100, 101, 102, 103, 104, 105, 106, 107, 108, 109, 110, 111, 112, 113, 114, 115, 116, 117, 118, 119]
noncomputable def sc9 : SC := (⟨_, by cbv⟩ : {c : SC // c = scH Tryz.prog Tryz.f9 [[10],[9],[16]]}).1
def rs9 : List SOp := [(.mv (.tmp 2))]
theorem code9 : FCode Tryz.prog 9 sc9 rs9 149 := ⟨Tryz.f9, _, Tryz.func9, rfl, by kernel_rfl, by kernel_rfl, by kernel_rfl, rfl⟩
def w9_0 : List Nat := [2, 4, 5, 25, 26, 27, 28, 29, 30, 31, 32, 33, 34, 35, 36, 37, 38, 39, 40, 41, 42, 43, 44, 45, 46, 47, 48]
def w9_1 : List Nat := [2, 5, 32, 33, 34, 35, 36, 37, 38, 39, 40, 41, 42, 43, 44, 45, 46, 47, 48]
def w9_2 : List Nat := [2, 12, 13, 14, 15, 90, 91, 92, 93, 94, 95, 96, 97, 98, 99, 100, 101, 102, 103, 104, 105, 106, 107, 108, 109, 110, 111, 112, 113, 114, 115, 116, 117, 118, 119, 120, 121, 122, 123, 124, 125, 126, 127, 128]
def w9_3 : List Nat := [2, 13, 14, 15, 97, 98, 99, 100, 101, 102, 103, 104, 105, 106, 107, 108, 109, 110, 111, 112, 113, 114, 115, 116, 117, 118, 119, 120, 121, 122, 123, 124, 125, 126, 127, 128]
noncomputable def sc10 : SC := (⟨_, by cbv⟩ : {c : SC // c = scH Tryz.prog Tryz.f10 [[10],[13,2,2,2,2,2,2,2,2,2,2,2,0,0,0],[8]]}).1
def rs10 : List SOp := [(.mv (.tmp 2))]
theorem code10 : FCode Tryz.prog 10 sc10 rs10 126 := ⟨Tryz.f10, _, Tryz.func10, rfl, by kernel_rfl, by kernel_rfl, by kernel_rfl, rfl⟩
def w10_0 : List Nat := [2, 4, 5, 6, 7, 8, 23, 24, 25, 26, 27, 28, 29, 30, 31, 32, 33, 34, 35, 36, 37, 38, 39, 40, 41, 42, 43, 44, 45, 46, 47, 48, 49, 50, 51, 52, 53, 54, 55, 56, 57, 58, 59, 60, 61, 62, 63, 64, 65, 66, 67, 68]
def w10_1 : List Nat := [2, 6, 30, 31, 32, 33, 34, 35, 36, 37, 38, 39, 40, 41, 42, 43, 44, 45, 46]
def w10_2 : List Nat := [13, 14, 15, 92, 93, 94, 95, 96, 97, 98, 99, 100, 101, 102, 103, 104, 105, 106, 107, 108, 109, 110, 111, 112, 113, 114, 115, 116, 117, 118, 119]
def w10_3 : List Nat := [13, 15, 98, 99, 100, 101, 102, 103, 104, 105, 106, 107, 108, 109, 110, 111, 112, 113, 114, 115, 116, 117, 118, 119]
noncomputable def sc11 : SC := (⟨_, by cbv⟩ : {c : SC // c = scH Tryz.prog Tryz.f11 []}).1
def rs11 : List SOp := [(.mv (.tmp 2))]
theorem code11 : FCode Tryz.prog 11 sc11 rs11 35 := ⟨Tryz.f11, _, Tryz.func11, rfl, by kernel_rfl, by kernel_rfl, by kernel_rfl, rfl⟩
noncomputable def sc12 : SC := (⟨_, by cbv⟩ : {c : SC // c = scH Tryz.prog Tryz.f12 [[13,2,2,2,2,2,2,2,2,2,2,2,0,0,0],[10]]}).1
def rs12 : List SOp := [(.mv (.tmp 4))]
theorem code12 : FCode Tryz.prog 12 sc12 rs12 123 := ⟨Tryz.f12, _, Tryz.func12, rfl, by kernel_rfl, by kernel_rfl, by kernel_rfl, rfl⟩
def Yc : List Nat := [4, 8, 9, 10, 11, 12, 13, 30, 31, 32, 33, 34, 35, 36, 37, 38, 39, 40, 41, 42, 43, 44, 45, 46, 47, 48, 49, 50, 51, 52, 53, 54, 55, 56, 57, 58, 59, 60, 61, 62, 63, 64, 65, 66, 67, 68, 69, 70, 71, 72, 73, 74, 75, 76, 77, 78, 79, 80, 81, 82, 83, 84, 85, 86, 87, 88, 89, 90]
def w12_1 : List Nat := [4, 14, 105, 106, 107, 108, 109, 110, 111, 112, 113, 114, 115, 116, 117, 118, 119, 120, 121]
noncomputable def sc14 : SC := (⟨_, by cbv⟩ : {c : SC // c = scH Tryz.prog Tryz.f14 []}).1
def rs14 : List SOp := [(.mv (.tmp 0))]
theorem code14 : FCode Tryz.prog 14 sc14 rs14 114 := ⟨Tryz.f14, _, Tryz.func14, rfl, by kernel_rfl, by kernel_rfl, by kernel_rfl, rfl⟩
noncomputable def sc15 : SC := (⟨_, by cbv⟩ : {c : SC // c = scH Tryz.prog Tryz.f15 []}).1
def rs15 : List SOp := [(.load true 17 (.tmp 2))]
theorem code15 : FCode Tryz.prog 15 sc15 rs15 20 := ⟨Tryz.f15, _, Tryz.func15, rfl, by kernel_rfl, by kernel_rfl, by kernel_rfl, rfl⟩
noncomputable def sc16 : SC := (⟨_, by cbv⟩ : {c : SC // c = scH Tryz.prog Tryz.f16 []}).1
def rs16 : List SOp := [(.mv (.tmp 8)), (.mv (.tmp 9))]
theorem code16 : FCode Tryz.prog 16 sc16 rs16 18 := ⟨Tryz.f16, _, Tryz.func16, rfl, by kernel_rfl, by kernel_rfl, by kernel_rfl, rfl⟩
noncomputable def sc18 : SC := (⟨_, by cbv⟩ : {c : SC // c = scH Tryz.prog Tryz.f18 [[22]]}).1
def rs18 : List SOp := [(.mv (.tmp 4))]
theorem code18 : FCode Tryz.prog 18 sc18 rs18 41 := ⟨Tryz.f18, _, Tryz.func18, rfl, by kernel_rfl, by kernel_rfl, by kernel_rfl, rfl⟩
def w18_0 : List Nat := [4, 5, 11, 12, 13, 14, 15, 16, 17, 18, 19, 20, 21, 22, 23, 24, 25, 26, 27, 28, 29, 30, 31, 32, 33, 34, 35, 36, 37, 38, 39, 40]
noncomputable def sc19 : SC := (⟨_, by cbv⟩ : {c : SC // c = scH Tryz.prog Tryz.f19 [[9,2,2,2,1,0,0,2,2,2,0]]}).1
def rs19 : List SOp := [(.mv (.tmp 8)), (.mv (.tmp 9))]
theorem code19 : FCode Tryz.prog 19 sc19 rs19 76 := ⟨Tryz.f19, _, Tryz.func19, rfl, by kernel_rfl, by kernel_rfl, by kernel_rfl, rfl⟩
def w19_0 : List Nat := [15, 16, 17, 36, 37, 38, 39, 40, 41, 42, 43, 44, 45, 46, 47, 48, 49, 50, 51, 52, 53, 54, 55, 56, 57, 58, 59, 60, 61, 62, 63, 64, 65]
def w19_1 : List Nat := [16, 17, 41, 42, 43, 44, 45, 46, 47, 48, 49, 50, 51, 52, 53, 54, 55, 56, 57, 58, 59, 60, 61, 62, 63, 64]
noncomputable def sc21 : SC := (⟨_, by cbv⟩ : {c : SC // c = scH Tryz.prog Tryz.f21 [[8]]}).1
def rs21 : List SOp := [(.mv (.tmp 4))]
theorem code21 : FCode Tryz.prog 21 sc21 rs21 26 := ⟨Tryz.f21, _, Tryz.func21, rfl, by kernel_rfl, by kernel_rfl, by kernel_rfl, rfl⟩
def w21_0 : List Nat := [4, 5, 11, 12, 13, 14, 15, 16, 17, 18, 19, 20, 21, 22, 23, 24, 25]
noncomputable def sc22 : SC := (⟨_, by cbv⟩ : {c : SC // c = scH Tryz.prog Tryz.f22 []}).1
def rs22 : List SOp := [(.mv (.tmp 8))]
theorem code22 : FCode Tryz.prog 22 sc22 rs22 15 := ⟨Tryz.f22, _, Tryz.func22, rfl, by kernel_rfl, by kernel_rfl, by kernel_rfl, rfl⟩
noncomputable def sc24 : SC := (⟨_, by cbv⟩ : {c : SC // c = scH Tryz.prog Tryz.f24 []}).1
def rs24 : List SOp := [(.load true 13 (.tmp 2))]
theorem code24 : FCode Tryz.prog 24 sc24 rs24 105 := ⟨Tryz.f24, _, Tryz.func24, rfl, by kernel_rfl, by kernel_rfl, by kernel_rfl, rfl⟩
def Jy : List Nat := [3, 4, 5, 6, 50, 51, 52, 53, 54, 55, 56, 57, 58, 59, 60, 61, 62, 63, 64, 65, 66, 67, 68, 69, 70, 71, 72, 73, 74, 75, 76, 77, 78, 79, 80, 81, 82, 83, 84, 85, 86, 87, 88, 89, 90, 91, 92, 93, 94, 95, 96, 97, 98, 99, 100, 101]
noncomputable def sc25 : SC := (⟨_, by cbv⟩ : {c : SC // c = scH Tryz.prog Tryz.f25 []}).1
def rs25 : List SOp := [(.mv (.tmp 2)), (.mv (.tmp 3)), (.mv (.tmp 4))]
theorem code25 : FCode Tryz.prog 25 sc25 rs25 41 := ⟨Tryz.f25, _, Tryz.func25, rfl, by kernel_rfl, by kernel_rfl, by kernel_rfl, rfl⟩
def w25_0 : List Nat := [5, 7, 17, 18, 19, 20, 21, 22, 23, 24, 25, 26]
noncomputable def sc27 : SC := (⟨_, by cbv⟩ : {c : SC // c = scH Tryz.prog Tryz.f27 []}).1
def rs27 : List SOp := [(.mv (.tmp 4))]
theorem code27 : FCode Tryz.prog 27 sc27 rs27 13 := ⟨Tryz.f27, _, Tryz.func27, rfl, by kernel_rfl, by kernel_rfl, by kernel_rfl, rfl⟩
noncomputable def sc28 : SC := (⟨_, by cbv⟩ : {c : SC // c = scH Tryz.prog Tryz.f28 [[22]]}).1
def rs28 : List SOp := [(.mv (.tmp 4))]
theorem code28 : FCode Tryz.prog 28 sc28 rs28 43 := ⟨Tryz.f28, _, Tryz.func28, rfl, by kernel_rfl, by kernel_rfl, by kernel_rfl, rfl⟩
def w28_0 : List Nat := [4, 5, 6, 7, 8, 9, 10, 11, 12, 13, 14, 15, 16, 17, 18, 19, 20, 21, 22, 23, 24, 25, 26, 27, 28, 29, 30, 31, 32, 33, 34, 35, 36, 37, 38, 39, 40, 41, 42]
def w28_1 : List Nat := [4, 6, 13, 14, 15, 16, 17, 18, 19, 20, 21, 22, 23, 24, 25, 26, 27, 28, 29, 30, 31, 32, 33, 34, 35, 36, 37, 38, 39, 40, 41, 42]
noncomputable def sc29 : SC := (⟨_, by cbv⟩ : {c : SC // c = scH Tryz.prog Tryz.f29 [[14],[13]]}).1
def rs29 : List SOp := [(.mv (.tmp 6)), (.mv (.tmp 7))]
theorem code29 : FCode Tryz.prog 29 sc29 rs29 73 := ⟨Tryz.f29, _, Tryz.func29, rfl, by kernel_rfl, by kernel_rfl, by kernel_rfl, rfl⟩
def w29_0 : List Nat := [6, 7, 8, 9, 10, 11, 12, 13, 14, 15, 16, 17, 18, 19, 20, 21, 22, 23, 24, 25, 26, 27, 28, 29, 30, 31, 32, 33, 34, 35, 36, 37, 38, 39, 40, 41, 42, 43, 44, 45, 46, 47, 48, 49, 50, 51, 52, 53, 54, 55, 56, 57, 58, 59, 60, 61]
noncomputable def sc30 : SC := (⟨_, by cbv⟩ : {c : SC // c = scH Tryz.prog Tryz.f30 [[10]]}).1
def rs30 : List SOp := [(.mv (.tmp 6))]
theorem code30 : FCode Tryz.prog 30 sc30 rs30 47 := ⟨Tryz.f30, _, Tryz.func30, rfl, by kernel_rfl, by kernel_rfl, by kernel_rfl, rfl⟩
def w30_0 : List Nat := [7, 8, 9, 10, 11, 12, 13, 14, 15, 16, 17, 18, 19, 20, 21, 22, 23, 24, 25, 26, 27, 28, 29, 30, 31, 32, 33, 34, 35, 36, 37, 38, 39, 40, 41, 42, 43, 44, 45]
def w30_1 : List Nat := [9, 10, 20, 21, 22, 23, 24, 25, 26, 27, 28, 29, 30, 31, 32, 33, 34, 35, 36, 37]
noncomputable def sc31 : SC := (⟨_, by cbv⟩ : {c : SC // c = scH Tryz.prog Tryz.f31 []}).1
def rs31 : List SOp := [(.load true 7 (.tmp 4)), (.mv (.tmp 5))]
theorem code31 : FCode Tryz.prog 31 sc31 rs31 21 := ⟨Tryz.f31, _, Tryz.func31, rfl, by kernel_rfl, by kernel_rfl, by kernel_rfl, rfl⟩
end Go.Proofs.YtkcnjajklnoahaaGreatDoor
