/-
  OWN WORK, printed by program: the code of this seat's functions, simplified.
-/
import Derived.Test.YtdebhhpklhbihaaGreatDoorG7MG
import Derived.Test.YtdebhhpklhbihaaGreatDoorProg
import Derived.KernelRfl
set_option linter.unusedVariables false
set_option linter.unusedSimpArgs false
set_option maxRecDepth 100000
namespace Go.Proofs.YtdebhhpklhbihaaGreatDoor
open Go Go.Abs
noncomputable def sc7 : SC := (⟨_, by cbv⟩ : {c : SC // c = scOf Tryz.prog Tryz.f7}).1
def rs7 : List SOp := [(.mv (.tmp 2))]
theorem code7 : FCode Tryz.prog 7 sc7 rs7 88 := ⟨Tryz.f7, _, Tryz.func7, rfl, by kernel_rfl, by kernel_rfl, by kernel_rfl, rfl⟩
def w7_0 : List Nat := [2, 8, 9, 10, 11, 44, 45, 46, 47, 48, 49, 50, 51, 52, 53, 54, 55, 56, 57, 58, 59, 60, 61, 62, 63, 64, 65, 66, 67, 68, 69, 70, 71, 72, 73, 74, 75, 76, 77, 78, 79, 80, 81, 82, 83, 84, 85, 86]
noncomputable def sc9 : SC := (⟨_, by cbv⟩ : {c : SC // c = scOf Tryz.prog Tryz.f9}).1
def rs9 : List SOp := [(.mv (.tmp 0))]
theorem code9 : FCode Tryz.prog 9 sc9 rs9 124 := ⟨Tryz.f9, _, Tryz.func9, rfl, by kernel_rfl, by kernel_rfl, by kernel_rfl, rfl⟩
noncomputable def sc10 : SC := (⟨_, by cbv⟩ : {c : SC // c = scOf Tryz.prog Tryz.f10}).1
def rs10 : List SOp := [(.load true 13 (.tmp 2))]
theorem code10 : FCode Tryz.prog 10 sc10 rs10 43 := ⟨Tryz.f10, _, Tryz.func10, rfl, by kernel_rfl, by kernel_rfl, by kernel_rfl, rfl⟩
noncomputable def sc13 : SC := (⟨_, by cbv⟩ : {c : SC // c = scOf Tryz.prog Tryz.f13}).1
def rs13 : List SOp := [(.mv (.tmp 6))]
theorem code13 : FCode Tryz.prog 13 sc13 rs13 98 := ⟨Tryz.f13, _, Tryz.func13, rfl, by kernel_rfl, by kernel_rfl, by kernel_rfl, rfl⟩
def w13_0 : List Nat := [2, 9, 10, 11, 12, 24, 25, 26, 27, 28, 29, 30, 31, 32, 33, 34, 35, 36, 37, 38, 39, 40, 41, 42, 43, 44, 45, 46, 47, 48, 49, 50, 51, 52, 53, 54, 55, 56, 57, 58, 59, 60, 61, 62, 63, 64, 65, 66, 67, 68, 69, 70, 71, 72, 73, 74, 75, 76, 77, 78, 79, 80, 81, 82, 83, 84, 85, 86]
noncomputable def sc14 : SC := (⟨_, by cbv⟩ : {c : SC // c = scOf Tryz.prog Tryz.f14}).1
def rs14 : List SOp := [(.mv (.tmp 4))]
theorem code14 : FCode Tryz.prog 14 sc14 rs14 47 := ⟨Tryz.f14, _, Tryz.func14, rfl, by kernel_rfl, by kernel_rfl, by kernel_rfl, rfl⟩
def w14_0 : List Nat := [4, 5, 7, 24, 25, 26, 27, 28, 29, 30, 31, 32, 33, 34, 35, 36, 37, 38, 39, 40, 41, 42]
noncomputable def sc15 : SC := (⟨_, by cbv⟩ : {c : SC // c = scOf Tryz.prog Tryz.f15}).1
def rs15 : List SOp := [(.mv (.tmp 10))]
theorem code15 : FCode Tryz.prog 15 sc15 rs15 43 := ⟨Tryz.f15, _, Tryz.func15, rfl, by kernel_rfl, by kernel_rfl, by kernel_rfl, rfl⟩
noncomputable def sc16 : SC := (⟨_, by cbv⟩ : {c : SC // c = scOf Tryz.prog Tryz.f16}).1
def rs16 : List SOp := [(.load true 7 (.tmp 4)), (.mv (.tmp 5)), (.mv (.tmp 6))]
theorem code16 : FCode Tryz.prog 16 sc16 rs16 33 := ⟨Tryz.f16, _, Tryz.func16, rfl, by kernel_rfl, by kernel_rfl, by kernel_rfl, rfl⟩
noncomputable def sc18 : SC := scOf Tryz.prog Tryz.f18
noncomputable def rs18 : List SOp := rsOf Tryz.prog Tryz.f18
theorem code18 : FCode Tryz.prog 18 sc18 rs18 48 := ⟨Tryz.f18, _, Tryz.func18, rfl, by kernel_rfl, by kernel_rfl, by kernel_rfl, rfl⟩
noncomputable def sc21 : SC := (⟨_, by cbv⟩ : {c : SC // c = scOf Tryz.prog Tryz.f21}).1
def rs21 : List SOp := [(.mv (.tmp 2)), (.mv (.tmp 3)), (.mv (.tmp 4))]
theorem code21 : FCode Tryz.prog 21 sc21 rs21 41 := ⟨Tryz.f21, _, Tryz.func21, rfl, by kernel_rfl, by kernel_rfl, by kernel_rfl, rfl⟩
def w21_0 : List Nat := [5, 7, 17, 18, 19, 20, 21, 22, 23, 24, 25, 26]
noncomputable def sc22 : SC := (⟨_, by cbv⟩ : {c : SC // c = scOf Tryz.prog Tryz.f22}).1
def rs22 : List SOp := [(.mv (.tmp 2))]
theorem code22 : FCode Tryz.prog 22 sc22 rs22 21 := ⟨Tryz.f22, _, Tryz.func22, rfl, by kernel_rfl, by kernel_rfl, by kernel_rfl, rfl⟩
noncomputable def sc27 : SC := scOf Tryz.prog Tryz.f27
noncomputable def rs27 : List SOp := rsOf Tryz.prog Tryz.f27
theorem code27 : FCode Tryz.prog 27 sc27 rs27 14 := ⟨Tryz.f27, _, Tryz.func27, rfl, by kernel_rfl, by kernel_rfl, by kernel_rfl, rfl⟩
noncomputable def sc28 : SC := scOf Tryz.prog Tryz.f28
noncomputable def rs28 : List SOp := rsOf Tryz.prog Tryz.f28
theorem code28 : FCode Tryz.prog 28 sc28 rs28 8 := ⟨Tryz.f28, _, Tryz.func28, rfl, by kernel_rfl, by kernel_rfl, by kernel_rfl, rfl⟩
noncomputable def sc29 : SC := scOf Tryz.prog Tryz.f29
noncomputable def rs29 : List SOp := rsOf Tryz.prog Tryz.f29
theorem code29 : FCode Tryz.prog 29 sc29 rs29 77 := ⟨Tryz.f29, _, Tryz.func29, rfl, by kernel_rfl, by kernel_rfl, by kernel_rfl, rfl⟩
noncomputable def sc30 : SC := (⟨_, by cbv⟩ : {c : SC // c = scOf Tryz.prog Tryz.f30}).1
def rs30 : List SOp := [(.load true 7 (.tmp 4)), (.mv (.tmp 5))]
theorem code30 : FCode Tryz.prog 30 sc30 rs30 21 := ⟨Tryz.f30, _, Tryz.func30, rfl, by kernel_rfl, by kernel_rfl, by kernel_rfl, rfl⟩
noncomputable def sc31 : SC := (⟨_, by cbv⟩ : {c : SC // c = scOf Tryz.prog Tryz.f31}).1
def rs31 : List SOp := [(.mv (.tmp 6))]
theorem code31 : FCode Tryz.prog 31 sc31 rs31 8 := ⟨Tryz.f31, _, Tryz.func31, rfl, by kernel_rfl, by kernel_rfl, by kernel_rfl, rfl⟩
noncomputable def sc32 : SC := (⟨_, by cbv⟩ : {c : SC // c = scOf Tryz.prog Tryz.f32}).1
def rs32 : List SOp := [(.load true 7 (.tmp 6))]
theorem code32 : FCode Tryz.prog 32 sc32 rs32 57 := ⟨Tryz.f32, _, Tryz.func32, rfl, by kernel_rfl, by kernel_rfl, by kernel_rfl, rfl⟩
def w32_0 : List Nat := [10, 27, 28, 29, 30, 31, 32, 33, 34, 35, 36, 37, 38, 39, 40, 41, 42, 43, 44, 45, 46, 47, 48, 49, 50, 51, 52, 53, 54, 55]
noncomputable def sc33 : SC := (⟨_, by cbv⟩ : {c : SC // c = scOf Tryz.prog Tryz.f33}).1
def rs33 : List SOp := [(.mv (.tmp 4))]
theorem code33 : FCode Tryz.prog 33 sc33 rs33 132 := ⟨Tryz.f33, _, Tryz.func33, rfl, by kernel_rfl, by kernel_rfl, by kernel_rfl, rfl⟩
def w33_0 : List Nat := [4, 8, 10, 11, 12, 66, 67, 68, 69, 70, 71, 72, 73, 74, 75, 76, 77, 78, 79, 80, 81, 82, 83, 84, 85, 86, 87, 88, 89, 90, 91, 92, 93, 94, 95, 96, 97, 98, 99, 100, 101, 102, 103, 104, 105, 106, 107, 108, 109, 110, 111, 112, 113, 114, 115]
noncomputable def sc34 : SC := (⟨_, by cbv⟩ : {c : SC // c = scOf Tryz.prog Tryz.f34}).1
def rs34 : List SOp := [(.mv (.tmp 2))]
theorem code34 : FCode Tryz.prog 34 sc34 rs34 9 := ⟨Tryz.f34, _, Tryz.func34, rfl, by kernel_rfl, by kernel_rfl, by kernel_rfl, rfl⟩
noncomputable def sc35 : SC := (⟨_, by cbv⟩ : {c : SC // c = scOf Tryz.prog Tryz.f35}).1
def rs35 : List SOp := [(.mv (.tmp 4))]
theorem code35 : FCode Tryz.prog 35 sc35 rs35 11 := ⟨Tryz.f35, _, Tryz.func35, rfl, by kernel_rfl, by kernel_rfl, by kernel_rfl, rfl⟩
noncomputable def sc36 : SC := (⟨_, by cbv⟩ : {c : SC // c = scOf Tryz.prog Tryz.f36}).1
def rs36 : List SOp := [(.mv (.tmp 8))]
theorem code36 : FCode Tryz.prog 36 sc36 rs36 108 := ⟨Tryz.f36, _, Tryz.func36, rfl, by kernel_rfl, by kernel_rfl, by kernel_rfl, rfl⟩
def w36_0 : List Nat := [15, 17, 87, 88, 89, 90, 91, 92, 93, 94, 95, 96, 97, 98, 99, 100, 101, 102, 103]
noncomputable def sc37 : SC := (⟨_, by cbv⟩ : {c : SC // c = scOf Tryz.prog Tryz.f37}).1
def rs37 : List SOp := [(.mv (.tmp 3))]
theorem code37 : FCode Tryz.prog 37 sc37 rs37 25 := ⟨Tryz.f37, _, Tryz.func37, rfl, by kernel_rfl, by kernel_rfl, by kernel_rfl, rfl⟩
noncomputable def sc38 : SC := (⟨_, by cbv⟩ : {c : SC // c = scOf Tryz.prog Tryz.f38}).1
def rs38 : List SOp := [(.mv (.tmp 4))]
theorem code38 : FCode Tryz.prog 38 sc38 rs38 19 := ⟨Tryz.f38, _, Tryz.func38, rfl, by kernel_rfl, by kernel_rfl, by kernel_rfl, rfl⟩
def w38_0 : List Nat := [4, 5, 8, 9, 10, 11, 12, 13, 14, 15, 16, 17, 18]
noncomputable def sc39 : SC := (⟨_, by cbv⟩ : {c : SC // c = scOf Tryz.prog Tryz.f39}).1
def rs39 : List SOp := [(.mv (.tmp 2))]
theorem code39 : FCode Tryz.prog 39 sc39 rs39 8 := ⟨Tryz.f39, _, Tryz.func39, rfl, by kernel_rfl, by kernel_rfl, by kernel_rfl, rfl⟩
noncomputable def sc41 : SC := (⟨_, by cbv⟩ : {c : SC // c = scOf Tryz.prog Tryz.f41}).1
def rs41 : List SOp := [(.mv (.tmp 6))]
theorem code41 : FCode Tryz.prog 41 sc41 rs41 154 := ⟨Tryz.f41, _, Tryz.func41, rfl, by kernel_rfl, by kernel_rfl, by kernel_rfl, rfl⟩
def w41_0 : List Nat := [8, 9, 10, 11, 36, 37, 38, 39, 40, 41, 42, 43, 44, 45, 46, 47, 48, 49, 50, 51, 52, 53, 54, 55, 56, 57, 58, 59, 60]
def w41_1 : List Nat := [13, 14, 15, 67, 68, 69, 70, 71, 72, 73, 74, 75, 76, 77, 78, 79, 80, 81, 82, 83, 84, 85, 86, 87, 88, 89, 90, 91, 92, 93, 94, 95, 96, 97, 98, 99, 100, 101, 102, 103, 104, 105]
def w41_2 : List Nat := [17, 108, 109, 110, 111, 112, 113, 114, 115, 116, 117, 118, 119, 120, 121, 122, 123, 124, 125, 126, 127, 128, 129, 130, 131, 132, 133, 134, 135, 136, 137, 138, 139, 140, 141, 142, 143, 144, 145, 146, 147, 148, 149, 150, 151, 152]
noncomputable def sc42 : SC := (⟨_, by cbv⟩ : {c : SC // c = scOf Tryz.prog Tryz.f42}).1
def rs42 : List SOp := [(.mv (.tmp 4)), (.mv (.tmp 5))]
theorem code42 : FCode Tryz.prog 42 sc42 rs42 138 := ⟨Tryz.f42, _, Tryz.func42, rfl, by kernel_rfl, by kernel_rfl, by kernel_rfl, rfl⟩
def w42_0 : List Nat := [4, 5, 8, 9, 10, 12, 13, 14, 15, 16, 17, 19, 20, 21, 22, 39, 40, 41, 42, 43, 44, 45, 46, 47, 48, 49, 50, 51, 52, 53, 54, 55, 56, 57, 58, 59, 60, 61, 62, 63, 64, 65, 66, 67, 68, 69, 70, 71, 72, 73, 74, 75, 76, 77, 78, 79, 80, 81, 82, 83, 84, 85, 86, 87, 88, 89, 90, 91, 92, 93, 94, 95, 96, 97, 98, 99, 100, 101, 102, 103, 104, 105, 106, 107, 108, 109, 110, 111, 112, 113, 114, 115, 116, 117, 118, 119, 120, 121, 122, 123, 124, 125, 126, 127, 128, 129, 130, 131, 132, 133, 134, 135, 136]
def w42_1 : List Nat := [17, 19, 20, 21, 90, 91, 92, 93, 94, 95, 96, 97, 98, 99, 100, 101, 102, 103, 104, 105, 106, 107, 108]
end Go.Proofs.YtdebhhpklhbihaaGreatDoor
