/-
  OWN WORK, printed by program: the code of this seat's functions, simplified.
-/
import Derived.Test.YtdebhhpklhbihaaGreatDoorG7MG
import Derived.Test.YtdebhhpklhbihaaGreatDoorProg
import Derived.KernelRfl
set_option linter.unusedVariables false
set_option linter.unusedSimpArgs false
set_option maxRecDepth 100000
namespace Go.Proofs.YtdebhhpklhbihaaGreatDoor
open Go Go.Abs
noncomputable def sc97 : SC := (⟨_, by cbv⟩ : {c : SC // c = scOf Tryz.prog Tryz.f97}).1
def rs97 : List SOp := [(.mv (.tmp 2))]
theorem code97 : FCode Tryz.prog 97 sc97 rs97 95 := ⟨Tryz.f97, _, Tryz.func97, rfl, by kernel_rfl, by kernel_rfl, by kernel_rfl, rfl⟩
noncomputable def sc113 : SC := scOf Tryz.prog Tryz.f113
noncomputable def rs113 : List SOp := rsOf Tryz.prog Tryz.f113
theorem code113 : FCode Tryz.prog 113 sc113 rs113 26 := ⟨Tryz.f113, _, Tryz.func113, rfl, by kernel_rfl, by kernel_rfl, by kernel_rfl, rfl⟩
noncomputable def sc114 : SC := (⟨_, by cbv⟩ : {c : SC // c = scOf Tryz.prog Tryz.f114}).1
def rs114 : List SOp := [(.load true 5 (.tmp 6)), (.mv (.tmp 7))]
theorem code114 : FCode Tryz.prog 114 sc114 rs114 25 := ⟨Tryz.f114, _, Tryz.func114, rfl, by kernel_rfl, by kernel_rfl, by kernel_rfl, rfl⟩
def w114_0 : List Nat := [7, 9, 13, 14, 15, 16, 17, 18, 19, 20, 21, 22, 23]
noncomputable def sc115 : SC := (⟨_, by cbv⟩ : {c : SC // c = scOf Tryz.prog Tryz.f115}).1
def rs115 : List SOp := []
theorem code115 : FCode Tryz.prog 115 sc115 rs115 14 := ⟨Tryz.f115, _, Tryz.func115, rfl, by kernel_rfl, by kernel_rfl, by kernel_rfl, rfl⟩
noncomputable def sc116 : SC := (⟨_, by cbv⟩ : {c : SC // c = scOf Tryz.prog Tryz.f116}).1
def rs116 : List SOp := [(.mv (.tmp 2))]
theorem code116 : FCode Tryz.prog 116 sc116 rs116 73 := ⟨Tryz.f116, _, Tryz.func116, rfl, by kernel_rfl, by kernel_rfl, by kernel_rfl, rfl⟩
def w116_0 : List Nat := [3, 5, 15, 16, 17, 18, 19, 20, 21, 22, 23, 24]
def w116_1 : List Nat := [6, 8, 9, 31, 32, 33, 34, 35, 36, 37, 38, 39, 40, 41, 42, 43, 44, 45, 46, 47, 48, 49, 50, 51, 52, 53, 54, 55, 56, 57, 58, 59, 60, 61, 62, 63, 64, 65, 66, 67, 68, 69, 70, 71]
noncomputable def sc117 : SC := (⟨_, by cbv⟩ : {c : SC // c = scOf Tryz.prog Tryz.f117}).1
def rs117 : List SOp := [(.mv (.tmp 4))]
theorem code117 : FCode Tryz.prog 117 sc117 rs117 20 := ⟨Tryz.f117, _, Tryz.func117, rfl, by kernel_rfl, by kernel_rfl, by kernel_rfl, rfl⟩
noncomputable def sc118 : SC := (⟨_, by cbv⟩ : {c : SC // c = scOf Tryz.prog Tryz.f118}).1
def rs118 : List SOp := []
theorem code118 : FCode Tryz.prog 118 sc118 rs118 39 := ⟨Tryz.f118, _, Tryz.func118, rfl, by kernel_rfl, by kernel_rfl, by kernel_rfl, rfl⟩
def w118_0 : List Nat := [7, 23, 24, 25, 26, 27, 28, 29, 30, 31, 32, 33, 34, 35, 36, 37, 38]
noncomputable def sc119 : SC := (⟨_, by cbv⟩ : {c : SC // c = scOf Tryz.prog Tryz.f119}).1
def rs119 : List SOp := [(.mv (.tmp 6))]
theorem code119 : FCode Tryz.prog 119 sc119 rs119 145 := ⟨Tryz.f119, _, Tryz.func119, rfl, by kernel_rfl, by kernel_rfl, by kernel_rfl, rfl⟩
def w119_0 : List Nat := [7, 10, 27, 28, 29, 30, 31, 32, 33, 34, 35, 36, 37, 38, 39, 40, 41, 42, 43, 44, 45, 46, 47, 48, 49, 50, 51, 52, 53, 54, 55, 56, 57, 58, 59, 60]
def w119_1 : List Nat := [13, 74, 75, 76, 77, 78, 79, 80, 81]
def w119_2 : List Nat := [21, 104, 105, 106, 107, 108, 109, 110, 111, 112, 113, 114, 115, 116, 117, 118, 119, 120]
def w119_3 : List Nat := [22, 23, 24, 123, 124, 125, 126, 127, 128, 129, 130, 131, 132, 133, 134, 135, 136, 137, 138, 139, 140, 141, 142]
noncomputable def sc120 : SC := (⟨_, by cbv⟩ : {c : SC // c = scOf Tryz.prog Tryz.f120}).1
def rs120 : List SOp := [(.mv (.tmp 4))]
theorem code120 : FCode Tryz.prog 120 sc120 rs120 37 := ⟨Tryz.f120, _, Tryz.func120, rfl, by kernel_rfl, by kernel_rfl, by kernel_rfl, rfl⟩
def w120_0 : List Nat := [5, 7, 10, 11, 12, 13, 14, 15, 16, 17, 18, 19, 20, 21, 22, 23, 24, 25, 26, 27, 28, 29, 30, 31, 32, 33, 34, 35]
noncomputable def sc121 : SC := (⟨_, by cbv⟩ : {c : SC // c = scOf Tryz.prog Tryz.f121}).1
def rs121 : List SOp := [(.mv (.tmp 8))]
theorem code121 : FCode Tryz.prog 121 sc121 rs121 111 := ⟨Tryz.f121, _, Tryz.func121, rfl, by kernel_rfl, by kernel_rfl, by kernel_rfl, rfl⟩
def w121_0 : List Nat := [16, 18, 82, 83, 84, 85, 86, 87, 88, 89, 90, 91, 92, 93, 94, 95, 96, 97, 98, 99, 100, 101, 102, 103, 104, 105, 106, 107, 108, 109]
def w121_1 : List Nat := [18, 91, 92, 93, 94, 95, 96, 97, 98, 99, 100, 101, 102, 103, 104, 105, 106, 107, 108, 109]
noncomputable def sc122 : SC := (⟨_, by cbv⟩ : {c : SC // c = scOf Tryz.prog Tryz.f122}).1
def rs122 : List SOp := [(.mv (.tmp 4))]
theorem code122 : FCode Tryz.prog 122 sc122 rs122 6 := ⟨Tryz.f122, _, Tryz.func122, rfl, by kernel_rfl, by kernel_rfl, by kernel_rfl, rfl⟩
noncomputable def sc123 : SC := (⟨_, by cbv⟩ : {c : SC // c = scOf Tryz.prog Tryz.f123}).1
def rs123 : List SOp := [(.mv (.tmp 4))]
theorem code123 : FCode Tryz.prog 123 sc123 rs123 11 := ⟨Tryz.f123, _, Tryz.func123, rfl, by kernel_rfl, by kernel_rfl, by kernel_rfl, rfl⟩
noncomputable def sc134 : SC := (⟨_, by cbv⟩ : {c : SC // c = scOf Tryz.prog Tryz.f134}).1
def rs134 : List SOp := [(.mv (.tmp 6))]
theorem code134 : FCode Tryz.prog 134 sc134 rs134 26 := ⟨Tryz.f134, _, Tryz.func134, rfl, by kernel_rfl, by kernel_rfl, by kernel_rfl, rfl⟩
noncomputable def sc135 : SC := (⟨_, by cbv⟩ : {c : SC // c = scOf Tryz.prog Tryz.f135}).1
def rs135 : List SOp := [(.mv (.tmp 6))]
theorem code135 : FCode Tryz.prog 135 sc135 rs135 59 := ⟨Tryz.f135, _, Tryz.func135, rfl, by kernel_rfl, by kernel_rfl, by kernel_rfl, rfl⟩
noncomputable def sc136 : SC := (⟨_, by cbv⟩ : {c : SC // c = scOf Tryz.prog Tryz.f136}).1
def rs136 : List SOp := [(.mv (.tmp 6)), (.mv (.tmp 7))]
theorem code136 : FCode Tryz.prog 136 sc136 rs136 43 := ⟨Tryz.f136, _, Tryz.func136, rfl, by kernel_rfl, by kernel_rfl, by kernel_rfl, rfl⟩
def w136_0 : List Nat := [6, 7, 9, 10, 17, 18, 19, 20, 21, 22, 23, 24, 25, 26, 27, 28, 29, 30, 31, 32, 33, 34, 35, 36, 37, 38, 39, 40, 41, 42]
noncomputable def sc137 : SC := (⟨_, by cbv⟩ : {c : SC // c = scOf Tryz.prog Tryz.f137}).1
def rs137 : List SOp := [(.mv (.tmp 4))]
theorem code137 : FCode Tryz.prog 137 sc137 rs137 60 := ⟨Tryz.f137, _, Tryz.func137, rfl, by kernel_rfl, by kernel_rfl, by kernel_rfl, rfl⟩
noncomputable def sc138 : SC := scOf Tryz.prog Tryz.f138
noncomputable def rs138 : List SOp := rsOf Tryz.prog Tryz.f138
theorem code138 : FCode Tryz.prog 138 sc138 rs138 27 := ⟨Tryz.f138, _, Tryz.func138, rfl, by kernel_rfl, by kernel_rfl, by kernel_rfl, rfl⟩
noncomputable def sc139 : SC := (⟨_, by cbv⟩ : {c : SC // c = scOf Tryz.prog Tryz.f139}).1
def rs139 : List SOp := [(.load true 4 (.tmp 2)), (.mv (.tmp 3))]
theorem code139 : FCode Tryz.prog 139 sc139 rs139 17 := ⟨Tryz.f139, _, Tryz.func139, rfl, by kernel_rfl, by kernel_rfl, by kernel_rfl, rfl⟩
def w139_0 : List Nat := [3, 5, 7, 8, 9, 10, 11, 12, 13, 14, 15]
noncomputable def sc140 : SC := (⟨_, by cbv⟩ : {c : SC // c = scOf Tryz.prog Tryz.f140}).1
def rs140 : List SOp := [(.mv (.tmp 2))]
theorem code140 : FCode Tryz.prog 140 sc140 rs140 9 := ⟨Tryz.f140, _, Tryz.func140, rfl, by kernel_rfl, by kernel_rfl, by kernel_rfl, rfl⟩
noncomputable def sc141 : SC := (⟨_, by cbv⟩ : {c : SC // c = scOf Tryz.prog Tryz.f141}).1
def rs141 : List SOp := [(.mv (.tmp 8))]
theorem code141 : FCode Tryz.prog 141 sc141 rs141 46 := ⟨Tryz.f141, _, Tryz.func141, rfl, by kernel_rfl, by kernel_rfl, by kernel_rfl, rfl⟩
def w141_0 : List Nat := [8, 9, 10, 11, 14, 15, 16, 17, 18, 19, 20, 21, 22, 23, 24, 25, 26, 27, 28, 29, 30, 31, 32, 33, 34, 35, 36, 37, 38, 39, 40, 41, 42, 43, 44, 45]
noncomputable def sc142 : SC := (⟨_, by cbv⟩ : {c : SC // c = scOf Tryz.prog Tryz.f142}).1
def rs142 : List SOp := [(.mv (.tmp 2))]
theorem code142 : FCode Tryz.prog 142 sc142 rs142 5 := ⟨Tryz.f142, _, Tryz.func142, rfl, by kernel_rfl, by kernel_rfl, by kernel_rfl, rfl⟩
noncomputable def sc143 : SC := (⟨_, by cbv⟩ : {c : SC // c = scOf Tryz.prog Tryz.f143}).1
def rs143 : List SOp := [(.mv (.tmp 4))]
theorem code143 : FCode Tryz.prog 143 sc143 rs143 36 := ⟨Tryz.f143, _, Tryz.func143, rfl, by kernel_rfl, by kernel_rfl, by kernel_rfl, rfl⟩
noncomputable def sc144 : SC := (⟨_, by cbv⟩ : {c : SC // c = scOf Tryz.prog Tryz.f144}).1
def rs144 : List SOp := [(.mv (.tmp 4))]
theorem code144 : FCode Tryz.prog 144 sc144 rs144 9 := ⟨Tryz.f144, _, Tryz.func144, rfl, by kernel_rfl, by kernel_rfl, by kernel_rfl, rfl⟩
noncomputable def sc145 : SC := (⟨_, by cbv⟩ : {c : SC // c = scOf Tryz.prog Tryz.f145}).1
def rs145 : List SOp := [(.mv (.tmp 4))]
theorem code145 : FCode Tryz.prog 145 sc145 rs145 9 := ⟨Tryz.f145, _, Tryz.func145, rfl, by kernel_rfl, by kernel_rfl, by kernel_rfl, rfl⟩
noncomputable def sc146 : SC := (⟨_, by cbv⟩ : {c : SC // c = scOf Tryz.prog Tryz.f146}).1
def rs146 : List SOp := [(.load true 8 (.tmp 2))]
theorem code146 : FCode Tryz.prog 146 sc146 rs146 54 := ⟨Tryz.f146, _, Tryz.func146, rfl, by kernel_rfl, by kernel_rfl, by kernel_rfl, rfl⟩
noncomputable def sc147 : SC := (⟨_, by cbv⟩ : {c : SC // c = scOf Tryz.prog Tryz.f147}).1
def rs147 : List SOp := [(.mv (.tmp 2))]
theorem code147 : FCode Tryz.prog 147 sc147 rs147 11 := ⟨Tryz.f147, _, Tryz.func147, rfl, by kernel_rfl, by kernel_rfl, by kernel_rfl, rfl⟩
noncomputable def sc148 : SC := (⟨_, by cbv⟩ : {c : SC // c = scOf Tryz.prog Tryz.f148}).1
def rs148 : List SOp := [(.mv (.tmp 6))]
theorem code148 : FCode Tryz.prog 148 sc148 rs148 15 := ⟨Tryz.f148, _, Tryz.func148, rfl, by kernel_rfl, by kernel_rfl, by kernel_rfl, rfl⟩
noncomputable def sc149 : SC := (⟨_, by cbv⟩ : {c : SC // c = scOf Tryz.prog Tryz.f149}).1
def rs149 : List SOp := [(.mv (.tmp 2))]
theorem code149 : FCode Tryz.prog 149 sc149 rs149 10 := ⟨Tryz.f149, _, Tryz.func149, rfl, by kernel_rfl, by kernel_rfl, by kernel_rfl, rfl⟩
noncomputable def sc162 : SC := (⟨_, by cbv⟩ : {c : SC // c = scOf Tryz.prog Tryz.f162}).1
def rs162 : List SOp := [(.mv (.tmp 4))]
theorem code162 : FCode Tryz.prog 162 sc162 rs162 42 := ⟨Tryz.f162, _, Tryz.func162, rfl, by kernel_rfl, by kernel_rfl, by kernel_rfl, rfl⟩
def w162_0 : List Nat := [5, 6, 7, 16, 17, 18, 19, 20, 21, 22, 23, 24, 25, 26, 27, 28, 29, 30, 31, 32, 33, 34, 35]
noncomputable def sc163 : SC := (⟨_, by cbv⟩ : {c : SC // c = scOf Tryz.prog Tryz.f163}).1
def rs163 : List SOp := [(.mv (.tmp 2))]
theorem code163 : FCode Tryz.prog 163 sc163 rs163 10 := ⟨Tryz.f163, _, Tryz.func163, rfl, by kernel_rfl, by kernel_rfl, by kernel_rfl, rfl⟩
noncomputable def sc164 : SC := (⟨_, by cbv⟩ : {c : SC // c = scOf Tryz.prog Tryz.f164}).1
def rs164 : List SOp := []
theorem code164 : FCode Tryz.prog 164 sc164 rs164 14 := ⟨Tryz.f164, _, Tryz.func164, rfl, by kernel_rfl, by kernel_rfl, by kernel_rfl, rfl⟩
noncomputable def sc165 : SC := scOf Tryz.prog Tryz.f165
noncomputable def rs165 : List SOp := rsOf Tryz.prog Tryz.f165
theorem code165 : FCode Tryz.prog 165 sc165 rs165 12 := ⟨Tryz.f165, _, Tryz.func165, rfl, by kernel_rfl, by kernel_rfl, by kernel_rfl, rfl⟩
noncomputable def sc166 : SC := (⟨_, by cbv⟩ : {c : SC // c = scOf Tryz.prog Tryz.f166}).1
def rs166 : List SOp := [(.mv (.tmp 2))]
theorem code166 : FCode Tryz.prog 166 sc166 rs166 9 := ⟨Tryz.f166, _, Tryz.func166, rfl, by kernel_rfl, by kernel_rfl, by kernel_rfl, rfl⟩
noncomputable def sc167 : SC := (⟨_, by cbv⟩ : {c : SC // c = scOf Tryz.prog Tryz.f167}).1
def rs167 : List SOp := [(.mv (.tmp 6))]
theorem code167 : FCode Tryz.prog 167 sc167 rs167 23 := ⟨Tryz.f167, _, Tryz.func167, rfl, by kernel_rfl, by kernel_rfl, by kernel_rfl, rfl⟩
noncomputable def sc168 : SC := (⟨_, by cbv⟩ : {c : SC // c = scOf Tryz.prog Tryz.f168}).1
def rs168 : List SOp := []
theorem code168 : FCode Tryz.prog 168 sc168 rs168 11 := ⟨Tryz.f168, _, Tryz.func168, rfl, by kernel_rfl, by kernel_rfl, by kernel_rfl, rfl⟩
noncomputable def sc169 : SC := (⟨_, by cbv⟩ : {c : SC // c = scOf Tryz.prog Tryz.f169}).1
def rs169 : List SOp := [(.mv (.tmp 2))]
theorem code169 : FCode Tryz.prog 169 sc169 rs169 61 := ⟨Tryz.f169, _, Tryz.func169, rfl, by kernel_rfl, by kernel_rfl, by kernel_rfl, rfl⟩
def w169_0 : List Nat := [2, 3, 4, 5, 10, 11, 12, 13, 14, 15, 16, 17, 18, 19, 20, 21, 22, 23, 24, 25, 26, 27, 28, 29, 30, 31, 32, 33, 34, 35, 36, 37, 38, 39, 40, 41, 42, 43, 44, 45, 46, 47, 48, 49, 50, 51, 52, 53, 54, 55, 56, 57, 58, 59]
def w169_1 : List Nat := [3, 5, 29, 30, 31, 32, 33, 34, 35, 36, 37, 38, 39, 40, 41, 42, 43, 44, 45, 46, 47, 48, 49, 50, 51, 52, 53]
noncomputable def sc170 : SC := (⟨_, by cbv⟩ : {c : SC // c = scOf Tryz.prog Tryz.f170}).1
def rs170 : List SOp := [(.mv (.tmp 3))]
theorem code170 : FCode Tryz.prog 170 sc170 rs170 25 := ⟨Tryz.f170, _, Tryz.func170, rfl, by kernel_rfl, by kernel_rfl, by kernel_rfl, rfl⟩
def w170_0 : List Nat := [0, 4, 5, 6, 7, 8, 9, 10, 11, 12, 13, 14, 15, 16, 17, 18, 19, 20, 21, 22, 23]
noncomputable def sc171 : SC := (⟨_, by cbv⟩ : {c : SC // c = scOf Tryz.prog Tryz.f171}).1
def rs171 : List SOp := [(.mv (.tmp 2))]
theorem code171 : FCode Tryz.prog 171 sc171 rs171 4 := ⟨Tryz.f171, _, Tryz.func171, rfl, by kernel_rfl, by kernel_rfl, by kernel_rfl, rfl⟩
noncomputable def sc172 : SC := (⟨_, by cbv⟩ : {c : SC // c = scOf Tryz.prog Tryz.f172}).1
def rs172 : List SOp := [(.mv (.tmp 4)), (.mv (.tmp 5))]
theorem code172 : FCode Tryz.prog 172 sc172 rs172 54 := ⟨Tryz.f172, _, Tryz.func172, rfl, by kernel_rfl, by kernel_rfl, by kernel_rfl, rfl⟩
def w172_0 : List Nat := [7, 8, 9, 13, 14, 15, 16, 17, 18, 19, 20, 21, 22, 23, 24, 25, 26, 27, 28, 29, 30]
noncomputable def sc173 : SC := (⟨_, by cbv⟩ : {c : SC // c = scOf Tryz.prog Tryz.f173}).1
def rs173 : List SOp := [(.mv (.tmp 2))]
theorem code173 : FCode Tryz.prog 173 sc173 rs173 9 := ⟨Tryz.f173, _, Tryz.func173, rfl, by kernel_rfl, by kernel_rfl, by kernel_rfl, rfl⟩
end Go.Proofs.YtdebhhpklhbihaaGreatDoor
