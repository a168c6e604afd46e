import Derived.Test.YtkcnjajklnoahaaGreatDoorSXMG
import Derived.Test.YtkcnjajklnoahaaGreatDoorProg
import Derived.KernelRfl
set_option linter.unusedVariables false
set_option linter.unusedSimpArgs false
set_option maxRecDepth 100000
namespace Go.Proofs.YtkcnjajklnoahaaGreatDoor
open Go Go.Abs
noncomputable def sc125 : SC := (⟨_, by cbv⟩ : {c : SC // c = scH Tryz.prog Tryz.f125 [[12],[13]]}).1
def rs125 : List SOp := [(.mv (.tmp 2))]
theorem code125 : FCode Tryz.prog 125 sc125 rs125 73 := ⟨Tryz.f125, _, Tryz.func125, rfl, by kernel_rfl, by kernel_rfl, by kernel_rfl, rfl⟩
def w125_0 : List Nat := [3, 5, 15, 16, 17, 18, 19, 20, 21, 22, 23, 24]
def w125_1 : List Nat := [6, 8, 9, 31, 32, 33, 34, 35, 36, 37, 38, 39, 40, 41, 42, 43, 44, 45, 46, 47, 48, 49, 50, 51, 52, 53, 54, 55, 56, 57, 58, 59, 60, 61, 62, 63, 64, 65, 66, 67, 68, 69, 70, 71]
noncomputable def sc126 : SC := (⟨_, by cbv⟩ : {c : SC // c = scH Tryz.prog Tryz.f126 []}).1
def rs126 : List SOp := [(.mv (.tmp 2))]
theorem code126 : FCode Tryz.prog 126 sc126 rs126 10 := ⟨Tryz.f126, _, Tryz.func126, rfl, by kernel_rfl, by kernel_rfl, by kernel_rfl, rfl⟩
noncomputable def sc127 : SC := (⟨_, by cbv⟩ : {c : SC // c = scH Tryz.prog Tryz.f127 []}).1
def rs127 : List SOp := [(.mv (.tmp 2))]
theorem code127 : FCode Tryz.prog 127 sc127 rs127 12 := ⟨Tryz.f127, _, Tryz.func127, rfl, by kernel_rfl, by kernel_rfl, by kernel_rfl, rfl⟩
noncomputable def sc128 : SC := (⟨_, by cbv⟩ : {c : SC // c = scH Tryz.prog Tryz.f128 []}).1
def rs128 : List SOp := [(.mv (.tmp 4))]
theorem code128 : FCode Tryz.prog 128 sc128 rs128 10 := ⟨Tryz.f128, _, Tryz.func128, rfl, by kernel_rfl, by kernel_rfl, by kernel_rfl, rfl⟩
noncomputable def sc135 : SC := (⟨_, by cbv⟩ : {c : SC // c = scH Tryz.prog Tryz.f135 []}).1
def rs135 : List SOp := [(.mv (.tmp 2))]
theorem code135 : FCode Tryz.prog 135 sc135 rs135 9 := ⟨Tryz.f135, _, Tryz.func135, rfl, by kernel_rfl, by kernel_rfl, by kernel_rfl, rfl⟩
noncomputable def sc136 : SC := (⟨_, by cbv⟩ : {c : SC // c = scH Tryz.prog Tryz.f136 []}).1
def rs136 : List SOp := [(.mv (.tmp 8))]
theorem code136 : FCode Tryz.prog 136 sc136 rs136 46 := ⟨Tryz.f136, _, Tryz.func136, rfl, by kernel_rfl, by kernel_rfl, by kernel_rfl, rfl⟩
def w136_0 : List Nat := [8, 9, 10, 11, 14, 15, 16, 17, 18, 19, 20, 21, 22, 23, 24, 25, 26, 27, 28, 29, 30, 31, 32, 33, 34, 35, 36, 37, 38, 39, 40, 41, 42, 43, 44, 45]
noncomputable def sc137 : SC := (⟨_, by cbv⟩ : {c : SC // c = scH Tryz.prog Tryz.f137 []}).1
def rs137 : List SOp := [(.mv (.tmp 2))]
theorem code137 : FCode Tryz.prog 137 sc137 rs137 5 := ⟨Tryz.f137, _, Tryz.func137, rfl, by kernel_rfl, by kernel_rfl, by kernel_rfl, rfl⟩
noncomputable def sc138 : SC := (⟨_, by cbv⟩ : {c : SC // c = scH Tryz.prog Tryz.f138 [[12,2,2,2,2,2,2,2,2,2,2,0,0,0]]}).1
def rs138 : List SOp := [(.mv (.tmp 4))]
theorem code138 : FCode Tryz.prog 138 sc138 rs138 36 := ⟨Tryz.f138, _, Tryz.func138, rfl, by kernel_rfl, by kernel_rfl, by kernel_rfl, rfl⟩
noncomputable def sc139 : SC := (⟨_, by cbv⟩ : {c : SC // c = scH Tryz.prog Tryz.f139 []}).1
def rs139 : List SOp := [(.mv (.tmp 4))]
theorem code139 : FCode Tryz.prog 139 sc139 rs139 9 := ⟨Tryz.f139, _, Tryz.func139, rfl, by kernel_rfl, by kernel_rfl, by kernel_rfl, rfl⟩
noncomputable def sc140 : SC := (⟨_, by cbv⟩ : {c : SC // c = scH Tryz.prog Tryz.f140 []}).1
def rs140 : List SOp := [(.mv (.tmp 4))]
theorem code140 : FCode Tryz.prog 140 sc140 rs140 9 := ⟨Tryz.f140, _, Tryz.func140, rfl, by kernel_rfl, by kernel_rfl, by kernel_rfl, rfl⟩
noncomputable def sc141 : SC := (⟨_, by cbv⟩ : {c : SC // c = scH Tryz.prog Tryz.f141 []}).1
def rs141 : List SOp := [(.load true 8 (.tmp 2))]
theorem code141 : FCode Tryz.prog 141 sc141 rs141 54 := ⟨Tryz.f141, _, Tryz.func141, rfl, by kernel_rfl, by kernel_rfl, by kernel_rfl, rfl⟩
noncomputable def sc142 : SC := (⟨_, by cbv⟩ : {c : SC // c = scH Tryz.prog Tryz.f142 []}).1
def rs142 : List SOp := [(.mv (.tmp 2))]
theorem code142 : FCode Tryz.prog 142 sc142 rs142 11 := ⟨Tryz.f142, _, Tryz.func142, rfl, by kernel_rfl, by kernel_rfl, by kernel_rfl, rfl⟩
noncomputable def sc143 : SC := (⟨_, by cbv⟩ : {c : SC // c = scH Tryz.prog Tryz.f143 []}).1
def rs143 : List SOp := [(.mv (.tmp 6))]
theorem code143 : FCode Tryz.prog 143 sc143 rs143 15 := ⟨Tryz.f143, _, Tryz.func143, rfl, by kernel_rfl, by kernel_rfl, by kernel_rfl, rfl⟩
noncomputable def sc144 : SC := (⟨_, by cbv⟩ : {c : SC // c = scH Tryz.prog Tryz.f144 []}).1
def rs144 : List SOp := [(.mv (.tmp 2))]
theorem code144 : FCode Tryz.prog 144 sc144 rs144 10 := ⟨Tryz.f144, _, Tryz.func144, rfl, by kernel_rfl, by kernel_rfl, by kernel_rfl, rfl⟩
noncomputable def sc145 : SC := (⟨_, by cbv⟩ : {c : SC // c = scH Tryz.prog Tryz.f145 []}).1
def rs145 : List SOp := []
theorem code145 : FCode Tryz.prog 145 sc145 rs145 14 := ⟨Tryz.f145, _, Tryz.func145, rfl, by kernel_rfl, by kernel_rfl, by kernel_rfl, rfl⟩
noncomputable def sc146 : SC := (⟨_, by cbv⟩ : {c : SC // c = scH Tryz.prog Tryz.f146 []}).1
def rs146 : List SOp := [(.mv (.tmp 4))]
theorem code146 : FCode Tryz.prog 146 sc146 rs146 20 := ⟨Tryz.f146, _, Tryz.func146, rfl, by kernel_rfl, by kernel_rfl, by kernel_rfl, rfl⟩
noncomputable def sc147 : SC := (⟨_, by cbv⟩ : {c : SC // c = scH Tryz.prog Tryz.f147 []}).1
def rs147 : List SOp := []
theorem code147 : FCode Tryz.prog 147 sc147 rs147 39 := ⟨Tryz.f147, _, Tryz.func147, rfl, by kernel_rfl, by kernel_rfl, by kernel_rfl, rfl⟩
def w147_0 : List Nat := [7, 23, 24, 25, 26, 27, 28, 29, 30, 31, 32, 33, 34, 35, 36, 37, 38]
noncomputable def sc148 : SC := (⟨_, by cbv⟩ : {c : SC // c = scH Tryz.prog Tryz.f148 [[12]]}).1
def rs148 : List SOp := [(.mv (.tmp 6))]
theorem code148 : FCode Tryz.prog 148 sc148 rs148 145 := ⟨Tryz.f148, _, Tryz.func148, rfl, by kernel_rfl, by kernel_rfl, by kernel_rfl, rfl⟩
def Jr : List Nat := [7, 10, 27, 28, 29, 30, 31, 32, 33, 34, 35, 36, 37, 38, 39, 40, 41, 42, 43, 44, 45, 46, 47, 48, 49, 50, 51, 52, 53, 54, 55, 56, 57, 58, 59, 60]
def w148_1 : List Nat := [13, 74, 75, 76, 77, 78, 79, 80, 81]
def w148_2 : List Nat := [21, 104, 105, 106, 107, 108, 109, 110, 111, 112, 113, 114, 115, 116, 117, 118, 119, 120]
def w148_3 : List Nat := [22, 23, 24, 123, 124, 125, 126, 127, 128, 129, 130, 131, 132, 133, 134, 135, 136, 137, 138, 139, 140, 141, 142]
noncomputable def sc149 : SC := (⟨_, by cbv⟩ : {c : SC // c = scH Tryz.prog Tryz.f149 []}).1
def rs149 : List SOp := [(.mv (.tmp 4))]
theorem code149 : FCode Tryz.prog 149 sc149 rs149 37 := ⟨Tryz.f149, _, Tryz.func149, rfl, by kernel_rfl, by kernel_rfl, by kernel_rfl, rfl⟩
def w149_0 : List Nat := [5, 7, 10, 11, 12, 13, 14, 15, 16, 17, 18, 19, 20, 21, 22, 23, 24, 25, 26, 27, 28, 29, 30, 31, 32, 33, 34, 35]
noncomputable def sc150 : SC := (⟨_, by cbv⟩ : {c : SC // c = scH Tryz.prog Tryz.f150 [[11]]}).1
def rs150 : List SOp := [(.mv (.tmp 8))]
theorem code150 : FCode Tryz.prog 150 sc150 rs150 111 := ⟨Tryz.f150, _, Tryz.func150, rfl, by kernel_rfl, by kernel_rfl, by kernel_rfl, rfl⟩
def w150_0 : List Nat := [16, 18, 82, 83, 84, 85, 86, 87, 88, 89, 90, 91, 92, 93, 94, 95, 96, 97, 98, 99, 100, 101, 102, 103, 104, 105, 106, 107, 108, 109]
def w150_1 : List Nat := [18, 91, 92, 93, 94, 95, 96, 97, 98, 99, 100, 101, 102, 103, 104, 105, 106, 107, 108, 109]
noncomputable def sc151 : SC := (⟨_, by cbv⟩ : {c : SC // c = scH Tryz.prog Tryz.f151 []}).1
def rs151 : List SOp := [(.mv (.tmp 4))]
theorem code151 : FCode Tryz.prog 151 sc151 rs151 6 := ⟨Tryz.f151, _, Tryz.func151, rfl, by kernel_rfl, by kernel_rfl, by kernel_rfl, rfl⟩
noncomputable def sc152 : SC := (⟨_, by cbv⟩ : {c : SC // c = scH Tryz.prog Tryz.f152 []}).1
def rs152 : List SOp := [(.mv (.tmp 2))]
theorem code152 : FCode Tryz.prog 152 sc152 rs152 4 := ⟨Tryz.f152, _, Tryz.func152, rfl, by kernel_rfl, by kernel_rfl, by kernel_rfl, rfl⟩
noncomputable def sc153 : SC := (⟨_, by cbv⟩ : {c : SC // c = scH Tryz.prog Tryz.f153 []}).1
def rs153 : List SOp := [(.mv (.tmp 6))]
theorem code153 : FCode Tryz.prog 153 sc153 rs153 23 := ⟨Tryz.f153, _, Tryz.func153, rfl, by kernel_rfl, by kernel_rfl, by kernel_rfl, rfl⟩
noncomputable def sc154 : SC := (⟨_, by cbv⟩ : {c : SC // c = scH Tryz.prog Tryz.f154 []}).1
def rs154 : List SOp := [(.mv (.tmp 4))]
theorem code154 : FCode Tryz.prog 154 sc154 rs154 42 := ⟨Tryz.f154, _, Tryz.func154, rfl, by kernel_rfl, by kernel_rfl, by kernel_rfl, rfl⟩
def w154_0 : List Nat := [5, 6, 7, 16, 17, 18, 19, 20, 21, 22, 23, 24, 25, 26, 27, 28, 29, 30, 31, 32, 33, 34, 35]
noncomputable def sc155 : SC := (⟨_, by cbv⟩ : {c : SC // c = scH Tryz.prog Tryz.f155 []}).1
def rs155 : List SOp := []
theorem code155 : FCode Tryz.prog 155 sc155 rs155 14 := ⟨Tryz.f155, _, Tryz.func155, rfl, by kernel_rfl, by kernel_rfl, by kernel_rfl, rfl⟩
noncomputable def sc156 : SC := Qq Tryz.prog Tryz.f156
noncomputable def rs156 : List SOp := Yb Tryz.prog Tryz.f156
theorem code156 : FCode Tryz.prog 156 sc156 rs156 12 := ⟨Tryz.f156, _, Tryz.func156, rfl, by kernel_rfl, by kernel_rfl, by kernel_rfl, rfl⟩
noncomputable def sc157 : SC := (⟨_, by cbv⟩ : {c : SC // c = scH Tryz.prog Tryz.f157 []}).1
def rs157 : List SOp := [(.mv (.tmp 2))]
theorem code157 : FCode Tryz.prog 157 sc157 rs157 36 := ⟨Tryz.f157, _, Tryz.func157, rfl, by kernel_rfl, by kernel_rfl, by kernel_rfl, rfl⟩
def w157_0 : List Nat := [3, 5, 11, 12, 13, 14, 15, 16, 17, 18, 19, 20, 21, 22]
def w157_1 : List Nat := [6, 8, 27, 28, 29, 30, 31, 32, 33, 34]
noncomputable def sc161 : SC := (⟨_, by cbv⟩ : {c : SC // c = scH Tryz.prog Tryz.f161 []}).1
def rs161 : List SOp := [(.mv (.tmp 4))]
theorem code161 : FCode Tryz.prog 161 sc161 rs161 19 := ⟨Tryz.f161, _, Tryz.func161, rfl, by kernel_rfl, by kernel_rfl, by kernel_rfl, rfl⟩
def w161_0 : List Nat := [4, 5, 8, 9, 10, 11, 12, 13, 14, 15, 16, 17, 18]
noncomputable def sc162 : SC := (⟨_, by cbv⟩ : {c : SC // c = scH Tryz.prog Tryz.f162 [[5]]}).1
def rs162 : List SOp := [(.mv (.tmp 4))]
theorem code162 : FCode Tryz.prog 162 sc162 rs162 19 := ⟨Tryz.f162, _, Tryz.func162, rfl, by kernel_rfl, by kernel_rfl, by kernel_rfl, rfl⟩
def w162_0 : List Nat := [4, 5, 8, 9, 10, 11, 12, 13, 14, 15, 16, 17, 18]
noncomputable def sc163 : SC := (⟨_, by cbv⟩ : {c : SC // c = scH Tryz.prog Tryz.f163 []}).1
def rs163 : List SOp := [(.mv (.tmp 2))]
theorem code163 : FCode Tryz.prog 163 sc163 rs163 9 := ⟨Tryz.f163, _, Tryz.func163, rfl, by kernel_rfl, by kernel_rfl, by kernel_rfl, rfl⟩
noncomputable def sc164 : SC := (⟨_, by cbv⟩ : {c : SC // c = scH Tryz.prog Tryz.f164 []}).1
def rs164 : List SOp := []
theorem code164 : FCode Tryz.prog 164 sc164 rs164 11 := ⟨Tryz.f164, _, Tryz.func164, rfl, by kernel_rfl, by kernel_rfl, by kernel_rfl, rfl⟩
noncomputable def sc165 : SC := (⟨_, by cbv⟩ : {c : SC // c = scH Tryz.prog Tryz.f165 [[9],[9]]}).1
def rs165 : List SOp := [(.mv (.tmp 2))]
theorem code165 : FCode Tryz.prog 165 sc165 rs165 61 := ⟨Tryz.f165, _, Tryz.func165, rfl, by kernel_rfl, by kernel_rfl, by kernel_rfl, rfl⟩
def w165_0 : List Nat := [2, 3, 4, 5, 10, 11, 12, 13, 14, 15, 16, 17, 18, 19, 20, 21, 22, 23, 24, 25, 26, 27, 28, 29, 30, 31, 32, 33, 34, 35, 36, 37, 38, 39, 40, 41, 42, 43, 44, 45, 46, 47, 48, 49, 50, 51, 52, 53, 54, 55, 56, 57, 58, 59]
def w165_1 : List Nat := [3, 5, 29, 30, 31, 32, 33, 34, 35, 36, 37, 38, 39, 40, 41, 42, 43, 44, 45, 46, 47, 48, 49, 50, 51, 52, 53]
noncomputable def sc166 : SC := (⟨_, by cbv⟩ : {c : SC // c = scH Tryz.prog Tryz.f166 [[9]]}).1
def rs166 : List SOp := [(.mv (.tmp 3))]
theorem code166 : FCode Tryz.prog 166 sc166 rs166 25 := ⟨Tryz.f166, _, Tryz.func166, rfl, by kernel_rfl, by kernel_rfl, by kernel_rfl, rfl⟩
def w166_0 : List Nat := [0, 4, 5, 6, 7, 8, 9, 10, 11, 12, 13, 14, 15, 16, 17, 18, 19, 20, 21, 22, 23]
noncomputable def sc167 : SC := (⟨_, by cbv⟩ : {c : SC // c = scH Tryz.prog Tryz.f167 []}).1
def rs167 : List SOp := [(.mv (.tmp 4)), (.mv (.tmp 5))]
theorem code167 : FCode Tryz.prog 167 sc167 rs167 54 := ⟨Tryz.f167, _, Tryz.func167, rfl, by kernel_rfl, by kernel_rfl, by kernel_rfl, rfl⟩
def w167_0 : List Nat := [7, 8, 9, 13, 14, 15, 16, 17, 18, 19, 20, 21, 22, 23, 24, 25, 26, 27, 28, 29, 30]
noncomputable def sc168 : SC := (⟨_, by cbv⟩ : {c : SC // c = scH Tryz.prog Tryz.f168 []}).1
def rs168 : List SOp := [(.mv (.tmp 2))]
theorem code168 : FCode Tryz.prog 168 sc168 rs168 9 := ⟨Tryz.f168, _, Tryz.func168, rfl, by kernel_rfl, by kernel_rfl, by kernel_rfl, rfl⟩
noncomputable def sc169 : SC := (⟨_, by cbv⟩ : {c : SC // c = scH Tryz.prog Tryz.f169 []}).1
def rs169 : List SOp := []
theorem code169 : FCode Tryz.prog 169 sc169 rs169 35 := ⟨Tryz.f169, _, Tryz.func169, rfl, by kernel_rfl, by kernel_rfl, by kernel_rfl, rfl⟩
noncomputable def sc170 : SC := (⟨_, by cbv⟩ : {c : SC // c = scH Tryz.prog Tryz.f170 []}).1
def rs170 : List SOp := [(.mv (.tmp 2))]
theorem code170 : FCode Tryz.prog 170 sc170 rs170 4 := ⟨Tryz.f170, _, Tryz.func170, rfl, by kernel_rfl, by kernel_rfl, by kernel_rfl, rfl⟩
noncomputable def sc171 : SC := (⟨_, by cbv⟩ : {c : SC // c = scH Tryz.prog Tryz.f171 []}).1
def rs171 : List SOp := [(.mv (.tmp 2)), (.mv (.tmp 3))]
theorem code171 : FCode Tryz.prog 171 sc171 rs171 18 := ⟨Tryz.f171, _, Tryz.func171, rfl, by kernel_rfl, by kernel_rfl, by kernel_rfl, rfl⟩
noncomputable def sc172 : SC := (⟨_, by cbv⟩ : {c : SC // c = scH Tryz.prog Tryz.f172 []}).1
def rs172 : List SOp := [(.mv (.tmp 4))]
theorem code172 : FCode Tryz.prog 172 sc172 rs172 24 := ⟨Tryz.f172, _, Tryz.func172, rfl, by kernel_rfl, by kernel_rfl, by kernel_rfl, rfl⟩
noncomputable def sc173 : SC := (⟨_, by cbv⟩ : {c : SC // c = scH Tryz.prog Tryz.f173 [[24],[10]]}).1
def rs173 : List SOp := []
theorem code173 : FCode Tryz.prog 173 sc173 rs173 66 := ⟨Tryz.f173, _, Tryz.func173, rfl, by kernel_rfl, by kernel_rfl, by kernel_rfl, rfl⟩
def w173_0 : List Nat := [4, 5, 6, 7, 8, 9, 10, 11, 12, 13, 14, 15, 16, 17, 18, 19, 20, 21, 22, 23, 24, 25, 26, 27, 28, 29, 30, 31, 32, 33, 34, 35, 36, 37, 38, 39, 40, 41, 42, 43, 44, 45, 46, 47, 48, 49, 50, 51, 52, 53, 54, 55, 56, 57, 58, 59, 60, 61, 62, 63, 64, 65]
noncomputable def sc174 : SC := (⟨_, by cbv⟩ : {c : SC // c = scH Tryz.prog Tryz.f174 []}).1
def rs174 : List SOp := []
theorem code174 : FCode Tryz.prog 174 sc174 rs174 19 := ⟨Tryz.f174, _, Tryz.func174, rfl, by kernel_rfl, by kernel_rfl, by kernel_rfl, rfl⟩
def w174_0 : List Nat := [3, 7, 8, 9, 10, 11, 12, 13, 14, 15, 16, 17, 18]
noncomputable def sc175 : SC := (⟨_, by cbv⟩ : {c : SC // c = scH Tryz.prog Tryz.f175 []}).1
def rs175 : List SOp := [(.mv (.tmp 4))]
theorem code175 : FCode Tryz.prog 175 sc175 rs175 19 := ⟨Tryz.f175, _, Tryz.func175, rfl, by kernel_rfl, by kernel_rfl, by kernel_rfl, rfl⟩
def w175_0 : List Nat := [4, 5, 8, 9, 10, 11, 12, 13, 14, 15, 16, 17, 18]
noncomputable def sc176 : SC := Qq Tryz.prog Tryz.f176
noncomputable def rs176 : List SOp := Yb Tryz.prog Tryz.f176
theorem code176 : FCode Tryz.prog 176 sc176 rs176 148 := ⟨Tryz.f176, _, Tryz.func176, rfl, by kernel_rfl, by kernel_rfl, by kernel_rfl, rfl⟩
noncomputable def sc177 : SC := Qq Tryz.prog Tryz.f177
noncomputable def rs177 : List SOp := Yb Tryz.prog Tryz.f177
theorem code177 : FCode Tryz.prog 177 sc177 rs177 8 := ⟨Tryz.f177, _, Tryz.func177, rfl, by kernel_rfl, by kernel_rfl, by kernel_rfl, rfl⟩
noncomputable def sc178 : SC := Qq Tryz.prog Tryz.f178
noncomputable def rs178 : List SOp := Yb Tryz.prog Tryz.f178
theorem code178 : FCode Tryz.prog 178 sc178 rs178 20 := ⟨Tryz.f178, _, Tryz.func178, rfl, by kernel_rfl, by kernel_rfl, by kernel_rfl, rfl⟩
noncomputable def sc179 : SC := Qq Tryz.prog Tryz.f179
noncomputable def rs179 : List SOp := Yb Tryz.prog Tryz.f179
theorem code179 : FCode Tryz.prog 179 sc179 rs179 27 := ⟨Tryz.f179, _, Tryz.func179, rfl, by kernel_rfl, by kernel_rfl, by kernel_rfl, rfl⟩
noncomputable def sc181 : SC := Qq Tryz.prog Tryz.f181
noncomputable def rs181 : List SOp := Yb Tryz.prog Tryz.f181
theorem code181 : FCode Tryz.prog 181 sc181 rs181 134 := ⟨Tryz.f181, _, Tryz.func181, rfl, by kernel_rfl, by kernel_rfl, by kernel_rfl, rfl⟩
noncomputable def sc182 : SC := (⟨_, by cbv⟩ : {c : SC // c = scH Tryz.prog Tryz.f182 []}).1
def rs182 : List SOp := [(.mv (.tmp 4))]
theorem code182 : FCode Tryz.prog 182 sc182 rs182 17 := ⟨Tryz.f182, _, Tryz.func182, rfl, by kernel_rfl, by kernel_rfl, by kernel_rfl, rfl⟩
noncomputable def sc183 : SC := (⟨_, by cbv⟩ : {c : SC // c = scH Tryz.prog Tryz.f183 []}).1
def rs183 : List SOp := [(.mv (.tmp 2))]
theorem code183 : FCode Tryz.prog 183 sc183 rs183 6 := ⟨Tryz.f183, _, Tryz.func183, rfl, by kernel_rfl, by kernel_rfl, by kernel_rfl, rfl⟩
noncomputable def sc184 : SC := (⟨_, by cbv⟩ : {c : SC // c = scH Tryz.prog Tryz.f184 []}).1
def rs184 : List SOp := []
theorem code184 : FCode Tryz.prog 184 sc184 rs184 40 := ⟨Tryz.f184, _, Tryz.func184, rfl, by kernel_rfl, by kernel_rfl, by kernel_rfl, rfl⟩
def w184_0 : List Nat := [5, 12, 13, 14, 15, 16, 17, 18, 19, 20, 21, 22, 23, 24, 25, 26, 27, 28, 29, 30, 31, 32, 33, 34, 35]
end Go.Proofs.YtkcnjajklnoahaaGreatDoor
