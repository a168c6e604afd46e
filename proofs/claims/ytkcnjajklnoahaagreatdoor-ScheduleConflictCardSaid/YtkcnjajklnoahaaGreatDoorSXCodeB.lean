import Derived.Test.YtkcnjajklnoahaaGreatDoorSXMG
import Derived.Test.YtkcnjajklnoahaaGreatDoorProg
import Derived.KernelRfl
set_option linter.unusedVariables false
set_option linter.unusedSimpArgs false
set_option maxRecDepth 100000
set_option maxHeartbeats 8000000
namespace Go.Proofs.YtkcnjajklnoahaaGreatDoor
open Go Go.Abs
noncomputable def sc32 : SC := (⟨_, by cbv⟩ : {c : SC // c = scH Tryz.prog Tryz.f32 [[13,2,2,2,2,2,2,2,2,2,2,2,0,0,0],[16],[78]]}).1
def rs32 : List SOp := [(.mv (.tmp 4))]
theorem code32 : FCode Tryz.prog 32 sc32 rs32 232 := ⟨Tryz.f32, _, Tryz.func32, rfl, by kernel_rfl, by kernel_rfl, by kernel_rfl, rfl⟩
def w32_0 : List Nat := [7, 8, 25, 26, 27, 28, 29, 30, 31, 32, 33, 34, 35, 36, 37, 38, 39, 40, 41, 42, 43, 44, 45]
def Yz : List Nat := [4, 5, 6, 7, 9, 10, 11, 12, 13, 14, 15, 16, 17, 18, 46, 47, 48, 49, 50, 51, 52, 53, 54, 55, 56, 57, 58, 59, 60, 61, 62, 63, 64, 65, 66, 67, 68, 69, 70, 71, 72, 73, 74, 75, 76, 77, 78, 79, 80, 81, 82, 83, 84, 85, 86, 87, 88, 89, 90, 91, 92, 93, 94, 95, 96, 97, 98, 99, 100, 101, 102, 103, 104, 105, 106, 107, 108, 109, 110, 111, 112, 113, 114, 115, 116, 117, 118, 119, 120, 121, 122, 123, 124, 125, 126, 127, 128, 129, 130, 131, 132, 133, 134, 135, 136, 137, 138, 139, 140, 141, 142, 143, 144, 145, 146, 147, 148, 149, 150, 151, 152, 153, 154, 155, 156, 157, 158, 159, 160, 161, 162, 163, 164, 165, 166, 167, 168, 169, 170, 171, 172, 173, 174, 175, 176, 177, 178, 179, 180, 181, 182, 183, 184, 185, 186, 187, 188, 189, 190, 191, 192, 193, 194, 195, 196, 197, 198, 199, 200, 201, 202, 203, 204, 205, 206, 207, 208, 209, 210, 211, 212, 213, 214, 215, 216, 217, 218, 219, 220, 221, 222, 223, 224, 225, 226, 227, 228, 229, 230, 231]
def Jw : List Nat := [12, 63, 64, 65, 66, 67, 68, 69, 70, 71, 72, 73, 74, 75, 76, 77, 78, 79, 80, 81, 82]
def w32_3 : List Nat := [4, 14, 15, 16, 17, 169, 170, 171, 172, 173, 174, 175, 176, 177, 178, 179, 180, 181, 182, 183, 184, 185, 186, 187, 188, 189, 190, 191, 192, 193, 194, 195, 196, 197, 198, 199, 200, 201, 202, 203, 204, 205]
noncomputable def sc34 : SC := (⟨_, by cbv⟩ : {c : SC // c = scH Tryz.prog Tryz.f34 []}).1
def rs34 : List SOp := [(.load true 13 (.tmp 0))]
theorem code34 : FCode Tryz.prog 34 sc34 rs34 14 := ⟨Tryz.f34, _, Tryz.func34, rfl, by kernel_rfl, by kernel_rfl, by kernel_rfl, rfl⟩
noncomputable def sc35 : SC := (⟨_, by cbv⟩ : {c : SC // c = scH Tryz.prog Tryz.f35 []}).1
def rs35 : List SOp := [(.mv (.tmp 6))]
theorem code35 : FCode Tryz.prog 35 sc35 rs35 40 := ⟨Tryz.f35, _, Tryz.func35, rfl, by kernel_rfl, by kernel_rfl, by kernel_rfl, rfl⟩
def w35_0 : List Nat := [2, 7, 8, 18, 19, 20, 21, 22, 23, 24, 25, 26, 27, 28, 29, 30, 31, 32, 33, 34, 35, 36, 37, 38]
noncomputable def sc36 : SC := (⟨_, by cbv⟩ : {c : SC // c = scH Tryz.prog Tryz.f36 []}).1
def rs36 : List SOp := [(.mv (.tmp 2))]
theorem code36 : FCode Tryz.prog 36 sc36 rs36 10 := ⟨Tryz.f36, _, Tryz.func36, rfl, by kernel_rfl, by kernel_rfl, by kernel_rfl, rfl⟩
noncomputable def sc37 : SC := (⟨_, by cbv⟩ : {c : SC // c = scH Tryz.prog Tryz.f37 [[11],[7],[12,2,2,2,2,2,2,2,2,2,2,0,0,0],[7],[8],[16]]}).1
def rs37 : List SOp := [(.mv (.tmp 6))]
theorem code37 : FCode Tryz.prog 37 sc37 rs37 154 := ⟨Tryz.f37, _, Tryz.func37, rfl, by kernel_rfl, by kernel_rfl, by kernel_rfl, rfl⟩
def w37_0 : List Nat := [8, 9, 10, 11, 36, 37, 38, 39, 40, 41, 42, 43, 44, 45, 46, 47, 48, 49, 50, 51, 52, 53, 54, 55, 56, 57, 58, 59, 60]
def w37_1 : List Nat := [13, 14, 15, 67, 68, 69, 70, 71, 72, 73, 74, 75, 76, 77, 78, 79, 80, 81, 82, 83, 84, 85, 86, 87, 88, 89, 90, 91, 92, 93, 94, 95, 96, 97, 98, 99, 100, 101, 102, 103, 104, 105]
def w37_2 : List Nat := [17, 108, 109, 110, 111, 112, 113, 114, 115, 116, 117, 118, 119, 120, 121, 122, 123, 124, 125, 126, 127, 128, 129, 130, 131, 132, 133, 134, 135, 136, 137, 138, 139, 140, 141, 142, 143, 144, 145, 146, 147, 148, 149, 150, 151, 152]
noncomputable def sc38 : SC := (⟨_, by cbv⟩ : {c : SC // c = scH Tryz.prog Tryz.f38 [[9,1,1,1,1,0,2,2,2,2]]}).1
def rs38 : List SOp := [(.mv (.tmp 4)), (.mv (.tmp 5))]
theorem code38 : FCode Tryz.prog 38 sc38 rs38 138 := ⟨Tryz.f38, _, Tryz.func38, rfl, by kernel_rfl, by kernel_rfl, by kernel_rfl, rfl⟩
def w38_0 : List Nat := [4, 5, 8, 9, 10, 12, 13, 14, 15, 16, 17, 19, 20, 21, 22, 39, 40, 41, 42, 43, 44, 45, 46, 47, 48, 49, 50, 51, 52, 53, 54, 55, 56, 57, 58, 59, 60, 61, 62, 63, 64, 65, 66, 67, 68, 69, 70, 71, 72, 73, 74, 75, 76, 77, 78, 79, 80, 81, 82, 83, 84, 85, 86, 87, 88, 89, 90, 91, 92, 93, 94, 95, 96, 97, 98, 99, 100, 101, 102, 103, 104, 105, 106, 107, 108, 109, 110, 111, 112, 113, 114, 115, 116, 117, 118, 119, 120, 121, 122, 123, 124, 125, 126, 127, 128, 129, 130, 131, 132, 133, 134, 135, 136]
def w38_1 : List Nat := [17, 19, 20, 21, 90, 91, 92, 93, 94, 95, 96, 97, 98, 99, 100, 101, 102, 103, 104, 105, 106, 107, 108]
noncomputable def sc40 : SC := (⟨_, by cbv⟩ : {c : SC // c = scH Tryz.prog Tryz.f40 []}).1
def rs40 : List SOp := [(.mv (.tmp 2))]
theorem code40 : FCode Tryz.prog 40 sc40 rs40 26 := ⟨Tryz.f40, _, Tryz.func40, rfl, by kernel_rfl, by kernel_rfl, by kernel_rfl, rfl⟩
noncomputable def sc45 : SC := (⟨_, by cbv⟩ : {c : SC // c = scH Tryz.prog Tryz.f45 []}).1
def rs45 : List SOp := [(.mv (.tmp 4))]
theorem code45 : FCode Tryz.prog 45 sc45 rs45 27 := ⟨Tryz.f45, _, Tryz.func45, rfl, by kernel_rfl, by kernel_rfl, by kernel_rfl, rfl⟩
def w45_0 : List Nat := [5, 6, 7, 10, 11, 12, 13, 14, 15, 16, 17, 18, 19, 20, 21, 22, 23, 24, 25]
noncomputable def sc46 : SC := (⟨_, by cbv⟩ : {c : SC // c = scH Tryz.prog Tryz.f46 [[12,2,2,2,2,2,2,2,2,2,2,0,0,0]]}).1
def rs46 : List SOp := [(.mv (.tmp 4))]
theorem code46 : FCode Tryz.prog 46 sc46 rs46 53 := ⟨Tryz.f46, _, Tryz.func46, rfl, by kernel_rfl, by kernel_rfl, by kernel_rfl, rfl⟩
noncomputable def sc49 : SC := (⟨_, by cbv⟩ : {c : SC // c = scH Tryz.prog Tryz.f49 [[7]]}).1
def rs49 : List SOp := [(.mv (.tmp 4))]
theorem code49 : FCode Tryz.prog 49 sc49 rs49 45 := ⟨Tryz.f49, _, Tryz.func49, rfl, by kernel_rfl, by kernel_rfl, by kernel_rfl, rfl⟩
def w49_0 : List Nat := [7, 8, 9, 10, 11, 21, 22, 23, 24, 25, 26, 27, 28, 29, 30, 31, 32, 33, 34, 35, 36, 37, 38, 39, 40, 41, 42, 43]
noncomputable def sc51 : SC := (⟨_, by cbv⟩ : {c : SC // c = scH Tryz.prog Tryz.f51 []}).1
def rs51 : List SOp := [(.mv (.tmp 2))]
theorem code51 : FCode Tryz.prog 51 sc51 rs51 21 := ⟨Tryz.f51, _, Tryz.func51, rfl, by kernel_rfl, by kernel_rfl, by kernel_rfl, rfl⟩
noncomputable def sc52 : SC := (⟨_, by cbv⟩ : {c : SC // c = scH Tryz.prog Tryz.f52 []}).1
def rs52 : List SOp := [(.load true 7 (.tmp 6)), (.mv (.tmp 7))]
theorem code52 : FCode Tryz.prog 52 sc52 rs52 25 := ⟨Tryz.f52, _, Tryz.func52, rfl, by kernel_rfl, by kernel_rfl, by kernel_rfl, rfl⟩
def w52_0 : List Nat := [7, 9, 13, 14, 15, 16, 17, 18, 19, 20, 21, 22, 23]
noncomputable def sc53 : SC := (⟨_, by cbv⟩ : {c : SC // c = scH Tryz.prog Tryz.f53 []}).1
def rs53 : List SOp := [(.mv (.tmp 2))]
theorem code53 : FCode Tryz.prog 53 sc53 rs53 5 := ⟨Tryz.f53, _, Tryz.func53, rfl, by kernel_rfl, by kernel_rfl, by kernel_rfl, rfl⟩
noncomputable def sc54 : SC := (⟨_, by cbv⟩ : {c : SC // c = scH Tryz.prog Tryz.f54 []}).1
def rs54 : List SOp := [(.mv (.tmp 2))]
theorem code54 : FCode Tryz.prog 54 sc54 rs54 8 := ⟨Tryz.f54, _, Tryz.func54, rfl, by kernel_rfl, by kernel_rfl, by kernel_rfl, rfl⟩
noncomputable def sc55 : SC := (⟨_, by cbv⟩ : {c : SC // c = scH Tryz.prog Tryz.f55 [[6]]}).1
def rs55 : List SOp := [(.mv (.tmp 10))]
theorem code55 : FCode Tryz.prog 55 sc55 rs55 43 := ⟨Tryz.f55, _, Tryz.func55, rfl, by kernel_rfl, by kernel_rfl, by kernel_rfl, rfl⟩
noncomputable def sc56 : SC := (⟨_, by cbv⟩ : {c : SC // c = scH Tryz.prog Tryz.f56 [[9]]}).1
def rs56 : List SOp := [(.mv (.tmp 6))]
theorem code56 : FCode Tryz.prog 56 sc56 rs56 59 := ⟨Tryz.f56, _, Tryz.func56, rfl, by kernel_rfl, by kernel_rfl, by kernel_rfl, rfl⟩
noncomputable def sc57 : SC := (⟨_, by cbv⟩ : {c : SC // c = scH Tryz.prog Tryz.f57 []}).1
def rs57 : List SOp := [(.mv (.tmp 6))]
theorem code57 : FCode Tryz.prog 57 sc57 rs57 26 := ⟨Tryz.f57, _, Tryz.func57, rfl, by kernel_rfl, by kernel_rfl, by kernel_rfl, rfl⟩
noncomputable def sc64 : SC := (⟨_, by cbv⟩ : {c : SC // c = scH Tryz.prog Tryz.f64 []}).1
def rs64 : List SOp := []
theorem code64 : FCode Tryz.prog 64 sc64 rs64 35 := ⟨Tryz.f64, _, Tryz.func64, rfl, by kernel_rfl, by kernel_rfl, by kernel_rfl, rfl⟩
noncomputable def sc65 : SC := Qq Tryz.prog Tryz.f65
noncomputable def rs65 : List SOp := Yb Tryz.prog Tryz.f65
theorem code65 : FCode Tryz.prog 65 sc65 rs65 9 := ⟨Tryz.f65, _, Tryz.func65, rfl, by kernel_rfl, by kernel_rfl, by kernel_rfl, rfl⟩
noncomputable def sc66 : SC := (⟨_, by cbv⟩ : {c : SC // c = scH Tryz.prog Tryz.f66 []}).1
def rs66 : List SOp := [(.mv (.tmp 4))]
theorem code66 : FCode Tryz.prog 66 sc66 rs66 31 := ⟨Tryz.f66, _, Tryz.func66, rfl, by kernel_rfl, by kernel_rfl, by kernel_rfl, rfl⟩
noncomputable def sc67 : SC := (⟨_, by cbv⟩ : {c : SC // c = scH Tryz.prog Tryz.f67 []}).1
def rs67 : List SOp := [(.mv (.tmp 4))]
theorem code67 : FCode Tryz.prog 67 sc67 rs67 74 := ⟨Tryz.f67, _, Tryz.func67, rfl, by kernel_rfl, by kernel_rfl, by kernel_rfl, rfl⟩
def w67_0 : List Nat := [8, 10, 11, 12, 47, 48, 49, 50, 51, 52, 53, 54, 55, 56, 57, 58, 59, 60, 61, 62, 63, 64, 65, 66]
noncomputable def sc68 : SC := (⟨_, by cbv⟩ : {c : SC // c = scH Tryz.prog Tryz.f68 [[16],[10],[14,1,1,1,1,1,0,2,2,2,2,2,2,2,2]]}).1
def rs68 : List SOp := [(.mv (.tmp 6)), (.mv (.tmp 7))]
theorem code68 : FCode Tryz.prog 68 sc68 rs68 70 := ⟨Tryz.f68, _, Tryz.func68, rfl, by kernel_rfl, by kernel_rfl, by kernel_rfl, rfl⟩
def w68_0 : List Nat := [6, 7, 9, 10, 11, 45, 46, 47, 48, 49, 50, 51, 52, 53, 54, 55, 56, 57, 58, 59, 60, 61, 62, 63, 64, 65, 66, 67, 68, 69]
noncomputable def sc76 : SC := (⟨_, by cbv⟩ : {c : SC // c = scH Tryz.prog Tryz.f76 []}).1
def rs76 : List SOp := [(.mv (.tmp 2))]
theorem code76 : FCode Tryz.prog 76 sc76 rs76 8 := ⟨Tryz.f76, _, Tryz.func76, rfl, by kernel_rfl, by kernel_rfl, by kernel_rfl, rfl⟩
noncomputable def sc77 : SC := (⟨_, by cbv⟩ : {c : SC // c = scH Tryz.prog Tryz.f77 []}).1
def rs77 : List SOp := [(.mv (.tmp 2))]
theorem code77 : FCode Tryz.prog 77 sc77 rs77 36 := ⟨Tryz.f77, _, Tryz.func77, rfl, by kernel_rfl, by kernel_rfl, by kernel_rfl, rfl⟩
def w77_0 : List Nat := [3, 5, 11, 12, 13, 14, 15, 16, 17, 18, 19, 20, 21, 22]
def w77_1 : List Nat := [6, 8, 27, 28, 29, 30, 31, 32, 33, 34]
noncomputable def sc78 : SC := (⟨_, by cbv⟩ : {c : SC // c = scH Tryz.prog Tryz.f78 []}).1
def rs78 : List SOp := [(.mv (.tmp 2))]
theorem code78 : FCode Tryz.prog 78 sc78 rs78 49 := ⟨Tryz.f78, _, Tryz.func78, rfl, by kernel_rfl, by kernel_rfl, by kernel_rfl, rfl⟩
end Go.Proofs.YtkcnjajklnoahaaGreatDoor
