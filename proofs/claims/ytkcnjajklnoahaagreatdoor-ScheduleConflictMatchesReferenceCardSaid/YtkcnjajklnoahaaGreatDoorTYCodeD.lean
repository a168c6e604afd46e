import Derived.Test.YtkcnjajklnoahaaGreatDoorTYMG
import Derived.Test.YtkcnjajklnoahaaGreatDoorProg
set_option linter.unusedVariables false
set_option linter.unusedSimpArgs false
set_option maxRecDepth 100000
set_option maxHeartbeats 8000000
namespace Go.Proofs.YtkcnjajklnoahaaGreatDoor
open Go Go.Abs
noncomputable def sc79:SC:=(⟨_,by cbv⟩:{c:SC // c=scH Tryz.prog Tryz.f79 [[7],[9]]}).1
def rs79:List SOp:=[(.mv (.tmp 2))]
theorem code79:FCode Tryz.prog 79 sc79 rs79 73:=fco Tryz.func79 rfl (by kernel_rfl)
def w79_0:List Nat:=[2,4,27,28,29,30,31,32,33,34,35,36,37,38,39,40,41,42,43,44,45,46,47,48,49,50,51,52,53,54,55,56,57,58,59,60]
noncomputable def sc80:SC:=(⟨_,by cbv⟩:{c:SC // c=scH Tryz.prog Tryz.f80 [[18],[7]]}).1
def rs80:List SOp:=[(.mv (.tmp 2))]
theorem code80:FCode Tryz.prog 80 sc80 rs80 93:=fco Tryz.func80 rfl (by kernel_rfl)
def w80_0:List Nat:=[2,4,5,28,29,30,31,32,33,34,35,36,37,38,39,40,41,42,43,44,45,46,47,48,49,50,51,52,53,54,55,56,57,58,59,60,61,62,63,64,65,66,67,68,69,70,71,72,73,74,75,76,77,78,79,80,81,82,83,84,85,86,87,88,89,90,91,92]
noncomputable def sc81:SC:=(⟨_,by cbv⟩:{c:SC // c=scH Tryz.prog Tryz.f81 []}).1
def rs81:List SOp:=[(.mv (.tmp 2))]
theorem code81:FCode Tryz.prog 81 sc81 rs81 56:=fco Tryz.func81 rfl (by kernel_rfl)
def w81_0:List Nat:=[2,5,20,21,22,23,24,25,26,27,28,29,30,31,32,33,34,35,36,37,38,39,40,41,42,43,44,45,46,47,48,49,50,51,52,53,54,55]
noncomputable def sc82:SC:=(⟨_,by cbv⟩:{c:SC // c=scH Tryz.prog Tryz.f82 []}).1
def rs82:List SOp:=[(.mv (.tmp 2))]
theorem code82:FCode Tryz.prog 82 sc82 rs82 26:=fco Tryz.func82 rfl (by kernel_rfl)
def w82_0:List Nat:=[2,4,18,19,20,21,22,23,24,25]
noncomputable def sc83:SC:=(⟨_,by cbv⟩:{c:SC // c=scH Tryz.prog Tryz.f83 []}).1
def rs83:List SOp:=[(.mv (.tmp 2))]
theorem code83:FCode Tryz.prog 83 sc83 rs83 9:=fco Tryz.func83 rfl (by kernel_rfl)
noncomputable def sc84:SC:=(⟨_,by cbv⟩:{c:SC // c=scH Tryz.prog Tryz.f84 []}).1
def rs84:List SOp:=[(.mv (.tmp 4))]
theorem code84:FCode Tryz.prog 84 sc84 rs84 11:=fco Tryz.func84 rfl (by kernel_rfl)
noncomputable def sc85:SC:=(⟨_,by cbv⟩:{c:SC // c=scH Tryz.prog Tryz.f85 [[12],[11,2,1,1,1,0,2,2,2,0,2,2,0]]}).1
def rs85:List SOp:=[(.mv (.tmp 8))]
theorem code85:FCode Tryz.prog 85 sc85 rs85 108:=fco Tryz.func85 rfl (by kernel_rfl)
def w85_0:List Nat:=[15,17,87,88,89,90,91,92,93,94,95,96,97,98,99,100,101,102,103]
noncomputable def sc86:SC:=(⟨_,by cbv⟩:{c:SC // c=scH Tryz.prog Tryz.f86 []}).1
def rs86:List SOp:=[(.load true 5 (.tmp 4)),(.mv (.tmp 5))]
theorem code86:FCode Tryz.prog 86 sc86 rs86 22:=fco Tryz.func86 rfl (by kernel_rfl)
def w86_0:List Nat:=[5,7,11,12,13,14,15,16,17,18,19,20]
noncomputable def sc87:SC:=(⟨_,by cbv⟩:{c:SC // c=scH Tryz.prog Tryz.f87 []}).1
def rs87:List SOp:=[(.mv (.tmp 2))]
theorem code87:FCode Tryz.prog 87 sc87 rs87 11:=fco Tryz.func87 rfl (by kernel_rfl)
noncomputable def sc88:SC:=(⟨_,by cbv⟩:{c:SC // c=scH Tryz.prog Tryz.f88 []}).1
def rs88:List SOp:=[(.mv (.tmp 4))]
theorem code88:FCode Tryz.prog 88 sc88 rs88 23:=fco Tryz.func88 rfl (by kernel_rfl)
noncomputable def sc89:SC:=(⟨_,by cbv⟩:{c:SC // c=scH Tryz.prog Tryz.f89 []}).1
def rs89:List SOp:=[(.mv (.tmp 6))]
theorem code89:FCode Tryz.prog 89 sc89 rs89 55:=fco Tryz.func89 rfl (by kernel_rfl)
def w89_0:List Nat:=[7,9,10,13,14,15,16,17,18,19,20,21,22,23,24,25,26,27,28,29,30,31,32,33,34,35,36,37,38,39,40,41,42,43,44,45,46,47,48,49,50,51,52,53]
noncomputable def sc90:SC:=(⟨_,by cbv⟩:{c:SC // c=scH Tryz.prog Tryz.f90 []}).1
def rs90:List SOp:=[(.mv (.tmp 6))]
theorem code90:FCode Tryz.prog 90 sc90 rs90 11:=fco Tryz.func90 rfl (by kernel_rfl)
noncomputable def sc91:SC:=(⟨_,by cbv⟩:{c:SC // c=scH Tryz.prog Tryz.f91 [[18]]}).1
def rs91:List SOp:=[(.load true 4 (.tmp 2)),(.mv (.tmp 3))]
theorem code91:FCode Tryz.prog 91 sc91 rs91 38:=fco Tryz.func91 rfl (by kernel_rfl)
def w91_0:List Nat:=[3,5,7,8,9,10,11,12,13,14,15,16,17,18,19,20,21,22,23,24,25,26,27,28,29,30,31,32,33,34,35,36]
noncomputable def sc92:SC:=(⟨_,by cbv⟩:{c:SC // c=scH Tryz.prog Tryz.f92 []}).1
def rs92:List SOp:=[(.load true 7 (.tmp 4)),(.mv (.tmp 5))]
theorem code92:FCode Tryz.prog 92 sc92 rs92 28:=fco Tryz.func92 rfl (by kernel_rfl)
def w92_0:List Nat:=[5,6,7,8,9,10,11,12,13,14,15,16,17,18,19,20,21,22,23,24,25,26]
noncomputable def sc93:SC:=(⟨_,by cbv⟩:{c:SC // c=scH Tryz.prog Tryz.f93 [[18]]}).1
def rs93:List SOp:=[(.mv (.tmp 4))]
theorem code93:FCode Tryz.prog 93 sc93 rs93 41:=fco Tryz.func93 rfl (by kernel_rfl)
def w93_0:List Nat:=[4,5,14,15,16,17,18,19,20,21,22,23,24,25,26,27,28,29,30,31,32,33,34,35,36,37,38,39,40]
noncomputable def sc94:SC:=(⟨_,by cbv⟩:{c:SC // c=scH Tryz.prog Tryz.f94 []}).1
def rs94:List SOp:=[(.mv (.tmp 6))]
theorem code94:FCode Tryz.prog 94 sc94 rs94 74:=fco Tryz.func94 rfl (by kernel_rfl)
def w94_0:List Nat:=[6,7,8,9,10,11,21,22,23,24,25,26,27,28,29,30,31,32,33,34,35,36,37,38,39,40,41,42,43,44,45,46,47,48,49,50,51,52,53,54,55,56,57,58,59,60,61,62,63,64,65,66,67,68,69,70,71,72,73]
noncomputable def sc95:SC:=(⟨_,by cbv⟩:{c:SC // c=scH Tryz.prog Tryz.f95 []}).1
def rs95:List SOp:=[(.mv (.tmp 6))]
theorem code95:FCode Tryz.prog 95 sc95 rs95 15:=fco Tryz.func95 rfl (by kernel_rfl)
noncomputable def sc97:SC:=(⟨_,by cbv⟩:{c:SC // c=scH Tryz.prog Tryz.f97 []}).1
def rs97:List SOp:=[(.mv (.tmp 6)),(.mv (.tmp 7))]
theorem code97:FCode Tryz.prog 97 sc97 rs97 43:=fco Tryz.func97 rfl (by kernel_rfl)
def w97_0:List Nat:=[6,7,9,10,17,18,19,20,21,22,23,24,25,26,27,28,29,30,31,32,33,34,35,36,37,38,39,40,41,42]
noncomputable def sc98:SC:=(⟨_,by cbv⟩:{c:SC // c=scH Tryz.prog Tryz.f98 [[10],[13],[19],[6]]}).1
def rs98:List SOp:=[(.mv (.tmp 4))]
theorem code98:FCode Tryz.prog 98 sc98 rs98 60:=fco Tryz.func98 rfl (by kernel_rfl)
noncomputable def sc99:SC:=(⟨_,by cbv⟩:{c:SC // c=scH Tryz.prog Tryz.f99 []}).1
def rs99:List SOp:=[(.mv (.tmp 4))]
theorem code99:FCode Tryz.prog 99 sc99 rs99 11:=fco Tryz.func99 rfl (by kernel_rfl)
noncomputable def sc100:SC:=(⟨_,by cbv⟩:{c:SC // c=scH Tryz.prog Tryz.f100 []}).1
def rs100:List SOp:=[(.mv (.tmp 8))]
theorem code100:FCode Tryz.prog 100 sc100 rs100 29:=fco Tryz.func100 rfl (by kernel_rfl)
noncomputable def sc101:SC:=(⟨_,by cbv⟩:{c:SC // c=scH Tryz.prog Tryz.f101 []}).1
def rs101:List SOp:=[(.mv (.tmp 2))]
theorem code101:FCode Tryz.prog 101 sc101 rs101 25:=fco Tryz.func101 rfl (by kernel_rfl)
noncomputable def sc102:SC:=(⟨_,by cbv⟩:{c:SC // c=scH Tryz.prog Tryz.f102 []}).1
def rs102:List SOp:=[(.mv (.tmp 4))]
theorem code102:FCode Tryz.prog 102 sc102 rs102 20:=fco Tryz.func102 rfl (by kernel_rfl)
noncomputable def sc103:SC:=(⟨_,by cbv⟩:{c:SC // c=scH Tryz.prog Tryz.f103 [[6],[13]]}).1
def rs103:List SOp:=[(.mv (.tmp 8))]
theorem code103:FCode Tryz.prog 103 sc103 rs103 92:=fco Tryz.func103 rfl (by kernel_rfl)
def w103_0:List Nat:=[13,15,16,67,68,69,70,71,72,73,74,75,76,77,78,79,80,81,82,83,84,85,86,87,88,89,90]
noncomputable def sc104:SC:=Qn Tryz.prog Tryz.f104
noncomputable def rs104:List SOp:=Uc Tryz.prog Tryz.f104
theorem code104:FCode Tryz.prog 104 sc104 rs104 27:=fco Tryz.func104 rfl (by kernel_rfl)
noncomputable def sc105:SC:=(⟨_,by cbv⟩:{c:SC // c=scH Tryz.prog Tryz.f105 []}).1
def rs105:List SOp:=[(.mv (.tmp 6))]
theorem code105:FCode Tryz.prog 105 sc105 rs105 15:=fco Tryz.func105 rfl (by kernel_rfl)
noncomputable def sc106:SC:=(⟨_,by cbv⟩:{c:SC // c=scH Tryz.prog Tryz.f106 []}).1
def rs106:List SOp:=[(.mv (.tmp 2))]
theorem code106:FCode Tryz.prog 106 sc106 rs106 41:=fco Tryz.func106 rfl (by kernel_rfl)
def w106_0:List Nat:=[2,3,5,19,20,21,22,23,24,25,26,27,28,29,30,31,32,33,34,35,36,37,38,39,40]
noncomputable def sc107:SC:=(⟨_,by cbv⟩:{c:SC // c=scH Tryz.prog Tryz.f107 []}).1
def rs107:List SOp:=[(.mv (.tmp 8))]
theorem code107:FCode Tryz.prog 107 sc107 rs107 46:=fco Tryz.func107 rfl (by kernel_rfl)
def w107_0:List Nat:=[8,9,10,11,14,15,16,17,18,19,20,21,22,23,24,25,26,27,28,29,30,31,32,33,34,35,36,37,38,39,40,41,42,43,44,45]
noncomputable def sc108:SC:=(⟨_,by cbv⟩:{c:SC // c=scH Tryz.prog Tryz.f108 []}).1
def rs108:List SOp:=[(.mv (.tmp 2))]
theorem code108:FCode Tryz.prog 108 sc108 rs108 5:=fco Tryz.func108 rfl (by kernel_rfl)
noncomputable def sc109:SC:=(⟨_,by cbv⟩:{c:SC // c=scH Tryz.prog Tryz.f109 []}).1
def rs109:List SOp:=[(.mv (.tmp 8))]
theorem code109:FCode Tryz.prog 109 sc109 rs109 46:=fco Tryz.func109 rfl (by kernel_rfl)
def w109_0:List Nat:=[8,9,10,11,14,15,16,17,18,19,20,21,22,23,24,25,26,27,28,29,30,31,32,33,34,35,36,37,38,39,40,41,42,43,44,45]
noncomputable def sc110:SC:=(⟨_,by cbv⟩:{c:SC // c=scH Tryz.prog Tryz.f110 []}).1
def rs110:List SOp:=[(.mv (.tmp 2))]
theorem code110:FCode Tryz.prog 110 sc110 rs110 5:=fco Tryz.func110 rfl (by kernel_rfl)
noncomputable def sc111:SC:=(⟨_,by cbv⟩:{c:SC // c=scH Tryz.prog Tryz.f111 [[12,2,2,2,2,2,2,2,2,2,2,0,0,0],[21]]}).1
def rs111:List SOp:=[(.mv (.tmp 4))]
theorem code111:FCode Tryz.prog 111 sc111 rs111 65:=fco Tryz.func111 rfl (by kernel_rfl)
noncomputable def sc112:SC:=(⟨_,by cbv⟩:{c:SC // c=scH Tryz.prog Tryz.f112 [[8],[6]]}).1
def rs112:List SOp:=[(.mv (.tmp 4))]
theorem code112:FCode Tryz.prog 112 sc112 rs112 37:=fco Tryz.func112 rfl (by kernel_rfl)
end Go.Proofs.YtkcnjajklnoahaaGreatDoor
