import Derived.Test.YtjmgelbfndnpjaaGreatDoorPPMG
import Derived.Test.YtjmgelbfndnpjaaGreatDoorProg
set_option linter.unusedVariables false
set_option linter.unusedSimpArgs false
set_option maxRecDepth 100000
set_option maxHeartbeats 8000000
namespace Go.Proofs.YtjmgelbfndnpjaaGreatDoor
open Go Go.Abs
noncomputable def sc73:SC:=(⟨_,by cbv⟩:{c:SC // c=scH Tryz.prog Tryz.f73 [[3]]}).1
def rs73:List SOp:=[(.load true 3 (.tmp 2)),(.mv (.tmp 3))]
theorem code73:FCode Tryz.prog 73 sc73 rs73 37:=fco Tryz.func73 rfl (by kernel_rfl)
noncomputable def sc74:SC:=(⟨_,by cbv⟩:{c:SC // c=scH Tryz.prog Tryz.f74 []}).1
def rs74:List SOp:=[(.load true 3 (.tmp 2))]
theorem code74:FCode Tryz.prog 74 sc74 rs74 8:=fco Tryz.func74 rfl (by kernel_rfl)
noncomputable def sc75:SC:=(⟨_,by cbv⟩:{c:SC // c=scH Tryz.prog Tryz.f75 []}).1
def rs75:List SOp:=[]
theorem code75:FCode Tryz.prog 75 sc75 rs75 14:=fco Tryz.func75 rfl (by kernel_rfl)
noncomputable def sc76:SC:=(⟨_,by cbv⟩:{c:SC // c=scH Tryz.prog Tryz.f76 []}).1
def rs76:List SOp:=[(.mv (.tmp 2))]
theorem code76:FCode Tryz.prog 76 sc76 rs76 4:=fco Tryz.func76 rfl (by kernel_rfl)
noncomputable def sc77:SC:=(⟨_,by cbv⟩:{c:SC // c=scH Tryz.prog Tryz.f77 []}).1
def rs77:List SOp:=[(.mv (.tmp 4))]
theorem code77:FCode Tryz.prog 77 sc77 rs77 18:=fco Tryz.func77 rfl (by kernel_rfl)
noncomputable def sc78:SC:=(⟨_,by cbv⟩:{c:SC // c=scH Tryz.prog Tryz.f78 [[12]]}).1
def rs78:List SOp:=[(.mv (.tmp 4))]
theorem code78:FCode Tryz.prog 78 sc78 rs78 66:=fco Tryz.func78 rfl (by kernel_rfl)
def w78_0:List Nat:=[8,10,11,18,19,20,21,22,23,24,25,26,27,28,29,30,31,32,33,34,35,36,37,38,39,40,41,42,43,44,45,46,47,48,49,50,51,52,53,54,55,56,57,58,59,60,61,62,63,64]
def w78_1:List Nat:=[8,11,24,25,26,27,28,29,30,31,32,33,34,35,36,37,38,39,40,41,42,43,44,45,46,47,48,49,50,51,52,53,54,55,56,57,58]
noncomputable def sc79:SC:=(⟨_,by cbv⟩:{c:SC // c=scH Tryz.prog Tryz.f79 []}).1
def rs79:List SOp:=[(.load true 5 (.tmp 4)),(.mv (.tmp 5))]
theorem code79:FCode Tryz.prog 79 sc79 rs79 22:=fco Tryz.func79 rfl (by kernel_rfl)
def w79_0:List Nat:=[5,7,11,12,13,14,15,16,17,18,19,20]
noncomputable def sc80:SC:=(⟨_,by cbv⟩:{c:SC // c=scH Tryz.prog Tryz.f80 []}).1
def rs80:List SOp:=[(.mv (.tmp 2))]
theorem code80:FCode Tryz.prog 80 sc80 rs80 21:=fco Tryz.func80 rfl (by kernel_rfl)
noncomputable def sc81:SC:=(⟨_,by cbv⟩:{c:SC // c=scH Tryz.prog Tryz.f81 [[6]]}).1
def rs81:List SOp:=[(.mv (.tmp 4))]
theorem code81:FCode Tryz.prog 81 sc81 rs81 12:=fco Tryz.func81 rfl (by kernel_rfl)
noncomputable def sc82:SC:=(⟨_,by cbv⟩:{c:SC // c=scH Tryz.prog Tryz.f82 []}).1
def rs82:List SOp:=[(.mv (.tmp 8))]
theorem code82:FCode Tryz.prog 82 sc82 rs82 10:=fco Tryz.func82 rfl (by kernel_rfl)
noncomputable def sc83:SC:=(⟨_,by cbv⟩:{c:SC // c=scH Tryz.prog Tryz.f83 []}).1
def rs83:List SOp:=[(.mv (.tmp 4))]
theorem code83:FCode Tryz.prog 83 sc83 rs83 18:=fco Tryz.func83 rfl (by kernel_rfl)
noncomputable def sc84:SC:=(⟨_,by cbv⟩:{c:SC // c=scH Tryz.prog Tryz.f84 []}).1
def rs84:List SOp:=[(.mv (.tmp 3))]
theorem code84:FCode Tryz.prog 84 sc84 rs84 11:=fco Tryz.func84 rfl (by kernel_rfl)
noncomputable def sc85:SC:=(⟨_,by cbv⟩:{c:SC // c=scH Tryz.prog Tryz.f85 []}).1
def rs85:List SOp:=[(.mv (.tmp 4))]
theorem code85:FCode Tryz.prog 85 sc85 rs85 23:=fco Tryz.func85 rfl (by kernel_rfl)
noncomputable def sc86:SC:=(⟨_,by cbv⟩:{c:SC // c=scH Tryz.prog Tryz.f86 []}).1
def rs86:List SOp:=[(.mv (.tmp 4))]
theorem code86:FCode Tryz.prog 86 sc86 rs86 31:=fco Tryz.func86 rfl (by kernel_rfl)
noncomputable def sc87:SC:=(⟨_,by cbv⟩:{c:SC // c=scH Tryz.prog Tryz.f87 []}).1
def rs87:List SOp:=[(.mv (.tmp 2))]
theorem code87:FCode Tryz.prog 87 sc87 rs87 11:=fco Tryz.func87 rfl (by kernel_rfl)
noncomputable def sc88:SC:=(⟨_,by cbv⟩:{c:SC // c=scH Tryz.prog Tryz.f88 []}).1
def rs88:List SOp:=[(.mv (.tmp 2))]
theorem code88:FCode Tryz.prog 88 sc88 rs88 6:=fco Tryz.func88 rfl (by kernel_rfl)
noncomputable def sc89:SC:=(⟨_,by cbv⟩:{c:SC // c=scH Tryz.prog Tryz.f89 []}).1
def rs89:List SOp:=[(.mv (.tmp 2))]
theorem code89:FCode Tryz.prog 89 sc89 rs89 6:=fco Tryz.func89 rfl (by kernel_rfl)
noncomputable def sc90:SC:=(⟨_,by cbv⟩:{c:SC // c=scH Tryz.prog Tryz.f90 []}).1
def rs90:List SOp:=[(.mv (.tmp 4))]
theorem code90:FCode Tryz.prog 90 sc90 rs90 23:=fco Tryz.func90 rfl (by kernel_rfl)
noncomputable def sc91:SC:=(⟨_,by cbv⟩:{c:SC // c=scH Tryz.prog Tryz.f91 []}).1
def rs91:List SOp:=[]
theorem code91:FCode Tryz.prog 91 sc91 rs91 45:=fco Tryz.func91 rfl (by kernel_rfl)
def w91_0:List Nat:=[5,6,7,10,11,12,13,14,15,16,17,18,19,20,21,22,23,24,25,26,27,28,29,30,31,32,33,34,35,36,37,38,39,40,41,42,43,44]
noncomputable def sc92:SC:=(⟨_,by cbv⟩:{c:SC // c=scH Tryz.prog Tryz.f92 []}).1
def rs92:List SOp:=[(.load true 4 (.tmp 2)),(.mv (.tmp 3))]
theorem code92:FCode Tryz.prog 92 sc92 rs92 17:=fco Tryz.func92 rfl (by kernel_rfl)
def w92_0:List Nat:=[3,5,7,8,9,10,11,12,13,14,15]
noncomputable def sc93:SC:=(⟨_,by cbv⟩:{c:SC // c=scH Tryz.prog Tryz.f93 []}).1
def rs93:List SOp:=[(.mv (.tmp 2))]
theorem code93:FCode Tryz.prog 93 sc93 rs93 9:=fco Tryz.func93 rfl (by kernel_rfl)
noncomputable def sc94:SC:=(⟨_,by cbv⟩:{c:SC // c=scH Tryz.prog Tryz.f94 []}).1
def rs94:List SOp:=[(.mv (.tmp 8))]
theorem code94:FCode Tryz.prog 94 sc94 rs94 46:=fco Tryz.func94 rfl (by kernel_rfl)
def w94_0:List Nat:=[8,9,10,11,14,15,16,17,18,19,20,21,22,23,24,25,26,27,28,29,30,31,32,33,34,35,36,37,38,39,40,41,42,43,44,45]
noncomputable def sc95:SC:=(⟨_,by cbv⟩:{c:SC // c=scH Tryz.prog Tryz.f95 []}).1
def rs95:List SOp:=[(.mv (.tmp 2))]
theorem code95:FCode Tryz.prog 95 sc95 rs95 5:=fco Tryz.func95 rfl (by kernel_rfl)
noncomputable def sc96:SC:=(⟨_,by cbv⟩:{c:SC // c=scH Tryz.prog Tryz.f96 [[12,2,2,2,2,2,2,2,2,2,2,0,0,0]]}).1
def rs96:List SOp:=[(.mv (.tmp 4))]
theorem code96:FCode Tryz.prog 96 sc96 rs96 36:=fco Tryz.func96 rfl (by kernel_rfl)
noncomputable def sc97:SC:=(⟨_,by cbv⟩:{c:SC // c=scH Tryz.prog Tryz.f97 []}).1
def rs97:List SOp:=[(.mv (.tmp 4))]
theorem code97:FCode Tryz.prog 97 sc97 rs97 9:=fco Tryz.func97 rfl (by kernel_rfl)
noncomputable def sc98:SC:=(⟨_,by cbv⟩:{c:SC // c=scH Tryz.prog Tryz.f98 []}).1
def rs98:List SOp:=[(.mv (.tmp 4))]
theorem code98:FCode Tryz.prog 98 sc98 rs98 9:=fco Tryz.func98 rfl (by kernel_rfl)
noncomputable def sc99:SC:=(⟨_,by cbv⟩:{c:SC // c=scH Tryz.prog Tryz.f99 []}).1
def rs99:List SOp:=[(.load true 8 (.tmp 2))]
theorem code99:FCode Tryz.prog 99 sc99 rs99 54:=fco Tryz.func99 rfl (by kernel_rfl)
noncomputable def sc100:SC:=(⟨_,by cbv⟩:{c:SC // c=scH Tryz.prog Tryz.f100 []}).1
def rs100:List SOp:=[(.mv (.tmp 2))]
theorem code100:FCode Tryz.prog 100 sc100 rs100 11:=fco Tryz.func100 rfl (by kernel_rfl)
noncomputable def sc101:SC:=(⟨_,by cbv⟩:{c:SC // c=scH Tryz.prog Tryz.f101 []}).1
def rs101:List SOp:=[(.mv (.tmp 6))]
theorem code101:FCode Tryz.prog 101 sc101 rs101 15:=fco Tryz.func101 rfl (by kernel_rfl)
noncomputable def sc102:SC:=(⟨_,by cbv⟩:{c:SC // c=scH Tryz.prog Tryz.f102 []}).1
def rs102:List SOp:=[(.mv (.tmp 2))]
theorem code102:FCode Tryz.prog 102 sc102 rs102 10:=fco Tryz.func102 rfl (by kernel_rfl)
noncomputable def sc104:SC:=(⟨_,by cbv⟩:{c:SC // c=scH Tryz.prog Tryz.f104 []}).1
def rs104:List SOp:=[(.mv (.tmp 6))]
theorem code104:FCode Tryz.prog 104 sc104 rs104 26:=fco Tryz.func104 rfl (by kernel_rfl)
noncomputable def sc105:SC:=(⟨_,by cbv⟩:{c:SC // c=scH Tryz.prog Tryz.f105 [[9]]}).1
def rs105:List SOp:=[(.mv (.tmp 6))]
theorem code105:FCode Tryz.prog 105 sc105 rs105 59:=fco Tryz.func105 rfl (by kernel_rfl)
noncomputable def sc106:SC:=(⟨_,by cbv⟩:{c:SC // c=scH Tryz.prog Tryz.f106 []}).1
def rs106:List SOp:=[(.mv (.tmp 6)),(.mv (.tmp 7))]
theorem code106:FCode Tryz.prog 106 sc106 rs106 43:=fco Tryz.func106 rfl (by kernel_rfl)
def w106_0:List Nat:=[6,7,9,10,17,18,19,20,21,22,23,24,25,26,27,28,29,30,31,32,33,34,35,36,37,38,39,40,41,42]
noncomputable def sc107:SC:=(⟨_,by cbv⟩:{c:SC // c=scH Tryz.prog Tryz.f107 [[10],[13],[19],[6]]}).1
def rs107:List SOp:=[(.mv (.tmp 4))]
theorem code107:FCode Tryz.prog 107 sc107 rs107 60:=fco Tryz.func107 rfl (by kernel_rfl)
noncomputable def sc108:SC:=Qm Tryz.prog Tryz.f108
noncomputable def rs108:List SOp:=Xz Tryz.prog Tryz.f108
theorem code108:FCode Tryz.prog 108 sc108 rs108 27:=fco Tryz.func108 rfl (by kernel_rfl)
noncomputable def sc109:SC:=(⟨_,by cbv⟩:{c:SC // c=scH Tryz.prog Tryz.f109 []}).1
def rs109:List SOp:=[(.load true 5 (.tmp 6)),(.mv (.tmp 7))]
theorem code109:FCode Tryz.prog 109 sc109 rs109 25:=fco Tryz.func109 rfl (by kernel_rfl)
def w109_0:List Nat:=[7,9,13,14,15,16,17,18,19,20,21,22,23]
noncomputable def sc110:SC:=(⟨_,by cbv⟩:{c:SC // c=scH Tryz.prog Tryz.f110 [[5,1,2,1,0,0,0],[4],[2,2,0,0]]}).1
def rs110:List SOp:=[(.mv (.tmp 8))]
theorem code110:FCode Tryz.prog 110 sc110 rs110 76:=fco Tryz.func110 rfl (by kernel_rfl)
noncomputable def sc111:SC:=(⟨_,by cbv⟩:{c:SC // c=scH Tryz.prog Tryz.f111 [[3,1,2,0,0]]}).1
def rs111:List SOp:=[(.load true 5 (.tmp 4)),(.mv (.tmp 5))]
theorem code111:FCode Tryz.prog 111 sc111 rs111 37:=fco Tryz.func111 rfl (by kernel_rfl)
def w111_0:List Nat:=[10,14,15,16,17,18,19,20,21,22,23,24,25,26,27,28,29,30,31,32,33,34]
noncomputable def sc112:SC:=Qm Tryz.prog Tryz.f112
noncomputable def rs112:List SOp:=Xz Tryz.prog Tryz.f112
theorem code112:FCode Tryz.prog 112 sc112 rs112 52:=fco Tryz.func112 rfl (by kernel_rfl)
noncomputable def sc113:SC:=(⟨_,by cbv⟩:{c:SC // c=scH Tryz.prog Tryz.f113 []}).1
def rs113:List SOp:=[]
theorem code113:FCode Tryz.prog 113 sc113 rs113 35:=fco Tryz.func113 rfl (by kernel_rfl)
def w113_0:List Nat:=[4,7,8,9,10,11,12,13,14,15,16,17,18,19,20,21,22,23,24,25,26,27,28,29,30,31,32,33,34]
noncomputable def sc114:SC:=(⟨_,by cbv⟩:{c:SC // c=scH Tryz.prog Tryz.f114 []}).1
def rs114:List SOp:=[(.mv (.tmp 2))]
theorem code114:FCode Tryz.prog 114 sc114 rs114 65:=fco Tryz.func114 rfl (by kernel_rfl)
def w114_0:List Nat:=[2,3,5,39,40,41,42,43,44,45,46,47,48,49,50,51,52,53,54,55,56,57,58,59,60,61,62,63,64]
noncomputable def sc115:SC:=(⟨_,by cbv⟩:{c:SC // c=scH Tryz.prog Tryz.f115 []}).1
def rs115:List SOp:=[]
theorem code115:FCode Tryz.prog 115 sc115 rs115 23:=fco Tryz.func115 rfl (by kernel_rfl)
noncomputable def sc116:SC:=(⟨_,by cbv⟩:{c:SC // c=scH Tryz.prog Tryz.f116 []}).1
def rs116:List SOp:=[]
theorem code116:FCode Tryz.prog 116 sc116 rs116 14:=fco Tryz.func116 rfl (by kernel_rfl)
noncomputable def sc117:SC:=(⟨_,by cbv⟩:{c:SC // c=scH Tryz.prog Tryz.f117 [[12],[13]]}).1
def rs117:List SOp:=[(.mv (.tmp 2))]
theorem code117:FCode Tryz.prog 117 sc117 rs117 73:=fco Tryz.func117 rfl (by kernel_rfl)
def w117_0:List Nat:=[3,5,15,16,17,18,19,20,21,22,23,24]
def w117_1:List Nat:=[6,8,9,31,32,33,34,35,36,37,38,39,40,41,42,43,44,45,46,47,48,49,50,51,52,53,54,55,56,57,58,59,60,61,62,63,64,65,66,67,68,69,70,71]
noncomputable def sc118:SC:=(⟨_,by cbv⟩:{c:SC // c=scH Tryz.prog Tryz.f118 []}).1
def rs118:List SOp:=[(.mv (.tmp 4))]
theorem code118:FCode Tryz.prog 118 sc118 rs118 20:=fco Tryz.func118 rfl (by kernel_rfl)
noncomputable def sc119:SC:=(⟨_,by cbv⟩:{c:SC // c=scH Tryz.prog Tryz.f119 []}).1
def rs119:List SOp:=[]
theorem code119:FCode Tryz.prog 119 sc119 rs119 39:=fco Tryz.func119 rfl (by kernel_rfl)
def w119_0:List Nat:=[7,23,24,25,26,27,28,29,30,31,32,33,34,35,36,37,38]
end Go.Proofs.YtjmgelbfndnpjaaGreatDoor
