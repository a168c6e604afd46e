import Derived.Test.YtkcnjajklnoahaaGreatDoorTYMG
import Derived.Test.YtkcnjajklnoahaaGreatDoorProg
set_option linter.unusedVariables false
set_option linter.unusedSimpArgs false
set_option maxRecDepth 100000
set_option maxHeartbeats 8000000
namespace Go.Proofs.YtkcnjajklnoahaaGreatDoor
open Go Go.Abs
noncomputable def sc55:SC:=(⟨_,by cbv⟩:{c:SC // c=scH Tryz.prog Tryz.f55 [[6]]}).1
def rs55:List SOp:=[(.mv (.tmp 10))]
theorem code55:FCode Tryz.prog 55 sc55 rs55 43:=fco Tryz.func55 rfl (by kernel_rfl)
noncomputable def sc56:SC:=(⟨_,by cbv⟩:{c:SC // c=scH Tryz.prog Tryz.f56 [[9]]}).1
def rs56:List SOp:=[(.mv (.tmp 6))]
theorem code56:FCode Tryz.prog 56 sc56 rs56 59:=fco Tryz.func56 rfl (by kernel_rfl)
noncomputable def sc57:SC:=(⟨_,by cbv⟩:{c:SC // c=scH Tryz.prog Tryz.f57 []}).1
def rs57:List SOp:=[(.mv (.tmp 6))]
theorem code57:FCode Tryz.prog 57 sc57 rs57 26:=fco Tryz.func57 rfl (by kernel_rfl)
noncomputable def sc58:SC:=(⟨_,by cbv⟩:{c:SC // c=scH Tryz.prog Tryz.f58 []}).1
def rs58:List SOp:=[(.mv (.tmp 2))]
theorem code58:FCode Tryz.prog 58 sc58 rs58 11:=fco Tryz.func58 rfl (by kernel_rfl)
noncomputable def sc59:SC:=(⟨_,by cbv⟩:{c:SC // c=scH Tryz.prog Tryz.f59 [[12]]}).1
def rs59:List SOp:=[(.mv (.tmp 2))]
theorem code59:FCode Tryz.prog 59 sc59 rs59 63:=fco Tryz.func59 rfl (by kernel_rfl)
def w59_0:List Nat:=[2,3,4,19,20,21,22,23,24,25,26,27,28,29,30,31,32,33,34,35,36,37,38,39,40,41,42,43,44,45,46,47,48,49,50,51,52,53,54,55,56,57,58,59,60,61,62]
noncomputable def sc60:SC:=(⟨_,by cbv⟩:{c:SC // c=scH Tryz.prog Tryz.f60 []}).1
def rs60:List SOp:=[(.mv (.tmp 2))]
theorem code60:FCode Tryz.prog 60 sc60 rs60 88:=fco Tryz.func60 rfl (by kernel_rfl)
def w60_0:List Nat:=[2,3,4,5,12,13,14,15,16,17,18,19,20,21,22,23,24,25,26,27,28,29,30,31,32,33,34,35,36,37,38,39,40,41,42,43,44,45,46,47,48,49,50,51,52,53,54,55,56,57,58,59,60,61,62,63,64,65,66,67,68,69,70,71,72,73,74]
noncomputable def sc61:SC:=(⟨_,by cbv⟩:{c:SC // c=scH Tryz.prog Tryz.f61 []}).1
def rs61:List SOp:=[(.mv (.tmp 2))]
theorem code61:FCode Tryz.prog 61 sc61 rs61 97:=fco Tryz.func61 rfl (by kernel_rfl)
def w61_0:List Nat:=[2,3,4,5,6,7,12,13,14,15,16,17,18,19,20,21,22,23,24,25,26,27,28,29,30,31,32,33,34,35,36,37,38,39,40,41,42,43,44,45,46,47,48,49,50,51,52,53,54,55,56,57,58,59,60,61,62,63,64,65,66,67,68,69,70,71,72,73,74,75,76,77,78,79,80,81,82,83,84,85,86,87,88,89,90,91,92,93,94,95,96]
noncomputable def sc62:SC:=(⟨_,by cbv⟩:{c:SC // c=scH Tryz.prog Tryz.f62 []}).1
def rs62:List SOp:=[(.mv (.tmp 4))]
theorem code62:FCode Tryz.prog 62 sc62 rs62 95:=fco Tryz.func62 rfl (by kernel_rfl)
noncomputable def sc63:SC:=(⟨_,by cbv⟩:{c:SC // c=scH Tryz.prog Tryz.f63 []}).1
def rs63:List SOp:=[(.mv (.tmp 2))]
theorem code63:FCode Tryz.prog 63 sc63 rs63 206:=fco Tryz.func63 rfl (by kernel_rfl)
noncomputable def sc64:SC:=(⟨_,by cbv⟩:{c:SC // c=scH Tryz.prog Tryz.f64 []}).1
def rs64:List SOp:=[]
theorem code64:FCode Tryz.prog 64 sc64 rs64 35:=fco Tryz.func64 rfl (by kernel_rfl)
noncomputable def sc65:SC:=Qn Tryz.prog Tryz.f65
noncomputable def rs65:List SOp:=Uc Tryz.prog Tryz.f65
theorem code65:FCode Tryz.prog 65 sc65 rs65 9:=fco Tryz.func65 rfl (by kernel_rfl)
noncomputable def sc66:SC:=(⟨_,by cbv⟩:{c:SC // c=scH Tryz.prog Tryz.f66 []}).1
def rs66:List SOp:=[(.mv (.tmp 4))]
theorem code66:FCode Tryz.prog 66 sc66 rs66 31:=fco Tryz.func66 rfl (by kernel_rfl)
noncomputable def sc67:SC:=(⟨_,by cbv⟩:{c:SC // c=scH Tryz.prog Tryz.f67 []}).1
def rs67:List SOp:=[(.mv (.tmp 4))]
theorem code67:FCode Tryz.prog 67 sc67 rs67 74:=fco Tryz.func67 rfl (by kernel_rfl)
def w67_0:List Nat:=[8,10,11,12,47,48,49,50,51,52,53,54,55,56,57,58,59,60,61,62,63,64,65,66]
noncomputable def sc68:SC:=(⟨_,by cbv⟩:{c:SC // c=scH Tryz.prog Tryz.f68 [[16],[10],[14,1,1,1,1,1,0,2,2,2,2,2,2,2,2]]}).1
def rs68:List SOp:=[(.mv (.tmp 6)),(.mv (.tmp 7))]
theorem code68:FCode Tryz.prog 68 sc68 rs68 70:=fco Tryz.func68 rfl (by kernel_rfl)
def w68_0:List Nat:=[6,7,9,10,11,45,46,47,48,49,50,51,52,53,54,55,56,57,58,59,60,61,62,63,64,65,66,67,68,69]
noncomputable def sc69:SC:=(⟨_,by cbv⟩:{c:SC // c=scH Tryz.prog Tryz.f69 []}).1
def rs69:List SOp:=[(.mv (.tmp 4))]
theorem code69:FCode Tryz.prog 69 sc69 rs69 22:=fco Tryz.func69 rfl (by kernel_rfl)
def w69_0:List Nat:=[4,5,6,7,8,9,10,11,12,13,14,15,16,17,18,19,20,21]
noncomputable def sc70:SC:=(⟨_,by cbv⟩:{c:SC // c=scH Tryz.prog Tryz.f70 []}).1
def rs70:List SOp:=[(.load true 5 (.tmp 4)),(.mv (.tmp 5))]
theorem code70:FCode Tryz.prog 70 sc70 rs70 28:=fco Tryz.func70 rfl (by kernel_rfl)
def w70_0:List Nat:=[5,6,7,8,9,10,11,12,13,14,15,16,17,18,19,20,21,22,23,24,25,26]
noncomputable def sc71:SC:=(⟨_,by cbv⟩:{c:SC // c=scH Tryz.prog Tryz.f71 []}).1
def rs71:List SOp:=[(.mv (.tmp 4))]
theorem code71:FCode Tryz.prog 71 sc71 rs71 23:=fco Tryz.func71 rfl (by kernel_rfl)
noncomputable def sc72:SC:=(⟨_,by cbv⟩:{c:SC // c=scH Tryz.prog Tryz.f72 []}).1
def rs72:List SOp:=[(.mv (.tmp 6))]
theorem code72:FCode Tryz.prog 72 sc72 rs72 56:=fco Tryz.func72 rfl (by kernel_rfl)
def w72_0:List Nat:=[7,8,9,10,11,12,13,14,15,16,17,18,19,20,21,22,23,24,25,26,27,28,29,30,31,32,33,34,35,36,37,38,39,40,41,42,43,44,45,46,47,48,49,50,51,52,53,54]
noncomputable def sc73:SC:=(⟨_,by cbv⟩:{c:SC // c=scH Tryz.prog Tryz.f73 []}).1
def rs73:List SOp:=[(.mv (.tmp 6))]
theorem code73:FCode Tryz.prog 73 sc73 rs73 27:=fco Tryz.func73 rfl (by kernel_rfl)
def w73_0:List Nat:=[6,7,11,12,13,14,15,16,17,18,19,20,21,22,23,24,25,26]
noncomputable def sc74:SC:=(⟨_,by cbv⟩:{c:SC // c=scH Tryz.prog Tryz.f74 [[9]]}).1
def rs74:List SOp:=[(.mv (.tmp 8))]
theorem code74:FCode Tryz.prog 74 sc74 rs74 87:=fco Tryz.func74 rfl (by kernel_rfl)
def w74_0:List Nat:=[11,12,13,14,15,16,33,34,35,36,37,38,39,40,41,42,43,44,45,46,47,48,49,50,51,52,53,54,55,56,57,58,59,60,61,62,63,64,65,66,67,68,69,70,71,72,73,74,75,76,77,78,79,80,81,82,83,84,85]
noncomputable def sc75:SC:=(⟨_,by cbv⟩:{c:SC // c=scH Tryz.prog Tryz.f75 []}).1
def rs75:List SOp:=[(.load true 5 (.tmp 4)),(.mv (.tmp 5))]
theorem code75:FCode Tryz.prog 75 sc75 rs75 28:=fco Tryz.func75 rfl (by kernel_rfl)
def w75_0:List Nat:=[5,6,7,8,9,10,11,12,13,14,15,16,17,18,19,20,21,22,23,24,25,26]
noncomputable def sc76:SC:=(⟨_,by cbv⟩:{c:SC // c=scH Tryz.prog Tryz.f76 []}).1
def rs76:List SOp:=[(.mv (.tmp 2))]
theorem code76:FCode Tryz.prog 76 sc76 rs76 8:=fco Tryz.func76 rfl (by kernel_rfl)
noncomputable def sc77:SC:=(⟨_,by cbv⟩:{c:SC // c=scH Tryz.prog Tryz.f77 []}).1
def rs77:List SOp:=[(.mv (.tmp 2))]
theorem code77:FCode Tryz.prog 77 sc77 rs77 36:=fco Tryz.func77 rfl (by kernel_rfl)
def w77_0:List Nat:=[3,5,11,12,13,14,15,16,17,18,19,20,21,22]
def w77_1:List Nat:=[6,8,27,28,29,30,31,32,33,34]
noncomputable def sc78:SC:=(⟨_,by cbv⟩:{c:SC // c=scH Tryz.prog Tryz.f78 []}).1
def rs78:List SOp:=[(.mv (.tmp 2))]
theorem code78:FCode Tryz.prog 78 sc78 rs78 49:=fco Tryz.func78 rfl (by kernel_rfl)
end Go.Proofs.YtkcnjajklnoahaaGreatDoor
