import Derived.Test.YtjmgelbfndnpjaaGreatDoorPPMG
import Derived.Test.YtjmgelbfndnpjaaGreatDoorProg
set_option linter.unusedVariables false
set_option linter.unusedSimpArgs false
set_option maxRecDepth 100000
set_option maxHeartbeats 8000000
namespace Go.Proofs.YtjmgelbfndnpjaaGreatDoor
open Go Go.Abs
noncomputable def sc27:SC:=(⟨_,by cbv⟩:{c:SC // c=scH Tryz.prog Tryz.f27 [[7,2,1,1,1,1,1,0,0]]}).1
def rs27:List SOp:=[(.load true 2 (.tmp 4)),(.mv (.tmp 5))]
theorem code27:FCode Tryz.prog 27 sc27 rs27 21:=fco Tryz.func27 rfl (by kernel_rfl)
noncomputable def sc28:SC:=(⟨_,by cbv⟩:{c:SC // c=scH Tryz.prog Tryz.f28 []}).1
def rs28:List SOp:=[(.mv (.tmp 6))]
theorem code28:FCode Tryz.prog 28 sc28 rs28 51:=fco Tryz.func28 rfl (by kernel_rfl)
def w28_0:List Nat:=[7,13,41,42,43,44,45,46,47,48,49]
noncomputable def sc29:SC:=(⟨_,by cbv⟩:{c:SC // c=scH Tryz.prog Tryz.f29 []}).1
def rs29:List SOp:=[(.mv (.tmp 4))]
theorem code29:FCode Tryz.prog 29 sc29 rs29 26:=fco Tryz.func29 rfl (by kernel_rfl)
noncomputable def sc30:SC:=(⟨_,by cbv⟩:{c:SC // c=scH Tryz.prog Tryz.f30 []}).1
def rs30:List SOp:=[(.load true 3 (.tmp 4))]
theorem code30:FCode Tryz.prog 30 sc30 rs30 48:=fco Tryz.func30 rfl (by kernel_rfl)
noncomputable def sc31:SC:=(⟨_,by cbv⟩:{c:SC // c=scH Tryz.prog Tryz.f31 []}).1
def rs31:List SOp:=[(.mv (.tmp 2))]
theorem code31:FCode Tryz.prog 31 sc31 rs31 9:=fco Tryz.func31 rfl (by kernel_rfl)
noncomputable def sc32:SC:=(⟨_,by cbv⟩:{c:SC // c=scH Tryz.prog Tryz.f32 []}).1
def rs32:List SOp:=[(.mv (.tmp 4))]
theorem code32:FCode Tryz.prog 32 sc32 rs32 11:=fco Tryz.func32 rfl (by kernel_rfl)
noncomputable def sc33:SC:=(⟨_,by cbv⟩:{c:SC // c=scH Tryz.prog Tryz.f33 [[12],[11,2,1,1,1,0,2,2,2,0,2,2,0]]}).1
def rs33:List SOp:=[(.mv (.tmp 8))]
theorem code33:FCode Tryz.prog 33 sc33 rs33 108:=fco Tryz.func33 rfl (by kernel_rfl)
def w33_0:List Nat:=[15,17,87,88,89,90,91,92,93,94,95,96,97,98,99,100,101,102,103]
noncomputable def sc34:SC:=(⟨_,by cbv⟩:{c:SC // c=scH Tryz.prog Tryz.f34 []}).1
def rs34:List SOp:=[(.mv (.tmp 2))]
theorem code34:FCode Tryz.prog 34 sc34 rs34 6:=fco Tryz.func34 rfl (by kernel_rfl)
noncomputable def sc35:SC:=(⟨_,by cbv⟩:{c:SC // c=scH Tryz.prog Tryz.f35 [[5,2,1,1,0,2]]}).1
def rs35:List SOp:=[]
theorem code35:FCode Tryz.prog 35 sc35 rs35 12:=fco Tryz.func35 rfl (by kernel_rfl)
noncomputable def sc36:SC:=(⟨_,by cbv⟩:{c:SC // c=scH Tryz.prog Tryz.f36 []}).1
def rs36:List SOp:=[(.mv (.tmp 6))]
theorem code36:FCode Tryz.prog 36 sc36 rs36 29:=fco Tryz.func36 rfl (by kernel_rfl)
def w36_0:List Nat:=[0,18,19,20,21,22,23,24,25,26,27]
noncomputable def sc37:SC:=(⟨_,by cbv⟩:{c:SC // c=scH Tryz.prog Tryz.f37 []}).1
def rs37:List SOp:=[(.mv (.tmp 4))]
theorem code37:FCode Tryz.prog 37 sc37 rs37 6:=fco Tryz.func37 rfl (by kernel_rfl)
noncomputable def sc38:SC:=(⟨_,by cbv⟩:{c:SC // c=scH Tryz.prog Tryz.f38 []}).1
def rs38:List SOp:=[(.mv (.tmp 6))]
theorem code38:FCode Tryz.prog 38 sc38 rs38 15:=fco Tryz.func38 rfl (by kernel_rfl)
noncomputable def sc39:SC:=(⟨_,by cbv⟩:{c:SC // c=scH Tryz.prog Tryz.f39 []}).1
def rs39:List SOp:=[(.mv (.tmp 2))]
theorem code39:FCode Tryz.prog 39 sc39 rs39 11:=fco Tryz.func39 rfl (by kernel_rfl)
noncomputable def sc40:SC:=(⟨_,by cbv⟩:{c:SC // c=scH Tryz.prog Tryz.f40 []}).1
def rs40:List SOp:=[(.mv (.tmp 2))]
theorem code40:FCode Tryz.prog 40 sc40 rs40 41:=fco Tryz.func40 rfl (by kernel_rfl)
def w40_0:List Nat:=[2,3,5,19,20,21,22,23,24,25,26,27,28,29,30,31,32,33,34,35,36,37,38,39,40]
noncomputable def sc41:SC:=(⟨_,by cbv⟩:{c:SC // c=scH Tryz.prog Tryz.f41 []}).1
def rs41:List SOp:=[(.mv (.tmp 8))]
theorem code41:FCode Tryz.prog 41 sc41 rs41 46:=fco Tryz.func41 rfl (by kernel_rfl)
def w41_0:List Nat:=[8,9,10,11,14,15,16,17,18,19,20,21,22,23,24,25,26,27,28,29,30,31,32,33,34,35,36,37,38,39,40,41,42,43,44,45]
noncomputable def sc42:SC:=(⟨_,by cbv⟩:{c:SC // c=scH Tryz.prog Tryz.f42 []}).1
def rs42:List SOp:=[(.mv (.tmp 2))]
theorem code42:FCode Tryz.prog 42 sc42 rs42 5:=fco Tryz.func42 rfl (by kernel_rfl)
noncomputable def sc43:SC:=(⟨_,by cbv⟩:{c:SC // c=scH Tryz.prog Tryz.f43 []}).1
def rs43:List SOp:=[(.mv (.tmp 8))]
theorem code43:FCode Tryz.prog 43 sc43 rs43 46:=fco Tryz.func43 rfl (by kernel_rfl)
def w43_0:List Nat:=[8,9,10,11,14,15,16,17,18,19,20,21,22,23,24,25,26,27,28,29,30,31,32,33,34,35,36,37,38,39,40,41,42,43,44,45]
noncomputable def sc44:SC:=(⟨_,by cbv⟩:{c:SC // c=scH Tryz.prog Tryz.f44 []}).1
def rs44:List SOp:=[(.mv (.tmp 2))]
theorem code44:FCode Tryz.prog 44 sc44 rs44 5:=fco Tryz.func44 rfl (by kernel_rfl)
noncomputable def sc45:SC:=(⟨_,by cbv⟩:{c:SC // c=scH Tryz.prog Tryz.f45 [[12,2,2,2,2,2,2,2,2,2,2,0,0,0],[21]]}).1
def rs45:List SOp:=[(.mv (.tmp 4))]
theorem code45:FCode Tryz.prog 45 sc45 rs45 65:=fco Tryz.func45 rfl (by kernel_rfl)
noncomputable def sc46:SC:=(⟨_,by cbv⟩:{c:SC // c=scH Tryz.prog Tryz.f46 [[8],[6]]}).1
def rs46:List SOp:=[(.mv (.tmp 4))]
theorem code46:FCode Tryz.prog 46 sc46 rs46 37:=fco Tryz.func46 rfl (by kernel_rfl)
noncomputable def sc47:SC:=(⟨_,by cbv⟩:{c:SC // c=scH Tryz.prog Tryz.f47 [[12,2,2,2,2,2,2,2,2,2,2,0,0,0]]}).1
def rs47:List SOp:=[(.mv (.tmp 4))]
theorem code47:FCode Tryz.prog 47 sc47 rs47 38:=fco Tryz.func47 rfl (by kernel_rfl)
noncomputable def sc48:SC:=(⟨_,by cbv⟩:{c:SC // c=scH Tryz.prog Tryz.f48 [[3]]}).1
def rs48:List SOp:=[(.mv (.tmp 2))]
theorem code48:FCode Tryz.prog 48 sc48 rs48 95:=fco Tryz.func48 rfl (by kernel_rfl)
noncomputable def sc49:SC:=(⟨_,by cbv⟩:{c:SC // c=scH Tryz.prog Tryz.f49 []}).1
def rs49:List SOp:=[]
theorem code49:FCode Tryz.prog 49 sc49 rs49 35:=fco Tryz.func49 rfl (by kernel_rfl)
noncomputable def sc50:SC:=Qm Tryz.prog Tryz.f50
noncomputable def rs50:List SOp:=Xz Tryz.prog Tryz.f50
theorem code50:FCode Tryz.prog 50 sc50 rs50 9:=fco Tryz.func50 rfl (by kernel_rfl)
noncomputable def sc51:SC:=(⟨_,by cbv⟩:{c:SC // c=scH Tryz.prog Tryz.f51 []}).1
def rs51:List SOp:=[(.mv (.tmp 4))]
theorem code51:FCode Tryz.prog 51 sc51 rs51 31:=fco Tryz.func51 rfl (by kernel_rfl)
noncomputable def sc52:SC:=(⟨_,by cbv⟩:{c:SC // c=scH Tryz.prog Tryz.f52 []}).1
def rs52:List SOp:=[(.mv (.tmp 4))]
theorem code52:FCode Tryz.prog 52 sc52 rs52 74:=fco Tryz.func52 rfl (by kernel_rfl)
def w52_0:List Nat:=[8,10,11,12,47,48,49,50,51,52,53,54,55,56,57,58,59,60,61,62,63,64,65,66]
noncomputable def sc53:SC:=(⟨_,by cbv⟩:{c:SC // c=scH Tryz.prog Tryz.f53 [[16],[10],[14,1,1,1,1,1,0,2,2,2,2,2,2,2,2]]}).1
def rs53:List SOp:=[(.mv (.tmp 6)),(.mv (.tmp 7))]
theorem code53:FCode Tryz.prog 53 sc53 rs53 70:=fco Tryz.func53 rfl (by kernel_rfl)
def w53_0:List Nat:=[6,7,9,10,11,45,46,47,48,49,50,51,52,53,54,55,56,57,58,59,60,61,62,63,64,65,66,67,68,69]
noncomputable def sc54:SC:=(⟨_,by cbv⟩:{c:SC // c=scH Tryz.prog Tryz.f54 []}).1
def rs54:List SOp:=[(.mv (.tmp 2))]
theorem code54:FCode Tryz.prog 54 sc54 rs54 8:=fco Tryz.func54 rfl (by kernel_rfl)
noncomputable def sc55:SC:=(⟨_,by cbv⟩:{c:SC // c=scH Tryz.prog Tryz.f55 []}).1
def rs55:List SOp:=[(.mv (.tmp 2))]
theorem code55:FCode Tryz.prog 55 sc55 rs55 36:=fco Tryz.func55 rfl (by kernel_rfl)
def w55_0:List Nat:=[3,5,11,12,13,14,15,16,17,18,19,20,21,22]
def w55_1:List Nat:=[6,8,27,28,29,30,31,32,33,34]
noncomputable def sc56:SC:=(⟨_,by cbv⟩:{c:SC // c=scH Tryz.prog Tryz.f56 []}).1
def rs56:List SOp:=[(.load true 7 (.tmp 6)),(.mv (.tmp 7))]
theorem code56:FCode Tryz.prog 56 sc56 rs56 25:=fco Tryz.func56 rfl (by kernel_rfl)
def w56_0:List Nat:=[7,9,13,14,15,16,17,18,19,20,21,22,23]
noncomputable def sc57:SC:=(⟨_,by cbv⟩:{c:SC // c=scH Tryz.prog Tryz.f57 []}).1
def rs57:List SOp:=[(.mv (.tmp 2))]
theorem code57:FCode Tryz.prog 57 sc57 rs57 5:=fco Tryz.func57 rfl (by kernel_rfl)
noncomputable def sc58:SC:=(⟨_,by cbv⟩:{c:SC // c=scH Tryz.prog Tryz.f58 []}).1
def rs58:List SOp:=[(.mv (.tmp 2))]
theorem code58:FCode Tryz.prog 58 sc58 rs58 8:=fco Tryz.func58 rfl (by kernel_rfl)
noncomputable def sc59:SC:=(⟨_,by cbv⟩:{c:SC // c=scH Tryz.prog Tryz.f59 []}).1
def rs59:List SOp:=[]
theorem code59:FCode Tryz.prog 59 sc59 rs59 45:=fco Tryz.func59 rfl (by kernel_rfl)
def w59_0:List Nat:=[8,9,20,21,22,23,24,25,26,27,28,29,30,31,32,33,34,35,36,37,38,39,40,41,42,43,44]
noncomputable def sc60:SC:=(⟨_,by cbv⟩:{c:SC // c=scH Tryz.prog Tryz.f60 []}).1
def rs60:List SOp:=[(.load true 5 (.tmp 4)),(.mv (.tmp 5))]
theorem code60:FCode Tryz.prog 60 sc60 rs60 12:=fco Tryz.func60 rfl (by kernel_rfl)
noncomputable def sc61:SC:=(⟨_,by cbv⟩:{c:SC // c=scH Tryz.prog Tryz.f61 []}).1
def rs61:List SOp:=[(.mv (.tmp 4))]
theorem code61:FCode Tryz.prog 61 sc61 rs61 22:=fco Tryz.func61 rfl (by kernel_rfl)
def w61_0:List Nat:=[5,6,10,11,12,13,14,15,16,17,18,19,20]
noncomputable def sc62:SC:=(⟨_,by cbv⟩:{c:SC // c=scH Tryz.prog Tryz.f62 []}).1
def rs62:List SOp:=[(.mv (.tmp 2))]
theorem code62:FCode Tryz.prog 62 sc62 rs62 3:=fco Tryz.func62 rfl (by kernel_rfl)
noncomputable def sc63:SC:=(⟨_,by cbv⟩:{c:SC // c=scH Tryz.prog Tryz.f63 []}).1
def rs63:List SOp:=[(.mv (.tmp 7))]
theorem code63:FCode Tryz.prog 63 sc63 rs63 15:=fco Tryz.func63 rfl (by kernel_rfl)
noncomputable def sc64:SC:=(⟨_,by cbv⟩:{c:SC // c=scH Tryz.prog Tryz.f64 []}).1
def rs64:List SOp:=[(.mv (.tmp 4))]
theorem code64:FCode Tryz.prog 64 sc64 rs64 10:=fco Tryz.func64 rfl (by kernel_rfl)
noncomputable def sc65:SC:=(⟨_,by cbv⟩:{c:SC // c=scH Tryz.prog Tryz.f65 []}).1
def rs65:List SOp:=[(.mv (.tmp 3))]
theorem code65:FCode Tryz.prog 65 sc65 rs65 25:=fco Tryz.func65 rfl (by kernel_rfl)
noncomputable def sc66:SC:=(⟨_,by cbv⟩:{c:SC // c=scH Tryz.prog Tryz.f66 []}).1
def rs66:List SOp:=[(.mv (.tmp 4))]
theorem code66:FCode Tryz.prog 66 sc66 rs66 19:=fco Tryz.func66 rfl (by kernel_rfl)
def w66_0:List Nat:=[4,5,8,9,10,11,12,13,14,15,16,17,18]
noncomputable def sc67:SC:=(⟨_,by cbv⟩:{c:SC // c=scH Tryz.prog Tryz.f67 []}).1
def rs67:List SOp:=[(.mv (.tmp 4))]
theorem code67:FCode Tryz.prog 67 sc67 rs67 19:=fco Tryz.func67 rfl (by kernel_rfl)
def w67_0:List Nat:=[4,5,8,9,10,11,12,13,14,15,16,17,18]
noncomputable def sc68:SC:=(⟨_,by cbv⟩:{c:SC // c=scH Tryz.prog Tryz.f68 []}).1
def rs68:List SOp:=[(.mv (.tmp 3))]
theorem code68:FCode Tryz.prog 68 sc68 rs68 8:=fco Tryz.func68 rfl (by kernel_rfl)
noncomputable def sc69:SC:=(⟨_,by cbv⟩:{c:SC // c=scH Tryz.prog Tryz.f69 []}).1
def rs69:List SOp:=[(.mv (.tmp 8))]
theorem code69:FCode Tryz.prog 69 sc69 rs69 18:=fco Tryz.func69 rfl (by kernel_rfl)
noncomputable def sc70:SC:=(⟨_,by cbv⟩:{c:SC // c=scH Tryz.prog Tryz.f70 []}).1
def rs70:List SOp:=[(.mv (.tmp 4))]
theorem code70:FCode Tryz.prog 70 sc70 rs70 10:=fco Tryz.func70 rfl (by kernel_rfl)
noncomputable def sc71:SC:=(⟨_,by cbv⟩:{c:SC // c=scH Tryz.prog Tryz.f71 []}).1
def rs71:List SOp:=[(.mv (.tmp 2))]
theorem code71:FCode Tryz.prog 71 sc71 rs71 4:=fco Tryz.func71 rfl (by kernel_rfl)
noncomputable def sc72:SC:=(⟨_,by cbv⟩:{c:SC // c=scH Tryz.prog Tryz.f72 []}).1
def rs72:List SOp:=[(.mv (.tmp 4))]
theorem code72:FCode Tryz.prog 72 sc72 rs72 21:=fco Tryz.func72 rfl (by kernel_rfl)
end Go.Proofs.YtjmgelbfndnpjaaGreatDoor
