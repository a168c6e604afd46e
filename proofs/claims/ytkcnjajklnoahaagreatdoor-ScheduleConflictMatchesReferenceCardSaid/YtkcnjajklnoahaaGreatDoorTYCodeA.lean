import Derived.Test.YtkcnjajklnoahaaGreatDoorTYMG
import Derived.Test.YtkcnjajklnoahaaGreatDoorProg
set_option linter.unusedVariables false
set_option linter.unusedSimpArgs false
set_option maxRecDepth 100000
set_option maxHeartbeats 8000000
namespace Go.Proofs.YtkcnjajklnoahaaGreatDoor
open Go Go.Abs
noncomputable def sc3:SC:=(⟨_,by cbv⟩:{c:SC // c=scH Tryz.prog Tryz.f3 []}).1
def rs3:List SOp:=[(.mv (.tmp 2))]
theorem code3:FCode Tryz.prog 3 sc3 rs3 46:=fco Tryz.func3 rfl (by kernel_rfl)
noncomputable def sc4:SC:=(⟨_,by cbv⟩:{c:SC // c=scH Tryz.prog Tryz.f4 [[30]]}).1
def rs4:List SOp:=[(.mv (.tmp 2))]
theorem code4:FCode Tryz.prog 4 sc4 rs4 67:=fco Tryz.func4 rfl (by kernel_rfl)
noncomputable def sc5:SC:=(⟨_,by cbv⟩:{c:SC // c=scH Tryz.prog Tryz.f5 []}).1
def rs5:List SOp:=[(.mv (.tmp 2))]
theorem code5:FCode Tryz.prog 5 sc5 rs5 41:=fco Tryz.func5 rfl (by kernel_rfl)
noncomputable def sc7:SC:=(⟨_,by cbv⟩:{c:SC // c=scH Tryz.prog Tryz.f7 []}).1
def rs7:List SOp:=[(.mv (.tmp 8))]
theorem code7:FCode Tryz.prog 7 sc7 rs7 72:=fco Tryz.func7 rfl (by kernel_rfl)
noncomputable def sc13:SC:=(⟨_,by cbv⟩:{c:SC // c=scH Tryz.prog Tryz.f13 [[9]]}).1
def rs13:List SOp:=[(.mv (.tmp 2))]
theorem code13:FCode Tryz.prog 13 sc13 rs13 96:=fco Tryz.func13 rfl (by kernel_rfl)
def w13_0:List Nat:=[8,40,41,42,43,44,45,46,47,48,49,50,51,52,53,54,55,56,57]
noncomputable def sc14:SC:=(⟨_,by cbv⟩:{c:SC // c=scH Tryz.prog Tryz.f14 []}).1
def rs14:List SOp:=[(.mv (.tmp 0))]
theorem code14:FCode Tryz.prog 14 sc14 rs14 114:=fco Tryz.func14 rfl (by kernel_rfl)
noncomputable def sc15:SC:=(⟨_,by cbv⟩:{c:SC // c=scH Tryz.prog Tryz.f15 []}).1
def rs15:List SOp:=[(.load true 17 (.tmp 2))]
theorem code15:FCode Tryz.prog 15 sc15 rs15 20:=fco Tryz.func15 rfl (by kernel_rfl)
noncomputable def sc16:SC:=(⟨_,by cbv⟩:{c:SC // c=scH Tryz.prog Tryz.f16 []}).1
def rs16:List SOp:=[(.mv (.tmp 8)),(.mv (.tmp 9))]
theorem code16:FCode Tryz.prog 16 sc16 rs16 18:=fco Tryz.func16 rfl (by kernel_rfl)
noncomputable def sc17:SC:=(⟨_,by cbv⟩:{c:SC // c=scH Tryz.prog Tryz.f17 [[11,2,2,2,2,2,2,2,2,2,0,0,0],[7],[8],[14]]}).1
def rs17:List SOp:=[(.mv (.tmp 8)),(.mv (.tmp 9))]
theorem code17:FCode Tryz.prog 17 sc17 rs17 174:=fco Tryz.func17 rfl (by kernel_rfl)
def w17_0:List Nat:=[10,11,29,30,31,32,33,34,35,36,37,38,39,40,41,42,43,44,45,46]
def w17_1:List Nat:=[8,9,10,12,13,14,15,16,17,18,19,20,21,22,23,24,47,48,49,50,51,52,53,54,55,56,57,58,59,60,61,62,63,64,65,66,67,68,69,70,71,72,73,74,75,76,77,78,79,80,81,82,83,84,85,86,87,88,89,90,91,92,93,94,95,96,97,98,99,100,101,102,103,104,105,106,107,108,109,110,111,112,113,114,115,116,117,118,119,120,121,122,123,124,125,126,127,128,129,130,131,132,133,134,135,136,137,138,139,140,141,142,143,144,145,146,147,148,149,150,151,152,153,154,155,156,157,158,159,160,161,162,163,164,165,166,167,168,169,170,171,172]
def w17_2:List Nat:=[17,18,19,20,67,68,69,70,71,72,73,74,75,76,77,78,79,80,81,82,83,84,85,86,87,88,89,90,91,92,93,94,95,96,97,98,99,100,101,102,103,104,105,106,107,108]
noncomputable def sc18:SC:=(⟨_,by cbv⟩:{c:SC // c=scH Tryz.prog Tryz.f18 [[22]]}).1
def rs18:List SOp:=[(.mv (.tmp 4))]
theorem code18:FCode Tryz.prog 18 sc18 rs18 41:=fco Tryz.func18 rfl (by kernel_rfl)
def w18_0:List Nat:=[4,5,11,12,13,14,15,16,17,18,19,20,21,22,23,24,25,26,27,28,29,30,31,32,33,34,35,36,37,38,39,40]
noncomputable def sc19:SC:=(⟨_,by cbv⟩:{c:SC // c=scH Tryz.prog Tryz.f19 [[9,2,2,2,1,0,0,2,2,2,0]]}).1
def rs19:List SOp:=[(.mv (.tmp 8)),(.mv (.tmp 9))]
theorem code19:FCode Tryz.prog 19 sc19 rs19 76:=fco Tryz.func19 rfl (by kernel_rfl)
def w19_0:List Nat:=[15,16,17,36,37,38,39,40,41,42,43,44,45,46,47,48,49,50,51,52,53,54,55,56,57,58,59,60,61,62,63,64,65]
def w19_1:List Nat:=[16,17,41,42,43,44,45,46,47,48,49,50,51,52,53,54,55,56,57,58,59,60,61,62,63,64]
noncomputable def sc20:SC:=(⟨_,by cbv⟩:{c:SC // c=scH Tryz.prog Tryz.f20 [[7],[11,2,1,1,0,2,2,2,2,2,2,2],[11,2,1,1,0,2,2,2,2,2,2,2]]}).1
def rs20:List SOp:=[(.mv (.tmp 8)),(.mv (.tmp 9))]
theorem code20:FCode Tryz.prog 20 sc20 rs20 69:=fco Tryz.func20 rfl (by kernel_rfl)
def w20_0:List Nat:=[11,12,13,14,20,21,22,23,24,25,26,27,28,29,30,31,32,33,34,35,36,37,38,39,40,41,42,43,44,45,46,47,48,49,50,51,52,53,54]
def w20_1:List Nat:=[12,13,14,24,25,26,27,28,29,30,31,32,33,34,35,36,37,38,39,40,41,42,43,44,45,46,47,48,49,50,51,52,53,54]
noncomputable def sc21:SC:=(⟨_,by cbv⟩:{c:SC // c=scH Tryz.prog Tryz.f21 [[8]]}).1
def rs21:List SOp:=[(.mv (.tmp 4))]
theorem code21:FCode Tryz.prog 21 sc21 rs21 26:=fco Tryz.func21 rfl (by kernel_rfl)
def w21_0:List Nat:=[4,5,11,12,13,14,15,16,17,18,19,20,21,22,23,24,25]
noncomputable def sc22:SC:=(⟨_,by cbv⟩:{c:SC // c=scH Tryz.prog Tryz.f22 []}).1
def rs22:List SOp:=[(.mv (.tmp 8))]
theorem code22:FCode Tryz.prog 22 sc22 rs22 15:=fco Tryz.func22 rfl (by kernel_rfl)
noncomputable def sc23:SC:=(⟨_,by cbv⟩:{c:SC // c=scH Tryz.prog Tryz.f23 []}).1
def rs23:List SOp:=[(.mv (.tmp 8))]
theorem code23:FCode Tryz.prog 23 sc23 rs23 48:=fco Tryz.func23 rfl (by kernel_rfl)
def w23_0:List Nat:=[11,12,13,14,15,28,29,30,31,32,33,34,35,36,37,38,39,40,41,42,43,44,45,46]
noncomputable def sc24:SC:=(⟨_,by cbv⟩:{c:SC // c=scH Tryz.prog Tryz.f24 []}).1
def rs24:List SOp:=[(.load true 13 (.tmp 2))]
theorem code24:FCode Tryz.prog 24 sc24 rs24 105:=fco Tryz.func24 rfl (by kernel_rfl)
def w24_0:List Nat:=[3,4,5,6,50,51,52,53,54,55,56,57,58,59,60,61,62,63,64,65,66,67,68,69,70,71,72,73,74,75,76,77,78,79,80,81,82,83,84,85,86,87,88,89,90,91,92,93,94,95,96,97,98,99,100,101]
noncomputable def sc25:SC:=(⟨_,by cbv⟩:{c:SC // c=scH Tryz.prog Tryz.f25 []}).1
def rs25:List SOp:=[(.mv (.tmp 2)),(.mv (.tmp 3)),(.mv (.tmp 4))]
theorem code25:FCode Tryz.prog 25 sc25 rs25 41:=fco Tryz.func25 rfl (by kernel_rfl)
def w25_0:List Nat:=[5,7,17,18,19,20,21,22,23,24,25,26]
noncomputable def sc26:SC:=(⟨_,by cbv⟩:{c:SC // c=scH Tryz.prog Tryz.f26 []}).1
def rs26:List SOp:=[(.mv (.tmp 2)),(.mv (.tmp 3)),(.mv (.tmp 4))]
theorem code26:FCode Tryz.prog 26 sc26 rs26 40:=fco Tryz.func26 rfl (by kernel_rfl)
def w26_0:List Nat:=[5,6,12,13,14,15,16,17,18,19,20,21,22,23,24,25,26,27]
noncomputable def sc28:SC:=(⟨_,by cbv⟩:{c:SC // c=scH Tryz.prog Tryz.f28 [[22]]}).1
def rs28:List SOp:=[(.mv (.tmp 4))]
theorem code28:FCode Tryz.prog 28 sc28 rs28 43:=fco Tryz.func28 rfl (by kernel_rfl)
def w28_0:List Nat:=[4,5,6,7,8,9,10,11,12,13,14,15,16,17,18,19,20,21,22,23,24,25,26,27,28,29,30,31,32,33,34,35,36,37,38,39,40,41,42]
def w28_1:List Nat:=[4,6,13,14,15,16,17,18,19,20,21,22,23,24,25,26,27,28,29,30,31,32,33,34,35,36,37,38,39,40,41,42]
noncomputable def sc31:SC:=(⟨_,by cbv⟩:{c:SC // c=scH Tryz.prog Tryz.f31 []}).1
def rs31:List SOp:=[(.load true 7 (.tmp 4)),(.mv (.tmp 5))]
theorem code31:FCode Tryz.prog 31 sc31 rs31 21:=fco Tryz.func31 rfl (by kernel_rfl)
end Go.Proofs.YtkcnjajklnoahaaGreatDoor
