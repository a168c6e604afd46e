import Derived.Test.YtjmgelbfndnpjaaGreatDoorPPMG
import Derived.Test.YtjmgelbfndnpjaaGreatDoorProg
set_option linter.unusedVariables false
set_option linter.unusedSimpArgs false
set_option maxRecDepth 100000
set_option maxHeartbeats 8000000
namespace Go.Proofs.YtjmgelbfndnpjaaGreatDoor
open Go Go.Abs
noncomputable def sc3:SC:=(⟨_,by cbv⟩:{c:SC // c=scH Tryz.prog Tryz.f3 [[6],[16]]}).1
def rs3:List SOp:=[(.mv (.tmp 4))]
theorem code3:FCode Tryz.prog 3 sc3 rs3 141:=fco Tryz.func3 rfl (by kernel_rfl)
def w3_0:List Nat:=[10,11,12,64,65,66,67,68,69,70,71,72,73,74,75,76,77,78,79,80,81,82,83,84,85,86,87,88,89,90,91,92,93]
def w3_1:List Nat:=[4,15,106,107,108,109,110,111,112,113,114,115,116,117,118,119,120,121,122,123,124,125,126]
noncomputable def sc4:SC:=Qm Tryz.prog Tryz.f4
noncomputable def rs4:List SOp:=Xz Tryz.prog Tryz.f4
theorem code4:FCode Tryz.prog 4 sc4 rs4 141:=fco Tryz.func4 rfl (by kernel_rfl)
noncomputable def sc5:SC:=(⟨_,by cbv⟩:{c:SC // c=scH Tryz.prog Tryz.f5 []}).1
def rs5:List SOp:=[(.mv (.tmp 2))]
theorem code5:FCode Tryz.prog 5 sc5 rs5 21:=fco Tryz.func5 rfl (by kernel_rfl)
noncomputable def sc6:SC:=(⟨_,by cbv⟩:{c:SC // c=scH Tryz.prog Tryz.f6 []}).1
def rs6:List SOp:=[(.mv (.tmp 2)),(.mv (.tmp 3)),(.mv (.tmp 4))]
theorem code6:FCode Tryz.prog 6 sc6 rs6 41:=fco Tryz.func6 rfl (by kernel_rfl)
def w6_0:List Nat:=[5,7,17,18,19,20,21,22,23,24,25,26]
noncomputable def sc7:SC:=(⟨_,by cbv⟩:{c:SC // c=scH Tryz.prog Tryz.f7 [[7]]}).1
def rs7:List SOp:=[(.mv (.tmp 6))]
theorem code7:FCode Tryz.prog 7 sc7 rs7 98:=fco Tryz.func7 rfl (by kernel_rfl)
def w7_0:List Nat:=[2,9,10,11,12,24,25,26,27,28,29,30,31,32,33,34,35,36,37,38,39,40,41,42,43,44,45,46,47,48,49,50,51,52,53,54,55,56,57,58,59,60,61,62,63,64,65,66,67,68,69,70,71,72,73,74,75,76,77,78,79,80,81,82,83,84,85,86]
noncomputable def sc8:SC:=(⟨_,by cbv⟩:{c:SC // c=scH Tryz.prog Tryz.f8 []}).1
def rs8:List SOp:=[(.mv (.tmp 4))]
theorem code8:FCode Tryz.prog 8 sc8 rs8 13:=fco Tryz.func8 rfl (by kernel_rfl)
noncomputable def sc9:SC:=(⟨_,by cbv⟩:{c:SC // c=scH Tryz.prog Tryz.f9 [[30]]}).1
def rs9:List SOp:=[(.load true 13 (.tmp 6))]
theorem code9:FCode Tryz.prog 9 sc9 rs9 89:=fco Tryz.func9 rfl (by kernel_rfl)
noncomputable def sc10:SC:=(⟨_,by cbv⟩:{c:SC // c=scH Tryz.prog Tryz.f10 [[6]]}).1
def rs10:List SOp:=[(.mv (.tmp 10))]
theorem code10:FCode Tryz.prog 10 sc10 rs10 43:=fco Tryz.func10 rfl (by kernel_rfl)
noncomputable def sc11:SC:=(⟨_,by cbv⟩:{c:SC // c=scH Tryz.prog Tryz.f11 []}).1
def rs11:List SOp:=[(.mv (.tmp 4))]
theorem code11:FCode Tryz.prog 11 sc11 rs11 26:=fco Tryz.func11 rfl (by kernel_rfl)
noncomputable def sc12:SC:=Qm Tryz.prog Tryz.f12
noncomputable def rs12:List SOp:=Xz Tryz.prog Tryz.f12
theorem code12:FCode Tryz.prog 12 sc12 rs12 63:=fco Tryz.func12 rfl (by kernel_rfl)
noncomputable def sc13:SC:=(⟨_,by cbv⟩:{c:SC // c=scH Tryz.prog Tryz.f13 []}).1
def rs13:List SOp:=[(.mv (.tmp 6))]
theorem code13:FCode Tryz.prog 13 sc13 rs13 26:=fco Tryz.func13 rfl (by kernel_rfl)
noncomputable def sc14:SC:=(⟨_,by cbv⟩:{c:SC // c=scH Tryz.prog Tryz.f14 []}).1
def rs14:List SOp:=[(.mv (.tmp 2))]
theorem code14:FCode Tryz.prog 14 sc14 rs14 49:=fco Tryz.func14 rfl (by kernel_rfl)
noncomputable def sc15:SC:=(⟨_,by cbv⟩:{c:SC // c=scH Tryz.prog Tryz.f15 [[7],[9]]}).1
def rs15:List SOp:=[(.mv (.tmp 2))]
theorem code15:FCode Tryz.prog 15 sc15 rs15 73:=fco Tryz.func15 rfl (by kernel_rfl)
def w15_0:List Nat:=[2,4,27,28,29,30,31,32,33,34,35,36,37,38,39,40,41,42,43,44,45,46,47,48,49,50,51,52,53,54,55,56,57,58,59,60]
noncomputable def sc16:SC:=(⟨_,by cbv⟩:{c:SC // c=scH Tryz.prog Tryz.f16 [[18],[7]]}).1
def rs16:List SOp:=[(.mv (.tmp 2))]
theorem code16:FCode Tryz.prog 16 sc16 rs16 93:=fco Tryz.func16 rfl (by kernel_rfl)
def w16_0:List Nat:=[2,4,5,28,29,30,31,32,33,34,35,36,37,38,39,40,41,42,43,44,45,46,47,48,49,50,51,52,53,54,55,56,57,58,59,60,61,62,63,64,65,66,67,68,69,70,71,72,73,74,75,76,77,78,79,80,81,82,83,84,85,86,87,88,89,90,91,92]
noncomputable def sc17:SC:=(⟨_,by cbv⟩:{c:SC // c=scH Tryz.prog Tryz.f17 []}).1
def rs17:List SOp:=[(.mv (.tmp 2))]
theorem code17:FCode Tryz.prog 17 sc17 rs17 56:=fco Tryz.func17 rfl (by kernel_rfl)
def w17_0:List Nat:=[2,5,20,21,22,23,24,25,26,27,28,29,30,31,32,33,34,35,36,37,38,39,40,41,42,43,44,45,46,47,48,49,50,51,52,53,54,55]
noncomputable def sc18:SC:=(⟨_,by cbv⟩:{c:SC // c=scH Tryz.prog Tryz.f18 []}).1
def rs18:List SOp:=[(.mv (.tmp 2))]
theorem code18:FCode Tryz.prog 18 sc18 rs18 26:=fco Tryz.func18 rfl (by kernel_rfl)
def w18_0:List Nat:=[2,4,18,19,20,21,22,23,24,25]
noncomputable def sc19:SC:=(⟨_,by cbv⟩:{c:SC // c=scH Tryz.prog Tryz.f19 [[11],[7],[12,2,2,2,2,2,2,2,2,2,2,0,0,0],[7],[8],[16]]}).1
def rs19:List SOp:=[(.mv (.tmp 6))]
theorem code19:FCode Tryz.prog 19 sc19 rs19 154:=fco Tryz.func19 rfl (by kernel_rfl)
def w19_0:List Nat:=[8,9,10,11,36,37,38,39,40,41,42,43,44,45,46,47,48,49,50,51,52,53,54,55,56,57,58,59,60]
def w19_1:List Nat:=[13,14,15,67,68,69,70,71,72,73,74,75,76,77,78,79,80,81,82,83,84,85,86,87,88,89,90,91,92,93,94,95,96,97,98,99,100,101,102,103,104,105]
def w19_2:List Nat:=[17,108,109,110,111,112,113,114,115,116,117,118,119,120,121,122,123,124,125,126,127,128,129,130,131,132,133,134,135,136,137,138,139,140,141,142,143,144,145,146,147,148,149,150,151,152]
noncomputable def sc20:SC:=(⟨_,by cbv⟩:{c:SC // c=scH Tryz.prog Tryz.f20 [[9,1,1,1,1,0,2,2,2,2]]}).1
def rs20:List SOp:=[(.mv (.tmp 4)),(.mv (.tmp 5))]
theorem code20:FCode Tryz.prog 20 sc20 rs20 138:=fco Tryz.func20 rfl (by kernel_rfl)
def w20_0:List Nat:=[4,5,8,9,10,12,13,14,15,16,17,19,20,21,22,39,40,41,42,43,44,45,46,47,48,49,50,51,52,53,54,55,56,57,58,59,60,61,62,63,64,65,66,67,68,69,70,71,72,73,74,75,76,77,78,79,80,81,82,83,84,85,86,87,88,89,90,91,92,93,94,95,96,97,98,99,100,101,102,103,104,105,106,107,108,109,110,111,112,113,114,115,116,117,118,119,120,121,122,123,124,125,126,127,128,129,130,131,132,133,134,135,136]
def w20_1:List Nat:=[17,19,20,21,90,91,92,93,94,95,96,97,98,99,100,101,102,103,104,105,106,107,108]
noncomputable def sc21:SC:=(⟨_,by cbv⟩:{c:SC // c=scH Tryz.prog Tryz.f21 [[7]]}).1
def rs21:List SOp:=[(.mv (.tmp 4))]
theorem code21:FCode Tryz.prog 21 sc21 rs21 45:=fco Tryz.func21 rfl (by kernel_rfl)
def w21_0:List Nat:=[7,8,9,10,11,21,22,23,24,25,26,27,28,29,30,31,32,33,34,35,36,37,38,39,40,41,42,43]
noncomputable def sc22:SC:=(⟨_,by cbv⟩:{c:SC // c=scH Tryz.prog Tryz.f22 []}).1
def rs22:List SOp:=[(.load true 7 (.tmp 4)),(.mv (.tmp 5))]
theorem code22:FCode Tryz.prog 22 sc22 rs22 21:=fco Tryz.func22 rfl (by kernel_rfl)
noncomputable def sc23:SC:=(⟨_,by cbv⟩:{c:SC // c=scH Tryz.prog Tryz.f23 []}).1
def rs23:List SOp:=[(.mv (.tmp 6))]
theorem code23:FCode Tryz.prog 23 sc23 rs23 8:=fco Tryz.func23 rfl (by kernel_rfl)
noncomputable def sc24:SC:=(⟨_,by cbv⟩:{c:SC // c=scH Tryz.prog Tryz.f24 []}).1
def rs24:List SOp:=[(.load true 7 (.tmp 6))]
theorem code24:FCode Tryz.prog 24 sc24 rs24 57:=fco Tryz.func24 rfl (by kernel_rfl)
def w24_0:List Nat:=[10,27,28,29,30,31,32,33,34,35,36,37,38,39,40,41,42,43,44,45,46,47,48,49,50,51,52,53,54,55]
noncomputable def sc25:SC:=(⟨_,by cbv⟩:{c:SC // c=scH Tryz.prog Tryz.f25 []}).1
def rs25:List SOp:=[(.load true 13 (.tmp 4))]
theorem code25:FCode Tryz.prog 25 sc25 rs25 11:=fco Tryz.func25 rfl (by kernel_rfl)
noncomputable def sc26:SC:=(⟨_,by cbv⟩:{c:SC // c=scH Tryz.prog Tryz.f26 [[9,1,2,2,2,2,2,2,2,0,0]]}).1
def rs26:List SOp:=[(.load true 7 (.tmp 4)),(.mv (.tmp 5)),(.mv (.tmp 6))]
theorem code26:FCode Tryz.prog 26 sc26 rs26 33:=fco Tryz.func26 rfl (by kernel_rfl)
end Go.Proofs.YtjmgelbfndnpjaaGreatDoor
