import Derived.Test.YtkcnjajklnoahaaGreatDoorTYMG
import Derived.Test.YtkcnjajklnoahaaGreatDoorProg
set_option linter.unusedVariables false
set_option linter.unusedSimpArgs false
set_option maxRecDepth 100000
set_option maxHeartbeats 8000000
namespace Go.Proofs.YtkcnjajklnoahaaGreatDoor
open Go Go.Abs
noncomputable def sc32:SC:=(⟨_,by cbv⟩:{c:SC // c=scH Tryz.prog Tryz.f32 [[13,2,2,2,2,2,2,2,2,2,2,2,0,0,0],[16],[78]]}).1
def rs32:List SOp:=[(.mv (.tmp 4))]
theorem code32:FCode Tryz.prog 32 sc32 rs32 232:=fco Tryz.func32 rfl (by kernel_rfl)
def w32_0:List Nat:=[7,8,25,26,27,28,29,30,31,32,33,34,35,36,37,38,39,40,41,42,43,44,45]
def w32_1:List Nat:=[4,5,6,7,9,10,11,12,13,14,15,16,17,18,46,47,48,49,50,51,52,53,54,55,56,57,58,59,60,61,62,63,64,65,66,67,68,69,70,71,72,73,74,75,76,77,78,79,80,81,82,83,84,85,86,87,88,89,90,91,92,93,94,95,96,97,98,99,100,101,102,103,104,105,106,107,108,109,110,111,112,113,114,115,116,117,118,119,120,121,122,123,124,125,126,127,128,129,130,131,132,133,134,135,136,137,138,139,140,141,142,143,144,145,146,147,148,149,150,151,152,153,154,155,156,157,158,159,160,161,162,163,164,165,166,167,168,169,170,171,172,173,174,175,176,177,178,179,180,181,182,183,184,185,186,187,188,189,190,191,192,193,194,195,196,197,198,199,200,201,202,203,204,205,206,207,208,209,210,211,212,213,214,215,216,217,218,219,220,221,222,223,224,225,226,227,228,229,230,231]
def w32_2:List Nat:=[12,63,64,65,66,67,68,69,70,71,72,73,74,75,76,77,78,79,80,81,82]
def w32_3:List Nat:=[4,14,15,16,17,169,170,171,172,173,174,175,176,177,178,179,180,181,182,183,184,185,186,187,188,189,190,191,192,193,194,195,196,197,198,199,200,201,202,203,204,205]
noncomputable def sc33:SC:=(⟨_,by cbv⟩:{c:SC // c=scH Tryz.prog Tryz.f33 [[8]]}).1
def rs33:List SOp:=[(.mv (.tmp 2))]
theorem code33:FCode Tryz.prog 33 sc33 rs33 143:=fco Tryz.func33 rfl (by kernel_rfl)
def w33_0:List Nat:=[2,7,8,9,10,87,88,89,90,91,92,93,94,95,96,97,98,99,100,101,102,103,104,105,106,107,108,109,110,111,112,113,114,115,116,117,118,119,120,121,122,123,124,125,126,127]
def w33_1:List Nat:=[2,10,114,115,116,117,118,119,120,121,122,123,124,125,126,127]
def w33_2:List Nat:=[2,11,12,128,129,130,131,132,133,134,135,136,137,138,139,140,141,142]
noncomputable def sc34:SC:=(⟨_,by cbv⟩:{c:SC // c=scH Tryz.prog Tryz.f34 []}).1
def rs34:List SOp:=[(.load true 13 (.tmp 0))]
theorem code34:FCode Tryz.prog 34 sc34 rs34 14:=fco Tryz.func34 rfl (by kernel_rfl)
noncomputable def sc35:SC:=(⟨_,by cbv⟩:{c:SC // c=scH Tryz.prog Tryz.f35 []}).1
def rs35:List SOp:=[(.mv (.tmp 6))]
theorem code35:FCode Tryz.prog 35 sc35 rs35 40:=fco Tryz.func35 rfl (by kernel_rfl)
def w35_0:List Nat:=[2,7,8,18,19,20,21,22,23,24,25,26,27,28,29,30,31,32,33,34,35,36,37,38]
noncomputable def sc36:SC:=(⟨_,by cbv⟩:{c:SC // c=scH Tryz.prog Tryz.f36 []}).1
def rs36:List SOp:=[(.mv (.tmp 2))]
theorem code36:FCode Tryz.prog 36 sc36 rs36 10:=fco Tryz.func36 rfl (by kernel_rfl)
noncomputable def sc37:SC:=(⟨_,by cbv⟩:{c:SC // c=scH Tryz.prog Tryz.f37 [[11],[7],[12,2,2,2,2,2,2,2,2,2,2,0,0,0],[7],[8],[16]]}).1
def rs37:List SOp:=[(.mv (.tmp 6))]
theorem code37:FCode Tryz.prog 37 sc37 rs37 154:=fco Tryz.func37 rfl (by kernel_rfl)
def w37_0:List Nat:=[8,9,10,11,36,37,38,39,40,41,42,43,44,45,46,47,48,49,50,51,52,53,54,55,56,57,58,59,60]
def w37_1:List Nat:=[13,14,15,67,68,69,70,71,72,73,74,75,76,77,78,79,80,81,82,83,84,85,86,87,88,89,90,91,92,93,94,95,96,97,98,99,100,101,102,103,104,105]
def w37_2:List Nat:=[17,108,109,110,111,112,113,114,115,116,117,118,119,120,121,122,123,124,125,126,127,128,129,130,131,132,133,134,135,136,137,138,139,140,141,142,143,144,145,146,147,148,149,150,151,152]
noncomputable def sc38:SC:=(⟨_,by cbv⟩:{c:SC // c=scH Tryz.prog Tryz.f38 [[9,1,1,1,1,0,2,2,2,2]]}).1
def rs38:List SOp:=[(.mv (.tmp 4)),(.mv (.tmp 5))]
theorem code38:FCode Tryz.prog 38 sc38 rs38 138:=fco Tryz.func38 rfl (by kernel_rfl)
def w38_0:List Nat:=[4,5,8,9,10,12,13,14,15,16,17,19,20,21,22,39,40,41,42,43,44,45,46,47,48,49,50,51,52,53,54,55,56,57,58,59,60,61,62,63,64,65,66,67,68,69,70,71,72,73,74,75,76,77,78,79,80,81,82,83,84,85,86,87,88,89,90,91,92,93,94,95,96,97,98,99,100,101,102,103,104,105,106,107,108,109,110,111,112,113,114,115,116,117,118,119,120,121,122,123,124,125,126,127,128,129,130,131,132,133,134,135,136]
def w38_1:List Nat:=[17,19,20,21,90,91,92,93,94,95,96,97,98,99,100,101,102,103,104,105,106,107,108]
noncomputable def sc39:SC:=(⟨_,by cbv⟩:{c:SC // c=scH Tryz.prog Tryz.f39 [[5]]}).1
def rs39:List SOp:=[(.mv (.tmp 4))]
theorem code39:FCode Tryz.prog 39 sc39 rs39 24:=fco Tryz.func39 rfl (by kernel_rfl)
def w39_0:List Nat:=[4,5,6,7,8,9,10,11,12,13,14,15,16,17,18,19,20,21,22,23]
noncomputable def sc40:SC:=(⟨_,by cbv⟩:{c:SC // c=scH Tryz.prog Tryz.f40 []}).1
def rs40:List SOp:=[(.mv (.tmp 2))]
theorem code40:FCode Tryz.prog 40 sc40 rs40 26:=fco Tryz.func40 rfl (by kernel_rfl)
noncomputable def sc41:SC:=(⟨_,by cbv⟩:{c:SC // c=scH Tryz.prog Tryz.f41 []}).1
def rs41:List SOp:=[(.load true 7 (.tmp 4)),(.mv (.tmp 5))]
theorem code41:FCode Tryz.prog 41 sc41 rs41 28:=fco Tryz.func41 rfl (by kernel_rfl)
def w41_0:List Nat:=[5,6,7,8,9,10,11,12,13,14,15,16,17,18,19,20,21,22,23,24,25,26]
noncomputable def sc42:SC:=(⟨_,by cbv⟩:{c:SC // c=scH Tryz.prog Tryz.f42 [[9]]}).1
def rs42:List SOp:=[(.mv (.tmp 6))]
theorem code42:FCode Tryz.prog 42 sc42 rs42 57:=fco Tryz.func42 rfl (by kernel_rfl)
noncomputable def sc43:SC:=(⟨_,by cbv⟩:{c:SC // c=scH Tryz.prog Tryz.f43 []}).1
def rs43:List SOp:=[(.mv (.tmp 6))]
theorem code43:FCode Tryz.prog 43 sc43 rs43 26:=fco Tryz.func43 rfl (by kernel_rfl)
noncomputable def sc44:SC:=(⟨_,by cbv⟩:{c:SC // c=scH Tryz.prog Tryz.f44 []}).1
def rs44:List SOp:=[(.mv (.tmp 10)),(.mv (.tmp 11))]
theorem code44:FCode Tryz.prog 44 sc44 rs44 83:=fco Tryz.func44 rfl (by kernel_rfl)
def w44_0:List Nat:=[10,11,12,13,14,15,16,29,30,31,32,33,34,35,36,37,38,39,40,41,42,43,44,45,46,47,48,49,50,51,52,53,54,55,56,57,58,59,60,61,62,63,64,65,66,67,68,69,70,71,72,73,74,75,76,77,78,79,80,81,82]
def w44_1:List Nat:=[10,11,12,13,16,47,48,49,50,51,52,53,54,55,56,57,58,59,60,61,62,63,64,65,66,67,68,69,70,71,72,73,74,75,76,77,78,79,80,81,82]
noncomputable def sc45:SC:=(⟨_,by cbv⟩:{c:SC // c=scH Tryz.prog Tryz.f45 []}).1
def rs45:List SOp:=[(.mv (.tmp 4))]
theorem code45:FCode Tryz.prog 45 sc45 rs45 27:=fco Tryz.func45 rfl (by kernel_rfl)
def w45_0:List Nat:=[5,6,7,10,11,12,13,14,15,16,17,18,19,20,21,22,23,24,25]
noncomputable def sc46:SC:=(⟨_,by cbv⟩:{c:SC // c=scH Tryz.prog Tryz.f46 [[12,2,2,2,2,2,2,2,2,2,2,0,0,0]]}).1
def rs46:List SOp:=[(.mv (.tmp 4))]
theorem code46:FCode Tryz.prog 46 sc46 rs46 53:=fco Tryz.func46 rfl (by kernel_rfl)
noncomputable def sc47:SC:=(⟨_,by cbv⟩:{c:SC // c=scH Tryz.prog Tryz.f47 []}).1
def rs47:List SOp:=[(.mv (.tmp 4))]
theorem code47:FCode Tryz.prog 47 sc47 rs47 42:=fco Tryz.func47 rfl (by kernel_rfl)
noncomputable def sc48:SC:=(⟨_,by cbv⟩:{c:SC // c=scH Tryz.prog Tryz.f48 []}).1
def rs48:List SOp:=[(.mv (.tmp 6))]
theorem code48:FCode Tryz.prog 48 sc48 rs48 29:=fco Tryz.func48 rfl (by kernel_rfl)
def w48_0:List Nat:=[7,8,9,10,11,12,13,14,15,16,17,18,19,20,21,22,23,24,25,26,27]
noncomputable def sc49:SC:=(⟨_,by cbv⟩:{c:SC // c=scH Tryz.prog Tryz.f49 [[7]]}).1
def rs49:List SOp:=[(.mv (.tmp 4))]
theorem code49:FCode Tryz.prog 49 sc49 rs49 45:=fco Tryz.func49 rfl (by kernel_rfl)
def w49_0:List Nat:=[7,8,9,10,11,21,22,23,24,25,26,27,28,29,30,31,32,33,34,35,36,37,38,39,40,41,42,43]
noncomputable def sc50:SC:=(⟨_,by cbv⟩:{c:SC // c=scH Tryz.prog Tryz.f50 [[9,1,1,1,1,0,2,2,2,2]]}).1
def rs50:List SOp:=[(.mv (.tmp 4))]
theorem code50:FCode Tryz.prog 50 sc50 rs50 15:=fco Tryz.func50 rfl (by kernel_rfl)
noncomputable def sc51:SC:=(⟨_,by cbv⟩:{c:SC // c=scH Tryz.prog Tryz.f51 []}).1
def rs51:List SOp:=[(.mv (.tmp 2))]
theorem code51:FCode Tryz.prog 51 sc51 rs51 21:=fco Tryz.func51 rfl (by kernel_rfl)
noncomputable def sc52:SC:=(⟨_,by cbv⟩:{c:SC // c=scH Tryz.prog Tryz.f52 []}).1
def rs52:List SOp:=[(.load true 7 (.tmp 6)),(.mv (.tmp 7))]
theorem code52:FCode Tryz.prog 52 sc52 rs52 25:=fco Tryz.func52 rfl (by kernel_rfl)
def w52_0:List Nat:=[7,9,13,14,15,16,17,18,19,20,21,22,23]
noncomputable def sc53:SC:=(⟨_,by cbv⟩:{c:SC // c=scH Tryz.prog Tryz.f53 []}).1
def rs53:List SOp:=[(.mv (.tmp 2))]
theorem code53:FCode Tryz.prog 53 sc53 rs53 5:=fco Tryz.func53 rfl (by kernel_rfl)
noncomputable def sc54:SC:=(⟨_,by cbv⟩:{c:SC // c=scH Tryz.prog Tryz.f54 []}).1
def rs54:List SOp:=[(.mv (.tmp 2))]
theorem code54:FCode Tryz.prog 54 sc54 rs54 8:=fco Tryz.func54 rfl (by kernel_rfl)
end Go.Proofs.YtkcnjajklnoahaaGreatDoor
