import Derived.Test.YtkcnjajklnoahaaGreatDoorTYMG
import Derived.Test.YtkcnjajklnoahaaGreatDoorProg
set_option linter.unusedVariables false
set_option linter.unusedSimpArgs false
set_option maxRecDepth 100000
set_option maxHeartbeats 8000000
namespace Go.Proofs.YtkcnjajklnoahaaGreatDoor
open Go Go.Abs
noncomputable def sc113:SC:=(⟨_,by cbv⟩:{c:SC // c=scH Tryz.prog Tryz.f113 [[12,2,2,2,2,2,2,2,2,2,2,0,0,0]]}).1
def rs113:List SOp:=[(.mv (.tmp 4))]
theorem code113:FCode Tryz.prog 113 sc113 rs113 38:=fco Tryz.func113 rfl (by kernel_rfl)
noncomputable def sc114:SC:=(⟨_,by cbv⟩:{c:SC // c=scH Tryz.prog Tryz.f114 [[3]]}).1
def rs114:List SOp:=[(.mv (.tmp 2))]
theorem code114:FCode Tryz.prog 114 sc114 rs114 95:=fco Tryz.func114 rfl (by kernel_rfl)
noncomputable def sc115:SC:=(⟨_,by cbv⟩:{c:SC // c=scH Tryz.prog Tryz.f115 [[12]]}).1
def rs115:List SOp:=[(.mv (.tmp 4))]
theorem code115:FCode Tryz.prog 115 sc115 rs115 66:=fco Tryz.func115 rfl (by kernel_rfl)
def w115_0:List Nat:=[8,10,11,18,19,20,21,22,23,24,25,26,27,28,29,30,31,32,33,34,35,36,37,38,39,40,41,42,43,44,45,46,47,48,49,50,51,52,53,54,55,56,57,58,59,60,61,62,63,64]
def w115_1:List Nat:=[8,11,24,25,26,27,28,29,30,31,32,33,34,35,36,37,38,39,40,41,42,43,44,45,46,47,48,49,50,51,52,53,54,55,56,57,58]
noncomputable def sc116:SC:=(⟨_,by cbv⟩:{c:SC // c=scH Tryz.prog Tryz.f116 []}).1
def rs116:List SOp:=[(.mv (.tmp 2))]
theorem code116:FCode Tryz.prog 116 sc116 rs116 21:=fco Tryz.func116 rfl (by kernel_rfl)
noncomputable def sc117:SC:=(⟨_,by cbv⟩:{c:SC // c=scH Tryz.prog Tryz.f117 [[6]]}).1
def rs117:List SOp:=[(.mv (.tmp 4))]
theorem code117:FCode Tryz.prog 117 sc117 rs117 12:=fco Tryz.func117 rfl (by kernel_rfl)
noncomputable def sc118:SC:=(⟨_,by cbv⟩:{c:SC // c=scH Tryz.prog Tryz.f118 []}).1
def rs118:List SOp:=[(.mv (.tmp 8))]
theorem code118:FCode Tryz.prog 118 sc118 rs118 10:=fco Tryz.func118 rfl (by kernel_rfl)
noncomputable def sc119:SC:=(⟨_,by cbv⟩:{c:SC // c=scH Tryz.prog Tryz.f119 []}).1
def rs119:List SOp:=[(.mv (.tmp 4))]
theorem code119:FCode Tryz.prog 119 sc119 rs119 18:=fco Tryz.func119 rfl (by kernel_rfl)
noncomputable def sc120:SC:=(⟨_,by cbv⟩:{c:SC // c=scH Tryz.prog Tryz.f120 []}).1
def rs120:List SOp:=[(.mv (.tmp 3))]
theorem code120:FCode Tryz.prog 120 sc120 rs120 11:=fco Tryz.func120 rfl (by kernel_rfl)
noncomputable def sc121:SC:=(⟨_,by cbv⟩:{c:SC // c=scH Tryz.prog Tryz.f121 []}).1
def rs121:List SOp:=[(.load true 4 (.tmp 2)),(.mv (.tmp 3))]
theorem code121:FCode Tryz.prog 121 sc121 rs121 17:=fco Tryz.func121 rfl (by kernel_rfl)
def w121_0:List Nat:=[3,5,7,8,9,10,11,12,13,14,15]
noncomputable def sc122:SC:=(⟨_,by cbv⟩:{c:SC // c=scH Tryz.prog Tryz.f122 []}).1
def rs122:List SOp:=[(.mv (.tmp 4))]
theorem code122:FCode Tryz.prog 122 sc122 rs122 11:=fco Tryz.func122 rfl (by kernel_rfl)
noncomputable def sc123:SC:=(⟨_,by cbv⟩:{c:SC // c=scH Tryz.prog Tryz.f123 []}).1
def rs123:List SOp:=[(.load false 1 (.tmp 10))]
theorem code123:FCode Tryz.prog 123 sc123 rs123 34:=fco Tryz.func123 rfl (by kernel_rfl)
noncomputable def sc124:SC:=(⟨_,by cbv⟩:{c:SC // c=scH Tryz.prog Tryz.f124 []}).1
def rs124:List SOp:=[(.mv (.tmp 0))]
theorem code124:FCode Tryz.prog 124 sc124 rs124 18:=fco Tryz.func124 rfl (by kernel_rfl)
noncomputable def sc125:SC:=(⟨_,by cbv⟩:{c:SC // c=scH Tryz.prog Tryz.f125 [[12],[13]]}).1
def rs125:List SOp:=[(.mv (.tmp 2))]
theorem code125:FCode Tryz.prog 125 sc125 rs125 73:=fco Tryz.func125 rfl (by kernel_rfl)
def w125_0:List Nat:=[3,5,15,16,17,18,19,20,21,22,23,24]
def w125_1:List Nat:=[6,8,9,31,32,33,34,35,36,37,38,39,40,41,42,43,44,45,46,47,48,49,50,51,52,53,54,55,56,57,58,59,60,61,62,63,64,65,66,67,68,69,70,71]
noncomputable def sc126:SC:=(⟨_,by cbv⟩:{c:SC // c=scH Tryz.prog Tryz.f126 []}).1
def rs126:List SOp:=[(.mv (.tmp 2))]
theorem code126:FCode Tryz.prog 126 sc126 rs126 10:=fco Tryz.func126 rfl (by kernel_rfl)
noncomputable def sc127:SC:=(⟨_,by cbv⟩:{c:SC // c=scH Tryz.prog Tryz.f127 []}).1
def rs127:List SOp:=[(.mv (.tmp 2))]
theorem code127:FCode Tryz.prog 127 sc127 rs127 12:=fco Tryz.func127 rfl (by kernel_rfl)
noncomputable def sc128:SC:=(⟨_,by cbv⟩:{c:SC // c=scH Tryz.prog Tryz.f128 []}).1
def rs128:List SOp:=[(.mv (.tmp 4))]
theorem code128:FCode Tryz.prog 128 sc128 rs128 10:=fco Tryz.func128 rfl (by kernel_rfl)
noncomputable def sc129:SC:=(⟨_,by cbv⟩:{c:SC // c=scH Tryz.prog Tryz.f129 []}).1
def rs129:List SOp:=[(.mv (.tmp 4))]
theorem code129:FCode Tryz.prog 129 sc129 rs129 18:=fco Tryz.func129 rfl (by kernel_rfl)
def w129_0:List Nat:=[0,4,5,6,7,8,9,10,11,12,13,14,15,16,17]
noncomputable def sc130:SC:=(⟨_,by cbv⟩:{c:SC // c=scH Tryz.prog Tryz.f130 []}).1
def rs130:List SOp:=[(.mv (.tmp 2))]
theorem code130:FCode Tryz.prog 130 sc130 rs130 9:=fco Tryz.func130 rfl (by kernel_rfl)
noncomputable def sc131:SC:=(⟨_,by cbv⟩:{c:SC // c=scH Tryz.prog Tryz.f131 []}).1
def rs131:List SOp:=[(.mv (.tmp 4))]
theorem code131:FCode Tryz.prog 131 sc131 rs131 28:=fco Tryz.func131 rfl (by kernel_rfl)
def w131_0:List Nat:=[4,5,6,7,8,9,10,11,12,13,14,15,16,17,18,19,20,21,22,23,24,25,26,27]
noncomputable def sc132:SC:=(⟨_,by cbv⟩:{c:SC // c=scH Tryz.prog Tryz.f132 [[12],[15],[12]]}).1
def rs132:List SOp:=[(.mv (.tmp 6))]
theorem code132:FCode Tryz.prog 132 sc132 rs132 110:=fco Tryz.func132 rfl (by kernel_rfl)
def w132_0:List Nat:=[7,8,9,12,13,14,15,16,17,18,19,20,21,22,23,24,25,26,27,28,29,30,31,32,33,34,35,36,37,38,39,40,41,42,43,44,45,46,47,48,49,50,51,52,53]
def w132_1:List Nat:=[10,11,54,55,56,57,58,59,60,61,62,63,64,65,66,67,68,69,70,71,72,73,74,75,76,77,78,79,80,81,82,83,84,85,86,87,88,89,90,91,92,93,94,95,96,97,98,99,100,101,102,103,104,105,106,107,108]
noncomputable def sc133:SC:=(⟨_,by cbv⟩:{c:SC // c=scH Tryz.prog Tryz.f133 [[13]]}).1
def rs133:List SOp:=[(.mv (.tmp 4))]
theorem code133:FCode Tryz.prog 133 sc133 rs133 50:=fco Tryz.func133 rfl (by kernel_rfl)
def w133_0:List Nat:=[5,6,7,8,9,10,11,12,13,14,15,16,17,18,19,20,21,22,23,24,25,26,27,28,29,30,31,32,33,34,35,36,37,38,39,40,41,42,43,44,45,46,47,48]
noncomputable def sc134:SC:=(⟨_,by cbv⟩:{c:SC // c=scH Tryz.prog Tryz.f134 []}).1
def rs134:List SOp:=[(.mv (.tmp 8))]
theorem code134:FCode Tryz.prog 134 sc134 rs134 65:=fco Tryz.func134 rfl (by kernel_rfl)
noncomputable def sc135:SC:=(⟨_,by cbv⟩:{c:SC // c=scH Tryz.prog Tryz.f135 []}).1
def rs135:List SOp:=[(.mv (.tmp 2))]
theorem code135:FCode Tryz.prog 135 sc135 rs135 9:=fco Tryz.func135 rfl (by kernel_rfl)
noncomputable def sc136:SC:=(⟨_,by cbv⟩:{c:SC // c=scH Tryz.prog Tryz.f136 []}).1
def rs136:List SOp:=[(.mv (.tmp 8))]
theorem code136:FCode Tryz.prog 136 sc136 rs136 46:=fco Tryz.func136 rfl (by kernel_rfl)
def w136_0:List Nat:=[8,9,10,11,14,15,16,17,18,19,20,21,22,23,24,25,26,27,28,29,30,31,32,33,34,35,36,37,38,39,40,41,42,43,44,45]
noncomputable def sc137:SC:=(⟨_,by cbv⟩:{c:SC // c=scH Tryz.prog Tryz.f137 []}).1
def rs137:List SOp:=[(.mv (.tmp 2))]
theorem code137:FCode Tryz.prog 137 sc137 rs137 5:=fco Tryz.func137 rfl (by kernel_rfl)
noncomputable def sc138:SC:=(⟨_,by cbv⟩:{c:SC // c=scH Tryz.prog Tryz.f138 [[12,2,2,2,2,2,2,2,2,2,2,0,0,0]]}).1
def rs138:List SOp:=[(.mv (.tmp 4))]
theorem code138:FCode Tryz.prog 138 sc138 rs138 36:=fco Tryz.func138 rfl (by kernel_rfl)
noncomputable def sc139:SC:=(⟨_,by cbv⟩:{c:SC // c=scH Tryz.prog Tryz.f139 []}).1
def rs139:List SOp:=[(.mv (.tmp 4))]
theorem code139:FCode Tryz.prog 139 sc139 rs139 9:=fco Tryz.func139 rfl (by kernel_rfl)
noncomputable def sc140:SC:=(⟨_,by cbv⟩:{c:SC // c=scH Tryz.prog Tryz.f140 []}).1
def rs140:List SOp:=[(.mv (.tmp 4))]
theorem code140:FCode Tryz.prog 140 sc140 rs140 9:=fco Tryz.func140 rfl (by kernel_rfl)
noncomputable def sc141:SC:=(⟨_,by cbv⟩:{c:SC // c=scH Tryz.prog Tryz.f141 []}).1
def rs141:List SOp:=[(.load true 8 (.tmp 2))]
theorem code141:FCode Tryz.prog 141 sc141 rs141 54:=fco Tryz.func141 rfl (by kernel_rfl)
noncomputable def sc142:SC:=(⟨_,by cbv⟩:{c:SC // c=scH Tryz.prog Tryz.f142 []}).1
def rs142:List SOp:=[(.mv (.tmp 2))]
theorem code142:FCode Tryz.prog 142 sc142 rs142 11:=fco Tryz.func142 rfl (by kernel_rfl)
noncomputable def sc143:SC:=(⟨_,by cbv⟩:{c:SC // c=scH Tryz.prog Tryz.f143 []}).1
def rs143:List SOp:=[(.mv (.tmp 6))]
theorem code143:FCode Tryz.prog 143 sc143 rs143 15:=fco Tryz.func143 rfl (by kernel_rfl)
noncomputable def sc144:SC:=(⟨_,by cbv⟩:{c:SC // c=scH Tryz.prog Tryz.f144 []}).1
def rs144:List SOp:=[(.mv (.tmp 2))]
theorem code144:FCode Tryz.prog 144 sc144 rs144 10:=fco Tryz.func144 rfl (by kernel_rfl)
noncomputable def sc145:SC:=(⟨_,by cbv⟩:{c:SC // c=scH Tryz.prog Tryz.f145 []}).1
def rs145:List SOp:=[]
theorem code145:FCode Tryz.prog 145 sc145 rs145 14:=fco Tryz.func145 rfl (by kernel_rfl)
noncomputable def sc146:SC:=(⟨_,by cbv⟩:{c:SC // c=scH Tryz.prog Tryz.f146 []}).1
def rs146:List SOp:=[(.mv (.tmp 4))]
theorem code146:FCode Tryz.prog 146 sc146 rs146 20:=fco Tryz.func146 rfl (by kernel_rfl)
noncomputable def sc147:SC:=(⟨_,by cbv⟩:{c:SC // c=scH Tryz.prog Tryz.f147 []}).1
def rs147:List SOp:=[]
theorem code147:FCode Tryz.prog 147 sc147 rs147 39:=fco Tryz.func147 rfl (by kernel_rfl)
def w147_0:List Nat:=[7,23,24,25,26,27,28,29,30,31,32,33,34,35,36,37,38]
noncomputable def sc148:SC:=(⟨_,by cbv⟩:{c:SC // c=scH Tryz.prog Tryz.f148 [[12]]}).1
def rs148:List SOp:=[(.mv (.tmp 6))]
theorem code148:FCode Tryz.prog 148 sc148 rs148 145:=fco Tryz.func148 rfl (by kernel_rfl)
def w148_0:List Nat:=[7,10,27,28,29,30,31,32,33,34,35,36,37,38,39,40,41,42,43,44,45,46,47,48,49,50,51,52,53,54,55,56,57,58,59,60]
def w148_1:List Nat:=[13,74,75,76,77,78,79,80,81]
def w148_2:List Nat:=[21,104,105,106,107,108,109,110,111,112,113,114,115,116,117,118,119,120]
def w148_3:List Nat:=[22,23,24,123,124,125,126,127,128,129,130,131,132,133,134,135,136,137,138,139,140,141,142]
noncomputable def sc149:SC:=(⟨_,by cbv⟩:{c:SC // c=scH Tryz.prog Tryz.f149 []}).1
def rs149:List SOp:=[(.mv (.tmp 4))]
theorem code149:FCode Tryz.prog 149 sc149 rs149 37:=fco Tryz.func149 rfl (by kernel_rfl)
def w149_0:List Nat:=[5,7,10,11,12,13,14,15,16,17,18,19,20,21,22,23,24,25,26,27,28,29,30,31,32,33,34,35]
end Go.Proofs.YtkcnjajklnoahaaGreatDoor
