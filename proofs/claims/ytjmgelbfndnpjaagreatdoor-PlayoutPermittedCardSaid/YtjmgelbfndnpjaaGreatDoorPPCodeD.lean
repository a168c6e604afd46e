import Derived.Test.YtjmgelbfndnpjaaGreatDoorPPMG
import Derived.Test.YtjmgelbfndnpjaaGreatDoorProg
set_option linter.unusedVariables false
set_option linter.unusedSimpArgs false
set_option maxRecDepth 100000
set_option maxHeartbeats 8000000
namespace Go.Proofs.YtjmgelbfndnpjaaGreatDoor
open Go Go.Abs
noncomputable def sc120:SC:=(⟨_,by cbv⟩:{c:SC // c=scH Tryz.prog Tryz.f120 [[12]]}).1
def rs120:List SOp:=[(.mv (.tmp 6))]
theorem code120:FCode Tryz.prog 120 sc120 rs120 145:=fco Tryz.func120 rfl (by kernel_rfl)
def w120_0:List Nat:=[7,10,27,28,29,30,31,32,33,34,35,36,37,38,39,40,41,42,43,44,45,46,47,48,49,50,51,52,53,54,55,56,57,58,59,60]
def w120_1:List Nat:=[13,74,75,76,77,78,79,80,81]
def w120_2:List Nat:=[21,104,105,106,107,108,109,110,111,112,113,114,115,116,117,118,119,120]
def w120_3:List Nat:=[22,23,24,123,124,125,126,127,128,129,130,131,132,133,134,135,136,137,138,139,140,141,142]
noncomputable def sc121:SC:=(⟨_,by cbv⟩:{c:SC // c=scH Tryz.prog Tryz.f121 []}).1
def rs121:List SOp:=[(.mv (.tmp 4))]
theorem code121:FCode Tryz.prog 121 sc121 rs121 37:=fco Tryz.func121 rfl (by kernel_rfl)
def w121_0:List Nat:=[5,7,10,11,12,13,14,15,16,17,18,19,20,21,22,23,24,25,26,27,28,29,30,31,32,33,34,35]
noncomputable def sc122:SC:=(⟨_,by cbv⟩:{c:SC // c=scH Tryz.prog Tryz.f122 [[11]]}).1
def rs122:List SOp:=[(.mv (.tmp 8))]
theorem code122:FCode Tryz.prog 122 sc122 rs122 111:=fco Tryz.func122 rfl (by kernel_rfl)
def w122_0:List Nat:=[16,18,82,83,84,85,86,87,88,89,90,91,92,93,94,95,96,97,98,99,100,101,102,103,104,105,106,107,108,109]
def w122_1:List Nat:=[18,91,92,93,94,95,96,97,98,99,100,101,102,103,104,105,106,107,108,109]
noncomputable def sc123:SC:=(⟨_,by cbv⟩:{c:SC // c=scH Tryz.prog Tryz.f123 []}).1
def rs123:List SOp:=[(.mv (.tmp 4))]
theorem code123:FCode Tryz.prog 123 sc123 rs123 6:=fco Tryz.func123 rfl (by kernel_rfl)
noncomputable def sc124:SC:=(⟨_,by cbv⟩:{c:SC // c=scH Tryz.prog Tryz.f124 []}).1
def rs124:List SOp:=[(.mv (.tmp 4))]
theorem code124:FCode Tryz.prog 124 sc124 rs124 11:=fco Tryz.func124 rfl (by kernel_rfl)
noncomputable def sc125:SC:=(⟨_,by cbv⟩:{c:SC // c=scH Tryz.prog Tryz.f125 []}).1
def rs125:List SOp:=[(.mv (.tmp 2))]
theorem code125:FCode Tryz.prog 125 sc125 rs125 36:=fco Tryz.func125 rfl (by kernel_rfl)
noncomputable def sc126:SC:=(⟨_,by cbv⟩:{c:SC // c=scH Tryz.prog Tryz.f126 []}).1
def rs126:List SOp:=[(.mv (.tmp 4))]
theorem code126:FCode Tryz.prog 126 sc126 rs126 25:=fco Tryz.func126 rfl (by kernel_rfl)
def w126_0:List Nat:=[5,7,13,14,15,16,17,18,19,20,21,22,23]
noncomputable def sc127:SC:=(⟨_,by cbv⟩:{c:SC // c=scH Tryz.prog Tryz.f127 []}).1
def rs127:List SOp:=[(.mv (.tmp 2))]
theorem code127:FCode Tryz.prog 127 sc127 rs127 5:=fco Tryz.func127 rfl (by kernel_rfl)
noncomputable def sc128:SC:=(⟨_,by cbv⟩:{c:SC // c=scH Tryz.prog Tryz.f128 []}).1
def rs128:List SOp:=[(.mv (.tmp 4))]
theorem code128:FCode Tryz.prog 128 sc128 rs128 19:=fco Tryz.func128 rfl (by kernel_rfl)
def w128_0:List Nat:=[4,5,8,9,10,11,12,13,14,15,16,17,18]
noncomputable def sc129:SC:=(⟨_,by cbv⟩:{c:SC // c=scH Tryz.prog Tryz.f129 [[5]]}).1
def rs129:List SOp:=[(.mv (.tmp 4))]
theorem code129:FCode Tryz.prog 129 sc129 rs129 19:=fco Tryz.func129 rfl (by kernel_rfl)
def w129_0:List Nat:=[4,5,8,9,10,11,12,13,14,15,16,17,18]
noncomputable def sc130:SC:=(⟨_,by cbv⟩:{c:SC // c=scH Tryz.prog Tryz.f130 []}).1
def rs130:List SOp:=[(.mv (.tmp 6))]
theorem code130:FCode Tryz.prog 130 sc130 rs130 11:=fco Tryz.func130 rfl (by kernel_rfl)
noncomputable def sc131:SC:=(⟨_,by cbv⟩:{c:SC // c=scH Tryz.prog Tryz.f131 []}).1
def rs131:List SOp:=[(.mv (.tmp 6))]
theorem code131:FCode Tryz.prog 131 sc131 rs131 55:=fco Tryz.func131 rfl (by kernel_rfl)
def w131_0:List Nat:=[7,9,10,13,14,15,16,17,18,19,20,21,22,23,24,25,26,27,28,29,30,31,32,33,34,35,36,37,38,39,40,41,42,43,44,45,46,47,48,49,50,51,52,53]
noncomputable def sc132:SC:=(⟨_,by cbv⟩:{c:SC // c=scH Tryz.prog Tryz.f132 []}).1
def rs132:List SOp:=[(.mv (.tmp 2))]
theorem code132:FCode Tryz.prog 132 sc132 rs132 10:=fco Tryz.func132 rfl (by kernel_rfl)
noncomputable def sc133:SC:=(⟨_,by cbv⟩:{c:SC // c=scH Tryz.prog Tryz.f133 []}).1
def rs133:List SOp:=[(.mv (.tmp 2))]
theorem code133:FCode Tryz.prog 133 sc133 rs133 12:=fco Tryz.func133 rfl (by kernel_rfl)
noncomputable def sc134:SC:=(⟨_,by cbv⟩:{c:SC // c=scH Tryz.prog Tryz.f134 []}).1
def rs134:List SOp:=[(.mv (.tmp 4))]
theorem code134:FCode Tryz.prog 134 sc134 rs134 10:=fco Tryz.func134 rfl (by kernel_rfl)
noncomputable def sc135:SC:=(⟨_,by cbv⟩:{c:SC // c=scH Tryz.prog Tryz.f135 []}).1
def rs135:List SOp:=[(.mv (.tmp 4))]
theorem code135:FCode Tryz.prog 135 sc135 rs135 35:=fco Tryz.func135 rfl (by kernel_rfl)
noncomputable def sc136:SC:=Qm Tryz.prog Tryz.f136
noncomputable def rs136:List SOp:=Xz Tryz.prog Tryz.f136
theorem code136:FCode Tryz.prog 136 sc136 rs136 51:=fco Tryz.func136 rfl (by kernel_rfl)
noncomputable def sc137:SC:=Qm Tryz.prog Tryz.f137
noncomputable def rs137:List SOp:=Xz Tryz.prog Tryz.f137
theorem code137:FCode Tryz.prog 137 sc137 rs137 59:=fco Tryz.func137 rfl (by kernel_rfl)
noncomputable def sc138:SC:=Qm Tryz.prog Tryz.f138
noncomputable def rs138:List SOp:=Xz Tryz.prog Tryz.f138
theorem code138:FCode Tryz.prog 138 sc138 rs138 75:=fco Tryz.func138 rfl (by kernel_rfl)
noncomputable def sc139:SC:=Qm Tryz.prog Tryz.f139
noncomputable def rs139:List SOp:=Xz Tryz.prog Tryz.f139
theorem code139:FCode Tryz.prog 139 sc139 rs139 40:=fco Tryz.func139 rfl (by kernel_rfl)
noncomputable def sc140:SC:=Qm Tryz.prog Tryz.f140
noncomputable def rs140:List SOp:=Xz Tryz.prog Tryz.f140
theorem code140:FCode Tryz.prog 140 sc140 rs140 34:=fco Tryz.func140 rfl (by kernel_rfl)
noncomputable def sc141:SC:=(⟨_,by cbv⟩:{c:SC // c=scH Tryz.prog Tryz.f141 []}).1
def rs141:List SOp:=[(.mv (.tmp 2))]
theorem code141:FCode Tryz.prog 141 sc141 rs141 17:=fco Tryz.func141 rfl (by kernel_rfl)
noncomputable def sc142:SC:=(⟨_,by cbv⟩:{c:SC // c=scH Tryz.prog Tryz.f142 []}).1
def rs142:List SOp:=[(.mv (.tmp 4))]
theorem code142:FCode Tryz.prog 142 sc142 rs142 42:=fco Tryz.func142 rfl (by kernel_rfl)
def w142_0:List Nat:=[5,6,7,16,17,18,19,20,21,22,23,24,25,26,27,28,29,30,31,32,33,34,35]
noncomputable def sc143:SC:=(⟨_,by cbv⟩:{c:SC // c=scH Tryz.prog Tryz.f143 []}).1
def rs143:List SOp:=[]
theorem code143:FCode Tryz.prog 143 sc143 rs143 14:=fco Tryz.func143 rfl (by kernel_rfl)
noncomputable def sc144:SC:=Qm Tryz.prog Tryz.f144
noncomputable def rs144:List SOp:=Xz Tryz.prog Tryz.f144
theorem code144:FCode Tryz.prog 144 sc144 rs144 12:=fco Tryz.func144 rfl (by kernel_rfl)
noncomputable def sc145:SC:=(⟨_,by cbv⟩:{c:SC // c=scH Tryz.prog Tryz.f145 []}).1
def rs145:List SOp:=[(.mv (.tmp 2))]
theorem code145:FCode Tryz.prog 145 sc145 rs145 9:=fco Tryz.func145 rfl (by kernel_rfl)
noncomputable def sc146:SC:=(⟨_,by cbv⟩:{c:SC // c=scH Tryz.prog Tryz.f146 []}).1
def rs146:List SOp:=[(.mv (.tmp 6))]
theorem code146:FCode Tryz.prog 146 sc146 rs146 23:=fco Tryz.func146 rfl (by kernel_rfl)
noncomputable def sc147:SC:=(⟨_,by cbv⟩:{c:SC // c=scH Tryz.prog Tryz.f147 []}).1
def rs147:List SOp:=[]
theorem code147:FCode Tryz.prog 147 sc147 rs147 11:=fco Tryz.func147 rfl (by kernel_rfl)
noncomputable def sc148:SC:=(⟨_,by cbv⟩:{c:SC // c=scH Tryz.prog Tryz.f148 [[9],[9]]}).1
def rs148:List SOp:=[(.mv (.tmp 2))]
theorem code148:FCode Tryz.prog 148 sc148 rs148 61:=fco Tryz.func148 rfl (by kernel_rfl)
def w148_0:List Nat:=[2,3,4,5,10,11,12,13,14,15,16,17,18,19,20,21,22,23,24,25,26,27,28,29,30,31,32,33,34,35,36,37,38,39,40,41,42,43,44,45,46,47,48,49,50,51,52,53,54,55,56,57,58,59]
def w148_1:List Nat:=[3,5,29,30,31,32,33,34,35,36,37,38,39,40,41,42,43,44,45,46,47,48,49,50,51,52,53]
noncomputable def sc149:SC:=(⟨_,by cbv⟩:{c:SC // c=scH Tryz.prog Tryz.f149 [[9]]}).1
def rs149:List SOp:=[(.mv (.tmp 3))]
theorem code149:FCode Tryz.prog 149 sc149 rs149 25:=fco Tryz.func149 rfl (by kernel_rfl)
def w149_0:List Nat:=[0,4,5,6,7,8,9,10,11,12,13,14,15,16,17,18,19,20,21,22,23]
noncomputable def sc150:SC:=(⟨_,by cbv⟩:{c:SC // c=scH Tryz.prog Tryz.f150 []}).1
def rs150:List SOp:=[(.mv (.tmp 2))]
theorem code150:FCode Tryz.prog 150 sc150 rs150 4:=fco Tryz.func150 rfl (by kernel_rfl)
noncomputable def sc151:SC:=(⟨_,by cbv⟩:{c:SC // c=scH Tryz.prog Tryz.f151 []}).1
def rs151:List SOp:=[(.mv (.tmp 4)),(.mv (.tmp 5))]
theorem code151:FCode Tryz.prog 151 sc151 rs151 54:=fco Tryz.func151 rfl (by kernel_rfl)
def w151_0:List Nat:=[7,8,9,13,14,15,16,17,18,19,20,21,22,23,24,25,26,27,28,29,30]
noncomputable def sc152:SC:=(⟨_,by cbv⟩:{c:SC // c=scH Tryz.prog Tryz.f152 []}).1
def rs152:List SOp:=[(.mv (.tmp 2))]
theorem code152:FCode Tryz.prog 152 sc152 rs152 9:=fco Tryz.func152 rfl (by kernel_rfl)
noncomputable def sc153:SC:=(⟨_,by cbv⟩:{c:SC // c=scH Tryz.prog Tryz.f153 []}).1
def rs153:List SOp:=[]
theorem code153:FCode Tryz.prog 153 sc153 rs153 35:=fco Tryz.func153 rfl (by kernel_rfl)
noncomputable def sc154:SC:=(⟨_,by cbv⟩:{c:SC // c=scH Tryz.prog Tryz.f154 []}).1
def rs154:List SOp:=[(.mv (.tmp 2))]
theorem code154:FCode Tryz.prog 154 sc154 rs154 4:=fco Tryz.func154 rfl (by kernel_rfl)
noncomputable def sc155:SC:=(⟨_,by cbv⟩:{c:SC // c=scH Tryz.prog Tryz.f155 []}).1
def rs155:List SOp:=[(.mv (.tmp 2)),(.mv (.tmp 3))]
theorem code155:FCode Tryz.prog 155 sc155 rs155 18:=fco Tryz.func155 rfl (by kernel_rfl)
noncomputable def sc156:SC:=(⟨_,by cbv⟩:{c:SC // c=scH Tryz.prog Tryz.f156 []}).1
def rs156:List SOp:=[(.mv (.tmp 4))]
theorem code156:FCode Tryz.prog 156 sc156 rs156 24:=fco Tryz.func156 rfl (by kernel_rfl)
noncomputable def sc157:SC:=(⟨_,by cbv⟩:{c:SC // c=scH Tryz.prog Tryz.f157 [[24],[10]]}).1
def rs157:List SOp:=[]
theorem code157:FCode Tryz.prog 157 sc157 rs157 66:=fco Tryz.func157 rfl (by kernel_rfl)
def w157_0:List Nat:=[4,5,6,7,8,9,10,11,12,13,14,15,16,17,18,19,20,21,22,23,24,25,26,27,28,29,30,31,32,33,34,35,36,37,38,39,40,41,42,43,44,45,46,47,48,49,50,51,52,53,54,55,56,57,58,59,60,61,62,63,64,65]
noncomputable def sc158:SC:=(⟨_,by cbv⟩:{c:SC // c=scH Tryz.prog Tryz.f158 []}).1
def rs158:List SOp:=[(.mv (.tmp 2))]
theorem code158:FCode Tryz.prog 158 sc158 rs158 4:=fco Tryz.func158 rfl (by kernel_rfl)
noncomputable def sc159:SC:=(⟨_,by cbv⟩:{c:SC // c=scH Tryz.prog Tryz.f159 []}).1
def rs159:List SOp:=[(.load false 1 (.tmp 10))]
theorem code159:FCode Tryz.prog 159 sc159 rs159 34:=fco Tryz.func159 rfl (by kernel_rfl)
noncomputable def sc160:SC:=(⟨_,by cbv⟩:{c:SC // c=scH Tryz.prog Tryz.f160 []}).1
def rs160:List SOp:=[(.mv (.tmp 2))]
theorem code160:FCode Tryz.prog 160 sc160 rs160 36:=fco Tryz.func160 rfl (by kernel_rfl)
def w160_0:List Nat:=[3,5,11,12,13,14,15,16,17,18,19,20,21,22]
def w160_1:List Nat:=[6,8,27,28,29,30,31,32,33,34]
noncomputable def sc161:SC:=Qm Tryz.prog Tryz.f161
noncomputable def rs161:List SOp:=Xz Tryz.prog Tryz.f161
theorem code161:FCode Tryz.prog 161 sc161 rs161 20:=fco Tryz.func161 rfl (by kernel_rfl)
noncomputable def sc162:SC:=Qm Tryz.prog Tryz.f162
noncomputable def rs162:List SOp:=Xz Tryz.prog Tryz.f162
theorem code162:FCode Tryz.prog 162 sc162 rs162 4:=fco Tryz.func162 rfl (by kernel_rfl)
noncomputable def sc163:SC:=Qm Tryz.prog Tryz.f163
noncomputable def rs163:List SOp:=Xz Tryz.prog Tryz.f163
theorem code163:FCode Tryz.prog 163 sc163 rs163 25:=fco Tryz.func163 rfl (by kernel_rfl)
noncomputable def sc164:SC:=Qm Tryz.prog Tryz.f164
noncomputable def rs164:List SOp:=Xz Tryz.prog Tryz.f164
theorem code164:FCode Tryz.prog 164 sc164 rs164 19:=fco Tryz.func164 rfl (by kernel_rfl)
noncomputable def sc165:SC:=Qm Tryz.prog Tryz.f165
noncomputable def rs165:List SOp:=Xz Tryz.prog Tryz.f165
theorem code165:FCode Tryz.prog 165 sc165 rs165 14:=fco Tryz.func165 rfl (by kernel_rfl)
noncomputable def sc166:SC:=Qm Tryz.prog Tryz.f166
noncomputable def rs166:List SOp:=Xz Tryz.prog Tryz.f166
theorem code166:FCode Tryz.prog 166 sc166 rs166 4:=fco Tryz.func166 rfl (by kernel_rfl)
noncomputable def sc167:SC:=(⟨_,by cbv⟩:{c:SC // c=scH Tryz.prog Tryz.f167 []}).1
def rs167:List SOp:=[(.mv (.tmp 4))]
theorem code167:FCode Tryz.prog 167 sc167 rs167 19:=fco Tryz.func167 rfl (by kernel_rfl)
def w167_0:List Nat:=[4,5,8,9,10,11,12,13,14,15,16,17,18]
noncomputable def sc168:SC:=Qm Tryz.prog Tryz.f168
noncomputable def rs168:List SOp:=Xz Tryz.prog Tryz.f168
theorem code168:FCode Tryz.prog 168 sc168 rs168 148:=fco Tryz.func168 rfl (by kernel_rfl)
noncomputable def sc169:SC:=Qm Tryz.prog Tryz.f169
noncomputable def rs169:List SOp:=Xz Tryz.prog Tryz.f169
theorem code169:FCode Tryz.prog 169 sc169 rs169 8:=fco Tryz.func169 rfl (by kernel_rfl)
noncomputable def sc170:SC:=Qm Tryz.prog Tryz.f170
noncomputable def rs170:List SOp:=Xz Tryz.prog Tryz.f170
theorem code170:FCode Tryz.prog 170 sc170 rs170 20:=fco Tryz.func170 rfl (by kernel_rfl)
noncomputable def sc171:SC:=Qm Tryz.prog Tryz.f171
noncomputable def rs171:List SOp:=Xz Tryz.prog Tryz.f171
theorem code171:FCode Tryz.prog 171 sc171 rs171 134:=fco Tryz.func171 rfl (by kernel_rfl)
noncomputable def sc172:SC:=(⟨_,by cbv⟩:{c:SC // c=scH Tryz.prog Tryz.f172 []}).1
def rs172:List SOp:=[]
theorem code172:FCode Tryz.prog 172 sc172 rs172 19:=fco Tryz.func172 rfl (by kernel_rfl)
def w172_0:List Nat:=[3,7,8,9,10,11,12,13,14,15,16,17,18]
noncomputable def sc173:SC:=(⟨_,by cbv⟩:{c:SC // c=scH Tryz.prog Tryz.f173 []}).1
def rs173:List SOp:=[(.mv (.tmp 4))]
theorem code173:FCode Tryz.prog 173 sc173 rs173 17:=fco Tryz.func173 rfl (by kernel_rfl)
noncomputable def sc174:SC:=(⟨_,by cbv⟩:{c:SC // c=scH Tryz.prog Tryz.f174 []}).1
def rs174:List SOp:=[(.mv (.tmp 2))]
theorem code174:FCode Tryz.prog 174 sc174 rs174 6:=fco Tryz.func174 rfl (by kernel_rfl)
noncomputable def sc175:SC:=(⟨_,by cbv⟩:{c:SC // c=scH Tryz.prog Tryz.f175 []}).1
def rs175:List SOp:=[]
theorem code175:FCode Tryz.prog 175 sc175 rs175 40:=fco Tryz.func175 rfl (by kernel_rfl)
def w175_0:List Nat:=[5,12,13,14,15,16,17,18,19,20,21,22,23,24,25,26,27,28,29,30,31,32,33,34,35]
noncomputable def sc176:SC:=(⟨_,by cbv⟩:{c:SC // c=scH Tryz.prog Tryz.f176 []}).1
def rs176:List SOp:=[]
theorem code176:FCode Tryz.prog 176 sc176 rs176 23:=fco Tryz.func176 rfl (by kernel_rfl)
def w176_0:List Nat:=[4,7,8,9,10,11,12,13,14,15,16,17,18,19,20,21,22]
noncomputable def sc177:SC:=Qm Tryz.prog Tryz.f177
noncomputable def rs177:List SOp:=Xz Tryz.prog Tryz.f177
theorem code177:FCode Tryz.prog 177 sc177 rs177 27:=fco Tryz.func177 rfl (by kernel_rfl)
noncomputable def sc178:SC:=Qm Tryz.prog Tryz.f178
noncomputable def rs178:List SOp:=Xz Tryz.prog Tryz.f178
theorem code178:FCode Tryz.prog 178 sc178 rs178 33:=fco Tryz.func178 rfl (by kernel_rfl)
noncomputable def sc179:SC:=Qm Tryz.prog Tryz.f179
noncomputable def rs179:List SOp:=Xz Tryz.prog Tryz.f179
theorem code179:FCode Tryz.prog 179 sc179 rs179 20:=fco Tryz.func179 rfl (by kernel_rfl)
noncomputable def sc180:SC:=Qm Tryz.prog Tryz.f180
noncomputable def rs180:List SOp:=Xz Tryz.prog Tryz.f180
theorem code180:FCode Tryz.prog 180 sc180 rs180 30:=fco Tryz.func180 rfl (by kernel_rfl)
noncomputable def sc181:SC:=Qm Tryz.prog Tryz.f181
noncomputable def rs181:List SOp:=Xz Tryz.prog Tryz.f181
theorem code181:FCode Tryz.prog 181 sc181 rs181 19:=fco Tryz.func181 rfl (by kernel_rfl)
noncomputable def sc182:SC:=Qm Tryz.prog Tryz.f182
noncomputable def rs182:List SOp:=Xz Tryz.prog Tryz.f182
theorem code182:FCode Tryz.prog 182 sc182 rs182 53:=fco Tryz.func182 rfl (by kernel_rfl)
noncomputable def sc183:SC:=Qm Tryz.prog Tryz.f183
noncomputable def rs183:List SOp:=Xz Tryz.prog Tryz.f183
theorem code183:FCode Tryz.prog 183 sc183 rs183 60:=fco Tryz.func183 rfl (by kernel_rfl)
noncomputable def sc184:SC:=Qm Tryz.prog Tryz.f184
noncomputable def rs184:List SOp:=Xz Tryz.prog Tryz.f184
theorem code184:FCode Tryz.prog 184 sc184 rs184 67:=fco Tryz.func184 rfl (by kernel_rfl)
noncomputable def sc185:SC:=Qm Tryz.prog Tryz.f185
noncomputable def rs185:List SOp:=Xz Tryz.prog Tryz.f185
theorem code185:FCode Tryz.prog 185 sc185 rs185 63:=fco Tryz.func185 rfl (by kernel_rfl)
end Go.Proofs.YtjmgelbfndnpjaaGreatDoor
