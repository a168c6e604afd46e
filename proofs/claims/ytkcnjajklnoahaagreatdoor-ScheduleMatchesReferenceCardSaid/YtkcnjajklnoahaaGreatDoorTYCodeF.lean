import Derived.Test.YtkcnjajklnoahaaGreatDoorTYMG
import Derived.Test.YtkcnjajklnoahaaGreatDoorProg
set_option linter.unusedVariables false
set_option linter.unusedSimpArgs false
set_option maxRecDepth 100000
set_option maxHeartbeats 8000000
namespace Go.Proofs.YtkcnjajklnoahaaGreatDoor
open Go Go.Abs
noncomputable def sc150:SC:=(⟨_,by cbv⟩:{c:SC // c=scH Tryz.prog Tryz.f150 [[11]]}).1
def rs150:List SOp:=[(.mv (.tmp 8))]
theorem code150:FCode Tryz.prog 150 sc150 rs150 111:=fco Tryz.func150 rfl (by kernel_rfl)
def w150_0:List Nat:=[16,18,82,83,84,85,86,87,88,89,90,91,92,93,94,95,96,97,98,99,100,101,102,103,104,105,106,107,108,109]
def w150_1:List Nat:=[18,91,92,93,94,95,96,97,98,99,100,101,102,103,104,105,106,107,108,109]
noncomputable def sc151:SC:=(⟨_,by cbv⟩:{c:SC // c=scH Tryz.prog Tryz.f151 []}).1
def rs151:List SOp:=[(.mv (.tmp 4))]
theorem code151:FCode Tryz.prog 151 sc151 rs151 6:=fco Tryz.func151 rfl (by kernel_rfl)
noncomputable def sc152:SC:=(⟨_,by cbv⟩:{c:SC // c=scH Tryz.prog Tryz.f152 []}).1
def rs152:List SOp:=[(.mv (.tmp 2))]
theorem code152:FCode Tryz.prog 152 sc152 rs152 4:=fco Tryz.func152 rfl (by kernel_rfl)
noncomputable def sc153:SC:=(⟨_,by cbv⟩:{c:SC // c=scH Tryz.prog Tryz.f153 []}).1
def rs153:List SOp:=[(.mv (.tmp 6))]
theorem code153:FCode Tryz.prog 153 sc153 rs153 23:=fco Tryz.func153 rfl (by kernel_rfl)
noncomputable def sc154:SC:=(⟨_,by cbv⟩:{c:SC // c=scH Tryz.prog Tryz.f154 []}).1
def rs154:List SOp:=[(.mv (.tmp 4))]
theorem code154:FCode Tryz.prog 154 sc154 rs154 42:=fco Tryz.func154 rfl (by kernel_rfl)
def w154_0:List Nat:=[5,6,7,16,17,18,19,20,21,22,23,24,25,26,27,28,29,30,31,32,33,34,35]
noncomputable def sc155:SC:=(⟨_,by cbv⟩:{c:SC // c=scH Tryz.prog Tryz.f155 []}).1
def rs155:List SOp:=[]
theorem code155:FCode Tryz.prog 155 sc155 rs155 14:=fco Tryz.func155 rfl (by kernel_rfl)
noncomputable def sc156:SC:=Qn Tryz.prog Tryz.f156
noncomputable def rs156:List SOp:=Uc Tryz.prog Tryz.f156
theorem code156:FCode Tryz.prog 156 sc156 rs156 12:=fco Tryz.func156 rfl (by kernel_rfl)
noncomputable def sc157:SC:=(⟨_,by cbv⟩:{c:SC // c=scH Tryz.prog Tryz.f157 []}).1
def rs157:List SOp:=[(.mv (.tmp 2))]
theorem code157:FCode Tryz.prog 157 sc157 rs157 36:=fco Tryz.func157 rfl (by kernel_rfl)
def w157_0:List Nat:=[3,5,11,12,13,14,15,16,17,18,19,20,21,22]
def w157_1:List Nat:=[6,8,27,28,29,30,31,32,33,34]
noncomputable def sc158:SC:=(⟨_,by cbv⟩:{c:SC // c=scH Tryz.prog Tryz.f158 []}).1
def rs158:List SOp:=[(.mv (.tmp 4))]
theorem code158:FCode Tryz.prog 158 sc158 rs158 47:=fco Tryz.func158 rfl (by kernel_rfl)
def w158_0:List Nat:=[5,7,8,9,10,11,12,13,14,15,16,17,18,19,20]
noncomputable def sc159:SC:=(⟨_,by cbv⟩:{c:SC // c=scH Tryz.prog Tryz.f159 []}).1
def rs159:List SOp:=[(.mv (.tmp 4))]
theorem code159:FCode Tryz.prog 159 sc159 rs159 35:=fco Tryz.func159 rfl (by kernel_rfl)
def w159_0:List Nat:=[4,5,9,10,11,12,13,14,15,16,17,18,19,20,21,22,23,24,25,26,27,28,29,30,31,32,33,34]
noncomputable def sc160:SC:=(⟨_,by cbv⟩:{c:SC // c=scH Tryz.prog Tryz.f160 []}).1
def rs160:List SOp:=[(.mv (.tmp 4)),(.mv (.tmp 5))]
theorem code160:FCode Tryz.prog 160 sc160 rs160 38:=fco Tryz.func160 rfl (by kernel_rfl)
noncomputable def sc161:SC:=(⟨_,by cbv⟩:{c:SC // c=scH Tryz.prog Tryz.f161 []}).1
def rs161:List SOp:=[(.mv (.tmp 4))]
theorem code161:FCode Tryz.prog 161 sc161 rs161 19:=fco Tryz.func161 rfl (by kernel_rfl)
def w161_0:List Nat:=[4,5,8,9,10,11,12,13,14,15,16,17,18]
noncomputable def sc162:SC:=(⟨_,by cbv⟩:{c:SC // c=scH Tryz.prog Tryz.f162 [[5]]}).1
def rs162:List SOp:=[(.mv (.tmp 4))]
theorem code162:FCode Tryz.prog 162 sc162 rs162 19:=fco Tryz.func162 rfl (by kernel_rfl)
def w162_0:List Nat:=[4,5,8,9,10,11,12,13,14,15,16,17,18]
noncomputable def sc163:SC:=(⟨_,by cbv⟩:{c:SC // c=scH Tryz.prog Tryz.f163 []}).1
def rs163:List SOp:=[(.mv (.tmp 2))]
theorem code163:FCode Tryz.prog 163 sc163 rs163 9:=fco Tryz.func163 rfl (by kernel_rfl)
noncomputable def sc164:SC:=(⟨_,by cbv⟩:{c:SC // c=scH Tryz.prog Tryz.f164 []}).1
def rs164:List SOp:=[]
theorem code164:FCode Tryz.prog 164 sc164 rs164 11:=fco Tryz.func164 rfl (by kernel_rfl)
noncomputable def sc165:SC:=(⟨_,by cbv⟩:{c:SC // c=scH Tryz.prog Tryz.f165 [[9],[9]]}).1
def rs165:List SOp:=[(.mv (.tmp 2))]
theorem code165:FCode Tryz.prog 165 sc165 rs165 61:=fco Tryz.func165 rfl (by kernel_rfl)
def w165_0:List Nat:=[2,3,4,5,10,11,12,13,14,15,16,17,18,19,20,21,22,23,24,25,26,27,28,29,30,31,32,33,34,35,36,37,38,39,40,41,42,43,44,45,46,47,48,49,50,51,52,53,54,55,56,57,58,59]
def w165_1:List Nat:=[3,5,29,30,31,32,33,34,35,36,37,38,39,40,41,42,43,44,45,46,47,48,49,50,51,52,53]
noncomputable def sc166:SC:=(⟨_,by cbv⟩:{c:SC // c=scH Tryz.prog Tryz.f166 [[9]]}).1
def rs166:List SOp:=[(.mv (.tmp 3))]
theorem code166:FCode Tryz.prog 166 sc166 rs166 25:=fco Tryz.func166 rfl (by kernel_rfl)
def w166_0:List Nat:=[0,4,5,6,7,8,9,10,11,12,13,14,15,16,17,18,19,20,21,22,23]
noncomputable def sc167:SC:=(⟨_,by cbv⟩:{c:SC // c=scH Tryz.prog Tryz.f167 []}).1
def rs167:List SOp:=[(.mv (.tmp 4)),(.mv (.tmp 5))]
theorem code167:FCode Tryz.prog 167 sc167 rs167 54:=fco Tryz.func167 rfl (by kernel_rfl)
def w167_0:List Nat:=[7,8,9,13,14,15,16,17,18,19,20,21,22,23,24,25,26,27,28,29,30]
noncomputable def sc168:SC:=(⟨_,by cbv⟩:{c:SC // c=scH Tryz.prog Tryz.f168 []}).1
def rs168:List SOp:=[(.mv (.tmp 2))]
theorem code168:FCode Tryz.prog 168 sc168 rs168 9:=fco Tryz.func168 rfl (by kernel_rfl)
noncomputable def sc169:SC:=(⟨_,by cbv⟩:{c:SC // c=scH Tryz.prog Tryz.f169 []}).1
def rs169:List SOp:=[]
theorem code169:FCode Tryz.prog 169 sc169 rs169 35:=fco Tryz.func169 rfl (by kernel_rfl)
noncomputable def sc170:SC:=(⟨_,by cbv⟩:{c:SC // c=scH Tryz.prog Tryz.f170 []}).1
def rs170:List SOp:=[(.mv (.tmp 2))]
theorem code170:FCode Tryz.prog 170 sc170 rs170 4:=fco Tryz.func170 rfl (by kernel_rfl)
noncomputable def sc171:SC:=(⟨_,by cbv⟩:{c:SC // c=scH Tryz.prog Tryz.f171 []}).1
def rs171:List SOp:=[(.mv (.tmp 2)),(.mv (.tmp 3))]
theorem code171:FCode Tryz.prog 171 sc171 rs171 18:=fco Tryz.func171 rfl (by kernel_rfl)
noncomputable def sc172:SC:=(⟨_,by cbv⟩:{c:SC // c=scH Tryz.prog Tryz.f172 []}).1
def rs172:List SOp:=[(.mv (.tmp 4))]
theorem code172:FCode Tryz.prog 172 sc172 rs172 24:=fco Tryz.func172 rfl (by kernel_rfl)
noncomputable def sc173:SC:=(⟨_,by cbv⟩:{c:SC // c=scH Tryz.prog Tryz.f173 [[24],[10]]}).1
def rs173:List SOp:=[]
theorem code173:FCode Tryz.prog 173 sc173 rs173 66:=fco Tryz.func173 rfl (by kernel_rfl)
def w173_0:List Nat:=[4,5,6,7,8,9,10,11,12,13,14,15,16,17,18,19,20,21,22,23,24,25,26,27,28,29,30,31,32,33,34,35,36,37,38,39,40,41,42,43,44,45,46,47,48,49,50,51,52,53,54,55,56,57,58,59,60,61,62,63,64,65]
noncomputable def sc174:SC:=(⟨_,by cbv⟩:{c:SC // c=scH Tryz.prog Tryz.f174 []}).1
def rs174:List SOp:=[]
theorem code174:FCode Tryz.prog 174 sc174 rs174 19:=fco Tryz.func174 rfl (by kernel_rfl)
def w174_0:List Nat:=[3,7,8,9,10,11,12,13,14,15,16,17,18]
noncomputable def sc175:SC:=(⟨_,by cbv⟩:{c:SC // c=scH Tryz.prog Tryz.f175 []}).1
def rs175:List SOp:=[(.mv (.tmp 4))]
theorem code175:FCode Tryz.prog 175 sc175 rs175 19:=fco Tryz.func175 rfl (by kernel_rfl)
def w175_0:List Nat:=[4,5,8,9,10,11,12,13,14,15,16,17,18]
noncomputable def sc176:SC:=Qn Tryz.prog Tryz.f176
noncomputable def rs176:List SOp:=Uc Tryz.prog Tryz.f176
theorem code176:FCode Tryz.prog 176 sc176 rs176 148:=fco Tryz.func176 rfl (by kernel_rfl)
noncomputable def sc177:SC:=Qn Tryz.prog Tryz.f177
noncomputable def rs177:List SOp:=Uc Tryz.prog Tryz.f177
theorem code177:FCode Tryz.prog 177 sc177 rs177 8:=fco Tryz.func177 rfl (by kernel_rfl)
noncomputable def sc178:SC:=Qn Tryz.prog Tryz.f178
noncomputable def rs178:List SOp:=Uc Tryz.prog Tryz.f178
theorem code178:FCode Tryz.prog 178 sc178 rs178 20:=fco Tryz.func178 rfl (by kernel_rfl)
noncomputable def sc179:SC:=Qn Tryz.prog Tryz.f179
noncomputable def rs179:List SOp:=Uc Tryz.prog Tryz.f179
theorem code179:FCode Tryz.prog 179 sc179 rs179 27:=fco Tryz.func179 rfl (by kernel_rfl)
noncomputable def sc180:SC:=(⟨_,by cbv⟩:{c:SC // c=scH Tryz.prog Tryz.f180 []}).1
def rs180:List SOp:=[(.mv (.tmp 4))]
theorem code180:FCode Tryz.prog 180 sc180 rs180 31:=fco Tryz.func180 rfl (by kernel_rfl)
def w180_0:List Nat:=[5,6,9,10,11,12,13,14,15,16,17,18,19,20,21,22,23,24,25,26,27,28,29]
noncomputable def sc181:SC:=Qn Tryz.prog Tryz.f181
noncomputable def rs181:List SOp:=Uc Tryz.prog Tryz.f181
theorem code181:FCode Tryz.prog 181 sc181 rs181 134:=fco Tryz.func181 rfl (by kernel_rfl)
noncomputable def sc182:SC:=(⟨_,by cbv⟩:{c:SC // c=scH Tryz.prog Tryz.f182 []}).1
def rs182:List SOp:=[(.mv (.tmp 4))]
theorem code182:FCode Tryz.prog 182 sc182 rs182 17:=fco Tryz.func182 rfl (by kernel_rfl)
noncomputable def sc183:SC:=(⟨_,by cbv⟩:{c:SC // c=scH Tryz.prog Tryz.f183 []}).1
def rs183:List SOp:=[(.mv (.tmp 2))]
theorem code183:FCode Tryz.prog 183 sc183 rs183 6:=fco Tryz.func183 rfl (by kernel_rfl)
noncomputable def sc184:SC:=(⟨_,by cbv⟩:{c:SC // c=scH Tryz.prog Tryz.f184 []}).1
def rs184:List SOp:=[]
theorem code184:FCode Tryz.prog 184 sc184 rs184 40:=fco Tryz.func184 rfl (by kernel_rfl)
def w184_0:List Nat:=[5,12,13,14,15,16,17,18,19,20,21,22,23,24,25,26,27,28,29,30,31,32,33,34,35]
noncomputable def sc185:SC:=Qn Tryz.prog Tryz.f185
noncomputable def rs185:List SOp:=Uc Tryz.prog Tryz.f185
theorem code185:FCode Tryz.prog 185 sc185 rs185 53:=fco Tryz.func185 rfl (by kernel_rfl)
noncomputable def sc186:SC:=Qn Tryz.prog Tryz.f186
noncomputable def rs186:List SOp:=Uc Tryz.prog Tryz.f186
theorem code186:FCode Tryz.prog 186 sc186 rs186 60:=fco Tryz.func186 rfl (by kernel_rfl)
noncomputable def sc187:SC:=Qn Tryz.prog Tryz.f187
noncomputable def rs187:List SOp:=Uc Tryz.prog Tryz.f187
theorem code187:FCode Tryz.prog 187 sc187 rs187 67:=fco Tryz.func187 rfl (by kernel_rfl)
noncomputable def sc188:SC:=Qn Tryz.prog Tryz.f188
noncomputable def rs188:List SOp:=Uc Tryz.prog Tryz.f188
theorem code188:FCode Tryz.prog 188 sc188 rs188 63:=fco Tryz.func188 rfl (by kernel_rfl)
noncomputable def sc189:SC:=Qn Tryz.prog Tryz.f189
noncomputable def rs189:List SOp:=Uc Tryz.prog Tryz.f189
theorem code189:FCode Tryz.prog 189 sc189 rs189 34:=fco Tryz.func189 rfl (by kernel_rfl)
noncomputable def sc190:SC:=Qn Tryz.prog Tryz.f190
noncomputable def rs190:List SOp:=Uc Tryz.prog Tryz.f190
theorem code190:FCode Tryz.prog 190 sc190 rs190 141:=fco Tryz.func190 rfl (by kernel_rfl)
noncomputable def sc191:SC:=Qn Tryz.prog Tryz.f191
noncomputable def rs191:List SOp:=Uc Tryz.prog Tryz.f191
theorem code191:FCode Tryz.prog 191 sc191 rs191 90:=fco Tryz.func191 rfl (by kernel_rfl)
noncomputable def sc192:SC:=Qn Tryz.prog Tryz.f192
noncomputable def rs192:List SOp:=Uc Tryz.prog Tryz.f192
theorem code192:FCode Tryz.prog 192 sc192 rs192 178:=fco Tryz.func192 rfl (by kernel_rfl)
noncomputable def sc193:SC:=Qn Tryz.prog Tryz.f193
noncomputable def rs193:List SOp:=Uc Tryz.prog Tryz.f193
theorem code193:FCode Tryz.prog 193 sc193 rs193 19:=fco Tryz.func193 rfl (by kernel_rfl)
noncomputable def sc194:SC:=Qn Tryz.prog Tryz.f194
noncomputable def rs194:List SOp:=Uc Tryz.prog Tryz.f194
theorem code194:FCode Tryz.prog 194 sc194 rs194 25:=fco Tryz.func194 rfl (by kernel_rfl)
noncomputable def sc195:SC:=(⟨_,by cbv⟩:{c:SC // c=scH Tryz.prog Tryz.f195 []}).1
def rs195:List SOp:=[(.mv (.tmp 2))]
theorem code195:FCode Tryz.prog 195 sc195 rs195 6:=fco Tryz.func195 rfl (by kernel_rfl)
noncomputable def sc196:SC:=Qn Tryz.prog Tryz.f196
noncomputable def rs196:List SOp:=Uc Tryz.prog Tryz.f196
theorem code196:FCode Tryz.prog 196 sc196 rs196 49:=fco Tryz.func196 rfl (by kernel_rfl)
noncomputable def sc197:SC:=Qn Tryz.prog Tryz.f197
noncomputable def rs197:List SOp:=Uc Tryz.prog Tryz.f197
theorem code197:FCode Tryz.prog 197 sc197 rs197 56:=fco Tryz.func197 rfl (by kernel_rfl)
noncomputable def sc198:SC:=Qn Tryz.prog Tryz.f198
noncomputable def rs198:List SOp:=Uc Tryz.prog Tryz.f198
theorem code198:FCode Tryz.prog 198 sc198 rs198 65:=fco Tryz.func198 rfl (by kernel_rfl)
noncomputable def sc199:SC:=Qn Tryz.prog Tryz.f199
noncomputable def rs199:List SOp:=Uc Tryz.prog Tryz.f199
theorem code199:FCode Tryz.prog 199 sc199 rs199 57:=fco Tryz.func199 rfl (by kernel_rfl)
noncomputable def sc200:SC:=Qn Tryz.prog Tryz.f200
noncomputable def rs200:List SOp:=Uc Tryz.prog Tryz.f200
theorem code200:FCode Tryz.prog 200 sc200 rs200 32:=fco Tryz.func200 rfl (by kernel_rfl)
noncomputable def sc201:SC:=Qn Tryz.prog Tryz.f201
noncomputable def rs201:List SOp:=Uc Tryz.prog Tryz.f201
theorem code201:FCode Tryz.prog 201 sc201 rs201 133:=fco Tryz.func201 rfl (by kernel_rfl)
noncomputable def sc202:SC:=Qn Tryz.prog Tryz.f202
noncomputable def rs202:List SOp:=Uc Tryz.prog Tryz.f202
theorem code202:FCode Tryz.prog 202 sc202 rs202 84:=fco Tryz.func202 rfl (by kernel_rfl)
noncomputable def sc203:SC:=Qn Tryz.prog Tryz.f203
noncomputable def rs203:List SOp:=Uc Tryz.prog Tryz.f203
theorem code203:FCode Tryz.prog 203 sc203 rs203 168:=fco Tryz.func203 rfl (by kernel_rfl)
noncomputable def sc204:SC:=Qn Tryz.prog Tryz.f204
noncomputable def rs204:List SOp:=Uc Tryz.prog Tryz.f204
theorem code204:FCode Tryz.prog 204 sc204 rs204 82:=fco Tryz.func204 rfl (by kernel_rfl)
noncomputable def sc205:SC:=Qn Tryz.prog Tryz.f205
noncomputable def rs205:List SOp:=Uc Tryz.prog Tryz.f205
theorem code205:FCode Tryz.prog 205 sc205 rs205 7:=fco Tryz.func205 rfl (by kernel_rfl)
noncomputable def sc206:SC:=Qn Tryz.prog Tryz.f206
noncomputable def rs206:List SOp:=Uc Tryz.prog Tryz.f206
theorem code206:FCode Tryz.prog 206 sc206 rs206 33:=fco Tryz.func206 rfl (by kernel_rfl)
noncomputable def sc207:SC:=Qn Tryz.prog Tryz.f207
noncomputable def rs207:List SOp:=Uc Tryz.prog Tryz.f207
theorem code207:FCode Tryz.prog 207 sc207 rs207 18:=fco Tryz.func207 rfl (by kernel_rfl)
noncomputable def sc208:SC:=Qn Tryz.prog Tryz.f208
noncomputable def rs208:List SOp:=Uc Tryz.prog Tryz.f208
theorem code208:FCode Tryz.prog 208 sc208 rs208 41:=fco Tryz.func208 rfl (by kernel_rfl)
noncomputable def sc209:SC:=Qn Tryz.prog Tryz.f209
noncomputable def rs209:List SOp:=Uc Tryz.prog Tryz.f209
theorem code209:FCode Tryz.prog 209 sc209 rs209 76:=fco Tryz.func209 rfl (by kernel_rfl)
noncomputable def sc210:SC:=Qn Tryz.prog Tryz.f210
noncomputable def rs210:List SOp:=Uc Tryz.prog Tryz.f210
theorem code210:FCode Tryz.prog 210 sc210 rs210 15:=fco Tryz.func210 rfl (by kernel_rfl)
noncomputable def sc211:SC:=Qn Tryz.prog Tryz.f211
noncomputable def rs211:List SOp:=Uc Tryz.prog Tryz.f211
theorem code211:FCode Tryz.prog 211 sc211 rs211 36:=fco Tryz.func211 rfl (by kernel_rfl)
noncomputable def sc212:SC:=Qn Tryz.prog Tryz.f212
noncomputable def rs212:List SOp:=Uc Tryz.prog Tryz.f212
theorem code212:FCode Tryz.prog 212 sc212 rs212 32:=fco Tryz.func212 rfl (by kernel_rfl)
noncomputable def sc213:SC:=Qn Tryz.prog Tryz.f213
noncomputable def rs213:List SOp:=Uc Tryz.prog Tryz.f213
theorem code213:FCode Tryz.prog 213 sc213 rs213 28:=fco Tryz.func213 rfl (by kernel_rfl)
end Go.Proofs.YtkcnjajklnoahaaGreatDoor
