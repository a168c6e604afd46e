import Derived.Test.YtjmgelbfndnpjaaGreatDoorPPMG
import Derived.Test.YtjmgelbfndnpjaaGreatDoorProg
set_option linter.unusedVariables false
set_option linter.unusedSimpArgs false
set_option maxRecDepth 100000
set_option maxHeartbeats 8000000
namespace Go.Proofs.YtjmgelbfndnpjaaGreatDoor
open Go Go.Abs
noncomputable def sc186:SC:=Qm Tryz.prog Tryz.f186
noncomputable def rs186:List SOp:=Xz Tryz.prog Tryz.f186
theorem code186:FCode Tryz.prog 186 sc186 rs186 34:=fco Tryz.func186 rfl (by kernel_rfl)
noncomputable def sc187:SC:=Qm Tryz.prog Tryz.f187
noncomputable def rs187:List SOp:=Xz Tryz.prog Tryz.f187
theorem code187:FCode Tryz.prog 187 sc187 rs187 141:=fco Tryz.func187 rfl (by kernel_rfl)
noncomputable def sc188:SC:=Qm Tryz.prog Tryz.f188
noncomputable def rs188:List SOp:=Xz Tryz.prog Tryz.f188
theorem code188:FCode Tryz.prog 188 sc188 rs188 90:=fco Tryz.func188 rfl (by kernel_rfl)
noncomputable def sc189:SC:=Qm Tryz.prog Tryz.f189
noncomputable def rs189:List SOp:=Xz Tryz.prog Tryz.f189
theorem code189:FCode Tryz.prog 189 sc189 rs189 178:=fco Tryz.func189 rfl (by kernel_rfl)
noncomputable def sc190:SC:=Qm Tryz.prog Tryz.f190
noncomputable def rs190:List SOp:=Xz Tryz.prog Tryz.f190
theorem code190:FCode Tryz.prog 190 sc190 rs190 19:=fco Tryz.func190 rfl (by kernel_rfl)
noncomputable def sc191:SC:=Qm Tryz.prog Tryz.f191
noncomputable def rs191:List SOp:=Xz Tryz.prog Tryz.f191
theorem code191:FCode Tryz.prog 191 sc191 rs191 25:=fco Tryz.func191 rfl (by kernel_rfl)
noncomputable def sc192:SC:=(⟨_,by cbv⟩:{c:SC // c=scH Tryz.prog Tryz.f192 []}).1
def rs192:List SOp:=[(.mv (.tmp 2))]
theorem code192:FCode Tryz.prog 192 sc192 rs192 6:=fco Tryz.func192 rfl (by kernel_rfl)
noncomputable def sc193:SC:=Qm Tryz.prog Tryz.f193
noncomputable def rs193:List SOp:=Xz Tryz.prog Tryz.f193
theorem code193:FCode Tryz.prog 193 sc193 rs193 49:=fco Tryz.func193 rfl (by kernel_rfl)
noncomputable def sc194:SC:=Qm Tryz.prog Tryz.f194
noncomputable def rs194:List SOp:=Xz Tryz.prog Tryz.f194
theorem code194:FCode Tryz.prog 194 sc194 rs194 56:=fco Tryz.func194 rfl (by kernel_rfl)
noncomputable def sc195:SC:=Qm Tryz.prog Tryz.f195
noncomputable def rs195:List SOp:=Xz Tryz.prog Tryz.f195
theorem code195:FCode Tryz.prog 195 sc195 rs195 65:=fco Tryz.func195 rfl (by kernel_rfl)
noncomputable def sc196:SC:=Qm Tryz.prog Tryz.f196
noncomputable def rs196:List SOp:=Xz Tryz.prog Tryz.f196
theorem code196:FCode Tryz.prog 196 sc196 rs196 57:=fco Tryz.func196 rfl (by kernel_rfl)
noncomputable def sc197:SC:=Qm Tryz.prog Tryz.f197
noncomputable def rs197:List SOp:=Xz Tryz.prog Tryz.f197
theorem code197:FCode Tryz.prog 197 sc197 rs197 32:=fco Tryz.func197 rfl (by kernel_rfl)
noncomputable def sc198:SC:=Qm Tryz.prog Tryz.f198
noncomputable def rs198:List SOp:=Xz Tryz.prog Tryz.f198
theorem code198:FCode Tryz.prog 198 sc198 rs198 133:=fco Tryz.func198 rfl (by kernel_rfl)
noncomputable def sc199:SC:=Qm Tryz.prog Tryz.f199
noncomputable def rs199:List SOp:=Xz Tryz.prog Tryz.f199
theorem code199:FCode Tryz.prog 199 sc199 rs199 84:=fco Tryz.func199 rfl (by kernel_rfl)
noncomputable def sc200:SC:=Qm Tryz.prog Tryz.f200
noncomputable def rs200:List SOp:=Xz Tryz.prog Tryz.f200
theorem code200:FCode Tryz.prog 200 sc200 rs200 168:=fco Tryz.func200 rfl (by kernel_rfl)
noncomputable def sc203:SC:=Qm Tryz.prog Tryz.f203
noncomputable def rs203:List SOp:=Xz Tryz.prog Tryz.f203
theorem code203:FCode Tryz.prog 203 sc203 rs203 82:=fco Tryz.func203 rfl (by kernel_rfl)
noncomputable def sc204:SC:=Qm Tryz.prog Tryz.f204
noncomputable def rs204:List SOp:=Xz Tryz.prog Tryz.f204
theorem code204:FCode Tryz.prog 204 sc204 rs204 7:=fco Tryz.func204 rfl (by kernel_rfl)
noncomputable def sc205:SC:=Qm Tryz.prog Tryz.f205
noncomputable def rs205:List SOp:=Xz Tryz.prog Tryz.f205
theorem code205:FCode Tryz.prog 205 sc205 rs205 33:=fco Tryz.func205 rfl (by kernel_rfl)
noncomputable def sc206:SC:=Qm Tryz.prog Tryz.f206
noncomputable def rs206:List SOp:=Xz Tryz.prog Tryz.f206
theorem code206:FCode Tryz.prog 206 sc206 rs206 18:=fco Tryz.func206 rfl (by kernel_rfl)
noncomputable def sc207:SC:=Qm Tryz.prog Tryz.f207
noncomputable def rs207:List SOp:=Xz Tryz.prog Tryz.f207
theorem code207:FCode Tryz.prog 207 sc207 rs207 41:=fco Tryz.func207 rfl (by kernel_rfl)
noncomputable def sc208:SC:=Qm Tryz.prog Tryz.f208
noncomputable def rs208:List SOp:=Xz Tryz.prog Tryz.f208
theorem code208:FCode Tryz.prog 208 sc208 rs208 76:=fco Tryz.func208 rfl (by kernel_rfl)
noncomputable def sc209:SC:=Qm Tryz.prog Tryz.f209
noncomputable def rs209:List SOp:=Xz Tryz.prog Tryz.f209
theorem code209:FCode Tryz.prog 209 sc209 rs209 15:=fco Tryz.func209 rfl (by kernel_rfl)
noncomputable def sc210:SC:=Qm Tryz.prog Tryz.f210
noncomputable def rs210:List SOp:=Xz Tryz.prog Tryz.f210
theorem code210:FCode Tryz.prog 210 sc210 rs210 36:=fco Tryz.func210 rfl (by kernel_rfl)
noncomputable def sc211:SC:=Qm Tryz.prog Tryz.f211
noncomputable def rs211:List SOp:=Xz Tryz.prog Tryz.f211
theorem code211:FCode Tryz.prog 211 sc211 rs211 32:=fco Tryz.func211 rfl (by kernel_rfl)
noncomputable def sc212:SC:=Qm Tryz.prog Tryz.f212
noncomputable def rs212:List SOp:=Xz Tryz.prog Tryz.f212
theorem code212:FCode Tryz.prog 212 sc212 rs212 28:=fco Tryz.func212 rfl (by kernel_rfl)
end Go.Proofs.YtjmgelbfndnpjaaGreatDoor
