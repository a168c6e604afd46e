/-
  OWN WORK, printed by program: the code of this seat's functions, simplified.
-/
import Derived.Test.YtdebhhpklhbihaaGreatDoorG7MG
import Derived.Test.YtdebhhpklhbihaaGreatDoorProg
import Derived.KernelRfl
set_option linter.unusedVariables false
set_option linter.unusedSimpArgs false
set_option maxRecDepth 100000
namespace Go.Proofs.YtdebhhpklhbihaaGreatDoor
open Go Go.Abs
noncomputable def sc174 : SC := (⟨_, by cbv⟩ : {c : SC // c = scOf Tryz.prog Tryz.f174}).1
def rs174 : List SOp := []
theorem code174 : FCode Tryz.prog 174 sc174 rs174 35 := ⟨Tryz.f174, _, Tryz.func174, rfl, by kernel_rfl, by kernel_rfl, by kernel_rfl, rfl⟩
noncomputable def sc175 : SC := (⟨_, by cbv⟩ : {c : SC // c = scOf Tryz.prog Tryz.f175}).1
def rs175 : List SOp := [(.mv (.tmp 2))]
theorem code175 : FCode Tryz.prog 175 sc175 rs175 4 := ⟨Tryz.f175, _, Tryz.func175, rfl, by kernel_rfl, by kernel_rfl, by kernel_rfl, rfl⟩
noncomputable def sc176 : SC := (⟨_, by cbv⟩ : {c : SC // c = scOf Tryz.prog Tryz.f176}).1
def rs176 : List SOp := [(.mv (.tmp 2)), (.mv (.tmp 3))]
theorem code176 : FCode Tryz.prog 176 sc176 rs176 18 := ⟨Tryz.f176, _, Tryz.func176, rfl, by kernel_rfl, by kernel_rfl, by kernel_rfl, rfl⟩
noncomputable def sc177 : SC := (⟨_, by cbv⟩ : {c : SC // c = scOf Tryz.prog Tryz.f177}).1
def rs177 : List SOp := [(.mv (.tmp 4))]
theorem code177 : FCode Tryz.prog 177 sc177 rs177 24 := ⟨Tryz.f177, _, Tryz.func177, rfl, by kernel_rfl, by kernel_rfl, by kernel_rfl, rfl⟩
noncomputable def sc178 : SC := (⟨_, by cbv⟩ : {c : SC // c = scOf Tryz.prog Tryz.f178}).1
def rs178 : List SOp := []
theorem code178 : FCode Tryz.prog 178 sc178 rs178 66 := ⟨Tryz.f178, _, Tryz.func178, rfl, by kernel_rfl, by kernel_rfl, by kernel_rfl, rfl⟩
def w178_0 : List Nat := [4, 5, 6, 7, 8, 9, 10, 11, 12, 13, 14, 15, 16, 17, 18, 19, 20, 21, 22, 23, 24, 25, 26, 27, 28, 29, 30, 31, 32, 33, 34, 35, 36, 37, 38, 39, 40, 41, 42, 43, 44, 45, 46, 47, 48, 49, 50, 51, 52, 53, 54, 55, 56, 57, 58, 59, 60, 61, 62, 63, 64, 65]
noncomputable def sc185 : SC := (⟨_, by cbv⟩ : {c : SC // c = scOf Tryz.prog Tryz.f185}).1
def rs185 : List SOp := [(.mv (.tmp 6))]
theorem code185 : FCode Tryz.prog 185 sc185 rs185 11 := ⟨Tryz.f185, _, Tryz.func185, rfl, by kernel_rfl, by kernel_rfl, by kernel_rfl, rfl⟩
noncomputable def sc186 : SC := (⟨_, by cbv⟩ : {c : SC // c = scOf Tryz.prog Tryz.f186}).1
def rs186 : List SOp := [(.mv (.tmp 6))]
theorem code186 : FCode Tryz.prog 186 sc186 rs186 55 := ⟨Tryz.f186, _, Tryz.func186, rfl, by kernel_rfl, by kernel_rfl, by kernel_rfl, rfl⟩
def w186_0 : List Nat := [7, 9, 10, 13, 14, 15, 16, 17, 18, 19, 20, 21, 22, 23, 24, 25, 26, 27, 28, 29, 30, 31, 32, 33, 34, 35, 36, 37, 38, 39, 40, 41, 42, 43, 44, 45, 46, 47, 48, 49, 50, 51, 52, 53]
noncomputable def sc187 : SC := (⟨_, by cbv⟩ : {c : SC // c = scOf Tryz.prog Tryz.f187}).1
def rs187 : List SOp := [(.mv (.tmp 2))]
theorem code187 : FCode Tryz.prog 187 sc187 rs187 12 := ⟨Tryz.f187, _, Tryz.func187, rfl, by kernel_rfl, by kernel_rfl, by kernel_rfl, rfl⟩
noncomputable def sc188 : SC := (⟨_, by cbv⟩ : {c : SC // c = scOf Tryz.prog Tryz.f188}).1
def rs188 : List SOp := [(.mv (.tmp 4))]
theorem code188 : FCode Tryz.prog 188 sc188 rs188 10 := ⟨Tryz.f188, _, Tryz.func188, rfl, by kernel_rfl, by kernel_rfl, by kernel_rfl, rfl⟩
noncomputable def sc189 : SC := (⟨_, by cbv⟩ : {c : SC // c = scOf Tryz.prog Tryz.f189}).1
def rs189 : List SOp := [(.mv (.tmp 4))]
theorem code189 : FCode Tryz.prog 189 sc189 rs189 19 := ⟨Tryz.f189, _, Tryz.func189, rfl, by kernel_rfl, by kernel_rfl, by kernel_rfl, rfl⟩
def w189_0 : List Nat := [4, 5, 8, 9, 10, 11, 12, 13, 14, 15, 16, 17, 18]
noncomputable def sc190 : SC := (⟨_, by cbv⟩ : {c : SC // c = scOf Tryz.prog Tryz.f190}).1
def rs190 : List SOp := [(.mv (.tmp 4))]
theorem code190 : FCode Tryz.prog 190 sc190 rs190 19 := ⟨Tryz.f190, _, Tryz.func190, rfl, by kernel_rfl, by kernel_rfl, by kernel_rfl, rfl⟩
def w190_0 : List Nat := [4, 5, 8, 9, 10, 11, 12, 13, 14, 15, 16, 17, 18]
noncomputable def sc201 : SC := (⟨_, by cbv⟩ : {c : SC // c = scOf Tryz.prog Tryz.f201}).1
def rs201 : List SOp := [(.mv (.tmp 4))]
theorem code201 : FCode Tryz.prog 201 sc201 rs201 19 := ⟨Tryz.f201, _, Tryz.func201, rfl, by kernel_rfl, by kernel_rfl, by kernel_rfl, rfl⟩
def w201_0 : List Nat := [4, 5, 8, 9, 10, 11, 12, 13, 14, 15, 16, 17, 18]
noncomputable def sc202 : SC := scOf Tryz.prog Tryz.f202
noncomputable def rs202 : List SOp := rsOf Tryz.prog Tryz.f202
theorem code202 : FCode Tryz.prog 202 sc202 rs202 148 := ⟨Tryz.f202, _, Tryz.func202, rfl, by kernel_rfl, by kernel_rfl, by kernel_rfl, rfl⟩
noncomputable def sc203 : SC := scOf Tryz.prog Tryz.f203
noncomputable def rs203 : List SOp := rsOf Tryz.prog Tryz.f203
theorem code203 : FCode Tryz.prog 203 sc203 rs203 8 := ⟨Tryz.f203, _, Tryz.func203, rfl, by kernel_rfl, by kernel_rfl, by kernel_rfl, rfl⟩
noncomputable def sc204 : SC := scOf Tryz.prog Tryz.f204
noncomputable def rs204 : List SOp := rsOf Tryz.prog Tryz.f204
theorem code204 : FCode Tryz.prog 204 sc204 rs204 20 := ⟨Tryz.f204, _, Tryz.func204, rfl, by kernel_rfl, by kernel_rfl, by kernel_rfl, rfl⟩
noncomputable def sc205 : SC := scOf Tryz.prog Tryz.f205
noncomputable def rs205 : List SOp := rsOf Tryz.prog Tryz.f205
theorem code205 : FCode Tryz.prog 205 sc205 rs205 134 := ⟨Tryz.f205, _, Tryz.func205, rfl, by kernel_rfl, by kernel_rfl, by kernel_rfl, rfl⟩
noncomputable def sc206 : SC := (⟨_, by cbv⟩ : {c : SC // c = scOf Tryz.prog Tryz.f206}).1
def rs206 : List SOp := []
theorem code206 : FCode Tryz.prog 206 sc206 rs206 19 := ⟨Tryz.f206, _, Tryz.func206, rfl, by kernel_rfl, by kernel_rfl, by kernel_rfl, rfl⟩
def w206_0 : List Nat := [3, 7, 8, 9, 10, 11, 12, 13, 14, 15, 16, 17, 18]
noncomputable def sc207 : SC := (⟨_, by cbv⟩ : {c : SC // c = scOf Tryz.prog Tryz.f207}).1
def rs207 : List SOp := [(.mv (.tmp 4))]
theorem code207 : FCode Tryz.prog 207 sc207 rs207 17 := ⟨Tryz.f207, _, Tryz.func207, rfl, by kernel_rfl, by kernel_rfl, by kernel_rfl, rfl⟩
noncomputable def sc208 : SC := (⟨_, by cbv⟩ : {c : SC // c = scOf Tryz.prog Tryz.f208}).1
def rs208 : List SOp := [(.mv (.tmp 2))]
theorem code208 : FCode Tryz.prog 208 sc208 rs208 6 := ⟨Tryz.f208, _, Tryz.func208, rfl, by kernel_rfl, by kernel_rfl, by kernel_rfl, rfl⟩
noncomputable def sc209 : SC := (⟨_, by cbv⟩ : {c : SC // c = scOf Tryz.prog Tryz.f209}).1
def rs209 : List SOp := []
theorem code209 : FCode Tryz.prog 209 sc209 rs209 40 := ⟨Tryz.f209, _, Tryz.func209, rfl, by kernel_rfl, by kernel_rfl, by kernel_rfl, rfl⟩
def w209_0 : List Nat := [5, 12, 13, 14, 15, 16, 17, 18, 19, 20, 21, 22, 23, 24, 25, 26, 27, 28, 29, 30, 31, 32, 33, 34, 35]
noncomputable def sc214 : SC := (⟨_, by cbv⟩ : {c : SC // c = scOf Tryz.prog Tryz.f214}).1
def rs214 : List SOp := [(.load false 1 (.tmp 10))]
theorem code214 : FCode Tryz.prog 214 sc214 rs214 34 := ⟨Tryz.f214, _, Tryz.func214, rfl, by kernel_rfl, by kernel_rfl, by kernel_rfl, rfl⟩
noncomputable def sc215 : SC := (⟨_, by cbv⟩ : {c : SC // c = scOf Tryz.prog Tryz.f215}).1
def rs215 : List SOp := [(.mv (.tmp 2))]
theorem code215 : FCode Tryz.prog 215 sc215 rs215 36 := ⟨Tryz.f215, _, Tryz.func215, rfl, by kernel_rfl, by kernel_rfl, by kernel_rfl, rfl⟩
def w215_0 : List Nat := [3, 5, 11, 12, 13, 14, 15, 16, 17, 18, 19, 20, 21, 22]
def w215_1 : List Nat := [6, 8, 27, 28, 29, 30, 31, 32, 33, 34]
noncomputable def sc223 : SC := scOf Tryz.prog Tryz.f223
noncomputable def rs223 : List SOp := rsOf Tryz.prog Tryz.f223
theorem code223 : FCode Tryz.prog 223 sc223 rs223 53 := ⟨Tryz.f223, _, Tryz.func223, rfl, by kernel_rfl, by kernel_rfl, by kernel_rfl, rfl⟩
noncomputable def sc224 : SC := scOf Tryz.prog Tryz.f224
noncomputable def rs224 : List SOp := rsOf Tryz.prog Tryz.f224
theorem code224 : FCode Tryz.prog 224 sc224 rs224 60 := ⟨Tryz.f224, _, Tryz.func224, rfl, by kernel_rfl, by kernel_rfl, by kernel_rfl, rfl⟩
noncomputable def sc225 : SC := scOf Tryz.prog Tryz.f225
noncomputable def rs225 : List SOp := rsOf Tryz.prog Tryz.f225
theorem code225 : FCode Tryz.prog 225 sc225 rs225 67 := ⟨Tryz.f225, _, Tryz.func225, rfl, by kernel_rfl, by kernel_rfl, by kernel_rfl, rfl⟩
noncomputable def sc226 : SC := scOf Tryz.prog Tryz.f226
noncomputable def rs226 : List SOp := rsOf Tryz.prog Tryz.f226
theorem code226 : FCode Tryz.prog 226 sc226 rs226 63 := ⟨Tryz.f226, _, Tryz.func226, rfl, by kernel_rfl, by kernel_rfl, by kernel_rfl, rfl⟩
noncomputable def sc227 : SC := scOf Tryz.prog Tryz.f227
noncomputable def rs227 : List SOp := rsOf Tryz.prog Tryz.f227
theorem code227 : FCode Tryz.prog 227 sc227 rs227 34 := ⟨Tryz.f227, _, Tryz.func227, rfl, by kernel_rfl, by kernel_rfl, by kernel_rfl, rfl⟩
noncomputable def sc228 : SC := scOf Tryz.prog Tryz.f228
noncomputable def rs228 : List SOp := rsOf Tryz.prog Tryz.f228
theorem code228 : FCode Tryz.prog 228 sc228 rs228 141 := ⟨Tryz.f228, _, Tryz.func228, rfl, by kernel_rfl, by kernel_rfl, by kernel_rfl, rfl⟩
noncomputable def sc229 : SC := scOf Tryz.prog Tryz.f229
noncomputable def rs229 : List SOp := rsOf Tryz.prog Tryz.f229
theorem code229 : FCode Tryz.prog 229 sc229 rs229 90 := ⟨Tryz.f229, _, Tryz.func229, rfl, by kernel_rfl, by kernel_rfl, by kernel_rfl, rfl⟩
noncomputable def sc230 : SC := scOf Tryz.prog Tryz.f230
noncomputable def rs230 : List SOp := rsOf Tryz.prog Tryz.f230
theorem code230 : FCode Tryz.prog 230 sc230 rs230 178 := ⟨Tryz.f230, _, Tryz.func230, rfl, by kernel_rfl, by kernel_rfl, by kernel_rfl, rfl⟩
noncomputable def sc231 : SC := scOf Tryz.prog Tryz.f231
noncomputable def rs231 : List SOp := rsOf Tryz.prog Tryz.f231
theorem code231 : FCode Tryz.prog 231 sc231 rs231 19 := ⟨Tryz.f231, _, Tryz.func231, rfl, by kernel_rfl, by kernel_rfl, by kernel_rfl, rfl⟩
noncomputable def sc232 : SC := scOf Tryz.prog Tryz.f232
noncomputable def rs232 : List SOp := rsOf Tryz.prog Tryz.f232
theorem code232 : FCode Tryz.prog 232 sc232 rs232 25 := ⟨Tryz.f232, _, Tryz.func232, rfl, by kernel_rfl, by kernel_rfl, by kernel_rfl, rfl⟩
noncomputable def sc233 : SC := (⟨_, by cbv⟩ : {c : SC // c = scOf Tryz.prog Tryz.f233}).1
def rs233 : List SOp := [(.mv (.tmp 2))]
theorem code233 : FCode Tryz.prog 233 sc233 rs233 6 := ⟨Tryz.f233, _, Tryz.func233, rfl, by kernel_rfl, by kernel_rfl, by kernel_rfl, rfl⟩
noncomputable def sc234 : SC := scOf Tryz.prog Tryz.f234
noncomputable def rs234 : List SOp := rsOf Tryz.prog Tryz.f234
theorem code234 : FCode Tryz.prog 234 sc234 rs234 49 := ⟨Tryz.f234, _, Tryz.func234, rfl, by kernel_rfl, by kernel_rfl, by kernel_rfl, rfl⟩
noncomputable def sc235 : SC := scOf Tryz.prog Tryz.f235
noncomputable def rs235 : List SOp := rsOf Tryz.prog Tryz.f235
theorem code235 : FCode Tryz.prog 235 sc235 rs235 56 := ⟨Tryz.f235, _, Tryz.func235, rfl, by kernel_rfl, by kernel_rfl, by kernel_rfl, rfl⟩
noncomputable def sc236 : SC := scOf Tryz.prog Tryz.f236
noncomputable def rs236 : List SOp := rsOf Tryz.prog Tryz.f236
theorem code236 : FCode Tryz.prog 236 sc236 rs236 65 := ⟨Tryz.f236, _, Tryz.func236, rfl, by kernel_rfl, by kernel_rfl, by kernel_rfl, rfl⟩
noncomputable def sc237 : SC := scOf Tryz.prog Tryz.f237
noncomputable def rs237 : List SOp := rsOf Tryz.prog Tryz.f237
theorem code237 : FCode Tryz.prog 237 sc237 rs237 57 := ⟨Tryz.f237, _, Tryz.func237, rfl, by kernel_rfl, by kernel_rfl, by kernel_rfl, rfl⟩
noncomputable def sc238 : SC := scOf Tryz.prog Tryz.f238
noncomputable def rs238 : List SOp := rsOf Tryz.prog Tryz.f238
theorem code238 : FCode Tryz.prog 238 sc238 rs238 32 := ⟨Tryz.f238, _, Tryz.func238, rfl, by kernel_rfl, by kernel_rfl, by kernel_rfl, rfl⟩
noncomputable def sc239 : SC := scOf Tryz.prog Tryz.f239
noncomputable def rs239 : List SOp := rsOf Tryz.prog Tryz.f239
theorem code239 : FCode Tryz.prog 239 sc239 rs239 133 := ⟨Tryz.f239, _, Tryz.func239, rfl, by kernel_rfl, by kernel_rfl, by kernel_rfl, rfl⟩
noncomputable def sc240 : SC := scOf Tryz.prog Tryz.f240
noncomputable def rs240 : List SOp := rsOf Tryz.prog Tryz.f240
theorem code240 : FCode Tryz.prog 240 sc240 rs240 84 := ⟨Tryz.f240, _, Tryz.func240, rfl, by kernel_rfl, by kernel_rfl, by kernel_rfl, rfl⟩
noncomputable def sc241 : SC := scOf Tryz.prog Tryz.f241
noncomputable def rs241 : List SOp := rsOf Tryz.prog Tryz.f241
theorem code241 : FCode Tryz.prog 241 sc241 rs241 168 := ⟨Tryz.f241, _, Tryz.func241, rfl, by kernel_rfl, by kernel_rfl, by kernel_rfl, rfl⟩
noncomputable def sc242 : SC := scOf Tryz.prog Tryz.f242
noncomputable def rs242 : List SOp := rsOf Tryz.prog Tryz.f242
theorem code242 : FCode Tryz.prog 242 sc242 rs242 27 := ⟨Tryz.f242, _, Tryz.func242, rfl, by kernel_rfl, by kernel_rfl, by kernel_rfl, rfl⟩
noncomputable def sc248 : SC := scOf Tryz.prog Tryz.f248
noncomputable def rs248 : List SOp := rsOf Tryz.prog Tryz.f248
theorem code248 : FCode Tryz.prog 248 sc248 rs248 82 := ⟨Tryz.f248, _, Tryz.func248, rfl, by kernel_rfl, by kernel_rfl, by kernel_rfl, rfl⟩
noncomputable def sc249 : SC := scOf Tryz.prog Tryz.f249
noncomputable def rs249 : List SOp := rsOf Tryz.prog Tryz.f249
theorem code249 : FCode Tryz.prog 249 sc249 rs249 7 := ⟨Tryz.f249, _, Tryz.func249, rfl, by kernel_rfl, by kernel_rfl, by kernel_rfl, rfl⟩
noncomputable def sc250 : SC := scOf Tryz.prog Tryz.f250
noncomputable def rs250 : List SOp := rsOf Tryz.prog Tryz.f250
theorem code250 : FCode Tryz.prog 250 sc250 rs250 33 := ⟨Tryz.f250, _, Tryz.func250, rfl, by kernel_rfl, by kernel_rfl, by kernel_rfl, rfl⟩
noncomputable def sc251 : SC := scOf Tryz.prog Tryz.f251
noncomputable def rs251 : List SOp := rsOf Tryz.prog Tryz.f251
theorem code251 : FCode Tryz.prog 251 sc251 rs251 18 := ⟨Tryz.f251, _, Tryz.func251, rfl, by kernel_rfl, by kernel_rfl, by kernel_rfl, rfl⟩
noncomputable def sc252 : SC := scOf Tryz.prog Tryz.f252
noncomputable def rs252 : List SOp := rsOf Tryz.prog Tryz.f252
theorem code252 : FCode Tryz.prog 252 sc252 rs252 41 := ⟨Tryz.f252, _, Tryz.func252, rfl, by kernel_rfl, by kernel_rfl, by kernel_rfl, rfl⟩
noncomputable def sc253 : SC := scOf Tryz.prog Tryz.f253
noncomputable def rs253 : List SOp := rsOf Tryz.prog Tryz.f253
theorem code253 : FCode Tryz.prog 253 sc253 rs253 76 := ⟨Tryz.f253, _, Tryz.func253, rfl, by kernel_rfl, by kernel_rfl, by kernel_rfl, rfl⟩
noncomputable def sc254 : SC := scOf Tryz.prog Tryz.f254
noncomputable def rs254 : List SOp := rsOf Tryz.prog Tryz.f254
theorem code254 : FCode Tryz.prog 254 sc254 rs254 15 := ⟨Tryz.f254, _, Tryz.func254, rfl, by kernel_rfl, by kernel_rfl, by kernel_rfl, rfl⟩
noncomputable def sc255 : SC := scOf Tryz.prog Tryz.f255
noncomputable def rs255 : List SOp := rsOf Tryz.prog Tryz.f255
theorem code255 : FCode Tryz.prog 255 sc255 rs255 36 := ⟨Tryz.f255, _, Tryz.func255, rfl, by kernel_rfl, by kernel_rfl, by kernel_rfl, rfl⟩
noncomputable def sc258 : SC := scOf Tryz.prog Tryz.f258
noncomputable def rs258 : List SOp := rsOf Tryz.prog Tryz.f258
theorem code258 : FCode Tryz.prog 258 sc258 rs258 32 := ⟨Tryz.f258, _, Tryz.func258, rfl, by kernel_rfl, by kernel_rfl, by kernel_rfl, rfl⟩
noncomputable def sc259 : SC := scOf Tryz.prog Tryz.f259
noncomputable def rs259 : List SOp := rsOf Tryz.prog Tryz.f259
theorem code259 : FCode Tryz.prog 259 sc259 rs259 28 := ⟨Tryz.f259, _, Tryz.func259, rfl, by kernel_rfl, by kernel_rfl, by kernel_rfl, rfl⟩
end Go.Proofs.YtdebhhpklhbihaaGreatDoor
