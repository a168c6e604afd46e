import Derived.Test.YtkcnjajklnoahaaGreatDoorSXMG
import Derived.Test.YtkcnjajklnoahaaGreatDoorProg
import Derived.KernelRfl
set_option linter.unusedVariables false
set_option linter.unusedSimpArgs false
set_option maxRecDepth 100000
namespace Go.Proofs.YtkcnjajklnoahaaGreatDoor
open Go Go.Abs
noncomputable def sc185 : SC := Qq Tryz.prog Tryz.f185
noncomputable def rs185 : List SOp := Yb Tryz.prog Tryz.f185
theorem code185 : FCode Tryz.prog 185 sc185 rs185 53 := ⟨Tryz.f185, _, Tryz.func185, rfl, by kernel_rfl, by kernel_rfl, by kernel_rfl, rfl⟩
noncomputable def sc186 : SC := Qq Tryz.prog Tryz.f186
noncomputable def rs186 : List SOp := Yb Tryz.prog Tryz.f186
theorem code186 : FCode Tryz.prog 186 sc186 rs186 60 := ⟨Tryz.f186, _, Tryz.func186, rfl, by kernel_rfl, by kernel_rfl, by kernel_rfl, rfl⟩
noncomputable def sc187 : SC := Qq Tryz.prog Tryz.f187
noncomputable def rs187 : List SOp := Yb Tryz.prog Tryz.f187
theorem code187 : FCode Tryz.prog 187 sc187 rs187 67 := ⟨Tryz.f187, _, Tryz.func187, rfl, by kernel_rfl, by kernel_rfl, by kernel_rfl, rfl⟩
noncomputable def sc188 : SC := Qq Tryz.prog Tryz.f188
noncomputable def rs188 : List SOp := Yb Tryz.prog Tryz.f188
theorem code188 : FCode Tryz.prog 188 sc188 rs188 63 := ⟨Tryz.f188, _, Tryz.func188, rfl, by kernel_rfl, by kernel_rfl, by kernel_rfl, rfl⟩
noncomputable def sc189 : SC := Qq Tryz.prog Tryz.f189
noncomputable def rs189 : List SOp := Yb Tryz.prog Tryz.f189
theorem code189 : FCode Tryz.prog 189 sc189 rs189 34 := ⟨Tryz.f189, _, Tryz.func189, rfl, by kernel_rfl, by kernel_rfl, by kernel_rfl, rfl⟩
noncomputable def sc190 : SC := Qq Tryz.prog Tryz.f190
noncomputable def rs190 : List SOp := Yb Tryz.prog Tryz.f190
theorem code190 : FCode Tryz.prog 190 sc190 rs190 141 := ⟨Tryz.f190, _, Tryz.func190, rfl, by kernel_rfl, by kernel_rfl, by kernel_rfl, rfl⟩
noncomputable def sc191 : SC := Qq Tryz.prog Tryz.f191
noncomputable def rs191 : List SOp := Yb Tryz.prog Tryz.f191
theorem code191 : FCode Tryz.prog 191 sc191 rs191 90 := ⟨Tryz.f191, _, Tryz.func191, rfl, by kernel_rfl, by kernel_rfl, by kernel_rfl, rfl⟩
noncomputable def sc192 : SC := Qq Tryz.prog Tryz.f192
noncomputable def rs192 : List SOp := Yb Tryz.prog Tryz.f192
theorem code192 : FCode Tryz.prog 192 sc192 rs192 178 := ⟨Tryz.f192, _, Tryz.func192, rfl, by kernel_rfl, by kernel_rfl, by kernel_rfl, rfl⟩
noncomputable def sc193 : SC := Qq Tryz.prog Tryz.f193
noncomputable def rs193 : List SOp := Yb Tryz.prog Tryz.f193
theorem code193 : FCode Tryz.prog 193 sc193 rs193 19 := ⟨Tryz.f193, _, Tryz.func193, rfl, by kernel_rfl, by kernel_rfl, by kernel_rfl, rfl⟩
noncomputable def sc194 : SC := Qq Tryz.prog Tryz.f194
noncomputable def rs194 : List SOp := Yb Tryz.prog Tryz.f194
theorem code194 : FCode Tryz.prog 194 sc194 rs194 25 := ⟨Tryz.f194, _, Tryz.func194, rfl, by kernel_rfl, by kernel_rfl, by kernel_rfl, rfl⟩
noncomputable def sc195 : SC := (⟨_, by cbv⟩ : {c : SC // c = scH Tryz.prog Tryz.f195 []}).1
def rs195 : List SOp := [(.mv (.tmp 2))]
theorem code195 : FCode Tryz.prog 195 sc195 rs195 6 := ⟨Tryz.f195, _, Tryz.func195, rfl, by kernel_rfl, by kernel_rfl, by kernel_rfl, rfl⟩
noncomputable def sc196 : SC := Qq Tryz.prog Tryz.f196
noncomputable def rs196 : List SOp := Yb Tryz.prog Tryz.f196
theorem code196 : FCode Tryz.prog 196 sc196 rs196 49 := ⟨Tryz.f196, _, Tryz.func196, rfl, by kernel_rfl, by kernel_rfl, by kernel_rfl, rfl⟩
noncomputable def sc197 : SC := Qq Tryz.prog Tryz.f197
noncomputable def rs197 : List SOp := Yb Tryz.prog Tryz.f197
theorem code197 : FCode Tryz.prog 197 sc197 rs197 56 := ⟨Tryz.f197, _, Tryz.func197, rfl, by kernel_rfl, by kernel_rfl, by kernel_rfl, rfl⟩
noncomputable def sc198 : SC := Qq Tryz.prog Tryz.f198
noncomputable def rs198 : List SOp := Yb Tryz.prog Tryz.f198
theorem code198 : FCode Tryz.prog 198 sc198 rs198 65 := ⟨Tryz.f198, _, Tryz.func198, rfl, by kernel_rfl, by kernel_rfl, by kernel_rfl, rfl⟩
noncomputable def sc199 : SC := Qq Tryz.prog Tryz.f199
noncomputable def rs199 : List SOp := Yb Tryz.prog Tryz.f199
theorem code199 : FCode Tryz.prog 199 sc199 rs199 57 := ⟨Tryz.f199, _, Tryz.func199, rfl, by kernel_rfl, by kernel_rfl, by kernel_rfl, rfl⟩
noncomputable def sc200 : SC := Qq Tryz.prog Tryz.f200
noncomputable def rs200 : List SOp := Yb Tryz.prog Tryz.f200
theorem code200 : FCode Tryz.prog 200 sc200 rs200 32 := ⟨Tryz.f200, _, Tryz.func200, rfl, by kernel_rfl, by kernel_rfl, by kernel_rfl, rfl⟩
noncomputable def sc201 : SC := Qq Tryz.prog Tryz.f201
noncomputable def rs201 : List SOp := Yb Tryz.prog Tryz.f201
theorem code201 : FCode Tryz.prog 201 sc201 rs201 133 := ⟨Tryz.f201, _, Tryz.func201, rfl, by kernel_rfl, by kernel_rfl, by kernel_rfl, rfl⟩
noncomputable def sc202 : SC := Qq Tryz.prog Tryz.f202
noncomputable def rs202 : List SOp := Yb Tryz.prog Tryz.f202
theorem code202 : FCode Tryz.prog 202 sc202 rs202 84 := ⟨Tryz.f202, _, Tryz.func202, rfl, by kernel_rfl, by kernel_rfl, by kernel_rfl, rfl⟩
noncomputable def sc203 : SC := Qq Tryz.prog Tryz.f203
noncomputable def rs203 : List SOp := Yb Tryz.prog Tryz.f203
theorem code203 : FCode Tryz.prog 203 sc203 rs203 168 := ⟨Tryz.f203, _, Tryz.func203, rfl, by kernel_rfl, by kernel_rfl, by kernel_rfl, rfl⟩
noncomputable def sc204 : SC := Qq Tryz.prog Tryz.f204
noncomputable def rs204 : List SOp := Yb Tryz.prog Tryz.f204
theorem code204 : FCode Tryz.prog 204 sc204 rs204 82 := ⟨Tryz.f204, _, Tryz.func204, rfl, by kernel_rfl, by kernel_rfl, by kernel_rfl, rfl⟩
noncomputable def sc205 : SC := Qq Tryz.prog Tryz.f205
noncomputable def rs205 : List SOp := Yb Tryz.prog Tryz.f205
theorem code205 : FCode Tryz.prog 205 sc205 rs205 7 := ⟨Tryz.f205, _, Tryz.func205, rfl, by kernel_rfl, by kernel_rfl, by kernel_rfl, rfl⟩
noncomputable def sc206 : SC := Qq Tryz.prog Tryz.f206
noncomputable def rs206 : List SOp := Yb Tryz.prog Tryz.f206
theorem code206 : FCode Tryz.prog 206 sc206 rs206 33 := ⟨Tryz.f206, _, Tryz.func206, rfl, by kernel_rfl, by kernel_rfl, by kernel_rfl, rfl⟩
noncomputable def sc207 : SC := Qq Tryz.prog Tryz.f207
noncomputable def rs207 : List SOp := Yb Tryz.prog Tryz.f207
theorem code207 : FCode Tryz.prog 207 sc207 rs207 18 := ⟨Tryz.f207, _, Tryz.func207, rfl, by kernel_rfl, by kernel_rfl, by kernel_rfl, rfl⟩
noncomputable def sc208 : SC := Qq Tryz.prog Tryz.f208
noncomputable def rs208 : List SOp := Yb Tryz.prog Tryz.f208
theorem code208 : FCode Tryz.prog 208 sc208 rs208 41 := ⟨Tryz.f208, _, Tryz.func208, rfl, by kernel_rfl, by kernel_rfl, by kernel_rfl, rfl⟩
noncomputable def sc209 : SC := Qq Tryz.prog Tryz.f209
noncomputable def rs209 : List SOp := Yb Tryz.prog Tryz.f209
theorem code209 : FCode Tryz.prog 209 sc209 rs209 76 := ⟨Tryz.f209, _, Tryz.func209, rfl, by kernel_rfl, by kernel_rfl, by kernel_rfl, rfl⟩
noncomputable def sc210 : SC := Qq Tryz.prog Tryz.f210
noncomputable def rs210 : List SOp := Yb Tryz.prog Tryz.f210
theorem code210 : FCode Tryz.prog 210 sc210 rs210 15 := ⟨Tryz.f210, _, Tryz.func210, rfl, by kernel_rfl, by kernel_rfl, by kernel_rfl, rfl⟩
noncomputable def sc211 : SC := Qq Tryz.prog Tryz.f211
noncomputable def rs211 : List SOp := Yb Tryz.prog Tryz.f211
theorem code211 : FCode Tryz.prog 211 sc211 rs211 36 := ⟨Tryz.f211, _, Tryz.func211, rfl, by kernel_rfl, by kernel_rfl, by kernel_rfl, rfl⟩
noncomputable def sc212 : SC := Qq Tryz.prog Tryz.f212
noncomputable def rs212 : List SOp := Yb Tryz.prog Tryz.f212
theorem code212 : FCode Tryz.prog 212 sc212 rs212 32 := ⟨Tryz.f212, _, Tryz.func212, rfl, by kernel_rfl, by kernel_rfl, by kernel_rfl, rfl⟩
noncomputable def sc213 : SC := Qq Tryz.prog Tryz.f213
noncomputable def rs213 : List SOp := Yb Tryz.prog Tryz.f213
theorem code213 : FCode Tryz.prog 213 sc213 rs213 28 := ⟨Tryz.f213, _, Tryz.func213, rfl, by kernel_rfl, by kernel_rfl, by kernel_rfl, rfl⟩
end Go.Proofs.YtkcnjajklnoahaaGreatDoor
