/-
  OWN WORK, printed by program: the code of this seat's functions, simplified.
-/
import Derived.Test.YtdebhhpklhbihaaGreatDoorG5MG
import Derived.Test.YtdebhhpklhbihaaGreatDoorProg
import Derived.KernelRfl
set_option linter.unusedVariables false
set_option linter.unusedSimpArgs false
namespace Go.Proofs.YtdebhhpklhbihaaGreatDoor
open Go Go.Abs
noncomputable def sc248 : SC := scOf Tryz.prog Tryz.f248
noncomputable def rs248 : List SOp := rsOf Tryz.prog Tryz.f248
theorem code248 : FCode Tryz.prog 248 sc248 rs248 82 := ⟨Tryz.f248, _, Tryz.func248, rfl, by kernel_rfl, by kernel_rfl, by kernel_rfl, rfl⟩
noncomputable def sc249 : SC := scOf Tryz.prog Tryz.f249
noncomputable def rs249 : List SOp := rsOf Tryz.prog Tryz.f249
theorem code249 : FCode Tryz.prog 249 sc249 rs249 7 := ⟨Tryz.f249, _, Tryz.func249, rfl, by kernel_rfl, by kernel_rfl, by kernel_rfl, rfl⟩
noncomputable def sc250 : SC := scOf Tryz.prog Tryz.f250
noncomputable def rs250 : List SOp := rsOf Tryz.prog Tryz.f250
theorem code250 : FCode Tryz.prog 250 sc250 rs250 33 := ⟨Tryz.f250, _, Tryz.func250, rfl, by kernel_rfl, by kernel_rfl, by kernel_rfl, rfl⟩
noncomputable def sc251 : SC := scOf Tryz.prog Tryz.f251
noncomputable def rs251 : List SOp := rsOf Tryz.prog Tryz.f251
theorem code251 : FCode Tryz.prog 251 sc251 rs251 18 := ⟨Tryz.f251, _, Tryz.func251, rfl, by kernel_rfl, by kernel_rfl, by kernel_rfl, rfl⟩
noncomputable def sc252 : SC := scOf Tryz.prog Tryz.f252
noncomputable def rs252 : List SOp := rsOf Tryz.prog Tryz.f252
theorem code252 : FCode Tryz.prog 252 sc252 rs252 41 := ⟨Tryz.f252, _, Tryz.func252, rfl, by kernel_rfl, by kernel_rfl, by kernel_rfl, rfl⟩
noncomputable def sc253 : SC := scOf Tryz.prog Tryz.f253
noncomputable def rs253 : List SOp := rsOf Tryz.prog Tryz.f253
theorem code253 : FCode Tryz.prog 253 sc253 rs253 76 := ⟨Tryz.f253, _, Tryz.func253, rfl, by kernel_rfl, by kernel_rfl, by kernel_rfl, rfl⟩
noncomputable def sc254 : SC := scOf Tryz.prog Tryz.f254
noncomputable def rs254 : List SOp := rsOf Tryz.prog Tryz.f254
theorem code254 : FCode Tryz.prog 254 sc254 rs254 15 := ⟨Tryz.f254, _, Tryz.func254, rfl, by kernel_rfl, by kernel_rfl, by kernel_rfl, rfl⟩
noncomputable def sc255 : SC := scOf Tryz.prog Tryz.f255
noncomputable def rs255 : List SOp := rsOf Tryz.prog Tryz.f255
theorem code255 : FCode Tryz.prog 255 sc255 rs255 36 := ⟨Tryz.f255, _, Tryz.func255, rfl, by kernel_rfl, by kernel_rfl, by kernel_rfl, rfl⟩
noncomputable def sc258 : SC := scOf Tryz.prog Tryz.f258
noncomputable def rs258 : List SOp := rsOf Tryz.prog Tryz.f258
theorem code258 : FCode Tryz.prog 258 sc258 rs258 32 := ⟨Tryz.f258, _, Tryz.func258, rfl, by kernel_rfl, by kernel_rfl, by kernel_rfl, rfl⟩
noncomputable def sc259 : SC := scOf Tryz.prog Tryz.f259
noncomputable def rs259 : List SOp := rsOf Tryz.prog Tryz.f259
theorem code259 : FCode Tryz.prog 259 sc259 rs259 28 := ⟨Tryz.f259, _, Tryz.func259, rfl, by kernel_rfl, by kernel_rfl, by kernel_rfl, rfl⟩
end Go.Proofs.YtdebhhpklhbihaaGreatDoor
