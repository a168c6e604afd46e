import Derived.Test.YtkcnjajklnoahaaGreatDoorSXScR
import Derived.Test.YtkcnjajklnoahaaGreatDoorSXScN
set_option linter.unusedVariables false
set_option linter.unusedSimpArgs false
namespace Go.Proofs.YtkcnjajklnoahaaGreatDoor
open Go Go.Abs
theorem hold32 {c : Ca} (h : Bnd c) (l : List Sp) (r : Rt) : Pure Tryz.prog gl0 32 [.agg (Qe c), .sl r (l.map Qd)] (.bool (hldB c.p c.at_ c.ids l (c.past.filter Zq) c.at_ (-1))) :=
 Xa (holds32 h.k h.at_ (by have := h.past; omega) (by have := h.ids; omega) l) ⟨Wk.refl _, Wk.sl _ _, trivial⟩
def orcL11 (B : Ca) (R : AV) : Nat -> FuncId -> List AV -> AV := fun _ f _ => if f = 15 then .agg (Qe B) else if f = 16 then R else .bool true
set_option maxRecDepth 100000 in
set_option maxHeartbeats 8000000 in
theorem law11 (c : Ca) (h : Ca64 c) : Pure Tryz.prog gl0 11 [.agg (Qe c)] (.bool true) := by
 have k14 := sane14
 have k15 := bound15 c h
 have b := bnd_of h
 obtain ⟨B, hB⟩ : ∃ B, bndC c = B := ⟨_, rfl⟩
 rw [hB] at k15 b
 have k16 := ear16 b
 cases he : Qp B.p B.at_ B.past B.ids with
 | none =>
  rw [Jf he] at k16
  simp only [Qe, Qa] at k15 k16
  refine Qr code11 (orcL11 B (.tup [.sl .nil [], .bool false])) (by simp) ?_
  simp [sc11, rs11, Qe, Qa, orcL11]
  exact ⟨k14, k15, k16⟩
 | some l =>
  rw [Yu he] at k16
  have k32 := hold32 b l (rtE l)
  rw [ear_holds he] at k32
  simp only [Qe, Qa] at k15 k16 k32
  refine Qr code11 (orcL11 B (.tup [.sl (rtE l) (l.map Qd), .bool true])) (by simp) ?_
  simp [sc11, rs11, Qe, Qa, orcL11]
  exact ⟨k14, k15, k16, k32⟩
end Go.Proofs.YtkcnjajklnoahaaGreatDoor
