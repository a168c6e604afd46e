import Derived.Test.YtkcnjajklnoahaaGreatDoorSXScK
import Derived.Test.YtkcnjajklnoahaaGreatDoorSXSbD
set_option linter.unusedVariables false
set_option linter.unusedSimpArgs false
namespace Go.Proofs.YtkcnjajklnoahaaGreatDoor
open Go Go.Abs
def nlQ (x y : Sp) : Bool := !(decide (x.1 = y.1) && decide (y.2 < x.2))
theorem nlB_cons (x : Sp) (r b : List Sp) : nlB (x :: r) b = (b.all (nlQ x) && nlB r b) := rfl
def InvNa (a b : List Sp) (T : Bool) (f : Nat -> AV) (m : AM) : Prop := ∃ (i : Nat), f 5 = I i /\ i <= a.length /\ nlB (a.drop i) b = T /\ m = ⟨[], [], fun _ => .gone, 0⟩
def InvNb (x : Sp) (b : List Sp) (V : Bool) (f : Nat -> AV) (m : AM) : Prop := ∃ (k : Nat), f 6 = I k /\ k <= b.length /\ (b.drop k).all (nlQ x) = V /\ m = ⟨[], [], fun _ => .gone, 0⟩
set_option maxRecDepth 100000 in
set_option maxHeartbeats 8000000 in
theorem notLater28 (a b : List Sp) (ha : a.length <= 1000000) (hb : b.length <= 1000000) : Pure Tryz.prog gl0 28 [.sl .ro (a.map Qd), .sl .ro (b.map Qd)] (.bool (nlB a b)) := by
 refine Qr code28 (fun _ _ _ => .junk) (by simp) ?_
 obtain ⟨T, hT⟩ : ∃ T, nlB a b = T := ⟨_, rfl⟩
 rw [hT]
 simp [sc28]
 refine Qg w28_0 (InvNa a b T) (fun f _ => a.length - (numOf (f 5)).toNat) ?_ ?_
 ·exact ⟨0, by simp, by omega, hT, rfl⟩
 ·rintro f m ⟨i, h5, hi, ht, rfl⟩
  rcases Nat.lt_or_ge i a.length with hlt | hge
  ·obtain ⟨x, hx⟩ : ∃ x, a[i]? = some x := ⟨_, List.getElem?_eq_getElem hlt⟩
   have hrow := Xu hx
   have hilt : (i : Int) < (a.length : Int) := by omega
   have hw := wrS i (by omega)
   rw [Qu hx, nlB_cons] at ht
   obtain ⟨V, hV⟩ : ∃ V, b.all (nlQ x) = V := ⟨_, rfl⟩
   rw [hV] at ht
   simp [h5, hlt, hilt, w28_0]
   refine Qg w28_1 (InvNb x b V) (fun f _ => b.length - (numOf (f 6)).toNat) ?_ ?_
   ·exact ⟨0, by simp, by omega, hV, rfl⟩
   ·rintro g m ⟨k, g6, hk, hv, rfl⟩
    rcases Nat.lt_or_ge k b.length with klt | kge
    ·obtain ⟨y, hy⟩ : ∃ x, b[k]? = some x := ⟨_, List.getElem?_eq_getElem klt⟩
     have hrowy := Xu hy
     have kilt : (k : Int) < (b.length : Int) := by omega
     have hwk := wrS k (by omega)
     rw [Qu hy, List.all_cons] at hv
     by_cases e1 : x.1 = y.1
     ·by_cases e2 : y.2 < x.2
      ·have hq : nlQ x y = false := by simp [nlQ, e1, e2]
       rw [hq, Bool.false_and] at hv
       subst hv
       rw [Bool.false_and] at ht
       simp [h5, g6, hlt, hilt, klt, kilt, hrow, hrowy, Qd, w28_1, w28_0, e1, e2, rs28, <- ht]
      ·have hq : nlQ x y = true := by simp [nlQ, e1, e2]
       rw [hq, Bool.true_and] at hv
       simp [h5, g6, hlt, hilt, klt, kilt, hrow, hrowy, Qd, w28_1, w28_0, e1, e2, hwk]
       refine ⟨ag ?_, ⟨k + 1, by simp, by omega, hv, rfl⟩, by omega⟩
       repeat (first | exact Qb _ _ | refine Qc _ rfl ?_)
     ·have hq : nlQ x y = true := by simp [nlQ, e1]
      rw [hq, Bool.true_and] at hv
      simp [h5, g6, hlt, hilt, klt, kilt, hrow, hrowy, Qd, w28_1, w28_0, e1, hwk]
      refine ⟨ag ?_, ⟨k + 1, by simp, by omega, hv, rfl⟩, by omega⟩
      repeat (first | exact Qb _ _ | refine Qc _ rfl ?_)
    ·have kin : ¬ (k : Int) < (b.length : Int) := by omega
     rw [List.drop_eq_nil_of_le kge] at hv
     have hv : true = V := hv
     subst hv
     rw [Bool.true_and] at ht
     simp [h5, g6, kin, Nat.not_lt.2 kge, w28_1, w28_0, hw]
     refine ⟨ag ?_, ⟨i + 1, by simp, by omega, ht, rfl⟩, by omega⟩
     repeat (first | exact Qb _ _ | refine Qc _ rfl ?_)
  ·have hin : ¬ (i : Int) < (a.length : Int) := by omega
   rw [List.drop_eq_nil_of_le hge] at ht
   have ht : true = T := ht
   simp [h5, hin, Nat.not_lt.2 hge, w28_0, rs28, <- ht]
def Wd (kept : List Int) (at_ : Int) : List Int -> Nat -> List Int
 | [], _ => []
 | id :: r, i => if (i : Int) = at_ \/ id ∈ kept then id :: Wd kept at_ r (i + 1) else Wd kept at_ r (i + 1)
theorem insF_past (kept : List Int) (n : Nat) : ∀ (l : List Int) (i : Nat), n < i -> Wd kept (n : Int) l i = l.filter fun x => decide (x ∈ kept)
 | [], _, _ => rfl
 | id :: r, i, h => by
  rw [Wd, insF_past kept n r (i + 1) (by omega), List.filter_cons]
  have : ¬ (i : Int) = (n : Int) := by omega
  by_cases hm : id ∈ kept
  ·rw [if_pos (.inr hm), if_pos (by simpa using hm)]
  ·rw [if_neg (by rintro (h | h); exact this h; exact hm h), if_neg (by simpa using hm)]
theorem insF_B (kept : List Int) : ∀ (l : List Int) (n i : Nat), Wd kept ((n + i : Nat) : Int) l i = insB kept l n
 | [], _, _ => by simp [Wd, insB]
 | id :: r, 0, i => by
  rw [Wd, if_pos (.inl (by omega)), insF_past _ _ _ _ (by omega), insB]
 | id :: r, n + 1, i => by
  have hne : ¬ (i : Int) = ((n + 1 + i : Nat) : Int) := by omega
  have ih := insF_B kept r n (i + 1)
  rw [show n + (i + 1) = n + 1 + i by omega] at ih
  rw [Wd, insB, ih]
  by_cases hm : id ∈ kept
  ·rw [if_pos (.inr hm), if_pos hm]
  ·rw [if_neg (by rintro (h | h); exact hne h; exact hm h), if_neg hm]
def InvIa (ids kept : List Int) (at_ : Int) (T : List Int) (f : Nat -> AV) (m : AM) : Prop :=
 ∃ (i : Nat) (O : List Int) (rt : Rt) (ls : List Nat), f 8 = I i /\ i <= ids.length /\ f 7 = .sl rt (O.map Qj) /\ OutR 1 0 ls rt O /\ O.length <= i /\ O ++ Wd kept at_ (ids.drop i) i = T /\ m = ⟨[], ls, fun _ => .gone, 0⟩
def InvIb (kept : List Int) (id : Int) (V : Bool) (ls : List Nat) (f : Nat -> AV) (m : AM) : Prop :=
 ∃ (k : Nat) (b : Bool), f 10 = I k /\ k <= kept.length /\ f 9 = .bool b /\ (b || decide (id ∈ kept.drop k)) = V /\ m = ⟨[], ls, fun _ => .gone, 0⟩
set_option maxRecDepth 100000 in
set_option maxHeartbeats 8000000 in
theorem insert30 (ids kept : List Int) (at_ : Int) (hi : ids.length <= 1000) (hk : kept.length <= 1000) : Pure Tryz.prog gl0 30 [.sl .ro (ids.map Qj), .sl .ro (kept.map Qj), I at_] (Js (Wd kept at_ ids 0)) := by
 refine Qr code30 (fun _ _ _ => .junk) (by simp) ?_
 obtain ⟨T, hT⟩ : ∃ T, Wd kept at_ ids 0 = T := ⟨_, rfl⟩
 rw [hT]
 simp [sc30]
 refine Qg w30_0 (InvIa ids kept at_ T) (fun f _ => ids.length - (numOf (f 8)).toNat) ?_ ?_
 ·exact ⟨0, [], .nil, [], by simp, by omega, by simp, .inl ⟨rfl, rfl⟩, by simp, by simpa using hT, rfl⟩
 ·rintro f m ⟨i, O, rt, ls, h8, hil, h7, hO, hOl, ht, rfl⟩
  rcases Nat.lt_or_ge i ids.length with hlt | hge
  ·obtain ⟨id, hx⟩ : ∃ x, ids[i]? = some x := ⟨_, List.getElem?_eq_getElem hlt⟩
   have hrow : Ql (ids.map Qj) i = Qj id := Qv (by simp [hx])
   have hilt : (i : Int) < (ids.length : Int) := by omega
   have hw := wrS i (by omega)
   rw [Qu hx, Wd] at ht
   obtain ⟨V, hV⟩ : ∃ V, (((i : Int) == at_) || decide (id ∈ kept)) = V := ⟨_, rfl⟩
   have hVi : ((i : Int) = at_ \/ id ∈ kept) <-> V = true := by rw [<- hV]; simp
   simp [h8, h7, hlt, hilt, w30_0]
   refine Qg w30_1 (InvIb kept id V ls) (fun f _ => kept.length - (numOf (f 10)).toNat) ?_ ?_
   ·exact ⟨0, (i : Int) == at_, by simp, by omega, by simp, by simpa using hV, rfl⟩
   ·rintro g m ⟨k, b, g10, hkl, g9, hb, rfl⟩
    rcases Nat.lt_or_ge k kept.length with klt | kge
    ·obtain ⟨y, hy⟩ : ∃ x, kept[k]? = some x := ⟨_, List.getElem?_eq_getElem klt⟩
     have hrowy : Ql (kept.map Qj) k = Qj y := Qv (by simp [hy])
     have kilt : (k : Int) < (kept.length : Int) := by omega
     have hwk := wrS k (by omega)
     rw [Qu hy] at hb
     cases b with
     | true =>
      simp [h8, h7, g10, g9, hlt, hilt, klt, kilt, hrow, hrowy, Qj, w30_1, w30_0, hwk]
      refine ⟨ag ?_, ⟨k + 1, true, by simp, by omega, by simp, by simpa using hb, rfl⟩, by omega⟩
      repeat (first | exact Qb _ _ | refine Qc _ rfl ?_)
     | false =>
      have hb2 : ((y == id) || decide (id ∈ kept.drop (k + 1))) = V := by rw [<- hb]; by_cases e : y = id <;> simp [e, eq_comm (a := id)]
      simp [h8, h7, g10, g9, hlt, hilt, klt, kilt, hrow, hrowy, Qj, w30_1, w30_0, hwk]
      refine ⟨ag ?_, ⟨k + 1, y == id, by simp, by omega, by simp, hb2, rfl⟩, by omega⟩
      repeat (first | exact Qb _ _ | refine Qc _ rfl ?_)
    ·have kin : ¬ (k : Int) < (kept.length : Int) := by omega
     rw [List.drop_eq_nil_of_le kge] at hb
     have hb : b = V := by simpa using hb
     subst hb
     cases b with
     | true =>
      rw [if_pos (hVi.2 rfl)] at ht
      have ht : (O ++ [id]) ++ Wd kept at_ (ids.drop (i + 1)) (i + 1) = T := by rw [<- ht]; simp
      rcases hO with ⟨rfl, rfl⟩ | ⟨j, rfl, hk1, hk2, hk3⟩
      ·simp [h8, h7, g10, g9, hlt, hilt, kin, Nat.not_lt.2 kge, hrow, Qj, w30_1, w30_0, hw]
       refine ⟨ag ?_, ⟨i + 1, [] ++ [id], .own ls.length 1, ls ++ [1], by simp, by omega, by simp [Qj], OutR.first (by omega) id, by simp, ht, rfl⟩, by omega⟩
       repeat (first | exact Qb _ _ | refine Qc _ rfl ?_)
      ·simp [h8, h7, g10, g9, hlt, hilt, kin, Nat.not_lt.2 kge, hrow, Qj, w30_1, w30_0, hw, hk2]
       refine ⟨⟨?_, by omega⟩, ag ?_, ⟨i + 1, O ++ [id], .own j 1, ls.set j (O.length + 1), by simp, by omega, by simp [Qj], OutR.push hk1 hk2 id, by simp; omega, ht, rfl⟩, by omega⟩
       ·rintro row (⟨a, _, rfl⟩ | rfl) <;> rfl
       ·repeat (first | exact Qb _ _ | refine Qc _ rfl ?_)
     | false =>
      rw [if_neg (fun h => by cases hVi.1 h)] at ht
      simp [h8, h7, g10, g9, hlt, hilt, kin, Nat.not_lt.2 kge, hrow, Qj, w30_1, w30_0, hw]
      refine ⟨ag ?_, ⟨i + 1, O, rt, ls, by simp, by omega, by simp [h7, Qj], hO, by omega, ht, rfl⟩, by omega⟩
      repeat (first | exact Qb _ _ | refine Qc _ rfl ?_)
  ·have hin : ¬ (i : Int) < (ids.length : Int) := by omega
   rw [List.drop_eq_nil_of_le hge, Wd, List.append_nil] at ht
   subst ht
   rcases hO with ⟨h1, rfl⟩ | ⟨j, rfl, _, _, hne⟩
   ·rw [h1] at h7 |-
    simp [h8, h7, hin, Nat.not_lt.2 hge, w30_0, rs30, Js]
   ·simp [h8, h7, hin, Nat.not_lt.2 hge, w30_0, rs30, Js, hne]
end Go.Proofs.YtkcnjajklnoahaaGreatDoor
