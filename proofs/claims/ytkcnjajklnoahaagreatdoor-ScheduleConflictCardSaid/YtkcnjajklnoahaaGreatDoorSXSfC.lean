import Derived.Test.YtkcnjajklnoahaaGreatDoorSXScP
import Derived.Test.YtkcnjajklnoahaaGreatDoorSXScN
import Derived.Test.YtkcnjajklnoahaaGreatDoorSXScC
set_option linter.unusedVariables false
set_option linter.unusedSimpArgs false
namespace Go.Proofs.YtkcnjajklnoahaaGreatDoor
open Go Go.Abs
def orcL8 (B : Ca) (C : AV) : Nat -> FuncId -> List AV -> AV := fun _ f l => if f = 999999 then .junk else if f = 14 then .bool true else if f = 15 then .agg (Qe B) else if f = 22 then C else if f = 16 then (match l with
 | [_, .sl _ a, _, _] => Qaj B.p B.at_ B.past (a.map unI) | _ => .junk) else .junk
def Inv8a (B : Ca) (C : List Int) (f : Nat -> AV) (m : AM) : Prop := ∃ (i k : Nat), f 10 = I i /\ f 9 = I k /\ i <= B.ids.length /\ k <= C.length /\ k + grd (B.ids.drop i) (C.drop k) = C.length /\ m = ⟨[Qe B], [], fun _ => .gone, 0⟩
def Inv8b (B : Ca) (C : List Int) (f : Nat -> AV) (m : AM) : Prop := ∃ (i : Nat) (ls : List Nat), f 11 = I i /\ i <= C.length /\ m = ⟨[Qe B], ls, fun _ => .gone, 0⟩
set_option maxRecDepth 100000 in
set_option maxHeartbeats 16000000 in
theorem law8 (c : Ca) (h : Ca64 c) : Pure Tryz.prog gl0 8 [.agg (Qe c)] (.bool true) := by
 have k14 := sane14
 have k15 := bound15 c h
 have b := bnd_of h
 obtain ⟨B, hB⟩ : ∃ B, bndC c = B := ⟨_, rfl⟩
 rw [hB] at k15 b
 have hun : ∀ l : List Int, (l.map Qj).map unI = l := unI_map
 have hun2 : (unI ∘ Qj : Int -> Int) = id := by funext n; rfl
 have hp6 : B.past.length <= 1000 := by have := b.past; omega
 have hi10 : B.ids.length <= 1000 := by have := b.ids; omega
 have k16 := ear16 b
 have k22 := conflict22 b.k b.at_ hp6 hi10
 cases he : Qp B.p B.at_ B.past B.ids with
 | some l =>
  have hc : conR B.p B.at_ B.past B.ids = .sl .nil [] := by rw [conR, con_none (by rw [he]; rfl)]; rfl
  rw [hc] at k22
  have her := Yu he
  rw [her] at k16
  simp only [Qe, Qa] at k15 k16 k22
  refine Qr code8 (orcL8 B (.sl .nil [])) (by simp) ?_
  simp [sc8, rs8, Qe, Qa, orcL8, hun, hun2, her]
  exact ⟨k14, k15, k16, k22⟩
 | none =>
  obtain ⟨c1, c2, c3, c4⟩ := con_some he
  obtain ⟨C, hC⟩ : ∃ C, Uf (bdP B.p B.at_ B.past) B.ids = C := ⟨_, rfl⟩
  have hc : conR B.p B.at_ B.past B.ids = .sl .ro (C.map Qj) := by rw [conR, hC, Js, if_neg (by rw [<- hC]; exact c2)]
  rw [hC] at c1 c2 c3 c4
  rw [hc] at k22
  have hCl : C.length <= 10 := by have := c3.length_le; have := b.ids; omega
  have hC0 : ¬ C.length = 0 := fun h => c2 (List.length_eq_zero_iff.1 h)
  have her := Jf he
  have herC := Jf c1
  have k16c := Yi b.k b.at_ hp6 (ids := C) (by omega)
  rw [herC] at k16c
  rw [her] at k16
  have hgr := grd_sub c3
  simp only [Qe, Qa] at k15 k16 k22 k16c
  refine Qr code8 (orcL8 B (.sl .ro (C.map Qj))) (by simp) ?_
  simp [sc8, Qe, Qa, orcL8, hun, hun2, her, herC, hC0]
  refine ⟨k14, k15, k16, k22, k16c, ?_⟩
  clear k14 k15 k16 k22 k16c
  refine Qg w8_0 (Inv8a B C) (fun f _ => B.ids.length - (numOf (f 10)).toNat) ?_ ?_
  ·exact ⟨0, 0, by simp, by simp, by omega, by omega, by simp [hgr], by simp [Qe, Qa]⟩
  ·rintro f m ⟨i, k, f10, f9, hi, hk, hg, rfl⟩
   by_cases hlt : i < B.ids.length
   ·have hilt : (i : Int) < (B.ids.length : Int) := by omega
    by_cases hkt : k < C.length
    ·have hkit : (k : Int) < (C.length : Int) := by omega
     obtain ⟨x, hx⟩ : ∃ x, B.ids[i]? = some x := ⟨_, List.getElem?_eq_getElem hlt⟩
     obtain ⟨y, hy⟩ : ∃ x, C[k]? = some x := ⟨_, List.getElem?_eq_getElem hkt⟩
     have hrow : Ql (B.ids.map Qj) i = Qj x := Qv (by simp [hx])
     have hrowy : Ql (C.map Qj) k = Qj y := Qv (by simp [hy])
     have hw := wrS i (by omega)
     have hwk := wrS k (by omega)
     rw [Qu hx, Qu hy, grd] at hg
     by_cases e : x = y
     ·rw [if_pos e] at hg
      simp [f10, f9, hlt, hilt, hkt, hkit, hrow, hrowy, Qj, Qe, Qa, w8_0, e, hw, hwk]
      refine ⟨ag ?_, ⟨i + 1, k + 1, by simp, by simp, by omega, by omega, by omega, by simp [Qe, Qa]⟩, by omega⟩
      repeat (first | exact Qb _ _ | refine Qc _ rfl ?_)
     ·rw [if_neg e, <- Qu hy] at hg
      simp [f10, f9, hlt, hilt, hkt, hkit, hrow, hrowy, Qj, Qe, Qa, w8_0, e, hw, hwk]
      refine ⟨ag ?_, ⟨i + 1, k, by simp, by simp [f9], by omega, by omega, hg, by simp [Qe, Qa]⟩, by omega⟩
      repeat (first | exact Qb _ _ | refine Qc _ rfl ?_)
    ·have hkn : ¬ (k : Int) < (C.length : Int) := by omega
     obtain rfl : k = C.length := by omega
     simp [f10, f9, hlt, hilt, hkt, hkn, Qe, Qa, w8_0]
     refine Qg w8_1 (Inv8b B C) (fun f _ => C.length - (numOf (f 11)).toNat) ?_ ?_
     ·exact ⟨0, [], by simp, by omega, by simp [Qe, Qa]⟩
     ·rintro g m ⟨j, ls, f11, hj, rfl⟩
      rcases Nat.lt_or_ge j C.length with jlt | jge
      ·have jilt : (j : Int) < (C.length : Int) := by omega
       have hwj := wrS j (by omega)
       obtain ⟨l, hl⟩ := c4 j jlt
       have hlS := Yu hl
       have k16l := Yi b.k b.at_ hp6 (ids := C.take j ++ C.drop (j + 1)) (by simp; omega)
       rw [hlS] at k16l
       simp only [Qa, List.map_append, List.map_take, List.map_drop] at k16l
       simp [f11, jlt, jilt, w8_1, Qe, Qa]
       have t1 : List.take (C.length - (j + 1)) (List.drop (j + 1) C) = List.drop (j + 1) C := List.take_of_length_le (by simp)
       have t2 : List.take (C.length - (j + 1)) (List.drop (j + 1) (C.map Qj)) = List.drop (j + 1) (C.map Qj) := List.take_of_length_le (by simp)
       refine Xn ?_
       simp [hwj, jlt, jilt, orcL8, hun, hun2, hlS, Qe, Qa, t1, t2]
       have hr1 : ∀ row ∈ C.map Qj, row.length = 1 := fun row hr => by
        obtain ⟨a, _, rfl⟩ := List.mem_map.1 hr
        rfl
       refine ⟨⟨by omega, fun _ _ => rfl⟩, ⟨fun row hr => hr1 row (List.mem_of_mem_take hr), by omega⟩, ⟨⟨by omega, by omega⟩, fun _ _ => rfl⟩, ⟨fun row hr => ?_, by omega⟩, k16l, ag ?_, ⟨j + 1, _, by simp, by omega, by simp [Qe, Qa]; rfl⟩, by simp [f11]; omega⟩
       ·rcases hr with hr | hr
        ·exact hr1 row (List.mem_of_mem_take hr)
        ·exact hr1 row (List.mem_of_mem_drop hr)
       ·repeat (first | exact Qb _ _ | refine Qc _ rfl ?_)
      ·have jin : ¬ (j : Int) < (C.length : Int) := by omega
       simp [f11, Nat.not_lt.2 jge, jin, w8_1, w8_0, f9, rs8]
   ·have hin : ¬ (i : Int) < (B.ids.length : Int) := by omega
    rw [List.drop_eq_nil_of_le (by omega)] at hg
    obtain rfl : k = C.length := by simpa [grd] using hg
    simp [f10, f9, hlt, hin, Qe, Qa, w8_0]
    refine Qg w8_1 (Inv8b B C) (fun f _ => C.length - (numOf (f 11)).toNat) ?_ ?_
    ·exact ⟨0, [], by simp, by omega, by simp [Qe, Qa]⟩
    ·rintro g m ⟨j, ls, f11, hj, rfl⟩
     rcases Nat.lt_or_ge j C.length with jlt | jge
     ·have jilt : (j : Int) < (C.length : Int) := by omega
      have hwj := wrS j (by omega)
      obtain ⟨l, hl⟩ := c4 j jlt
      have hlS := Yu hl
      have k16l := Yi b.k b.at_ hp6 (ids := C.take j ++ C.drop (j + 1)) (by simp; omega)
      rw [hlS] at k16l
      simp only [Qa, List.map_append, List.map_take, List.map_drop] at k16l
      simp [f11, jlt, jilt, w8_1, Qe, Qa]
      have t1 : List.take (C.length - (j + 1)) (List.drop (j + 1) C) = List.drop (j + 1) C := List.take_of_length_le (by simp)
      have t2 : List.take (C.length - (j + 1)) (List.drop (j + 1) (C.map Qj)) = List.drop (j + 1) (C.map Qj) := List.take_of_length_le (by simp)
      refine Xn ?_
      simp [hwj, jlt, jilt, orcL8, hun, hun2, hlS, Qe, Qa, t1, t2]
      have hr1 : ∀ row ∈ C.map Qj, row.length = 1 := fun row hr => by
       obtain ⟨a, _, rfl⟩ := List.mem_map.1 hr
       rfl
      refine ⟨⟨by omega, fun _ _ => rfl⟩, ⟨fun row hr => hr1 row (List.mem_of_mem_take hr), by omega⟩, ⟨⟨by omega, by omega⟩, fun _ _ => rfl⟩, ⟨fun row hr => ?_, by omega⟩, k16l, ag ?_, ⟨j + 1, _, by simp, by omega, by simp [Qe, Qa]; rfl⟩, by simp [f11]; omega⟩
      ·rcases hr with hr | hr
       ·exact hr1 row (List.mem_of_mem_take hr)
       ·exact hr1 row (List.mem_of_mem_drop hr)
      ·repeat (first | exact Qb _ _ | refine Qc _ rfl ?_)
     ·have jin : ¬ (j : Int) < (C.length : Int) := by omega
      simp [f11, Nat.not_lt.2 jge, jin, w8_1, w8_0, f9, rs8]
end Go.Proofs.YtkcnjajklnoahaaGreatDoor
