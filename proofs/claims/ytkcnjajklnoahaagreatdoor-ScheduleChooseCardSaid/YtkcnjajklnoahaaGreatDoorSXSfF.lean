import Derived.Test.YtkcnjajklnoahaaGreatDoorSXSfE
import Derived.Test.YtkcnjajklnoahaaGreatDoorSXSfD
set_option linter.unusedVariables false
set_option linter.unusedSimpArgs false
namespace Go.Proofs.YtkcnjajklnoahaaGreatDoor
open Go Go.Abs
def Inv29 (ids : List Int) (a : List Sp) (D S : List Int) (f : Nat -> AV) (m : AM) : Prop :=
 ∃ (i k d : Nat) (O : List Int) (rt : Rt) (ls : List Nat), f 11 = I i /\ f 9 = I k /\ f 10 = I d /\ i <= ids.length /\ k <= a.length /\ d <= D.length /\ f 8 = .sl rt (O.map Qj) /\ OutR 1 0 ls rt O /\ O.length <= i /\
  O ++ (splB (ids.drop i) ((a.map (·.1)).drop k) (D.drop d)).1 = S /\ (splB (ids.drop i) ((a.map (·.1)).drop k) (D.drop d)).2 = true /\ m = ⟨[], ls, fun _ => .gone, 0⟩
theorem drop_fst {a : List Sp} {k : Nat} {y : Sp} (h : a[k]? = some y) : (a.map (·.1)).drop k = y.1 :: (a.map (·.1)).drop (k + 1) := Qu (by simp [h])
set_option maxRecDepth 100000 in
set_option maxHeartbeats 16000000 in
theorem split29 (ids : List Int) (a : List Sp) (D S : List Int) (hi : ids.length <= 1000) (ha : a.length <= 1000) (hd : D.length <= 1000) (h : splB ids (a.map (·.1)) D = (S, true)) (r0 r1 r2 : Rt) :
  Pure Tryz.prog gl0 29 [.sl r0 (ids.map Qj), .sl r1 (a.map Qd), .sl r2 (D.map Qj)] (.tup [.sl (rtE S) (S.map Qj), .bool true]) := by
 refine Xa ?_ (l' := [.sl .ro (ids.map Qj), .sl .ro (a.map Qd), .sl .ro (D.map Qj)]) ⟨Wk.sl _ _, Wk.sl _ _, Wk.sl _ _, trivial⟩
 refine Qr code29 (fun _ _ _ => .junk) (by simp) ?_
 simp [sc29]
 refine Qg w29_0 (Inv29 ids a D S) (fun f _ => ids.length - (numOf (f 11)).toNat) ?_ ?_
 ·exact ⟨0, 0, 0, [], .nil, [], by simp, by simp, by simp, by omega, by omega, by omega, by simp, .inl ⟨rfl, rfl⟩, by simp, by simp [h], by simp [h], rfl⟩
 ·rintro f m ⟨i, k, d, O, rt, ls, f11, f9, f10, hil, hkl, hdl, f8, hO, hOl, hs, ht, rfl⟩
  rcases Nat.lt_or_ge i ids.length with hlt | hge
  ·obtain ⟨id, hx⟩ : ∃ x, ids[i]? = some x := ⟨_, List.getElem?_eq_getElem hlt⟩
   have hrow : Ql (ids.map Qj) i = Qj id := Qv (by simp [hx])
   have hilt : (i : Int) < (ids.length : Int) := by omega
   have hw := wrS i (by omega)
   have hwk := wrS k (by omega)
   have hwd := wrS d (by omega)
   rw [Qu hx, splB] at hs ht
   by_cases hA : ((a.map (·.1)).drop k).head? = some id
   ·rw [if_pos hA] at hs ht
    have klt : k < a.length := by
     rcases Nat.lt_or_ge k a.length with h | h
     ·exact h
     ·rw [List.drop_eq_nil_of_le (by simp; omega)] at hA; cases hA
    obtain ⟨y, hy⟩ : ∃ x, a[k]? = some x := ⟨_, List.getElem?_eq_getElem klt⟩
    have hrowy := Xu hy
    have kilt : (k : Int) < (a.length : Int) := by omega
    rw [drop_fst hy] at hA hs ht
    have e : y.1 = id := by simpa using hA
    simp only [List.tail_cons] at hs ht
    rcases hO with ⟨rfl, rfl⟩ | ⟨j, rfl, hk1, hk2, hk3⟩
    ·simp [f11, f9, f10, f8, hlt, hilt, klt, kilt, hrow, hrowy, Qj, w29_0, e, hw, hwk]
     refine ⟨ag ?_, ⟨i + 1, k + 1, d, [id], .own ls.length 1, ls ++ [1], by simp, by simp, by simp [f10], by omega, by omega, by omega, by simp [Qj], OutR.first (by omega) id, by simp, hs, ht, rfl⟩, by omega⟩
     repeat (first | exact Qb _ _ | refine Qc _ rfl ?_)
    ·simp [f11, f9, f10, f8, hlt, hilt, klt, kilt, hrow, hrowy, Qj, w29_0, e, hw, hwk, hk2]
     refine ⟨⟨?_, by omega⟩, ag ?_, ⟨i + 1, k + 1, d, O ++ [id], .own j 1, ls.set j (O.length + 1), by simp, by simp, by simp [f10], by omega, by omega, by omega, by simp [Qj], OutR.push hk1 hk2 id, by simp; omega, by rw [<- hs]; simp, ht, rfl⟩, by omega⟩
     ·first | (rintro row (⟨a, _, rfl⟩ | rfl) <;> rfl) | (rintro row h; rcases h with ⟨a, _, rfl⟩ | rfl <;> rfl)
     ·repeat (first | exact Qb _ _ | refine Qc _ rfl ?_)
   ·rw [if_neg hA] at hs ht
    by_cases hB : (D.drop d).head? = some id
    ·rw [if_pos hB] at hs ht
     have dlt : d < D.length := by
      rcases Nat.lt_or_ge d D.length with h | h
      ·exact h
      ·rw [List.drop_eq_nil_of_le h] at hB; cases hB
     obtain ⟨z, hz⟩ : ∃ x, D[d]? = some x := ⟨_, List.getElem?_eq_getElem dlt⟩
     have hrowz : Ql (D.map Qj) d = Qj z := Qv (by simp [hz])
     have dilt : (d : Int) < (D.length : Int) := by omega
     rw [Qu hz] at hB hs ht
     have e : z = id := by simpa using hB
     simp only [List.tail_cons] at hs ht
     rcases Nat.lt_or_ge k a.length with klt | kge
     ·obtain ⟨y, hy⟩ : ∃ x, a[k]? = some x := ⟨_, List.getElem?_eq_getElem klt⟩
      have hrowy := Xu hy
      have kilt : (k : Int) < (a.length : Int) := by omega
      have hne : ¬ y.1 = id := fun h => hA (by rw [drop_fst hy, h]; rfl)
      simp [f11, f9, f10, f8, hlt, hilt, klt, kilt, dlt, dilt, hrow, hrowy, hrowz, Qj, w29_0, e, hne, hw, hwd]
      refine ⟨ag ?_, ⟨i + 1, k, d + 1, O, rt, ls, by simp, by simp [f9], by simp, by omega, by omega, by omega, by simp [f8, Qj], hO, by omega, hs, ht, rfl⟩, by omega⟩
      repeat (first | exact Qb _ _ | refine Qc _ rfl ?_)
     ·have kin : ¬ (k : Int) < (a.length : Int) := by omega
      simp [f11, f9, f10, f8, hlt, hilt, kin, Nat.not_lt.2 kge, dlt, dilt, hrow, hrowz, Qj, w29_0, e, hw, hwd]
      refine ⟨ag ?_, ⟨i + 1, k, d + 1, O, rt, ls, by simp, by simp [f9], by simp, by omega, by omega, by omega, by simp [f8, Qj], hO, by omega, hs, ht, rfl⟩, by omega⟩
      repeat (first | exact Qb _ _ | refine Qc _ rfl ?_)
    ·rw [if_neg hB] at ht
     cases ht
  ·have hin : ¬ (i : Int) < (ids.length : Int) := by omega
   rw [List.drop_eq_nil_of_le hge, splB] at hs ht
   simp only [List.append_nil, Bool.and_eq_true, List.isEmpty_iff, List.drop_eq_nil_iff, List.length_map] at hs ht
   subst hs
   obtain rfl : k = a.length := by omega
   obtain rfl : d = D.length := by omega
   rcases hO with ⟨h1, rfl⟩ | ⟨j, rfl, _, _, hne⟩
   ·subst h1
    simp [f11, f9, f10, f8, hin, Nat.not_lt.2 hge, w29_0, rs29, rtE]
   ·simp [f11, f9, f10, f8, hin, Nat.not_lt.2 hge, w29_0, rs29, rtE, hne]
def orcL9 (B : Ca) (R29 : AV) : Nat -> FuncId -> List AV -> AV := fun _ f l => if f = 999999 then .junk else if f = 14 then .bool true else if f = 15 then .agg (Qe B) else if f = 19 then choR B.p B.at_ B.past B.ids else if f = 29 then R29 else if f = 30 then (match l with
 | [.sl _ a, .sl _ b, .int _ n] => .sl (rtE (Wd (b.map unI) n (a.map unI) 0)) ((Wd (b.map unI) n (a.map unI) 0).map Qj) | _ => .junk) else if f = 16 then (match l with
 | [_, .sl _ a, _, _] => Qaj B.p B.at_ B.past (a.map unI) | _ => .junk) else .bool true
def Inv9a (B : Ca) (f : Nat -> AV) (m : AM) : Prop := ∃ (i : Nat), f 4 = I i /\ i <= B.ids.length /\ (B.ids.take i).Nodup /\ m = ⟨[Qe B], [], fun _ => .gone, 0⟩
def Inv9b (B : Ca) (i : Nat) (x : Int) (f : Nat -> AV) (m : AM) : Prop := ∃ (k : Nat), f 5 = I k /\ k <= i /\ x ∉ B.ids.take k /\ m = ⟨[Qe B], [], fun _ => .gone, 0⟩
def Inv9c (B : Ca) (f : Nat -> AV) (m : AM) : Prop := ∃ (i : Nat), f 12 = I i /\ i <= B.ids.length /\ m = ⟨[Qe B], [], fun _ => .gone, 0⟩
def Inv9d (B : Ca) (D : List Int) (f : Nat -> AV) (m : AM) : Prop := ∃ (k : Nat), f 13 = I k /\ k <= D.length /\ m = ⟨[Qe B], [], fun _ => .gone, 0⟩
theorem insert30w (ids kept : List Int) (n : Int) (hi : ids.length <= 1000) (hk : kept.length <= 1000) (r : Rt) : Pure Tryz.prog gl0 30 [.sl .ro (ids.map Qj), .sl r (kept.map Qj), I n] (.sl (rtE (Wd kept n ids 0)) ((Wd kept n ids 0).map Qj)) := by
 rw [<- slI8_rt]
 exact Xa (insert30 ids kept n hi hk) ⟨Wk.refl _, Wk.sl _ _, Wk.refl _, trivial⟩
theorem earR_of (p : Pl) (at_ : Int) (past : List Ad) (ids : List Int) : ∃ (r : Rt) (l : List Sp) (b : Bool), Qaj p at_ past ids = .tup [.sl r (l.map Qd), .bool b] /\ (Qp p at_ past ids).isSome = b := by
 cases he : Qp p at_ past ids with
 | none => exact ⟨.nil, [], false, by rw [Jf he]; rfl, rfl⟩
 | some l => exact ⟨rtE l, l, true, by rw [Yu he], rfl⟩
set_option maxRecDepth 100000 in
set_option maxHeartbeats 16000000 in
theorem law9 (c : Ca) (h : Ca64 c) : Pure Tryz.prog gl0 9 [.agg (Qe c)] (.bool true) := by
 have k14 := sane14
 obtain ⟨h', hrow'⟩ := wh_pos h
 have k15 := bound15 _ h'
 have b := bnd_of h'
 obtain ⟨B, hB⟩ : ∃ B, bndC { c with wh := if c.wh < 0 then 0 else c.wh } = B := ⟨_, rfl⟩
 rw [hrow', hB] at k15
 rw [hB] at b
 have hun2 : (unI ∘ Qj : Int -> Int) = id := by funext n; rfl
 have hi10 : B.ids.length <= 10 := b.ids
 have k19 := choose19w b (ids := B.ids) (by omega) .ro
 have k16a := ear16 b
 obtain ⟨L, hL1, hL2, hL3⟩ := choR_eq B.p B.at_ B.past B.ids
 have hDl := drop_len B.p B.at_ B.past B.ids
 have hKl := keep_len B.p B.at_ B.past B.ids
 have hall := cho_all B.p B.at_ B.past B.ids
 have hspl := cho_spl (p := B.p) (at_ := B.at_) (past := B.past) (ids := B.ids)
 have hins := @cho_ins B.p B.at_ B.past B.ids
 obtain ⟨S, hS⟩ : ∃ S, keepS B.p B.at_ B.past B.ids = S := ⟨_, rfl⟩
 obtain ⟨D, hD⟩ : ∃ D, dropS B.p B.at_ B.past B.ids = D := ⟨_, rfl⟩
 rw [hS] at hL1 hL2 hKl hspl hins
 rw [hD] at hL3 hDl hall hspl hins
 rw [hL3] at k19
 have hLl : L.length = S.length := by rw [<- hL2]; simp
 have k16b := fun r1 => ear16w b (ids := S) (by omega) b.at_ (past := B.past) (by have := b.past; omega) r1 .ro
 have herS := Yu hL1
 rw [herS] at k16b
 have k18 := fun r1 r2 => sameS_self (l := L) (by omega) r1 r2
 obtain ⟨ra, la, ba, hra, hba⟩ := earR_of B.p B.at_ B.past B.ids
 rw [hra] at k16a
 rw [hba] at hall
 have k30 := fun n r => insert30w B.ids S n (by omega) (by omega) r
 simp only [Qe, Qa] at k15 k19 k16a k16b
 refine Qr code9 (orcL9 B (.tup [.sl (rtE S) (S.map Qj), .bool true])) (by simp) ?_
 simp [sc9, Qe, Qa, orcL9]
 refine ⟨k14, k15, ?_⟩
 clear k14 k15
 refine Qg w9_0 (Inv9a B) (fun f _ => B.ids.length - (numOf (f 4)).toNat) ?_ ?_
 ·exact ⟨0, by simp, by omega, by simp, by simp [Qe, Qa]⟩
 ·rintro f m ⟨i, f4, hi, hnd, rfl⟩
  rcases Nat.lt_or_ge i B.ids.length with hlt | hge
  ·obtain ⟨x, hx⟩ : ∃ x, B.ids[i]? = some x := ⟨_, List.getElem?_eq_getElem hlt⟩
   have hrow : Ql (B.ids.map Qj) i = Qj x := Qv (by simp [hx])
   have hilt : (i : Int) < (B.ids.length : Int) := by omega
   have hw := wrS i (by omega)
   simp [f4, hlt, hilt, Qe, Qa, w9_0]
   refine Qg w9_1 (Inv9b B i x) (fun f _ => i - (numOf (f 5)).toNat) ?_ ?_
   ·exact ⟨0, by simp, by omega, by simp, by simp [Qe, Qa]⟩
   ·rintro g m ⟨k, g5, hk, hxk, rfl⟩
    rcases Nat.lt_or_ge k i with klt | kge
    ·obtain ⟨y, hy⟩ : ∃ x, B.ids[k]? = some x := ⟨_, List.getElem?_eq_getElem (by omega)⟩
     have hrowy : Ql (B.ids.map Qj) k = Qj y := Qv (by simp [hy])
     have kilt : (k : Int) < (i : Int) := by omega
     have kltB : k < B.ids.length := by omega
     have hwk := wrS k (by omega)
     by_cases e : x = y
     ·simp [g5, klt, kilt, kltB, hlt, hilt, hrow, hrowy, Qj, Qe, Qa, w9_1, e, rs9]
     ·simp [g5, klt, kilt, kltB, hlt, hilt, hrow, hrowy, Qj, Qe, Qa, w9_1, e, hwk]
      refine ⟨ag ?_, ⟨k + 1, by simp, by omega, take_mem_step hy hxk e, by simp [Qe, Qa]⟩, by omega⟩
      repeat (first | exact Qb _ _ | refine Qc _ rfl ?_)
    ·obtain rfl : k = i := by omega
     have kin : ¬ (k : Int) < (k : Int) := by omega
     have hnd' := nodup_step hx hnd hxk
     simp [g5, kin, Qe, Qa, w9_1, w9_0, hw]
     refine ⟨ag ?_, ⟨k + 1, by simp, by omega, hnd', by simp [Qe, Qa]⟩, by simp [f4]; omega⟩
     repeat (first | exact Qb _ _ | refine Qc _ rfl ?_)
  ·have hin : ¬ (i : Int) < (B.ids.length : Int) := by omega
   rw [List.take_of_length_le hge] at hnd
   have k29 := fun r1 r2 => split29 B.ids L D S (by omega) (by omega) (by omega) (by rw [hL2]; exact hspl hnd) .ro r1 r2
   simp [f4, hin, Nat.not_lt.2 hge, Qe, Qa, w9_0, orcL9, hL3, hun2, herS]
   refine ⟨k19, k29 _ _, k16b _, k18 _ _, ?_⟩
   clear k19 k29 k16b k18
   refine Qg w9_2 (Inv9c B) (fun f _ => B.ids.length - (numOf (f 12)).toNat) ?_ ?_
   ·exact ⟨0, by simp, by omega, by simp [Qe, Qa]⟩
   ·rintro f m ⟨i, f12, hi, rfl⟩
    rcases Nat.lt_or_ge i B.ids.length with hlt | hge
    ·obtain ⟨x, hx⟩ : ∃ x, B.ids[i]? = some x := ⟨_, List.getElem?_eq_getElem hlt⟩
     have hrow : Ql (B.ids.map Qj) i = Qj x := Qv (by simp [hx])
     have hilt : (i : Int) < (B.ids.length : Int) := by omega
     have hw := wrS i (by omega)
     simp [f12, hlt, hilt, Qe, Qa, w9_2]
     refine Qg w9_3 (Inv9d B D) (fun f _ => D.length - (numOf (f 13)).toNat) ?_ ?_
     ·exact ⟨0, by simp, by omega, by simp [Qe, Qa]⟩
     ·rintro g m ⟨k, g13, hk, rfl⟩
      rcases Nat.lt_or_ge k D.length with klt | kge
      ·obtain ⟨y, hy⟩ : ∃ x, D[k]? = some x := ⟨_, List.getElem?_eq_getElem klt⟩
       have hrowy : Ql (D.map Qj) k = Qj y := Qv (by simp [hy])
       have kilt : (k : Int) < (D.length : Int) := by omega
       have hwk := wrS k (by omega)
       by_cases e : x = y
       ·have hX := hins hnd hx (by rw [e]; exact List.mem_of_getElem? hy)
        have hXl := insF_len S (i : Int) B.ids 0
        have k30i := k30 (i : Int)
        obtain ⟨X, hXe⟩ : ∃ X, Wd S (i : Int) B.ids 0 = X := ⟨_, rfl⟩
        rw [hXe] at hX hXl k30i
        have herX := Jf hX
        have k16c := fun r1 => ear16w b (ids := X) (by omega) b.at_ (past := B.past) (by have := b.past; omega) r1 .ro
        rw [herX] at k16c
        simp only [Qa] at k16c
        simp [g13, klt, kilt, hlt, hilt, hrow, hrowy, Qj, Qe, Qa, w9_3, <- e, hwk, orcL9, hun2, hXe, herX]
        refine ⟨k30i _, k16c _, ag ?_, ⟨k + 1, by simp, by omega, by simp [Qe, Qa]⟩, by omega⟩
        repeat (first | exact Qb _ _ | refine Qc _ rfl ?_)
       ·simp [g13, klt, kilt, hlt, hilt, hrow, hrowy, Qj, Qe, Qa, w9_3, e, hwk]
        refine ⟨ag ?_, ⟨k + 1, by simp, by omega, by simp [Qe, Qa]⟩, by omega⟩
        repeat (first | exact Qb _ _ | refine Qc _ rfl ?_)
      ·have kin : ¬ (k : Int) < (D.length : Int) := by omega
       simp [g13, kin, Nat.not_lt.2 kge, Qe, Qa, w9_3, w9_2, hw]
       refine ⟨ag ?_, ⟨i + 1, by simp, by omega, by simp [Qe, Qa]⟩, by simp [f12]; omega⟩
       repeat (first | exact Qb _ _ | refine Qc _ rfl ?_)
    ·have hin2 : ¬ (i : Int) < (B.ids.length : Int) := by omega
     by_cases hDe : D = []
     ·have hb : ba = true := by rw [hall]; simp [hDe]
      subst hb
      simp [f12, hin2, Nat.not_lt.2 hge, Qe, Qa, w9_2, orcL9, hun2, hra, hDe, rs9]
      exact k16a
     ·have hb : ba = false := by rw [hall]; simp [hDe]
      subst hb
      have hDn : ¬ D.length = 0 := fun h => hDe (List.length_eq_zero_iff.1 h)
      simp [f12, hin2, Nat.not_lt.2 hge, Qe, Qa, w9_2, orcL9, hun2, hra, hDe, hDn, rs9]
      exact k16a
end Go.Proofs.YtkcnjajklnoahaaGreatDoor
