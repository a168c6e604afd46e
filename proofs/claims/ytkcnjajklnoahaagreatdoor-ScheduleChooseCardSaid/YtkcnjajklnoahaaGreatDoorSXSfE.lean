import Derived.Test.YtkcnjajklnoahaaGreatDoorSXSdC
import Derived.Test.YtkcnjajklnoahaaGreatDoorSXScN
import Derived.Test.YtkcnjajklnoahaaGreatDoorSXMM
set_option linter.unusedVariables false
set_option linter.unusedSimpArgs false
namespace Go.Proofs.YtkcnjajklnoahaaGreatDoor
open Go Go.Abs
theorem choose19w {c : Ca} (h : Bnd c) {ids : List Int} (hi : ids.length <= 1000) (r : Rt) :
  Pure Tryz.prog gl0 19 [.agg (Qa c.p), .sl r (ids.map Qj), I c.at_, .sl .ro (c.past.map Qy)] (choR c.p c.at_ c.past ids) :=
 Xa (choose19 h.k h.at_ (by have := h.past; omega) hi) ⟨Wk.refl _, Wk.sl _ _, Wk.refl _, Wk.refl _, trivial⟩
theorem wh_pos {c : Ca} (h : Ca64 c) : Ca64 { c with wh := if c.wh < 0 then 0 else c.wh } /\ Qe { c with wh := if c.wh < 0 then 0 else c.wh } = Qa c.p ++ [.sl .ro (c.ids.map Qj), I (if c.wh < 0 then 0 else c.wh), I c.at_, .sl .ro (c.past.map Qy)] := by
 refine ⟨?_, rfl⟩
 have hw := h.wh
 have hw2 : Xk (if c.wh < 0 then 0 else c.wh) := by unfold Xk at hw |-; split <;> omega
 exact { h with wh := hw2 }
theorem entry_bo (p : Pl) (id : Int) : ∃ (x : En) (al : AV) (kn : Bool), Qx al = true /\ enAV (Vy id p.ens) = .tup [.agg [I x.id, I x.it, I x.fr, I x.ea, I x.la, I x.bo, al], .bool kn] /\ boS p id = x.bo := by
 unfold boS
 cases hf : Vy id p.ens with
 | none => exact ⟨⟨0, 0, 0, 0, 0, 0, []⟩, .sl .nil [], false, rfl, rfl, rfl⟩
 | some x => exact ⟨x, .sl .ro (x.al.map Qd), true, rfl, rfl, rfl⟩
def Jt (B : Ca) : Nat -> FuncId -> List AV -> AV := fun _ f l => if f = 999999 then .junk else if f = 14 then .bool true else if f = 15 then .agg (Qe B) else if f = 31 then (match l with
 | [_, .int _ id] => enAV (Vy id B.p.ens) | _ => .junk) else if f = 19 then (match l with
 | [_, .sl _ a, _, _] => choR B.p B.at_ B.past (a.map unI) | _ => .junk) else .bool true
def Inv10a (B : Ca) (f : Nat -> AV) (m : AM) : Prop := ∃ (i : Nat) (O : List Int) (rt : Rt) (ls : List Nat) (bx : List (List AV)), f 5 = I i /\ i <= B.ids.length /\ f 4 = .sl rt (O.map Qj) /\ OutR 1 0 ls rt O /\ O = soldS B.p (B.ids.take i) /\ (B.ids.take i).Nodup /\ m = ⟨Qe B :: bx, ls, fun _ => .gone, 0⟩
def Inv10b (B : Ca) (i : Nat) (x : Int) (ls : List Nat) (bx : List (List AV)) (f : Nat -> AV) (m : AM) : Prop := ∃ (k : Nat), f 6 = I k /\ k <= i /\ x ∉ B.ids.take k /\ m = ⟨Qe B :: bx, ls, fun _ => .gone, 0⟩
def Inv10c (B : Ca) (D S T : List Int) (bx : List (List AV)) (f : Nat -> AV) (m : AM) : Prop := ∃ (i : Nat) (O : List Int) (rt : Rt) (ls : List Nat), f 14 = I i /\ i <= D.length /\ f 13 = .sl rt (O.map Qj) /\ OutR 1 0 ls rt O /\ O.length <= 10 * i /\ O ++ dblF S (D.drop i) = T /\ m = ⟨Qe B :: bx, ls, fun _ => .gone, 0⟩
def Inv10d (B : Ca) (i : Nat) (x : Int) (R S T : List Int) (bx : List (List AV)) (f : Nat -> AV) (m : AM) : Prop := ∃ (k : Nat) (O : List Int) (rt : Rt) (ls : List Nat), f 15 = I k /\ k <= S.length /\ f 13 = .sl rt (O.map Qj) /\ OutR 1 0 ls rt O /\ O.length <= 10 * i + k /\ O ++ (repF x (S.drop k) ++ dblF S R) = T /\ m = ⟨Qe B :: bx, ls, fun _ => .gone, 0⟩
set_option maxRecDepth 100000 in
set_option maxHeartbeats 16000000 in
theorem law10 (c : Ca) (h : Ca64 c) : Pure Tryz.prog gl0 10 [.agg (Qe c)] (.bool true) := by
 have k14 := sane14
 obtain ⟨h', hrow'⟩ := wh_pos h
 have k15 := bound15 _ h'
 have b := bnd_of h'
 obtain ⟨B, hB⟩ : ∃ B, bndC { c with wh := if c.wh < 0 then 0 else c.wh } = B := ⟨_, rfl⟩
 rw [hrow', hB] at k15
 rw [hB] at b
 have hun2 : (unI ∘ Qj : Int -> Int) = id := by funext n; rfl
 have hi10 : B.ids.length <= 10 := b.ids
 have hkb := b.k
 obtain ⟨l1', l2', l3', l4', l5', l6', l7', l8', l9', l10'⟩ := hkb
 simp only [Qe, Qa] at k15
 refine Qr code10 (Jt B) (by simp) ?_
 simp [sc10, Qe, Qa, Jt]
 refine ⟨k14, k15, ?_⟩
 clear k14 k15
 refine Qg w10_0 (Inv10a B) (fun f _ => B.ids.length - (numOf (f 5)).toNat) ?_ ?_
 ·exact ⟨0, [], .nil, [], [], by simp, by omega, by simp, .inl ⟨rfl, rfl⟩, rfl, by simp, by simp [Qe, Qa]⟩
 ·rintro f m ⟨i, O, rt, ls, bx, f5, hi, f4, hO, hOs, hnd, rfl⟩
  rcases Nat.lt_or_ge i B.ids.length with hlt | hge
  ·obtain ⟨x, hx⟩ : ∃ x, B.ids[i]? = some x := ⟨_, List.getElem?_eq_getElem hlt⟩
   have hrow : Ql (B.ids.map Qj) i = Qj x := Qv (by simp [hx])
   have hilt : (i : Int) < (B.ids.length : Int) := by omega
   have hw := wrS i (by omega)
   have hOl : O.length <= i := by rw [hOs]; have := sold_len B.p (B.ids.take i); simp at this; omega
   simp [f5, f4, hlt, hilt, Qe, Qa, w10_0]
   refine Qg w10_1 (Inv10b B i x ls bx) (fun f _ => i - (numOf (f 6)).toNat) ?_ ?_
   ·exact ⟨0, by simp, by omega, by simp, by simp [Qe, Qa]⟩
   ·rintro g m ⟨k, g6, hk, hxk, rfl⟩
    rcases Nat.lt_or_ge k i with klt | kge
    ·obtain ⟨y, hy⟩ : ∃ x, B.ids[k]? = some x := ⟨_, List.getElem?_eq_getElem (by omega)⟩
     have hrowy : Ql (B.ids.map Qj) k = Qj y := Qv (by simp [hy])
     have kilt : (k : Int) < (i : Int) := by omega
     have kltB : k < B.ids.length := by omega
     have hwk := wrS k (by omega)
     by_cases e : x = y
     ·simp [g6, klt, kilt, kltB, hlt, hilt, hrow, hrowy, Qj, Qe, Qa, w10_1, e, rs10]
     ·simp [g6, klt, kilt, kltB, hlt, hilt, hrow, hrowy, Qj, Qe, Qa, w10_1, e, hwk]
      refine ⟨ag ?_, ⟨k + 1, by simp, by omega, take_mem_step hy hxk e, by simp [Qe, Qa]⟩, by omega⟩
      repeat (first | exact Qb _ _ | refine Qc _ rfl ?_)
    ·obtain rfl : k = i := by omega
     have kin : ¬ (k : Int) < (k : Int) := by omega
     have hnd' := nodup_step hx hnd hxk
     obtain ⟨X, al, kn, hal, hE, hbo⟩ := entry_bo B.p x
     have k31 := entry_pure B.p x (by omega) (fun e he => by have := l6' e he; omega)
     rw [hE] at k31
     simp only [Qa] at k31
     have hst := sold_step (p := B.p) hx
     rw [<- hOs, hbo] at hst
     simp [g6, kin, hlt, hilt, hrow, Qj, Qe, Qa, w10_1, w10_0, Jt, hE]
     refine Xn ?_
     by_cases hb : X.bo = 0
     ·have hst' : soldS B.p (B.ids.take (k + 1)) = O := by rw [hst]; simp [hb]
      rw [hb] at k31
      simp [hlt, hilt, hrow, Qj, Jt, hE, hb, hw]
      refine ⟨k31, hal, ag ?_, ⟨k + 1, O, rt, ls, _, by simp, by omega, by simp [f4, Qj], hO, hst'.symm, hnd', by simp [Qe, Qa]; rfl⟩, by simp [f5]; omega⟩
      repeat (first | exact Qb _ _ | refine Qc _ rfl ?_)
     ·have hst' : soldS B.p (B.ids.take (k + 1)) = O ++ [x] := by rw [hst]; simp [hb]
      rcases hO with ⟨h1, rfl⟩ | ⟨j, rfl, hk1, hk2, hk3⟩
      ·subst h1
       simp [hlt, hilt, hrow, Qj, Jt, hE, hb, hw]
       refine ⟨k31, hal, ag ?_, ⟨k + 1, [x], .own ls.length 1, ls ++ [1], _, by simp, by omega, by simp [Qj], OutR.first (by omega) x, hst'.symm, hnd', by simp [Qe, Qa]; rfl⟩, by simp [f5]; omega⟩
       repeat (first | exact Qb _ _ | refine Qc _ rfl ?_)
      ·simp [hlt, hilt, hrow, Qj, Jt, hE, hb, hw, hk2]
       refine ⟨k31, hal, ⟨?_, by omega⟩, ag ?_, ⟨k + 1, O ++ [x], .own j 1, ls.set j (O.length + 1), _, by simp, by omega, by simp [Qj], OutR.push hk1 hk2 x, hst'.symm, hnd', by simp [Qe, Qa]; rfl⟩, by simp [f5]; omega⟩
       ·first | (rintro row (⟨a, _, rfl⟩ | rfl) <;> rfl) | (rintro row h; rcases h with ⟨a, _, rfl⟩ | rfl <;> rfl)
       ·repeat (first | exact Qb _ _ | refine Qc _ rfl ?_)
  ·have hin : ¬ (i : Int) < (B.ids.length : Int) := by omega
   have htl : B.ids.take i = B.ids := List.take_of_length_le hge
   rw [htl] at hOs hnd
   have hOl := sold_len B.p B.ids
   rw [<- hOs] at hOl
   have hbk := booked_out (p := B.p) (at_ := B.at_) (past := B.past) hnd
   rw [<- hOs] at hbk
   obtain ⟨L, hL1, hL2, hL3⟩ := choR_eq B.p B.at_ B.past B.ids
   obtain ⟨L', hL1', hL2', hL3'⟩ := choR_eq B.p B.at_ B.past O
   have hDl := drop_len B.p B.at_ B.past B.ids
   have hDl' := drop_len B.p B.at_ B.past O
   obtain ⟨D, hD⟩ : ∃ D, dropS B.p B.at_ B.past B.ids = D := ⟨_, rfl⟩
   obtain ⟨D', hD'⟩ : ∃ D, dropS B.p B.at_ B.past O = D := ⟨_, rfl⟩
   rw [hD] at hL3 hbk hDl
   rw [hD'] at hL3' hbk hDl'
   have k19 := choose19w b (ids := B.ids) (by omega) .ro
   have k19' := fun r => choose19w b (ids := O) (by omega) r
   rw [hL3] at k19
   rw [hL3'] at k19'
   have k21 := fun r1 r2 => sameI_self (l := D') (by omega) r1 r2
   simp only [Qa] at k19 k19'
   rcases hO with ⟨h1, rfl⟩ | ⟨j, rfl, hk1, hk2, hk3⟩
   all_goals
    simp [f5, f4, hin, Nat.not_lt.2 hge, Qe, Qa, w10_0, Jt, hun2, hL3, hL3']
    refine ⟨k19, k19' _, ?_⟩
    refine Qg w10_2 (Inv10c B D O D' bx) (fun f _ => D.length - (numOf (f 14)).toNat) ?_ ?_
    ·exact ⟨0, [], .nil, ls, by simp, by omega, by simp, .inl ⟨rfl, rfl⟩, by simp, hbk, by simp [Qe, Qa]⟩
    ·rintro f m ⟨i, Q, rt, ls2, f14, hi, f13, hQ, hQl, ht, rfl⟩
     rcases Nat.lt_or_ge i D.length with hlt | hge
     ·obtain ⟨x, hx⟩ : ∃ x, D[i]? = some x := ⟨_, List.getElem?_eq_getElem hlt⟩
      have hrow : Ql (D.map Qj) i = Qj x := Qv (by simp [hx])
      have hilt : (i : Int) < (D.length : Int) := by omega
      have hw := wrS i (by omega)
      rw [Qu hx, dblF] at ht
      simp [f14, f13, hlt, hilt, Qe, Qa, w10_2]
      refine Qg w10_3 (Inv10d B i x (D.drop (i + 1)) O D' bx) (fun f _ => O.length - (numOf (f 15)).toNat) ?_ ?_
      ·exact ⟨0, Q, rt, ls2, by simp, by omega, by simp [f13], hQ, by omega, by rw [List.drop_zero]; exact ht, by simp [Qe, Qa]⟩
      ·clear ht hQ f13 hQl
       rintro g m ⟨k, Q, rt, ls2, g15, hk, g13, hQ, hQl, ht, rfl⟩
       rcases Nat.lt_or_ge k O.length with klt | kge
       ·obtain ⟨y, hy⟩ : ∃ x, O[k]? = some x := ⟨_, List.getElem?_eq_getElem klt⟩
        have hrowy : Ql (O.map Qj) k = Qj y := Qv (by simp [hy])
        have kilt : (k : Int) < (O.length : Int) := by omega
        have hwk := wrS k (by omega)
        rw [Qu hy, repF] at ht
        by_cases e : x = y
        ·rw [if_pos e] at ht
         rcases hQ with ⟨rfl, rfl⟩ | ⟨j2, rfl, hk1, hk2, hk3⟩
         ·simp [g15, g13, klt, kilt, hlt, hilt, hrow, hrowy, Qj, Qe, Qa, w10_3, Jt, <- e, hwk]
          refine ⟨ag ?_, ⟨k + 1, [x], .own ls2.length 1, ls2 ++ [1], by simp, by omega, by simp [Qj], OutR.first (by omega) x, by simp; omega, by rw [<- ht]; simp, by simp [Qe, Qa]⟩, by omega⟩
          repeat (first | exact Qb _ _ | refine Qc _ rfl ?_)
         ·simp [g15, g13, klt, kilt, hlt, hilt, hrow, hrowy, Qj, Qe, Qa, w10_3, Jt, <- e, hwk, hk2]
          refine ⟨⟨?_, by omega⟩, ag ?_, ⟨k + 1, Q ++ [x], .own j2 1, ls2.set j2 (Q.length + 1), by simp, by omega, by simp [Qj], OutR.push hk1 hk2 x, by simp; omega, by rw [<- ht]; simp, by simp [Qe, Qa]⟩, by omega⟩
          ·first | (rintro row (⟨a, _, rfl⟩ | rfl) <;> rfl) | (rintro row h; rcases h with ⟨a, _, rfl⟩ | rfl <;> rfl)
          ·repeat (first | exact Qb _ _ | refine Qc _ rfl ?_)
        ·rw [if_neg e] at ht
         simp [g15, g13, klt, kilt, hlt, hilt, hrow, hrowy, Qj, Qe, Qa, w10_3, Jt, e, hwk]
         refine ⟨ag ?_, ⟨k + 1, Q, rt, ls2, by simp, by omega, by simp [g13, Qj], hQ, by omega, ht, by simp [Qe, Qa]⟩, by omega⟩
         repeat (first | exact Qb _ _ | refine Qc _ rfl ?_)
       ·have kin : ¬ (k : Int) < (O.length : Int) := by omega
        rw [List.drop_eq_nil_of_le kge, repF, List.nil_append] at ht
        simp [g15, g13, kin, Nat.not_lt.2 kge, Qe, Qa, w10_3, w10_2, Jt, hw]
        refine ⟨ag ?_, ⟨i + 1, Q, rt, ls2, by simp, by omega, by simp [g13, Qj], hQ, by omega, ht, by simp [Qe, Qa]⟩, by simp [f14]; omega⟩
        repeat (first | exact Qb _ _ | refine Qc _ rfl ?_)
     ·have hin2 : ¬ (i : Int) < (D.length : Int) := by omega
      rw [List.drop_eq_nil_of_le hge, dblF, List.append_nil] at ht
      subst ht
      rcases hQ with ⟨h2, rfl⟩ | ⟨j2, rfl, _⟩
      all_goals
       simp [f14, f13, hin2, Nat.not_lt.2 hge, Qe, Qa, w10_2, Jt, rs10]
       exact k21 _ _
end Go.Proofs.YtkcnjajklnoahaaGreatDoor
