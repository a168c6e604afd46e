import Derived.Test.YtkcnjajklnoahaaGreatDoorSXScP
import Derived.Test.YtkcnjajklnoahaaGreatDoorSXScN
import Derived.Test.YtkcnjajklnoahaaGreatDoorSXScC
import Derived.Test.YtkcnjajklnoahaaGreatDoorSXSdB
import Derived.Test.YtkcnjajklnoahaaGreatDoorSXTcA
set_option linter.unusedVariables false
set_option linter.unusedSimpArgs false
namespace Go.Proofs.YtkcnjajklnoahaaGreatDoor
open Go Go.Abs
def unAd : List AV -> Ad
 | [.int _ a, .int _ b, .int _ c, .int _ d] => ⟨a, b, c, d⟩
 | _ => ⟨0, 0, 0, 0⟩
theorem ear16w {c : Ca} (h : Bnd c) {ids : List Int} (hi : ids.length <= 1000) {at_ : Int} (ha : Xk at_) {past : List Ad} (hp : past.length <= 1000) (r1 r2 : Rt) :
  Pure Tryz.prog gl0 16 [.agg (Qa c.p), .sl r1 (ids.map Qj), I at_, .sl r2 (past.map Qy)] (Qaj c.p at_ past ids) :=
 Xa (Yi h.k ha hp hi) ⟨Wk.refl _, Wk.sl _ _, Wk.refl _, Wk.sl _ _, trivial⟩
theorem notLater28w (a b : List Sp) (ha : a.length <= 1000000) (hb : b.length <= 1000000) (r1 r2 : Rt) : Pure Tryz.prog gl0 28 [.sl r1 (a.map Qd), .sl r2 (b.map Qd)] (.bool (nlB a b)) :=
 Xa (notLater28 a b ha hb) ⟨Wk.sl _ _, Wk.sl _ _, trivial⟩
def bitF (less : Int) (i : Nat) : Bool := decide ((less.fdiv (2 ^ min i IntKind.i64.bits)).tmod 2 = 0)
def orcL6 (B : Ca) : Nat -> FuncId -> List AV -> AV := fun _ f l => if f = 999999 then .junk else if f = 14 then .bool true else if f = 15 then .agg (Qe B) else if f = 27 then (match l with
 | [.int _ c, .int _ n] => I (pickI c n) | _ => .junk) else if f = 16 then (match l with
 | [_, .sl _ a, .int _ t, .sl _ b] => Qaj B.p t (b.map unAd) (a.map unI) | _ => .junk) else .bool true
def Inv6a (B : Ca) (less : Int) (T : List Int) (f : Nat -> AV) (m : AM) : Prop := ∃ (i : Nat) (O : List Int) (rt : Rt) (ls : List Nat), f 11 = I i /\ i <= B.ids.length /\ f 10 = .sl rt (O.map Qj) /\ OutR 1 0 ls rt O /\ O.length <= i /\ O ++ keepI (bitF less) (B.ids.drop i) i = T /\ m = ⟨[Qe B], ls, fun _ => .gone, 0⟩
def Inv6b (B : Ca) (less : Int) (n : Nat) (T : List Ad) (f : Nat -> AV) (m : AM) : Prop := ∃ (i : Nat) (O : List Ad) (rt : Rt) (ls : List Nat), f 13 = I i /\ i <= B.past.length /\ f 12 = .sl rt (O.map Qy) /\ OutR 4 n ls rt O /\ O.length <= i /\ O ++ keepI (fun i => bitF less (10 + i)) (B.past.drop i) i = T /\ m = ⟨[Qe B], ls, fun _ => .gone, 0⟩
set_option maxRecDepth 100000 in
set_option maxHeartbeats 16000000 in
theorem law6 (c : Ca) (less earlier : Int) (h : Ca64 c) (h1 : Xk less) (h2 : Xk earlier) : Pure Tryz.prog gl0 6 [.agg (Qe c), I less, I earlier] (.bool true) := by
 have k14 := sane14
 have k15 := bound15 c h
 have b := bnd_of h
 obtain ⟨B, hB⟩ : ∃ B, bndC c = B := ⟨_, rfl⟩
 rw [hB] at k15 b
 have hun2 : (unI ∘ Qj : Int -> Int) = id := by funext n; rfl
 have hun4 : (unAd ∘ Qy : Ad -> Ad) = id := by funext n; rfl
 have hp6 : B.past.length <= 6 := b.past
 have hi10 : B.ids.length <= 10 := b.ids
 have k16 := ear16 b
 have kp1 := pick_pure less 65536 h1.1 h1.2 (by omega)
 have kp2 := pick_pure earlier 100 h2.1 h2.2 (by omega)
 cases he : Qp B.p B.at_ B.past B.ids with
 | none =>
  have her := Jf he
  rw [her] at k16
  simp only [Qe, Qa] at k15 k16
  refine Qr code6 (orcL6 B) (by simp) ?_
  simp [sc6, rs6, Qe, Qa, orcL6, hun2, hun4, her]
  exact ⟨k14, k15, k16⟩
 | some l =>
  have her := Yu he
  rw [her] at k16
  have hll := ear_len he
  obtain ⟨L, hL⟩ : ∃ L, pickI less 65536 = L := ⟨_, rfl⟩
  have hLb := pickI_bd' less 65536 (by omega)
  obtain ⟨E, hE⟩ : ∃ E, pickI earlier 100 = E := ⟨_, rfl⟩
  have hEb := pickI_bd' earlier 100 (by omega)
  rw [hL] at hLb kp1
  rw [hE] at hEb kp2
  obtain ⟨T, hT⟩ : ∃ T, keepI (bitF L) B.ids 0 = T := ⟨_, rfl⟩
  obtain ⟨U, hU⟩ : ∃ U, keepI (fun i => bitF L (10 + i)) B.past 0 = U := ⟨_, rfl⟩
  have hTs : T.Sublist B.ids := hT ▸ keepI_sub _ _ _
  have hUs : U.Sublist B.past := hU ▸ keepI_sub _ _ _
  have hTl := hTs.length_le
  have hUl := hUs.length_le
  have hat := b.at_
  unfold Xk at hat
  obtain ⟨A, hA⟩ : ∃ A, (if B.at_ < 0 then 0 else B.at_) = A := ⟨_, rfl⟩
  have hAm : A = max B.at_ 0 := by rw [<- hA]; split <;> omega
  have hwA : IntKind.i64.wrap (A - E) = A - E := by rw [Qk] <;> omega
  obtain ⟨l', he', hl', hnl⟩ := ear_part (at' := A - E) hTs hUs (by omega) he
  have her' := Yu he'
  have k16' := fun r1 r2 => ear16w b (ids := T) (by omega) (at_ := A - E) ⟨by omega, by omega⟩ (past := U) (by omega) r1 r2
  have k28 := fun r1 r2 => notLater28w l' l (by omega) (by omega) r1 r2
  rw [her'] at k16'
  rw [hnl] at k28
  simp only [Qe, Qa] at k15 k16 k16'
  refine Qr code6 (orcL6 B) (by simp) ?_
  simp [sc6, Qe, Qa, orcL6, hun2, hun4, her, hL]
  refine ⟨k14, k15, k16, kp1, ?_⟩
  refine Qg w6_0 (Inv6a B L T) (fun f _ => B.ids.length - (numOf (f 11)).toNat) ?_ ?_
  ·exact ⟨0, [], .nil, [], by simp, by omega, by simp, .inl ⟨rfl, rfl⟩, by simp, by simpa using hT, by simp [Qe, Qa]⟩
  ·clear hT
   rintro f m ⟨i, O, rt, ls, f11, hi, f10, hO, hOl, ht, rfl⟩
   by_cases hlt : i < B.ids.length
   ·obtain ⟨x, hx⟩ : ∃ x, B.ids[i]? = some x := ⟨_, List.getElem?_eq_getElem hlt⟩
    have hrow : Ql (B.ids.map Qj) i = Qj x := Qv (by simp [hx])
    have hilt : (i : Int) < (B.ids.length : Int) := by omega
    have hw := wrS i (by omega)
    rw [Qu hx, keepI] at ht
    by_cases hb : (L.fdiv (2 ^ min i IntKind.i64.bits)).tmod 2 = 0
    ·have hbF : bitF L i = true := by simp [bitF, hb]
     rw [if_pos hbF] at ht
     rcases hO with ⟨rfl, rfl⟩ | ⟨j, rfl, hk1, hk2, hk3⟩
     ·simp [f11, f10, hlt, hilt, hrow, Qj, Qe, Qa, w6_0, hw, hb, orcL6]
      refine ⟨ag ?_, ⟨i + 1, [x], .own ls.length 1, ls ++ [1], by simp, by omega, by simp [Qj], OutR.first (by omega) x, by simp, ht, by simp [Qe, Qa]⟩, by omega⟩
      repeat (first | exact Qb _ _ | refine Qc _ rfl ?_)
     ·simp [f11, f10, hlt, hilt, hrow, Qj, Qe, Qa, w6_0, hw, hb, orcL6, hk2]
      refine ⟨⟨?_, by omega⟩, ag ?_, ⟨i + 1, O ++ [x], .own j 1, ls.set j (O.length + 1), by simp, by omega, by simp [Qj], OutR.push hk1 hk2 x, by simp; omega, by rw [<- ht]; simp, by simp [Qe, Qa]⟩, by omega⟩
      ·first | (rintro row (⟨a, _, rfl⟩ | rfl) <;> rfl) | (rintro row h; rcases h with ⟨a, _, rfl⟩ | rfl <;> rfl)
      ·repeat (first | exact Qb _ _ | refine Qc _ rfl ?_)
    ·have hbF : ¬ bitF L i = true := by simp [bitF, hb]
     rw [if_neg hbF] at ht
     simp [f11, f10, hlt, hilt, hrow, Qj, Qe, Qa, w6_0, hw, hb, orcL6]
     refine ⟨ag ?_, ⟨i + 1, O, rt, ls, by simp, by omega, by simp [f10, Qj], hO, by omega, ht, by simp [Qe, Qa]⟩, by omega⟩
     repeat (first | exact Qb _ _ | refine Qc _ rfl ?_)
   ·have hin : ¬ (i : Int) < (B.ids.length : Int) := by omega
    rw [List.drop_eq_nil_of_le (by omega), keepI, List.append_nil] at ht
    subst ht
    simp [f11, f10, hlt, hin, Qe, Qa, w6_0]
    refine Qg w6_1 (Inv6b B L 0 U) (fun f _ => B.past.length - (numOf (f 13)).toNat) ?_ ?_
    ·exact ⟨0, [], .nil, ls, by simp, by omega, by simp, .inl ⟨rfl, rfl⟩, by simp, by simpa using hU, by simp [Qe, Qa]⟩
    ·clear hU
     rintro g m ⟨k, Q, rt2, ls2, g13, hk, g12, hO2, hQl, hu, rfl⟩
     by_cases klt : k < B.past.length
     ·obtain ⟨x, hx⟩ : ∃ x, B.past[k]? = some x := ⟨_, List.getElem?_eq_getElem klt⟩
      have hrow : Ql (B.past.map Qy) k = Qy x := Qv (by simp [hx])
      have kilt : (k : Int) < (B.past.length : Int) := by omega
      have hwk := wrS k (by omega)
      have ht10 : (10 + (k : Int)).toNat = 10 + k := by omega
      have hw10 : IntKind.i64.wrap (10 + (k : Int)) = ((10 + k : Nat) : Int) := by rw [Qk] <;> omega
      rw [Qu hx, keepI] at hu
      by_cases hb : (L.fdiv (2 ^ min (10 + k) IntKind.i64.bits)).tmod 2 = 0
      ·have hbF : bitF L (10 + k) = true := by simp [bitF, hb]
       rw [if_pos hbF] at hu
       rcases hO2 with ⟨rfl, rfl⟩ | ⟨j, rfl, hk1, hk2, hk3⟩
       ·simp [g13, g12, klt, kilt, hrow, Qy, Qe, Qa, w6_1, hwk, hw10, ht10, hb, orcL6]
        refine ⟨by omega, ag ?_, ⟨k + 1, [x], .own ls2.length 4, ls2 ++ [1], by simp, by omega, by simp [Qy], OutR.first (by omega) x, by simp, hu, by simp [Qe, Qa]⟩, by omega⟩
        repeat (first | exact Qb _ _ | refine Qc _ rfl ?_)
       ·simp [g13, g12, klt, kilt, hrow, Qy, Qe, Qa, w6_1, hwk, hw10, ht10, hb, orcL6, hk2]
        refine ⟨by omega, ⟨?_, by omega⟩, ag ?_, ⟨k + 1, Q ++ [x], .own j 4, ls2.set j (Q.length + 1), by simp, by omega, by simp [Qy], OutR.push hk1 hk2 x, by simp; omega, by rw [<- hu]; simp, by simp [Qe, Qa]⟩, by omega⟩
        ·first | (rintro row (⟨a, _, rfl⟩ | rfl) <;> rfl) | (rintro row h; rcases h with ⟨a, _, rfl⟩ | rfl <;> rfl)
        ·repeat (first | exact Qb _ _ | refine Qc _ rfl ?_)
      ·have hbF : ¬ bitF L (10 + k) = true := by simp [bitF, hb]
       rw [if_neg hbF] at hu
       simp [g13, g12, klt, kilt, hrow, Qy, Qe, Qa, w6_1, hwk, hw10, ht10, hb, orcL6]
       refine ⟨by omega, ag ?_, ⟨k + 1, Q, rt2, ls2, by simp, by omega, by simp [g12, Qy], hO2, by omega, hu, by simp [Qe, Qa]⟩, by omega⟩
       repeat (first | exact Qb _ _ | refine Qc _ rfl ?_)
     ·have kin : ¬ (k : Int) < (B.past.length : Int) := by omega
      rw [List.drop_eq_nil_of_le (by omega), keepI, List.append_nil] at hu
      subst hu
      have hl2 : l'.length = O.length := hl'
      rcases hO with ⟨h1, rfl⟩ | ⟨j, rfl, _⟩ <;> rcases hO2 with ⟨h2, rfl⟩ | ⟨j2, rfl, _⟩
      all_goals
       simp [g13, g12, klt, kin, Qe, Qa, w6_1, w6_0, orcL6, hE, hA, hwA, f10, hun2, hun4, her', hl2, rs6]
       exact ⟨kp2, k16' _ _, k28 _ _⟩
end Go.Proofs.YtkcnjajklnoahaaGreatDoor
