import Derived.Test.YtkcnjajklnoahaaGreatDoorSXMT
import Derived.Test.YtkcnjajklnoahaaGreatDoorSXSaC
import Derived.Test.YtkcnjajklnoahaaGreatDoorSXSaE
import Derived.Test.YtkcnjajklnoahaaGreatDoorSXSbD
set_option linter.unusedVariables false
set_option linter.unusedSimpArgs false
namespace Go.Proofs.YtkcnjajklnoahaaGreatDoor
open Go Go.Abs
def start0 (p : Pl) (e : En) (f : Int) : Option Int :=
 if e.fr < 1 \/ 1000000 < e.fr \/ p.ln < e.fr then none else
 if max f 0 < 1000000 /\ 0 <= lastS p e /\ lastS p e < 1000000 then (match earS (Xq p e.it 0) (max f 0) e.fr with
  | none => none
  | some s => if lastS p e < s then none else some s) else Xt p e f
theorem start0_eq (p : Pl) (e : En) (f : Int) : start0 p e f = Xt p e f := by
 unfold start0
 split
 ·rename_i h
  rw [Xt, if_pos h]
 ·rename_i h
  split
  ·rename_i h2
   rw [Xt, if_neg h]
   have hz : (max f 0).tdiv 1000000 = 0 := Int.tdiv_eq_zero_of_lt (by omega) (by omega)
   rw [hz]
   conv => rhs; unfold stP
   rw [if_pos (by omega)]
   cases earS (Xq p e.it 0) (max f 0) e.fr with
   | none =>
    simp only
    unfold stP
    rw [if_neg (by omega)]
   | some s => rfl
  ·rfl
def ear0 (p : Pl) : List Int -> List (Int × Int) -> List (Int × Int) -> Int -> Int -> Option (List Sp)
 | [], _, _, _, _ => some []
 | id :: r, us, en, free, last => match Yq id p.ens 0 with
  | none => none
  | some k => if (k : Int) <= last then none else match p.ens[k]? with
   | none => none
   | some e => if Va p e.it ≠ -1 /\ Va p e.it <= (af e.it us).getD 0 then none else
    match start0 p e (Xz en (Vl p e.it) (max e.ea free)) with
    | none => none
    | some s => match ear0 p r (Zf us e.it) (Xp p en e.it (s + e.fr)) (s + e.fr) k with
     | none => none
     | some l => some ((id, s) :: l)
theorem Qbb (p : Pl) : ∀ (ids : List Int) (us en : List (Int × Int)) (free last : Int), ear0 p ids us en free last = Zp p ids us en free last
 | [], _, _, _, _ => rfl
 | id :: r, us, en, free, last => by
  rw [ear0, Zp]
  simp only [start0_eq, Qbb p r]
  rfl
def exP (rg : Int) : Pl := ⟨0, 25, 1, 0, [], 1000, rg, 300, 1, [⟨1, 5, 10, 0, 0⟩, ⟨2, 2, 50, 3, 0⟩, ⟨3, 2, 50, 7, 0⟩], [⟨5, 2, 50, 0, 100, 0, []⟩, ⟨6, 3, 50, 0, 240, 0, []⟩], [], [⟨1, 2, 1001, 1100, 255, 0, 0, 0⟩, ⟨1, 3, 1000, 1100, 255, 0, 0, 0⟩, ⟨5, 0, 0, 0, 0, 4, 3, 7⟩]⟩
theorem ex_a : Zp (exP 1) [5, 6] [] [] 0 (-1) = some [(5, 25), (6, 175)] := by rw [<- Qbb]; cbv
theorem ex_no : Zp (exP 1) [6, 5] [] [] 0 (-1) = none := by rw [<- Qbb]; cbv
theorem ex_b : Zp (exP 1) [5, 6] [] [] 70 (-1) = some [(5, 70), (6, 220)] := by rw [<- Qbb]; cbv
theorem ex_c : Zp (exP 1) [5, 6] [] [] 95 (-1) = none := by rw [<- Qbb]; cbv
theorem ex_c5 : Zp (exP 1) [5] [] [] 95 (-1) = some [(5, 95)] := by rw [<- Qbb]; cbv
theorem ex_c6 : Zp (exP 1) [6] [] [] 95 (-1) = some [(6, 95)] := by rw [<- Qbb]; cbv
theorem ex_v : pvB (exP 1) = true := by cbv
theorem ex_w : pvB (exP 0) = false := by cbv
open Go Go.Abs
def runH (it : Int) (bf : List Ad) : Int := ((bf.filter fun a => decide (a.it = it)).length : Nat)
def gapH (p : Pl) (it s : Int) (a : Ad) : Bool := !(decide (0 < Zt p a.it it) && decide (s < a.fr + a.fs + Zt p a.it it))
def condH (p : Pl) (at_ id : Int) (s : Sp) (bf : List Ad) (free last : Int) (k : Nat) (e : En) : Bool :=
 decide (s.1 = id /\ last < (k : Int) /\ e.ea <= s.2 /\ s.2 <= e.la /\ at_ <= s.2 /\ free <= s.2 /\ 1 <= e.fr /\ 0 <= s.2 /\ s.2 <= 100000000 /\ s.2 + e.fr <= p.ln /\ Yy p e.it 0 s.2 e.fr = true /\ bf.all (gapH p e.it s.2) = true /\ (Va p e.it = -1 \/ runH e.it bf < Va p e.it))
def hldB (p : Pl) (at_ : Int) : List Int -> List Sp -> List Ad -> Int -> Int -> Bool
 | [], [], _, _, _ => true
 | id :: r, s :: l, bf, free, last => match Yq id p.ens 0 with
  | none => false
  | some k => match p.ens[k]? with
   | none => false
   | some e => condH p at_ id s bf free last k e && hldB p at_ r l (bf ++ [⟨e.it, 0, s.2, e.fr⟩]) (s.2 + e.fr) k
 | _, _, _, _, _ => false
def endH (bf : List Ad) : List (Int × Int) := (bf.map fun a => (a.it, a.fr + a.fs)).reverse
theorem cnt_end (it : Int) (bf : List Ad) : cntI it (endH bf) = runH it bf := by
 unfold cntI runH endH
 rw [List.filter_reverse, List.length_reverse, List.filter_map, List.length_map]
 rfl
theorem gap_end (p : Pl) (it s : Int) (bf : List Ad) : bf.all (gapH p it s) = true <-> ∀ a ∈ endH bf, 0 < Zt p a.1 it -> a.2 + Zt p a.1 it <= s := by
 rw [List.all_eq_true]
 constructor
 ·intro h a ha hg
  simp only [endH, List.mem_reverse, List.mem_map] at ha
  obtain ⟨b, hb, rfl⟩ := ha
  have := h b hb
  simp only [gapH, Bool.not_eq_true', Bool.and_eq_false_iff, decide_eq_false_iff_not] at this
  simp only at hg |-
  omega
 ·intro h b hb
  have := h (b.it, b.fr + b.fs) (by simp only [endH, List.mem_reverse, List.mem_map]; exact ⟨b, hb, rfl⟩)
  simp only at this
  simp only [gapH, Bool.not_eq_true', Bool.and_eq_false_iff, decide_eq_false_iff_not]
  by_cases hg : 0 < Zt p b.it it
  ·exact .inr (by have := this hg; omega)
  ·exact .inl hg
theorem end_app (bf : List Ad) (a : Ad) : endH (bf ++ [a]) = (a.it, a.fr + a.fs) :: endH bf := by simp [endH]
theorem hldB_iff {p : Pl} {at_ : Int} : ∀ {ids : List Int} {l : List Sp} {bf : List Ad} {free last : Int}, at_ <= free -> (hldB p at_ ids l bf free last = true <-> holdG p ids l (endH bf) free last)
 | [], [], _, _, _, _ => by simp [hldB, holdG]
 | [], _ :: _, _, _, _, _ => by simp [hldB, holdG]
 | _ :: _, [], _, _, _, _ => by simp [hldB, holdG]
 | id :: r, s :: l, bf, free, last, hat => by
  rw [hldB, holdG]
  cases hf : Yq id p.ens 0 with
  | none => simp
  | some k =>
   cases hx : p.ens[k]? with
   | none => simp [hx]
   | some e =>
    simp only [hx, Bool.and_eq_true, condH, decide_eq_true_eq]
    have hal : Yy p e.it 0 s.2 e.fr = true -> 1 <= e.fr /\ e.fr <= 1000000 := fun h => by
     have := ((allowB_iff _ _ _ _ _).1 h).1
     omega
    have hlow : 0 <= s.2 -> 1 <= e.fr -> free <= s.2 -> at_ <= s.2 + e.fr := by omega
    have he : endH (bf ++ [⟨e.it, 0, s.2, e.fr⟩]) = (e.it, s.2 + e.fr) :: endH bf := end_app _ _
    constructor
    ·rintro ⟨⟨c1, c2, c3, c4, c5, c6, c7, c8, c9, c10, c11, c12, c13⟩, h⟩
     rw [hldB_iff (by omega), he] at h
     exact ⟨k, e, rfl, hx, c1, c2, hal c11, c6, c3, c4, c8, c9, c10, c11, by rw [cnt_end]; exact c13, (gap_end p e.it s.2 bf).1 c12, h⟩
    ·rintro ⟨k', e', h1, h2, c1, c2, c7, c6, c3, c4, c8, c9, c10, c11, c13, c12, h⟩
     obtain rfl : k = k' := Option.some.inj h1
     rw [hx] at h2
     obtain rfl : e = e' := Option.some.inj h2
     refine ⟨⟨c1, c2, c3, c4, by omega, c6, c7.1, c8, c9, c10, c11, (gap_end p e.it s.2 bf).2 c12, by rw [<- cnt_end]; exact c13⟩, ?_⟩
     rw [hldB_iff (by omega), he]
     exact h
theorem endH_past (past : List Ad) : endH (past.filter Zq) = (pastB past).reverse := rfl
open Go Go.Abs
def keepI {α : Type} (f : Nat -> Bool) : List α -> Nat -> List α
 | [], _ => []
 | x :: r, i => if f i = true then x :: keepI f r (i + 1) else keepI f r (i + 1)
theorem keepI_sub {α : Type} (f : Nat -> Bool) : ∀ (l : List α) (i : Nat), (keepI f l i).Sublist l
 | [], _ => List.Sublist.refl _
 | x :: r, i => by
  rw [keepI]
  split
  ·exact (keepI_sub f r _).cons_cons x
  ·exact (keepI_sub f r _).cons x
def Js (l : List Int) : AV := if l = [] then .sl .nil [] else .sl .ro (l.map Qj)
def bdP (p : Pl) (at_ : Int) (past : List Ad) : Bd := ⟨p, at_, Vt past [], Vu p past [], [], [], []⟩
theorem bdP_ok (p : Pl) (at_ : Int) (past : List Ad) : Qas (bdP p at_ past) := ⟨fun _ _ h => (by cases h), fun _ _ h => (by cases h), fun _ _ h => (by cases h)⟩
def Qaj (p : Pl) (at_ : Int) (past : List Ad) (ids : List Int) : AV := match Qp p at_ past ids with
 | none => .tup [.sl .nil [], .bool false]
 | some l => .tup [Uc l, .bool true]
def conR (p : Pl) (at_ : Int) (past : List Ad) (ids : List Int) : AV := Js (Uf (bdP p at_ past) ids)
def rdS (p : Pl) (id : Int) : Nat := match Vy id p.ens with
 | none => 2
 | some e => if e.bo ≠ 0 then 0 else match Xf e.it p.its with
  | none => 2
  | some x => if x.ki = 1 \/ x.ki = 4 then 1 else 2
def Ue (p : Pl) (at_ : Int) (past : List Ad) (ids : List Int) : List Bool := Yv (okE (bdP p at_ past)) (rdS p) ids
def choR (p : Pl) (at_ : Int) (past : List Ad) (ids : List Int) : AV :=
 .tup [Uc ((Qp p at_ past (Qt true ids (Ue p at_ past ids))).getD []), Js (Qt false ids (Ue p at_ past ids))]
theorem Uh (p : Pl) (at_ : Int) (past : List Ad) (ids : List Int) : okE (bdP p at_ past) ids = (Qp p at_ past ids).isSome := rfl
theorem rdS_le (p : Pl) (id : Int) : rdS p id <= 2 := by
 unfold rdS
 cases Vy id p.ens with
 | none => exact Nat.le_refl _
 | some e =>
  simp only
  split
  ·omega
  ·cases Xf e.it p.its with
   | none => exact Nat.le_refl _
   | some x => simp only; split <;> omega
theorem Kq (p : Pl) (at_ : Int) (past : List Ad) (ids : List Int) : (Ue p at_ past ids).length = ids.length /\ (Qp p at_ past (Qt true ids (Ue p at_ past ids))).isSome = true /\
  ∀ (j : Nat) (id : Int), ids[j]? = some id -> (Ue p at_ past ids).getD j false = true \/ (Qp p at_ past (Qt true ids ((Ue p at_ past ids).set j true))).isSome = false :=
 choose_spec (okE_mono _) (okE_nil _) (rdS p) ids fun id _ => rdS_le p id
theorem keptS_all (p : Pl) (at_ : Int) (past : List Ad) (ids : List Int) (h : (Qp p at_ past ids).isSome = true) : Qt true ids (Ue p at_ past ids) = ids /\ Qt false ids (Ue p at_ past ids) = [] :=
 choose_all (okE_mono _) (okE_nil _) (rdS p) ids (fun id _ => rdS_le p id) h
open Go Go.Abs
theorem take_eq_step {α : Type} {a b : List α} {i : Nat} {x y : α} (ha : a[i]? = some x) (hb : b[i]? = some y) (h : a.take i = b.take i) : a.take (i + 1) = b.take (i + 1) <-> x = y := by
 rw [List.take_add_one, List.take_add_one, ha, hb, h]
 simp
theorem ne_of_take {α : Type} {a b : List α} {i : Nat} (h : a.take i ≠ b.take i) : a ≠ b := fun e => h (by rw [e])
set_option maxHeartbeats 4000000 in
theorem sameS_pure (a b : List Sp) (ha : a.length <= 1000000000) : Pure Tryz.prog gl0 18 [.sl .ro (a.map Qd), .sl .ro (b.map Qd)] (.bool (decide (a = b))) := by
 refine Qr code18 (fun _ _ _ => .junk) (by simp) ?_
 by_cases hl : a.length = b.length
 ·simp [sc18, hl]
  refine Qg w18_0 (fun f m => ∃ i : Nat, f 5 = I i /\ i <= b.length /\ a.take i = b.take i /\ m = ⟨[], [], fun _ => .gone, 0⟩) (fun f _ => b.length - (numOf (f 5)).toNat) ?_ ?_
  ·exact ⟨0, by simp, by omega, by simp, rfl⟩
  ·rintro f m ⟨i, h5, hi, ht, rfl⟩
   rcases Nat.lt_or_ge i b.length with hlt | hge
   ·obtain ⟨x, hx⟩ : ∃ x, a[i]? = some x := ⟨_, List.getElem?_eq_getElem (by omega)⟩
    obtain ⟨y, hy⟩ : ∃ y, b[i]? = some y := ⟨_, List.getElem?_eq_getElem hlt⟩
    have hrx := Xu hx
    have hry := Xu hy
    have hilt : (i : Int) < (b.length : Int) := by omega
    have hw := wrS i (by omega)
    have hs := take_eq_step hx hy ht
    by_cases e1 : x.1 = y.1
    ·by_cases e2 : x.2 = y.2
     ·simp [h5, hl, hlt, hilt, hrx, hry, Qd, w18_0, e1, e2, hw]
      refine ⟨ag ?_, ⟨i + 1, by simp, by omega, hs.2 (Prod.ext e1 e2)⟩, by omega⟩
      repeat (first | exact Qb _ _ | refine Qc _ rfl ?_)
     ·have hne : a ≠ b := ne_of_take fun h => e2 (by rw [hs.1 h])
      simp [h5, hl, hlt, hilt, hrx, hry, Qd, w18_0, e1, e2, rs18, hne]
    ·have hne : a ≠ b := ne_of_take fun h => e1 (by rw [hs.1 h])
     simp [h5, hl, hlt, hilt, hrx, hry, Qd, w18_0, e1, rs18, hne]
   ·have hin : ¬ (i : Int) < (b.length : Int) := by omega
    have he : a = b := by
     rw [List.take_of_length_le (by omega), List.take_of_length_le (by omega)] at ht
     exact ht
    simp [h5, hl, hin, Nat.not_lt.2 hge, w18_0, rs18, he]
 ·have hne : a ≠ b := fun e => hl (by rw [e])
  have hl' : ¬ (a.length : Int) = (b.length : Int) := by omega
  simp [sc18, rs18, hl, hl', hne]
set_option maxHeartbeats 4000000 in
theorem sameI_pure (a b : List Int) (ha : a.length <= 1000000000) : Pure Tryz.prog gl0 21 [.sl .ro (a.map Qj), .sl .ro (b.map Qj)] (.bool (decide (a = b))) := by
 refine Qr code21 (fun _ _ _ => .junk) (by simp) ?_
 by_cases hl : a.length = b.length
 ·simp [sc21, hl]
  refine Qg w21_0 (fun f m => ∃ i : Nat, f 5 = I i /\ i <= b.length /\ a.take i = b.take i /\ m = ⟨[], [], fun _ => .gone, 0⟩) (fun f _ => b.length - (numOf (f 5)).toNat) ?_ ?_
  ·exact ⟨0, by simp, by omega, by simp, rfl⟩
  ·rintro f m ⟨i, h5, hi, ht, rfl⟩
   rcases Nat.lt_or_ge i b.length with hlt | hge
   ·obtain ⟨x, hx⟩ : ∃ x, a[i]? = some x := ⟨_, List.getElem?_eq_getElem (by omega)⟩
    obtain ⟨y, hy⟩ : ∃ y, b[i]? = some y := ⟨_, List.getElem?_eq_getElem hlt⟩
    have hrx : Ql (a.map Qj) i = Qj x := Qv (by simp [hx])
    have hry : Ql (b.map Qj) i = Qj y := Qv (by simp [hy])
    have hilt : (i : Int) < (b.length : Int) := by omega
    have hw := wrS i (by omega)
    have hs := take_eq_step hx hy ht
    by_cases e1 : x = y
    ·simp [h5, hl, hlt, hilt, hrx, hry, Qj, w21_0, e1, hw]
     refine ⟨ag ?_, ⟨i + 1, by simp, by omega, hs.2 e1⟩, by omega⟩
     repeat (first | exact Qb _ _ | refine Qc _ rfl ?_)
    ·have hne : a ≠ b := ne_of_take fun h => e1 (by rw [hs.1 h])
     simp [h5, hl, hlt, hilt, hrx, hry, Qj, w21_0, e1, rs21, hne]
   ·have hin : ¬ (i : Int) < (b.length : Int) := by omega
    have he : a = b := by
     rw [List.take_of_length_le (by omega), List.take_of_length_le (by omega)] at ht
     exact ht
    simp [h5, hl, hin, Nat.not_lt.2 hge, w21_0, rs21, he]
 ·have hne : a ≠ b := fun e => hl (by rw [e])
  have hl' : ¬ (a.length : Int) = (b.length : Int) := by omega
  simp [sc21, rs21, hl, hl', hne]
set_option maxHeartbeats 4000000 in
theorem countsA_pure (a : Ad) : Pure Tryz.prog gl0 40 [.agg (Qy a)] (.bool (Zq a)) := by
 refine Qr code40 (fun _ _ _ => .junk) (by simp) ?_
 by_cases c1 : a.re = 0
 ·by_cases c2 : 0 <= a.fr
  ·by_cases c3 : a.fr <= 100000000
   ·by_cases c4 : 1 <= a.fs
    ·simp [sc40, rs40, Qy, Zq, c1, c2, c3, c4]
    ·simp [sc40, rs40, Qy, Zq, c1, c2, c3, c4]
   ·simp [sc40, rs40, Qy, Zq, c1, c2, c3]
  ·simp [sc40, rs40, Qy, Zq, c1, c2]
 ·simp [sc40, rs40, Qy, Zq, c1]
theorem some_pure (l : List Ad) : Pure Tryz.prog gl0 36 [.sl .ro (l.map Qy)] (.sl .ro ((l.take 6).map Qy)) := by
 refine Qr code36 (fun _ _ _ => .junk) (by simp) ?_
 have hm : (if (6 : Int) < (l.length : Int) then 6 else (l.length : Int)) = ((min 6 l.length : Nat) : Int) := by split <;> omega
 simp [sc36, rs36, Qy, hm]
 refine ⟨by omega, fun row hr => ?_, by omega⟩
 obtain ⟨a, _, rfl⟩ := List.mem_map.1 (List.mem_of_mem_take hr)
 rfl
open Go Go.Abs
theorem ear_ids {p : Pl} {at_ : Int} {past : List Ad} {ids : List Int} {l : List Sp} (h : Qp p at_ past ids = some l) : l.map (·.1) = ids := earG_ids h
theorem ear_len {p : Pl} {at_ : Int} {past : List Ad} {ids : List Int} {l : List Sp} (h : Qp p at_ past ids = some l) : l.length = ids.length := by
 have := congrArg List.length (ear_ids h)
 simpa using this
theorem ear_nodup {p : Pl} {at_ : Int} {past : List Ad} {ids : List Int} {l : List Sp} (h : Qp p at_ past ids = some l) : (l.map (·.1)).Nodup := by
 rw [ear_ids h]; exact (earG_nodup h).1
theorem past_AB (p : Pl) (past : List Ad) : RelA p (endH (past.filter Zq)) (Vt past []) (Vu p past []) /\ RelB p (endH (past.filter Zq)) (Vt past []) (Vu p past []) := by
 obtain ⟨hA, hB⟩ := past_rel p past [] [] [] ⟨RelA.nil p, RelB.nil p⟩
 rw [List.append_nil, <- endH_past] at hA hB
 exact ⟨hA, hB⟩
theorem ear_holds {p : Pl} {at_ : Int} {past : List Ad} {ids : List Int} {l : List Sp} (h : Qp p at_ past ids = some l) : hldB p at_ ids l (past.filter Zq) at_ (-1) = true :=
 (hldB_iff (Int.le_refl _)).2 (earG_holds (past_AB p past).2 h)
theorem ear_least {p : Pl} {at_ : Int} {past : List Ad} {ids : List Int} {l : List Sp} (h : hldB p at_ ids l (past.filter Zq) at_ (-1) = true) :
  ∃ l', Qp p at_ past ids = some l' /\ l'.length = l.length /\ ∀ (i : Nat) (s' s : Sp), l'[i]? = some s' -> l[i]? = some s -> s'.2 <= s.2 :=
 earG_least (past_AB p past).1 (Int.le_refl _) ((hldB_iff (Int.le_refl _)).1 h)
theorem ear_part {p : Pl} {at' at_ : Int} {past' past : List Ad} {ids' ids : List Int} {l : List Sp} (hs : ids'.Sublist ids) (hp : past'.Sublist past) (ha : at' <= max at_ 0) (h : Qp p at_ past ids = some l) :
  ∃ l', Qp p at' past' ids' = some l' /\ l'.length = ids'.length /\ nlB l' l = true := by
 obtain ⟨hu, he⟩ := past_sub p hp (us' := []) (us := []) (en' := []) (en := []) (fun k => Int.le_refl _) (LeE.refl _)
 obtain ⟨l', h1, h2⟩ := earG_part (More.refl p) hs hu he ha h
 exact ⟨l', h1, ear_len h1, h2.nl (ear_nodup h)⟩
theorem con_none {p : Pl} {at_ : Int} {past : List Ad} {ids : List Int} (h : (Qp p at_ past ids).isSome = true) : Uf (bdP p at_ past) ids = [] := (conS_spec (bdP p at_ past) ids).1 h
theorem con_some {p : Pl} {at_ : Int} {past : List Ad} {ids : List Int} (h : Qp p at_ past ids = none) : Qp p at_ past (Uf (bdP p at_ past) ids) = none /\ Uf (bdP p at_ past) ids ≠ [] /\ (Uf (bdP p at_ past) ids).Sublist ids /\
  ∀ j, j < (Uf (bdP p at_ past) ids).length -> ∃ l, Qp p at_ past ((Uf (bdP p at_ past) ids).take j ++ (Uf (bdP p at_ past) ids).drop (j + 1)) = some l := by
 obtain ⟨h1, h2, h3, h4⟩ := (conS_spec (bdP p at_ past) ids).2 (by rw [Uh, h]; rfl)
 rw [Uh] at h1
 refine ⟨by simpa using h1, h2, h3, fun j hj => ?_⟩
 have := h4 j hj
 rw [Uh] at this
 exact Option.isSome_iff_exists.1 this
end Go.Proofs.YtkcnjajklnoahaaGreatDoor
