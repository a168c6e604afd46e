import Derived.Test.YtkcnjajklnoahaaGreatDoorSXSaI
import Derived.Test.YtkcnjajklnoahaaGreatDoorSXScC
set_option linter.unusedVariables false
set_option linter.unusedSimpArgs false
namespace Go.Proofs.YtkcnjajklnoahaaGreatDoor
open Go Go.Abs
open Go Go.Abs
theorem pastU_us (past : List Ad) : UsOK (past.length : Int) (Vt past []) := by
 have h := pastU_ok past [] 0 (by omega) (fun k v h => by cases h)
 rwa [Int.zero_add] at h
theorem pastE_en (p : Pl) (past : List Ad) : EnOK (Vu p past []) := pastE_ok p past [] (fun k v h => by cases h)
set_option maxRecDepth 100000 in
set_option maxHeartbeats 8000000 in
theorem Yi {p : Pl} (h : PlK p) {at_ : Int} (ha : Xk at_) {past : List Ad} (hp : past.length <= 1000) {ids : List Int} (hi : ids.length <= 1000) :
  Pure Tryz.prog gl0 16 [.agg (Qa p), .sl .ro (ids.map Qj), I at_, .sl .ro (past.map Qy)] (Qaj p at_ past ids) := by
 have hsn := h.spn
 obtain ⟨l1, l2, l3, l4, l5, l6, l7, l8, l9, l10⟩ := h
 have hU := pastU_us past
 have hE := pastE_en p past
 refine Qr code16 Yw (by simp) ?_
 simp [sc16, Qa, Yw]
 have k41 := fun K' => Qax [Qa p] [] p at_ past .ro (by omega) (by omega) (by omega) Y0 K'
 simp only [Qa] at k41
 refine k41 _ fun ex => ?_
 clear k41
 simp [Yw]
 refine Kw [Qa p] ex [] (bdP p at_ past) ids .ro past.length (by omega) (by omega) (show p.cls.length <= 1000000 by omega) (show p.sh.length <= 1000000000 by omega) (show p.its.length <= 1000000000 by omega) (show p.ens.length <= 1000000000 by omega) (show (Vb p).length <= 1000000000 by omega) l7.2 (fun e he => (l8 e he).2) ha.2 hU hE (bdP_ok p at_ past) Y0 _ (fun h0 rv li pm ex2 exl hB => ?_) (fun l h1 rv li pm ex2 exl rt2 hB hO2 => ?_)
 ·have h0 : Qp p at_ past ids = none := h0
  rw [Qaj, h0]
  simp [rs16]
 ·have h1 : Qp p at_ past ids = some l := h1
  rw [Qaj, h1]
  rcases hO2 with ⟨rfl, rfl⟩ | ⟨k2, rfl, _, _, hne⟩
  ·simp [rs16, Uc]
  ·simp [rs16, Uc, hne]
theorem slI8_con {b : Bd} {ids : List Int} : AV.sl (if okE b ids = true then .nil else .ro) ((Uf b ids).map Qj) = Js (Uf b ids) := by
 cases h : okE b ids with
 | true => rw [(conS_spec b ids).1 h]; rfl
 | false =>
  have hn := ((conS_spec b ids).2 h).2.1
  rw [Js, if_neg hn, if_neg (by simp)]
set_option maxRecDepth 100000 in
set_option maxHeartbeats 8000000 in
theorem conflict22 {p : Pl} (h : PlK p) {at_ : Int} (ha : Xk at_) {past : List Ad} (hp : past.length <= 1000) {ids : List Int} (hi : ids.length <= 1000) :
  Pure Tryz.prog gl0 22 [.agg (Qa p), .sl .ro (ids.map Qj), I at_, .sl .ro (past.map Qy)] (conR p at_ past ids) := by
 have hsn := h.spn
 obtain ⟨l1, l2, l3, l4, l5, l6, l7, l8, l9, l10⟩ := h
 have hU := pastU_us past
 have hE := pastE_en p past
 refine Qr code22 Yw (by simp) ?_
 simp [sc22, Qa, Yw]
 have k41 := fun K' => Qax [Qa p] [] p at_ past .ro (by omega) (by omega) (by omega) Y0 K'
 simp only [Qa] at k41
 refine k41 _ fun ex => ?_
 clear k41
 simp [Yw]
 refine conflict43 [Qa p] ex [] (bdP p at_ past) ids .ro (fun m => clone85 ids (by omega)) past.length (by omega) (by omega) (show p.cls.length <= 1000000 by omega) (show p.sh.length <= 1000000000 by omega) (show p.its.length <= 1000000000 by omega) (show p.ens.length <= 1000000000 by omega) (show (Vb p).length <= 1000000000 by omega) l7.2 (fun e he => (l8 e he).2) ha.2 hU hE (bdP_ok p at_ past) Y0 _ (fun rv li pm ex2 exl hB => ?_)
 rw [slI8_con]
 show _
 have hr : conR p at_ past ids = Js (Uf (bdP p at_ past) ids) := rfl
 rw [hr]
 unfold Js
 split
 ·simp [rs22]
 ·simp [rs22]
open Go Go.Abs
def idxS (p : Pl) (id : Int) : Int := match Yq id p.ens 0 with
 | none => -1
 | some k => (k : Int)
theorem Yk {α : Type} {l : List α} {i : Nat} {x : α} (h : l[i]? = some x) : l.take (i + 1) = l.take i ++ [x] := by
 rw [List.take_add_one, h]; rfl
open Go Go.Abs
open Go Go.Abs
theorem runH_step {it : Int} {bf : List Ad} {k : Nat} {a : Ad} (h : bf[k]? = some a) : runH it (bf.take (k + 1)) = runH it (bf.take k) + if a.it = it then 1 else 0 := by
 rw [Yk h]
 unfold runH
 rw [List.filter_append, List.length_append, List.filter_cons]
 by_cases e : a.it = it <;> simp [e]
theorem runH_bd (it : Int) (bf : List Ad) : 0 <= runH it bf /\ runH it bf <= bf.length := by
 unfold runH
 have := List.length_filter_le (fun a : Ad => decide (a.it = it)) bf
 omega
theorem OutR.lt {α : Type} {sz lo : Nat} {ls : List Nat} {i s : Nat} {l : List α} (h : OutR sz lo ls (.own i s) l) : i < ls.length := by
 rcases h with ⟨_, h⟩ | ⟨k, h1, h2, h3, h4⟩
 ·cases h
 ·cases h1; exact (List.getElem?_eq_some_iff.1 h3).1
theorem OutR.set {α : Type} {sz lo : Nat} {ls : List Nat} {rt : Rt} {l : List α} (h : OutR sz lo ls rt l) {k v : Nat} (hd : ∀ s, rt ≠ .own k s) : OutR sz lo (ls.set k v) rt l := by
 rcases h with h | ⟨j, h1, h2, h3, h4⟩
 ·exact .inl h
 ·exact .inr ⟨j, h1, h2, by rw [List.getElem?_set_ne (by rintro rfl; exact hd _ h1)]; exact h3, h4⟩
theorem OutR.push {α : Type} {sz lo : Nat} {ls : List Nat} {k : Nat} {l : List α} (h1 : lo <= k) (h2 : ls[k]? = some l.length) (a : α) : OutR sz lo (ls.set k (l.length + 1)) (.own k sz) (l ++ [a]) := by
 have hk := (List.getElem?_eq_some_iff.1 h2).1
 exact .inr ⟨k, rfl, h1, by simp [hk], by simp⟩
theorem OutR.first {α : Type} {sz lo : Nat} {ls : List Nat} (h : lo <= ls.length) (a : α) : OutR sz lo (ls ++ [1]) (.own ls.length sz) [a] := .inr ⟨_, rfl, h, by simp, by simp⟩
open Go Go.Abs
theorem selB_take {w : Bool} : ∀ {ids : List Int} {K : List Bool} {i : Nat} {id : Int} {k : Bool}, ids[i]? = some id -> K[i]? = some k -> Qt w (ids.take (i + 1)) (K.take (i + 1)) = Qt w (ids.take i) (K.take i) ++ if (k == w) = true then [id] else []
 | [], _, _, _, _, h, _ => by simp at h
 | _ :: _, [], _, _, _, _, h => by simp at h
 | x :: r, y :: ks, 0, id, k, h1, h2 => by
  simp at h1 h2
  subst h1; subst h2
  simp [Qt]
 | x :: r, y :: ks, i + 1, id, k, h1, h2 => by
  have ih := selB_take (w := w) (ids := r) (K := ks) (i := i) (by simpa using h1) (by simpa using h2)
  rw [List.take_succ_cons, List.take_succ_cons, List.take_succ_cons, List.take_succ_cons, Qt, Qt, ih]
  split <;> simp
open Go Go.Abs
theorem wk_slI8 (l : List Int) : Wk (Js l) (.sl .ro (l.map Qj)) := by
 unfold Js
 split
 ·rename_i h; rw [h]; exact Wk.sl _ _
 ·exact Wk.refl _
@[simp] theorem cvn_slI8 (m : AM) (d : Nat) (l : List Int) : cvn m (d + 1) (Js l) = Js l := by
 unfold Js; split <;> rfl
@[simp] theorem cvn_slAV8 (m : AM) (d : Nat) (l : List Sp) : cvn m (d + 1) (Uc l) = Uc l := by
 unfold Uc; split <;> rfl
open Go Go.Abs
theorem plc_case (p : Pl) (id : Int) : (∃ (n k : Nat) (e : En), Vy id p.ens = some e /\ p.ens[k]? = some e /\ Xd [id] (kvA iA (plcS p)) 0 = some (n, I k)) \/ (Vy id p.ens = none /\ Xd [id] (kvA iA (plcS p)) 0 = none) := by
 have key : ∀ (l : List En) (i : Nat), Yq id l i = none -> Vy id l = none := by
  intro l
  induction l with
  | nil => intro i _; rfl
  | cons x r ih =>
   intro i h
   rw [Yq] at h
   split at h
   ·cases h
   ·rename_i hn; rw [Vy, if_neg hn]; exact ih _ h
 rcases Zl iA id (plcS p) 0 with ⟨p1, p2, _⟩ | ⟨u, n, p1, p2, _⟩
 ·rw [plcS_af] at p1
  cases hx : Yq id p.ens 0 with
  | none => exact .inr ⟨key _ _ hx, p2⟩
  | some k => rw [hx] at p1; cases p1
 ·rw [plcS_af] at p1
  cases hx : Yq id p.ens 0 with
  | none => rw [hx] at p1; cases p1
  | some k =>
   rw [hx] at p1
   cases p1
   obtain ⟨_, e, h2, h3, h4⟩ := Qai hx
   rw [Nat.sub_zero] at h2
   exact .inl ⟨_, k, e, h4, h2, p2⟩
set_option maxRecDepth 100000 in
set_option maxHeartbeats 16000000 in
theorem round46 (pre post : List (List AV)) (ls : List Nat) (b : Bd) (id : Int) (Y : YT) (K : AV -> AM -> Prop) (hK : ∀ ex, K (I (rdS b.p id : Nat)) (mBd pre b (post ++ ex) ls)) :
  EffY Tryz.prog gl0 Y 46 [.ptr (pre.length + 9) 0, I id] (mBd pre b post ls) K := by
 refine Yt code46 (fun _ _ _ => .junk) (by simp) ?_
 unfold rdS at hK
 rcases plc_case b.p id with ⟨n, k, e, he, hk, hp⟩ | ⟨he, hp⟩
 ·rw [he] at hK
  simp only at hK
  have hkl := (List.getElem?_eq_some_iff.1 hk).1
  have hkl' : (k : Int) < (b.p.ens.length : Int) := by omega
  have herow := Vw hk
  by_cases b1 : e.bo = 0
  ·rw [if_neg (by simp [b1])] at hK
   rcases Qag b.p e.it with ⟨ni, y, hy, hi⟩ | ⟨hy, hi⟩
   ·rw [hy] at hK
    simp only at hK
    by_cases c1 : y.ki = 1
    ·rw [if_pos (.inl c1)] at hK
     simp [sc46, mBd, bdL, Qi, Qa, hp, hkl, hkl', herow, Qf, b1]
     refine Xn ?_
     simp [rs46, mBd, bdL, Qi, Qa, Qf, hi, itA, Qh, c1]
     simpa [mBd, bdL, Qi, Qa, Qh, Qf, b1, c1] using hK [Qf e, Qh y]
    ·by_cases c2 : y.ki = 4
     ·rw [if_pos (.inr c2)] at hK
      simp [sc46, mBd, bdL, Qi, Qa, hp, hkl, hkl', herow, Qf, b1]
      refine Xn ?_
      simp [rs46, mBd, bdL, Qi, Qa, Qf, hi, itA, Qh, c1, c2]
      simpa [mBd, bdL, Qi, Qa, Qh, Qf, b1, c1, c2] using hK [Qf e, Qh y]
     ·rw [if_neg (by rintro (h | h); exact c1 h; exact c2 h)] at hK
      simp [sc46, mBd, bdL, Qi, Qa, hp, hkl, hkl', herow, Qf, b1]
      refine Xn ?_
      simp [rs46, mBd, bdL, Qi, Qa, Qf, hi, itA, Qh, c1, c2]
      simpa [mBd, bdL, Qi, Qa, Qh, Qf, b1, c1, c2] using hK [Qf e, Qh y]
   ·rw [hy] at hK
    simp only at hK
    simp [sc46, mBd, bdL, Qi, Qa, hp, hkl, hkl', herow, Qf, b1]
    refine Xn ?_
    simp [rs46, mBd, bdL, Qi, Qa, Qf, hi]
    simpa [mBd, bdL, Qi, Qa, Qf, b1] using hK [Qf e, [I 0, I 0, I 0, I 0, I 0]]
  ·rw [if_pos b1] at hK
   simp [sc46, rs46, mBd, bdL, Qi, Qa, hp, hkl, hkl', herow, Qf, b1]
   simpa [mBd, bdL, Qi, Qa, Qf] using hK [Qf e]
 ·rw [he] at hK
  simp only at hK
  simp [sc46, rs46, mBd, bdL, Qi, Qa, hp]
  simpa [mBd, bdL, Qi, Qa] using hK []
def colR (n : Nat) (S : List Int) : Rt := if S = [] then .nil else .own n 1
def colX (S : List Int) : List Nat := if S = [] then [] else [S.length]
def InvCl (ids : List Int) (K : List Bool) (w : Bool) (m0 : AM) (f : Nat -> AV) (m : AM) : Prop :=
 ∃ (i : Nat), f 10 = I i /\ i <= ids.length /\ f 5 = .sl (colR m0.lens.length (Qt w (ids.take i) (K.take i))) ((Qt w (ids.take i) (K.take i)).map Qj) /\ m = { m0 with lens := m0.lens ++ colX (Qt w (ids.take i) (K.take i)) }
set_option maxRecDepth 100000 in
set_option maxHeartbeats 16000000 in
theorem collect45 (ids : List Int) (K : List Bool) (w : Bool) (hi : ids.length <= 1000) (hk : K.length = ids.length) (m : AM) (ia ib kb : Nat) (h1 : Ql m.boxes ia = [.sl .ro (ids.map Qj)]) (h2 : Ql m.boxes ib = [.bs kb 0 ids.length 1]) (h3 : Ql m.boxes kb = K.map .bool)
  (g1 : ia < m.boxes.length) (g2 : ib < m.boxes.length) (g3 : kb < m.boxes.length) (Y : YT) (Q : AV -> AM -> Prop) (hQ : Q (.sl (colR m.lens.length (Qt w ids K)) ((Qt w ids K).map Qj)) { m with lens := m.lens ++ colX (Qt w ids K) }) :
  EffY Tryz.prog gl0 Y 45 [.bool w, .ptr ia 0, .ptr ib 0] m Q := by
 refine Yt code45 (fun _ _ _ => .junk) (by simp) ?_
 simp [sc45, h1, g1]
 refine Qg w45_0 (InvCl ids K w m) (fun f _ => ids.length - (numOf (f 10)).toNat) ?_ ?_
 ·exact ⟨0, by simp, by omega, by simp [Qt, colR], by simp [Qt, colX]⟩
 ·rintro f m' ⟨i, h10, hil, h5, rfl⟩
  rcases Nat.lt_or_ge i ids.length with hlt | hge
  ·obtain ⟨id, hx⟩ : ∃ x, ids[i]? = some x := ⟨_, List.getElem?_eq_getElem hlt⟩
   obtain ⟨k, hy⟩ : ∃ x, K[i]? = some x := ⟨_, List.getElem?_eq_getElem (by omega)⟩
   have hrow : Ql (ids.map Qj) i = Qj id := Qv (by simp [hx])
   have hcell : nth ((K.map AV.bool).drop i) 0 = .bool k := nth_eq (by simp [hy])
   have hmin : min 1 (K.length - i) = 1 := by omega
   have hltk : i < K.length := by omega
   have hilt : (i : Int) < (ids.length : Int) := by omega
   have hw := wrS i (by omega)
   have htk := selB_take (w := w) hx hy
   have hsl : (Qt w (ids.take i) (K.take i)).length <= 1000 := by
    have := (Jl w (ids.take i) (K.take i)).length_le
    simp at this; omega
   obtain ⟨S, hS⟩ : ∃ S, Qt w (ids.take i) (K.take i) = S := ⟨_, rfl⟩
   rw [hS] at h5 htk hsl |-
   cases hc : (k == w) with
   | false =>
    rw [hc] at htk
    have htk : Qt w (ids.take (i + 1)) (K.take (i + 1)) = S := by rw [htk]; simp
    simp [h10, h5, hlt, hilt, hltk, hrow, Qj, w45_0, hw, hc, h2, h3, g2, g3, hcell, hmin, show 1 <= K.length - i by omega]
    refine ⟨ag ?_, ⟨i + 1, by simp, by omega, by rw [htk]; simp [h5, Qj], by rw [htk]⟩, by omega⟩
    repeat (first | exact Qb _ _ | refine Qc _ rfl ?_)
   | true =>
    rw [hc] at htk
    have htk : Qt w (ids.take (i + 1)) (K.take (i + 1)) = S ++ [id] := by rw [htk]; simp
    by_cases hSe : S = []
    ·subst hSe
     simp only [colR, colX, if_true, List.map_nil, List.append_nil] at h5 |-
     simp [h10, h5, hlt, hilt, hltk, hrow, Qj, w45_0, hw, hc, h2, h3, g2, g3, hcell, hmin, show 1 <= K.length - i by omega]
     refine ⟨ag ?_, ⟨i + 1, by simp, by omega, by rw [htk]; simp [Qj, colR], by rw [htk]; simp [colX]⟩, by omega⟩
     repeat (first | exact Qb _ _ | refine Qc _ rfl ?_)
    ·simp only [colR, colX, if_neg hSe] at h5 |-
     have hst : (m.lens ++ [S.length]).set m.lens.length (S.length + 1) = m.lens ++ [S.length + 1] := by rw [List.set_append, if_neg (by omega)]; simp
     simp [h10, h5, hlt, hilt, hltk, hrow, Qj, w45_0, hw, hc, h2, h3, g2, g3, hcell, hmin, show 1 <= K.length - i by omega]
     refine ⟨⟨?_, by omega⟩, ag ?_, ⟨i + 1, by simp, by omega, by rw [htk]; simp [Qj, colR], by rw [htk]; simp [colX]⟩, by omega⟩
     ·rintro row (⟨a, _, rfl⟩ | rfl) <;> rfl
     ·repeat (first | exact Qb _ _ | refine Qc _ rfl ?_)
  ·have hin : ¬ (i : Int) < (ids.length : Int) := by omega
   rw [List.take_of_length_le (by omega), List.take_of_length_le (by omega)] at h5 |-
   simp [h10, h5, hin, Nat.not_lt.2 hge, w45_0, rs45]
   exact hQ
open Go Go.Abs
def InvFe (p : Pl) (T : List Int) (f : Nat -> AV) (m : AM) : Prop :=
 ∃ (i : Nat) (w : Int) (O : List Int) (rt : Rt) (ls : List Nat), f 8 = I i /\ i <= p.ens.length /\ f 2 = I w /\ (0 <= w /\ w <= 9223372036854775807) /\ f 7 = .sl rt (O.map Qj) /\ OutR 1 0 ls rt O /\ O.length <= i /\ O ++ selI (p.ens.drop i) w = T /\ m = ⟨[Qa p], ls, fun _ => .gone, 0⟩
set_option maxRecDepth 100000 in
set_option maxHeartbeats 8000000 in
theorem few35a (p : Pl) (ids : List Int) (wh : Int) (hw : 0 <= wh /\ wh <= 9223372036854775807) (he : p.ens.length <= 1000) : Pure Tryz.prog gl0 35 [.agg (Qa p), .sl .ro (ids.map Qj), I wh] (Js (selI p.ens wh)) := by
 refine Qr code35 (fun _ _ _ => .junk) (by simp) ?_
 simp [sc35, Qa, show ¬ wh < 0 by omega]
 refine Qg w35_0 (InvFe p (selI p.ens wh)) (fun f _ => p.ens.length - (numOf (f 8)).toNat) ?_ ?_
 ·exact ⟨0, wh, [], .nil, [], by simp, by omega, by simp, hw, by simp, .inl ⟨rfl, rfl⟩, by simp, by simp, by simp [Qa]⟩
 ·rintro f m ⟨i, w, O, rt, ls, h8, hi, h2, hwb, h7, hO, hOl, hT, rfl⟩
  rcases Nat.lt_or_ge i p.ens.length with hlt | hge
  ·obtain ⟨e, hx⟩ : ∃ x, p.ens[i]? = some x := ⟨_, List.getElem?_eq_getElem hlt⟩
   have hrow := Vw hx
   have hilt : (i : Int) < (p.ens.length : Int) := by omega
   have hwi := wrS i (by omega)
   have hq : w.tdiv 2 = w / 2 := Int.tdiv_eq_ediv_of_nonneg hwb.1
   have hwq : IntKind.i64.wrap (w.tdiv 2) = w.tdiv 2 := by rw [Qk] <;> omega
   rw [Qu hx, selI] at hT
   by_cases c : w.tmod 2 = 0
   ·rw [if_pos c] at hT
    have hT : (O ++ [e.id]) ++ selI (p.ens.drop (i + 1)) (w.tdiv 2) = selI p.ens wh := by rw [<- hT]; simp
    rcases hO with ⟨rfl, rfl⟩ | ⟨k, rfl, hk1, hk2, hk3⟩
    ·simp [h8, h2, h7, hlt, hilt, hrow, Qf, Qa, w35_0, hwi, hwq, c]
     refine ⟨ag ?_, ⟨i + 1, w.tdiv 2, [] ++ [e.id], .own ls.length 1, ls ++ [1], by simp, by omega, by simp, by omega, by simp [Qj], OutR.first (by omega) e.id, by simp; try omega, hT, by simp [Qa]⟩, by omega⟩
     repeat (first | exact Qb _ _ | refine Qc _ rfl ?_)
    ·simp [h8, h2, h7, hlt, hilt, hrow, Qf, Qa, w35_0, hwi, hwq, c, hk2]
     refine ⟨⟨?_, by omega⟩, ag ?_, ⟨i + 1, w.tdiv 2, O ++ [e.id], .own k 1, ls.set k (O.length + 1), by simp, by omega, by simp, by omega, by simp [Qj], OutR.push hk1 hk2 e.id, by simp; omega, hT, by simp [Qa]⟩, by omega⟩
     ·rintro row (⟨a, _, rfl⟩ | rfl) <;> rfl
     ·repeat (first | exact Qb _ _ | refine Qc _ rfl ?_)
   ·rw [if_neg c] at hT
    simp [h8, h2, h7, hlt, hilt, hrow, Qf, Qa, w35_0, hwi, hwq, c]
    refine ⟨ag ?_, ⟨i + 1, w.tdiv 2, O, rt, ls, by simp, by omega, by simp, by omega, by simp [h7], hO, by omega, hT, by simp [Qa]⟩, by omega⟩
    repeat (first | exact Qb _ _ | refine Qc _ rfl ?_)
  ·have hin : ¬ (i : Int) < (p.ens.length : Int) := by omega
   rw [List.drop_eq_nil_of_le hge, selI, List.append_nil] at hT
   subst hT
   rcases hO with ⟨h1, rfl⟩ | ⟨k, rfl, _, _, hne⟩
   ·rw [h1] at h7 |-
    simp [h8, h7, hin, Nat.not_lt.2 hge, Qa, w35_0, rs35, Js]
   ·simp [h8, h7, hin, Nat.not_lt.2 hge, Qa, w35_0, rs35, Js, hne]
theorem few35b (p : Pl) (ids : List Int) (wh : Int) (hw : wh < 0) (hi : ids.length <= 17592186044416) : Pure Tryz.prog gl0 35 [.agg (Qa p), .sl .ro (ids.map Qj), I wh] (.sl .ro ((ids.take 10).map Qj)) := by
 refine Qr code35 (fun _ _ _ => .junk) (by simp) ?_
 have hm : (if (10 : Int) < (ids.length : Int) then 10 else (ids.length : Int)) = ((min 10 ids.length : Nat) : Int) := by split <;> omega
 simp [sc35, rs35, Qa, hw, Qj, hm]
 refine ⟨by omega, fun row hr => ?_, by omega⟩
 obtain ⟨a, _, rfl⟩ := List.mem_map.1 (List.mem_of_mem_take hr)
 rfl
theorem few35 (p : Pl) (ids : List Int) (wh : Int) (hw : Xk wh) (he : p.ens.length <= 1000) (hi : ids.length <= 17592186044416) : Pure Tryz.prog gl0 35 [.agg (Qa p), .sl .ro (ids.map Qj), I wh] (.sl .ro ((fewI p ids wh).map Qj)) := by
 unfold fewI
 by_cases h : wh < 0
 ·rw [if_pos h]; exact few35b p ids wh h hi
 ·rw [if_neg h]; exact Vs (few35a p ids wh ⟨by omega, hw.2⟩ he) (wk_slI8 _)
end Go.Proofs.YtkcnjajklnoahaaGreatDoor
