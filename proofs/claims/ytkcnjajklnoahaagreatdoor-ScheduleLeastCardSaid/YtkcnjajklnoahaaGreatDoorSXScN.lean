import Derived.Test.YtkcnjajklnoahaaGreatDoorSXScK
import Derived.Test.YtkcnjajklnoahaaGreatDoorSXScC
import Derived.Test.YtkcnjajklnoahaaGreatDoorSXRgG
set_option linter.unusedVariables false
set_option linter.unusedSimpArgs false
namespace Go.Proofs.YtkcnjajklnoahaaGreatDoor
open Go Go.Abs
def stF (ok : List Int -> Bool) (rd : Int -> Nat) (ids : List Int) (r : Nat) : Nat -> Nat -> List Bool -> List Bool
 | 0, _, K => K
 | n + 1, i, K => stF ok rd ids r n (i + 1) (Ub ok rd ids r K i)
theorem stF_round (ok : List Int -> Bool) (rd : Int -> Nat) (ids : List Int) (r : Nat) (K : List Bool) : Ye ok rd ids r K = stF ok rd ids r ids.length 0 K := by
 have : ∀ (n i : Nat) (K : List Bool), (List.range' i n).foldl (Ub ok rd ids r) K = stF ok rd ids r n i K := by
  intro n
  induction n with
  | zero => intro i K; rfl
  | succ n ih => intro i K; rw [List.range'_succ, List.foldl_cons, ih]; rfl
 unfold Ye
 rw [List.range_eq_range']
 exact this _ _ _
theorem stepK_of {ok : List Int -> Bool} {rd : Int -> Nat} {ids : List Int} {r : Nat} {K : List Bool} {i : Nat} {id : Int} (h : ids[i]? = some id) : Ub ok rd ids r K i = if rd id = r then K.set i (ok (Qt true ids (K.set i true))) else K := by
 unfold Ub; rw [h]
def chF (ok : List Int -> Bool) (rd : Int -> Nat) (ids : List Int) : Nat -> Nat -> List Bool -> List Bool
 | 0, _, K => K
 | n + 1, r, K => chF ok rd ids n (r + 1) (Ye ok rd ids r K)
def Kn (p : Pl) (ids : List Int) : List (List AV) := [Qa p, [.sl .ro (ids.map Qj)]]
def postC (E : List (List AV)) (n : Nat) (K : List Bool) (ex : List (List AV)) : List (List AV) := E ++ (K.map AV.bool :: [.bs (E.length + 12) 0 n 1] :: ex)
def mCh (p : Pl) (ids : List Int) (b : Bd) (E : List (List AV)) (K : List Bool) (ex : List (List AV)) (ls : List Nat) : AM := mBd (Kn p ids) b (postC E ids.length K ex) ls
def cab (b : Bd) (rv : List (Int × (Rt × List Sp))) (li : List (Int × Int)) (pm : List ((Int × Int) × List Sp)) : Bd := { b with rv := rv, li := li, pm := pm }
def InvCh (p : Pl) (ids : List Int) (b : Bd) (E : List (List AV)) (T : List Bool) (f : Nat -> AV) (m : AM) : Prop :=
 ∃ (r : Nat) (K : List Bool) (rv : List (Int × (Rt × List Sp))) (li : List (Int × Int)) (pm : List ((Int × Int) × List Sp)) (ex : List (List AV)) (ls : List Nat), f 36 = I r /\ r <= 3 /\ K.length = ids.length /\ chF (okE b) (rdS p) ids (3 - r) r K = T /\ Qas (cab b rv li pm) /\ m = mCh p ids (cab b rv li pm) E K ex ls
def InvCi (p : Pl) (ids : List Int) (b : Bd) (E : List (List AV)) (r : Nat) (T : List Bool) (f : Nat -> AV) (m : AM) : Prop :=
 ∃ (i : Nat) (K : List Bool) (rv : List (Int × (Rt × List Sp))) (li : List (Int × Int)) (pm : List ((Int × Int) × List Sp)) (ex : List (List AV)) (ls : List Nat), f 41 = I i /\ i <= ids.length /\ K.length = ids.length /\ stF (okE b) (rdS p) ids r (ids.length - i) i K = T /\ Qas (cab b rv li pm) /\ m = mCh p ids (cab b rv li pm) E K ex ls
def REar (p : Pl) (ids : List Int) (b : Bd) (E : List (List AV)) (K : List Bool) (ex : List (List AV)) (ls : List Nat) (S : List Int) (v : AV) (m : AM) : Prop :=
 ∃ (a : AV) (rv : List (Int × (Rt × List Sp))) (li : List (Int × Int)) (pm : List ((Int × Int) × List Sp)) (ex2 : List (List AV)) (exl : List Nat), v = .tup [a, .bool (okE b S)] /\ Qas (cab b rv li pm) /\ m = mCh p ids (cab b rv li pm) E K (ex ++ ex2) (ls ++ exl)
def orcCh : Nat -> FuncId -> List AV -> AV := fun d f _ => if f = 999999 then (if d = 34 then .mobj 0 [] else .junk) else .gd false .junk
theorem col45 {p : Pl} {ids : List Int} (hi : ids.length <= 1000) (b : Bd) (E : List (List AV)) (K : List Bool) (hk : K.length = ids.length) (ex : List (List AV)) (ls : List Nat) (w : Bool) (Y : YT) (Q : AV -> AM -> Prop)
  (hQ : Q (.sl (colR ls.length (Qt w ids K)) ((Qt w ids K).map Qj)) (mCh p ids b E K ex (ls ++ colX (Qt w ids K)))) :
  EffY Tryz.prog gl0 Y 45 [.bool w, .ptr 1 0, .ptr (E.length + 13) 0] (mCh p ids b E K ex ls) Q := by
 refine collect45 ids K w hi hk (mCh p ids b E K ex ls) 1 (E.length + 13) (E.length + 12) ?_ ?_ ?_ ?_ ?_ ?_ Y Q hQ
 all_goals simp [mCh, mBd, bdL, Kn, postC]
 all_goals omega
theorem fills_one (a : AV) : ∀ n : Nat, fills n [a] = List.replicate n a
 | 0 => rfl
 | n + 1 => by rw [fills, fills_one a n]; rfl
theorem ear38 {p : Pl} (h : PlK p) {at_ : Int} (ha : Xk at_) {past : List Ad} (hp : past.length <= 1000) (pre post : List (List AV)) (ls : List Nat) (rv : List (Int × (Rt × List Sp))) (li : List (Int × Int)) (pm : List ((Int × Int) × List Sp)) (hB : Qas (cab (bdP p at_ past) rv li pm))
  (S : List Int) (hS : S.length <= 1000) (rt0 : Rt) (Y : YT) (K : AV -> AM -> Prop)
  (hK : ∀ a rv li pm ex exl, Qas (cab (bdP p at_ past) rv li pm) -> ((Qp p at_ past S = none /\ a = .sl .nil []) \/ ∃ l rt, Qp p at_ past S = some l /\ OutR 2 ls.length (ls ++ exl) rt l /\ a = .sl rt (l.map Qd)) ->
   K (.tup [a, .bool (okE (bdP p at_ past) S)]) (mBd pre (cab (bdP p at_ past) rv li pm) (post ++ ex) (ls ++ exl))) :
  EffY Tryz.prog gl0 Y 38 [.ptr (pre.length + 9) 0, .sl rt0 (S.map Qj)] (mBd pre (cab (bdP p at_ past) rv li pm) post ls) K := by
 have hsn := h.spn
 obtain ⟨l1, l2, l3, l4, l5, l6, l7, l8, l9, l10⟩ := h
 have hU := pastU_us past
 have hE := pastE_en p past
 refine Kw pre post ls (cab (bdP p at_ past) rv li pm) S rt0 past.length (by omega) (by omega) (show p.cls.length <= 1000000 by omega) (show p.sh.length <= 1000000000 by omega) (show p.its.length <= 1000000000 by omega) (show p.ens.length <= 1000000000 by omega) (show (Vb p).length <= 1000000000 by omega) l7.2 (fun e he => (l8 e he).2) ha.2 hU hE hB Y K (fun h0 rv li pm ex2 exl hB => ?_) (fun l h1 rv li pm ex2 exl rt2 hB hO2 => ?_)
 ·have h0 : Qp p at_ past S = none := h0
  have := hK (.sl .nil []) rv li pm ex2 exl hB (.inl ⟨h0, rfl⟩)
  rw [Uh, h0] at this
  exact this
 ·have h1 : Qp p at_ past S = some l := h1
  have := hK (.sl rt2 (l.map Qd)) rv li pm ex2 exl hB (.inr ⟨l, rt2, h1, hO2, rfl⟩)
  rw [Uh, h1] at this
  exact this
theorem selB_le (w : Bool) (ids : List Int) (K : List Bool) : (Qt w ids K).length <= ids.length := (Jl w ids K).length_le
set_option maxRecDepth 100000 in
set_option maxHeartbeats 32000000 in
theorem choose19 {p : Pl} (h : PlK p) {at_ : Int} (ha : Xk at_) {past : List Ad} (hp : past.length <= 1000) {ids : List Int} (hi : ids.length <= 1000) :
  Pure Tryz.prog gl0 19 [.agg (Qa p), .sl .ro (ids.map Qj), I at_, .sl .ro (past.map Qy)] (choR p at_ past ids) := by
 have hpk := h
 obtain ⟨l1, l2, l3, l4, l5, l6, l7, l8, l9, l10⟩ := h
 refine Qr code19 orcCh (by simp) ?_
 simp [sc19, Qa, orcCh]
 have k41 := fun K' => Qax (Kn p ids) [] p at_ past .ro (by omega) (by omega) (by omega) Y0 K'
 simp only [Kn, Qa] at k41
 refine k41 _ fun ex => ?_
 clear k41
 simp [orcCh, mBd, bdL, Qi, Qa]
 refine ear38 hpk ha hp (Kn p ids) ex [] [] [] [] (bdP_ok p at_ past) ids hi .ro Y0 _ (fun a rv li pm ex2 exl hB hr => ?_)
 rcases hr with ⟨h0, rfl⟩ | ⟨l, rt, h1, hO, rfl⟩
 ·have hok : okE (bdP p at_ past) ids = false := by rw [Uh, h0]; rfl
  rw [hok]
  obtain ⟨E, hE⟩ : ∃ E, ex ++ ex2 = E := ⟨_, rfl⟩
  rw [hE]
  simp [orcCh, mBd, bdL, Qi, Kn, Qa, cab, bdP]
  refine ⟨by omega, ?_⟩
  refine Qg w19_0 (InvCh p ids (bdP p at_ past) E (Ue p at_ past ids)) (fun f _ => (3 - numOf (f 36)).toNat) ?_ ?_
  ·exact ⟨0, List.replicate ids.length false, rv, li, pm, [], exl, by simp, by omega, by simp, rfl, hB, by simp [mCh, mBd, bdL, Qi, Kn, postC, Qa, cab, bdP, fills_one]⟩
  ·clear hB
   rintro f m ⟨r, K, rv, li, pm, ex3, ls, h36, hr3, hK, hT, hB, rfl⟩
   rcases Nat.lt_or_ge r 3 with rlt | rge
   ·have rilt : (r : Int) < 3 := by omega
    have hwr := wrS r (by omega)
    obtain ⟨n, hn⟩ : ∃ n, 3 - r = n + 1 := ⟨2 - r, by omega⟩
    rw [hn, chF] at hT
    obtain ⟨T, hTr⟩ : ∃ T, Ye (okE (bdP p at_ past)) (rdS p) ids r K = T := ⟨_, rfl⟩
    rw [hTr] at hT
    rw [stF_round] at hTr
    simp [h36, rlt, rilt, w19_0, mCh, mBd, bdL, Kn, postC, cab, bdP]
    refine Qg w19_1 (InvCi p ids (bdP p at_ past) E r T) (fun f _ => ids.length - (numOf (f 41)).toNat) ?_ ?_
    ·exact ⟨0, K, rv, li, pm, ex3, ls, by simp, by omega, hK, by simpa using hTr, hB, by simp [mCh, mBd, bdL, Kn, postC, cab, bdP]⟩
    ·clear hTr hK hB
     rintro g m ⟨i, K, rv, li, pm, ex3, ls, g41, hil, hK, hTi, hB, rfl⟩
     rcases Nat.lt_or_ge i ids.length with hlt | hge
     ·obtain ⟨id, hx⟩ : ∃ x, ids[i]? = some x := ⟨_, List.getElem?_eq_getElem hlt⟩
      have hrow : Ql (ids.map Qj) i = Qj id := Qv (by simp [hx])
      have hilt : (i : Int) < (ids.length : Int) := by omega
      have hw := wrS i (by omega)
      obtain ⟨n2, hn2⟩ : ∃ n2, ids.length - i = n2 + 1 := ⟨ids.length - i - 1, by omega⟩
      have hn3 : ids.length - (i + 1) = n2 := by omega
      rw [hn2, stF, stepK_of hx] at hTi
      simp [g41, hlt, hilt, hrow, Qj, w19_1, mCh, mBd, bdL, Kn, postC, cab, bdP, orcCh]
      refine round46 (Kn p ids) (postC E ids.length K ex3) ls (cab (bdP p at_ past) rv li pm) id Y0 _ (fun exr => ?_)
      have hpb : (cab (bdP p at_ past) rv li pm).p = p := rfl
      rw [hpb]
      by_cases hrd : rdS p id = r
      ·rw [if_pos hrd] at hTi
       have hrd' : ((rdS p id : Nat) : Int) = (r : Int) := by omega
       have hms : (K.map AV.bool).set i (.bool true) = (K.set i true).map AV.bool := by rw [List.map_set]
       simp [hrd', mBd, bdL, Kn, postC, cab, bdP, orcCh]
       refine ⟨hlt, by omega, ?_⟩
       rw [hms]
       obtain ⟨S, hS⟩ : ∃ S, Qt true ids (K.set i true) = S := ⟨_, rfl⟩
       have hSl : S.length <= 1000 := by have := selB_le true ids (K.set i true); rw [hS] at this; omega
       have hK2 : (K.set i true).length = ids.length := by simpa using hK
       rw [hS] at hTi
       obtain ⟨ok, hok2⟩ : ∃ ok, okE (bdP p at_ past) S = ok := ⟨_, rfl⟩
       rw [hok2] at hTi
       refine vc_drawN rfl [(.sl (colR ls.length S) (S.map Qj), mCh p ids (cab (bdP p at_ past) rv li pm) E (K.set i true) (ex3 ++ exr) (ls ++ colX S))] (REar p ids (bdP p at_ past) E (K.set i true) (ex3 ++ exr) (ls ++ colX S) S)
        ⟨(.tup [.sl .nil [], .bool (okE (bdP p at_ past) S)], mCh p ids (cab (bdP p at_ past) rv li pm) E (K.set i true) ((ex3 ++ exr) ++ []) ((ls ++ colX S) ++ [])), .sl .nil [], rv, li, pm, [], [], rfl, hB, rfl⟩ (fun v m' hv => ?_)
       obtain ⟨a, rv2, li2, pm2, ex4, exl4, rfl, hB2, rfl⟩ := hv
       rw [hok2]
       simp [mCh, mBd, bdL, Kn, postC, cab, bdP, orcCh, hw]
       rw [hms]
       have hms2 : (K.map AV.bool).set i (.bool ok) = (K.set i ok).map AV.bool := by rw [List.map_set]
       refine ⟨?_, ?_, hlt, by omega, ag ?_, ⟨i + 1, K.set i ok, rv2, li2, pm2, (ex3 ++ exr) ++ ex4, ls ++ colX S ++ exl4, by simp, by omega, by simpa using hK, by rw [hn3]; exact hTi, hB2, by simp [mCh, mBd, bdL, Kn, postC, cab, bdP]⟩, by simp [g41]; omega⟩
       ·refine col45 (p := p) hi (cab (bdP p at_ past) rv li pm) E (K.set i true) hK2 (ex3 ++ exr) ls true Y0 _ ?_
        rw [hS]
        exact ⟨rfl, rfl⟩
       ·refine ear38 hpk ha hp (Kn p ids) (postC E ids.length (K.set i true) (ex3 ++ exr)) (ls ++ colX S) rv li pm hB S hSl _ Y0 _ (fun a rv li pm ex exl hB _ => ⟨a, rv, li, pm, ex, exl, rfl, hB, by simp [mCh, postC]; rfl⟩)
       ·repeat (first | exact Qb _ _ | refine Qc _ rfl ?_)
      ·rw [if_neg hrd] at hTi
       have hrd' : ¬ ((rdS p id : Nat) : Int) = (r : Int) := by omega
       simp [hrd', mBd, bdL, Kn, postC, cab, bdP, orcCh, hw]
       refine ⟨ag ?_, ⟨i + 1, K, rv, li, pm, ex3 ++ exr, ls, by simp, by omega, hK, by rw [hn3]; exact hTi, hB, by simp [mCh, mBd, bdL, Kn, postC, cab, bdP]⟩, by omega⟩
       repeat (first | exact Qb _ _ | refine Qc _ rfl ?_)
     ·have hin : ¬ (i : Int) < (ids.length : Int) := by omega
      have hz : ids.length - i = 0 := by omega
      rw [hz, stF] at hTi
      subst hTi
      simp [g41, hin, Nat.not_lt.2 hge, w19_1, w19_0, h36, mCh, mBd, bdL, Kn, postC, cab, bdP, hwr]
      refine ⟨ag ?_, ⟨r + 1, K, rv, li, pm, ex3, ls, by simp, by omega, hK, by rw [show 3 - (r + 1) = n by omega]; exact hT, hB, by simp [mCh, mBd, bdL, Kn, postC, cab, bdP]⟩, by omega⟩
      repeat (first | exact Qb _ _ | refine Qc _ rfl ?_)
   ·have rin : ¬ (r : Int) < 3 := by omega
    obtain rfl : r = 3 := by omega
    have hT : K = Ue p at_ past ids := hT
    subst hT
    obtain ⟨ka, kb, kc⟩ := Kq p at_ past ids
    obtain ⟨L, hL⟩ := Option.isSome_iff_exists.1 kb
    simp [h36, w19_0, mCh, mBd, bdL, Kn, postC, cab, bdP, orcCh]
    refine col45 (p := p) hi (cab (bdP p at_ past) rv li pm) E (Ue p at_ past ids) ka ex3 ls true Y0 _ ?_
    obtain ⟨S, hS⟩ : ∃ S, Qt true ids (Ue p at_ past ids) = S := ⟨_, rfl⟩
    have hSl : S.length <= 1000 := by have := selB_le true ids (Ue p at_ past ids); rw [hS] at this; omega
    have hr : choR p at_ past ids = .tup [Uc L, Js (Qt false ids (Ue p at_ past ids))] := by rw [choR, hL]; rfl
    rw [hr]
    rw [hS] at hL |-
    simp [mCh, mBd, bdL, Kn, postC, cab, bdP, orcCh]
    refine ear38 hpk ha hp (Kn p ids) (postC E ids.length (Ue p at_ past ids) ex3) (ls ++ colX S) rv li pm hB S hSl _ Y0 _ (fun a rv li pm ex4 exl4 hB hv => ?_)
    rcases hv with ⟨h0, _⟩ | ⟨l, rt, h1, hO, rfl⟩
    ·rw [hL] at h0; cases h0
    ·rw [hL] at h1
     cases h1
     simp [mCh, mBd, bdL, Kn, postC, cab, bdP, orcCh]
     refine col45 (p := p) hi (cab (bdP p at_ past) rv li pm) E (Ue p at_ past ids) ka (ex3 ++ ex4) (ls ++ (colX S ++ exl4)) false Y0 _ ?_
     obtain ⟨D, hD⟩ : ∃ D, Qt false ids (Ue p at_ past ids) = D := ⟨_, rfl⟩
     rw [hD]
     by_cases hDe : D = []
     ·subst hDe
      rcases hO with ⟨rfl, rfl⟩ | ⟨k2, rfl, _, _, hne⟩
      ·simp [rs19, Uc, Js, colR]
      ·simp [rs19, Uc, Js, colR, hne]
     ·rcases hO with ⟨rfl, rfl⟩ | ⟨k2, rfl, _, _, hne⟩
      ·simp [rs19, Uc, Js, colR, hDe]
      ·simp [rs19, Uc, Js, colR, hDe, hne]
 ·have hok : okE (bdP p at_ past) ids = true := by rw [Uh, h1]; rfl
  obtain ⟨hk1, hk2⟩ := keptS_all p at_ past ids (by rw [h1]; rfl)
  have hr : choR p at_ past ids = .tup [Uc l, .sl .nil []] := by rw [choR, hk1, hk2, h1]; rfl
  rw [hok, hr]
  rcases hO with ⟨rfl, rfl⟩ | ⟨k2, rfl, _, _, hne⟩
  ·simp [rs19, Uc]
  ·simp [rs19, Uc, hne]
open Go Go.Abs
theorem exP_K (rg : Int) : PlK (exP rg) := by
 refine ⟨by simp [exP], by simp [exP], by simp [exP], by simp [exP], by simp [exP], ?_, by simp [exP], ?_, ?_, ?_⟩ <;> simp [exP]
theorem ear_a : Qaj (exP 1) 0 [] [5, 6] = .tup [.sl .ro [[I 5, I 25], [I 6, I 175]], .bool true] := by
 rw [Qaj, show Qp (exP 1) 0 [] [5, 6] = some [(5, 25), (6, 175)] from ex_a]; rfl
theorem ear_no : Qaj (exP 1) 0 [] [6, 5] = .tup [.sl .nil [], .bool false] := by
 rw [Qaj, show Qp (exP 1) 0 [] [6, 5] = none from ex_no]
theorem ear_b : Qaj (exP 1) 70 [] [5, 6] = .tup [.sl .ro [[I 5, I 70], [I 6, I 220]], .bool true] := by
 rw [Qaj, show Qp (exP 1) 70 [] [5, 6] = some [(5, 70), (6, 220)] from ex_b]; rfl
theorem con_c : conR (exP 1) 95 [] [5, 6] = .sl .ro [[I 5], [I 6]] := by
 have h0 : okE (bdP (exP 1) 95 []) [5, 6] = false := by rw [Uh, show Qp (exP 1) 95 [] [5, 6] = none from ex_c]; rfl
 have h1 : okE (bdP (exP 1) 95 []) [6] = true := by rw [Uh, show Qp (exP 1) 95 [] [6] = some [(6, 95)] from ex_c6]; rfl
 have h2 : okE (bdP (exP 1) 95 []) [5] = true := by rw [Uh, show Qp (exP 1) 95 [] [5] = some [(5, 95)] from ex_c5]; rfl
 rw [conR, Uf, if_neg (by rw [h0]; simp), conG, dif_pos (by simp)]
 simp only [List.take_zero, List.nil_append, List.drop_succ_cons, List.drop_zero]
 rw [if_pos h1, conG, dif_pos (by simp)]
 simp only [List.take_succ_cons, List.take_zero, List.drop_succ_cons, List.drop_zero, List.cons_append, List.nil_append, List.drop_nil]
 rw [if_pos h2, conG, dif_neg (by simp)]
 rfl
theorem cho_d : choR (exP 1) 95 [] [5, 6] = .tup [.sl .ro [[I 5, I 95]], .sl .ro [[I 6]]] := by
 have h0 : okE (bdP (exP 1) 95 []) [5, 6] = false := by rw [Uh, show Qp (exP 1) 95 [] [5, 6] = none from ex_c]; rfl
 have h2 : okE (bdP (exP 1) 95 []) [5] = true := by rw [Uh, show Qp (exP 1) 95 [] [5] = some [(5, 95)] from ex_c5]; rfl
 have r5 : rdS (exP 1) 5 = 2 := by decide
 have r6 : rdS (exP 1) 6 = 2 := by decide
 have hk : Ue (exP 1) 95 [] [5, 6] = [true, false] := by
  unfold Ue Yv Ye
  simp [List.range_succ, Ub, r5, r6, Qt, h0, h2]
 rw [choR, hk]
 simp only [Qt]
 simp only [beq_self_eq_true, if_true, show ((false == true) = true) = False by simp, show ((true == false) = true) = False by simp, if_false]
 rw [show Qp (exP 1) 95 [] [5] = some [(5, 95)] from ex_c5]
 rfl
theorem com_f : compR (exP 1) = .tup [.sl .ro [[I 5, I 25], [I 6, I 175]], .sl .nil [], I 0] := by
 rw [compR, if_neg (by rw [ex_v]; simp), show Zp (exP 1) (Uw (exP 1)) [] [] 0 (-1) = some [(5, 25), (6, 175)] from ex_a]; rfl
theorem com_h : compR (exP 0) = .tup [.sl .nil [], .sl .nil [], I 80] := by rw [compR, if_pos ex_w]
def exN : List AV := [I 0, I 25, I 1, I 0, .sl .nil [], I 1000, I 1, I 300, I 1, .sl .full [[I 1, I 5, I 10, I 0, I 0], [I 2, I 2, I 50, I 3, I 0], [I 3, I 2, I 50, I 7, I 0]],
 .sl .full [[I 5, I 2, I 50, I 0, I 100, I 0, .sl .nil []], [I 6, I 3, I 50, I 0, I 240, I 0, .sl .nil []]], .sl .nil [],
 .sl .full [[I 1, I 2, I 1001, I 1100, I 255, I 0, I 0, I 0], [I 1, I 3, I 1000, I 1100, I 255, I 0, I 0, I 0], [I 5, I 0, I 0, I 0, I 0, I 4, I 3, I 7]]]
theorem example34a : Pure Tryz.prog gl0 34 [] (.agg exN) := by
 refine Qr code34 (fun _ _ _ => .junk) (by simp) ?_
 simp [sc34, rs34, exN]
theorem example34 : Pure Tryz.prog gl0 34 [] (.agg (Qa (exP 1))) :=
 Vs example34a (wk_agg ⟨Wk.refl _, Wk.refl _, Wk.refl _, Wk.refl _, Wk.sl _ _, Wk.refl _, Wk.refl _, Wk.refl _, Wk.refl _, Wk.sl _ _, wk_ens [(⟨5, 2, 50, 0, 100, 0, []⟩, .nil), (⟨6, 3, 50, 0, 240, 0, []⟩, .nil)] .full, Wk.sl _ _, Wk.sl _ _, trivial⟩)
def orcSn : Nat -> FuncId -> List AV -> AV := fun d f _ =>
 if f = 34 then .agg (Qa (exP 1)) else if d = 21 then .tup [.sl .ro [[I 5, I 25], [I 6, I 175]], .bool true] else if d = 27 then .tup [.sl .nil [], .bool false] else
 if d = 33 then .tup [.sl .ro [[I 5, I 70], [I 6, I 220]], .bool true] else if d = 38 then .sl .ro [[I 5], [I 6]] else if d = 42 then .tup [.sl .ro [[I 5, I 95]], .sl .ro [[I 6]]] else
 if d = 47 then .tup [.sl .ro [[I 5, I 25], [I 6, I 175]], .sl .nil [], I 0] else if d = 54 then .tup [.sl .nil [], .sl .nil [], I 80] else .bool true
set_option maxRecDepth 100000 in
set_option maxHeartbeats 16000000 in
theorem sane14 : Pure Tryz.prog gl0 14 [] (.bool true) := by
 have hK := exP_K 1
 have k34 := example34
 have q21 := Yi hK (at_ := 0) ⟨by omega, by omega⟩ (past := []) (by simp) (ids := [5, 6]) (by simp)
 have q27 := Yi hK (at_ := 0) ⟨by omega, by omega⟩ (past := []) (by simp) (ids := [6, 5]) (by simp)
 have q33 := Yi hK (at_ := 70) ⟨by omega, by omega⟩ (past := []) (by simp) (ids := [5, 6]) (by simp)
 have q38 := conflict22 hK (at_ := 95) ⟨by omega, by omega⟩ (past := []) (by simp) (ids := [5, 6]) (by simp)
 have q42 := choose19 hK (at_ := 95) ⟨by omega, by omega⟩ (past := []) (by simp) (ids := [5, 6]) (by simp)
 rw [ear_a] at q21
 rw [ear_no] at q27
 rw [ear_b] at q33
 rw [con_c] at q38
 rw [cho_d] at q42
 have q21' : Abs.Pure Tryz.prog gl0 16 [.agg (Qa (exP 1)), .sl .full [[I 5], [I 6]], I 0, .sl .nil []] _ := Xa q21 ⟨Wk.refl _, Wk.sl _ _, Wk.refl _, Wk.sl _ _, trivial⟩
 have q27' : Abs.Pure Tryz.prog gl0 16 [.agg (Qa (exP 1)), .sl .full [[I 6], [I 5]], I 0, .sl .nil []] _ := Xa q27 ⟨Wk.refl _, Wk.sl _ _, Wk.refl _, Wk.sl _ _, trivial⟩
 have q33' : Abs.Pure Tryz.prog gl0 16 [.agg (Qa (exP 1)), .sl .full [[I 5], [I 6]], I 70, .sl .nil []] _ := Xa q33 ⟨Wk.refl _, Wk.sl _ _, Wk.refl _, Wk.sl _ _, trivial⟩
 have q38' : Abs.Pure Tryz.prog gl0 22 [.agg (Qa (exP 1)), .sl .full [[I 5], [I 6]], I 95, .sl .nil []] _ := Xa q38 ⟨Wk.refl _, Wk.sl _ _, Wk.refl _, Wk.sl _ _, trivial⟩
 have q42' : Abs.Pure Tryz.prog gl0 19 [.agg (Qa (exP 1)), .sl .full [[I 5], [I 6]], I 95, .sl .nil []] _ := Xa q42 ⟨Wk.refl _, Wk.sl _ _, Wk.refl _, Wk.sl _ _, trivial⟩
 have q47 := compile21 (exP 1) ⟨by simp [exP], by simp [exP], by simp [exP], by simp [exP], by simp [exP], by simp [exP]⟩ (by simp [exP]) (by simp [exP]) (by simp [exP]) (by simp [exP])
 have q54 := compile21 (exP 0) ⟨by simp [exP], by simp [exP], by simp [exP], by simp [exP], by simp [exP], by simp [exP]⟩ (by simp [exP]) (by simp [exP]) (by simp [exP]) (by simp [exP])
 rw [com_f] at q47
 rw [com_h] at q54
 have sS : ∀ l : List Sp, l.length <= 10 -> Abs.Pure Tryz.prog gl0 18 [.sl .ro (l.map Qd), .sl .full (l.map Qd)] (.bool true) := fun l hl => by
  have := sameS_pure l l (by omega)
  rw [decide_eq_true rfl] at this
  exact Xa this ⟨Wk.refl _, Wk.sl _ _, trivial⟩
 have sI : ∀ l : List Int, l.length <= 10 -> Abs.Pure Tryz.prog gl0 21 [.sl .ro (l.map Qj), .sl .full (l.map Qj)] (.bool true) := fun l hl => by
  have := sameI_pure l l (by omega)
  rw [decide_eq_true rfl] at this
  exact Xa this ⟨Wk.refl _, Wk.sl _ _, trivial⟩
 have s64 := sS [(5, 25), (6, 175)] (by simp)
 have s78 := sS [(5, 70), (6, 220)] (by simp)
 have s89 := sS [(5, 95)] (by simp)
 have s83 := sI [5, 6] (by simp)
 have s94 := sI [6] (by simp)
 have s103 := sameS_pure [(5, 25), (6, 175)] [(5, 25), (6, 175)] (by simp)
 rw [decide_eq_true rfl] at s103
 refine Qr code14 orcSn (by simp) ?_
 simp [sc14, rs14, orcSn, Qa, exP, Qh, Qf, Qo, Xm]
 exact ⟨k34, q21', q27', q33', q38', q42', q47, q54, s64, s78, s83, s89, s94, s103⟩
end Go.Proofs.YtkcnjajklnoahaaGreatDoor
