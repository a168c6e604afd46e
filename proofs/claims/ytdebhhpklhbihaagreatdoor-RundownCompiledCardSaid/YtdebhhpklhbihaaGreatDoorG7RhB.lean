/-
  OWN WORK. Contracts: rundown.sound, rundown.Valid.
-/
import Derived.Test.YtdebhhpklhbihaaGreatDoorG7RhA
set_option linter.unusedVariables false
set_option linter.unusedSimpArgs false
namespace Go.Proofs.YtdebhhpklhbihaaGreatDoor
open Go Go.Abs

def altOK (p : Pl) (e : Ev2) : Int → List Sp → Bool
  | _, [] => true
  | last, a :: r => match fndI a.2 p.its with
    | none => false
    | some y => if a.1 ≤ last ∨ p.rg ≤ a.1 ∨ y.fr < IntKind.i64.wrap (e.i + e.fr) then false else if allowB p a.2 a.1 e.st e.fr = false then false else altOK p e a.1 r
def alwM (p : Pl) (e : Ev2) : Int := mskS (fun i => allowB p e.it i e.st e.fr) (min p.rg 8).toNat
def and1X (a : Int) : Int := IntKind.i64.wrap (((a % 2 ^ IntKind.i64.bits).toNat &&& ((1 : Int) % 2 ^ IntKind.i64.bits).toNat : Nat) : Int)
def andN (a b : Int) : Int := IntKind.i64.wrap (((a % 2 ^ IntKind.i64.bits).toNat &&& (2 ^ IntKind.i64.bits - 1 - (b % 2 ^ IntKind.i64.bits).toNat) : Nat) : Int)
def soundB (p : Pl) (e : Ev2) : Bool := match fndI e.it p.its with
  | none => false
  | some x => if e.fr < 1 ∨ e.i < 0 ∨ x.fr < e.fr ∨ IntKind.i64.wrap (x.fr - e.fr) < e.i then false else
    if and1X e.re = 0 ∨ andN e.re (alwM p e) ≠ 0 then false else altOK p e 0 e.al && (decide (e.id ≠ 0) || (decide (e.it = p.fi) && decide (e.al = [])))

set_option maxRecDepth 100000 in
theorem snd1_eff (Y : YT) (p : Pl) (e : Ev2) (r : Int) (m : AM) (bp be : Nat) (hc : p.cls.length ≤ 1000000) (hsh : p.sh.length ≤ 1000000000) (hit : p.its.length ≤ 1000000000)
    (h1 : rowN m.boxes bp = plRow p) (h3 : rowN m.boxes be = ev2RowR e) (K : AV → AM → Prop) (hK : K (.bool (allowB p e.it r e.st e.fr)) m) :
    EffY Tryz.prog gl0 Y 67 [I r, .ptr bp 0, .ptr be 0] m K := by
  have k := allowed_pure p e.it r e.st e.fr hc hsh hit
  refine effE code67 (fun _ f _ => if f = 15 then .bool (allowB p e.it r e.st e.fr) else .junk) (by simp) ?_
  simp only [plRow] at h1
  simp only [ev2RowR] at h3
  simp [sc67, rs67, h1, h3]
  exact ⟨k, hK⟩

def orcSd (p : Pl) (e : Ev2) : Nat → FuncId → List AV → AV := fun d f l =>
  if f = 62 then (match l with | [_, .int _ n] => itAV (fndI n p.its) | _ => .junk) else
  if f = 15 then (match l with | [_, .int _ a, .int _ r, _, _] => .bool (allowB p a r e.st e.fr) | _ => .junk) else .gd false .junk
def InvSd (p : Pl) (e : Ev2) (f : Nat → AV) (mm : AM) : Prop := ∃ (i : Nat) (last : Int) (bx : List (List AV)), f 66 = I i ∧ f 8 = I last ∧ i ≤ e.al.length ∧ altOK p e last (e.al.drop i) = altOK p e 0 e.al ∧ mm = ⟨plRow p :: ev2RowR e :: bx, [], fun _ => .gone, 0⟩

set_option maxRecDepth 100000 in
set_option maxHeartbeats 8000000 in
theorem sound_pure (p : Pl) (e : Ev2) (hc : p.cls.length ≤ 1000000) (hsh : p.sh.length ≤ 1000000000) (hit : p.its.length ≤ 1000000000) (hal : e.al.length ≤ 8796093022208) :
    Pure Tryz.prog gl0 33 [.agg (plRow p), .agg (ev2RowR e)] (.bool (soundB p e)) := by
  have k62 := item_pure p e.it hit
  refine pureE code33 (orcSd p e) (by simp) ?_
  cases hf : fndI e.it p.its with
  | none =>
    rw [hf] at k62
    have hS : soundB p e = false := by simp only [soundB, hf]
    rw [hS]
    simp [sc33, rs33, plRow, ev2RowR, orcSd, hf, itAV]
    exact k62
  | some x =>
    rw [hf] at k62
    have hS : soundB p e = if e.fr < 1 ∨ e.i < 0 ∨ x.fr < e.fr ∨ IntKind.i64.wrap (x.fr - e.fr) < e.i then false else
      if and1X e.re = 0 ∨ andN e.re (alwM p e) ≠ 0 then false else altOK p e 0 e.al && (decide (e.id ≠ 0) || (decide (e.it = p.fi) && decide (e.al = []))) := by simp only [soundB, hf]
    by_cases c1 : e.fr < 1
    · rw [hS, if_pos (.inl c1)]
      simp [sc33, rs33, plRow, ev2RowR, orcSd, hf, itAV, itRow, c1]
      exact k62
    · by_cases c2 : e.i < 0
      · rw [hS, if_pos (.inr (.inl c2))]
        simp [sc33, rs33, plRow, ev2RowR, orcSd, hf, itAV, itRow, c1, c2]
        exact k62
      · by_cases c3 : x.fr < e.fr
        · rw [hS, if_pos (.inr (.inr (.inl c3)))]
          simp [sc33, rs33, plRow, ev2RowR, orcSd, hf, itAV, itRow, c1, c2, c3]
          exact k62
        · by_cases c4 : IntKind.i64.wrap (x.fr - e.fr) < e.i
          · rw [hS, if_pos (.inr (.inr (.inr c4)))]
            simp [sc33, rs33, plRow, ev2RowR, orcSd, hf, itAV, itRow, c1, c2, c3, c4]
            exact k62
          · rw [if_neg (by simp only [not_or]; exact ⟨c1, c2, c3, c4⟩)] at hS
            simp [sc33, plRow, ev2RowR, orcSd, hf, itAV, itRow, c1, c2, c3, c4]
            refine ⟨k62, ?_⟩
            refine collect_eff Y0 p 67 [.ptr 0 0, .ptr 1 0] (fun i => allowB p e.it i e.st e.fr) _ _ ?_ fun bx => ?_
            · rintro i mm _ _ ⟨bx, rfl⟩ K' h
              exact snd1_eff Y0 p e i _ 0 1 hc hsh hit (by simp [plRow]) (by simp [ev2RowR]) K' h
            · have hM : mskS (fun i => allowB p e.it i e.st e.fr) (min p.rg 8).toNat = alwM p e := rfl
              have q1 : IntKind.i64.wrap (((e.re % 2 ^ IntKind.i64.bits).toNat &&& ((1 : Int) % 2 ^ IntKind.i64.bits).toNat : Nat) : Int) = and1X e.re := rfl
              have q2 : IntKind.i64.wrap (((e.re % 2 ^ IntKind.i64.bits).toNat &&& (2 ^ IntKind.i64.bits - 1 - (alwM p e % 2 ^ IntKind.i64.bits).toNat) : Nat) : Int) = andN e.re (alwM p e) := rfl
              by_cases d1 : and1X e.re = 0
              · rw [hS, if_pos (.inl d1)]
                simp [hM, q1, q2, d1, rs33]
              · by_cases d2 : andN e.re (alwM p e) = 0
                · rw [if_neg (by simp only [not_or]; exact ⟨d1, fun h => h d2⟩)] at hS
                  simp [hM, q1, q2, d1, d2]
                  refine vc_loopE w33_0 (InvSd p e) (fun f _ => e.al.length - (numOf (f 66)).toNat) ?_ ?_
                  · exact ⟨0, 0, _, by simp, by simp, Nat.zero_le _, rfl, by simp [plRow, ev2RowR]; rfl⟩
                  · rintro f mm ⟨i, last, bx, h66, h8, hi, ha, rfl⟩
                    rcases Nat.lt_or_ge i e.al.length with hlt | hge
                    · obtain ⟨a, hs⟩ : ∃ a, e.al[i]? = some a := ⟨_, List.getElem?_eq_getElem hlt⟩
                      have hrow := rowN_sp hs
                      have hilt : (i : Int) < (e.al.length : Int) := by omega
                      have hw : IntKind.i64.wrap ((i : Int) + 1) = ((i + 1 : Nat) : Int) := by rw [wrap_in] <;> omega
                      rw [drop_cons hs, altOK] at ha
                      have j62 := item_pure p a.2 hit
                      have j15 := allowed_pure p a.2 a.1 e.st e.fr hc hsh hit
                      cases hfa : fndI a.2 p.its with
                      | none =>
                        rw [hfa] at ha j62
                        simp only at ha
                        rw [hS, ← ha]
                        simp [h66, h8, w33_0, hlt, hilt, hrow, plRow, ev2RowR, orcSd, hfa, itAV, rs33]
                        exact j62
                      | some y =>
                        rw [hfa] at ha j62
                        simp only at ha
                        by_cases f1 : a.1 ≤ last
                        · rw [if_pos (.inl f1)] at ha
                          rw [hS, ← ha]
                          simp [h66, h8, w33_0, hlt, hilt, hrow, plRow, ev2RowR, orcSd, hfa, itAV, itRow, rs33, f1]
                          exact j62
                        · by_cases f2 : p.rg ≤ a.1
                          · rw [if_pos (.inr (.inl f2))] at ha
                            rw [hS, ← ha]
                            simp [h66, h8, w33_0, hlt, hilt, hrow, plRow, ev2RowR, orcSd, hfa, itAV, itRow, rs33, f1, f2]
                            exact j62
                          · by_cases f3 : y.fr < IntKind.i64.wrap (e.i + e.fr)
                            · rw [if_pos (.inr (.inr f3))] at ha
                              rw [hS, ← ha]
                              simp [h66, h8, w33_0, hlt, hilt, hrow, plRow, ev2RowR, orcSd, hfa, itAV, itRow, rs33, f1, f2, f3]
                              exact j62
                            · rw [if_neg (by simp only [not_or]; exact ⟨f1, f2, f3⟩)] at ha
                              cases f4 : allowB p a.2 a.1 e.st e.fr with
                              | false =>
                                rw [if_pos f4] at ha
                                rw [f4] at j15
                                rw [hS, ← ha]
                                simp [h66, h8, w33_0, hlt, hilt, hrow, plRow, ev2RowR, orcSd, hfa, itAV, itRow, rs33, f1, f2, f3, f4]
                                exact ⟨j62, j15⟩
                              | true =>
                                rw [if_neg (by rw [f4]; simp)] at ha
                                rw [f4] at j15
                                simp [h66, h8, w33_0, hlt, hilt, hrow, plRow, ev2RowR, orcSd, hfa, itAV, itRow, rs33, f1, f2, f3, f4, hw]
                                refine ⟨j62, j15, ag ?_, ⟨i + 1, a.1, _, by simp, by simp, by omega, ha, by simp [plRow, ev2RowR]; rfl⟩, by omega⟩
                                repeat (first | exact agree_refl _ _ | refine agree_cons _ rfl ?_)
                    · obtain rfl : i = e.al.length := by omega
                      rw [List.drop_length, altOK] at ha
                      rw [← ha, Bool.true_and] at hS
                      rw [hS]
                      by_cases g1 : e.id = 0
                      · by_cases g2 : e.it = p.fi
                        · simp [h66, h8, w33_0, plRow, ev2RowR, rs33, g1, g2]
                          rw [Bool.eq_iff_iff]; simp
                        · simp [h66, h8, w33_0, plRow, ev2RowR, rs33, g1, g2]
                      · simp [h66, h8, w33_0, plRow, ev2RowR, rs33, g1]
                · rw [hS, if_pos (.inr d2)]
                  simp [hM, q1, q2, d1, d2, rs33]

def vchain (p : Pl) : Int → List Ev2 → Bool
  | end_, [] => decide (end_ = p.ln)
  | end_, e :: r => if e.st ≠ end_ ∨ soundB p e = false then false else vchain p (IntKind.i64.wrap (end_ + e.fr)) r
def validB (p : Pl) (l : List Ev2) : Bool := match l with
  | [] => false
  | e :: _ => if e.st < 0 then false else vchain p e.st l
def InvVa (p : Pl) (l : List Ev2) (f : Nat → AV) (mm : AM) : Prop := ∃ (i : Nat) (en : Int) (bx : List (List AV)), f 24 = I i ∧ f 5 = I en ∧ i ≤ l.length ∧ vchain p en (l.drop i) = validB p l ∧ mm = ⟨plRow p :: bx, [], fun _ => .gone, 0⟩
def orcVa (p : Pl) (e : List Ev2) : Nat → FuncId → List AV → AV := fun d f l =>
  if f = 33 then (match l with | [_, .agg [.int _ a, .int _ b, .int _ c, .int _ d, .int _ e, .int _ g, .sl _ rows]] => .bool (soundB p ⟨a, b, c, d, e, g, rows.map unSp, false⟩) | _ => .junk) else .junk
theorem soundB_nl (p : Pl) (e : Ev2) : soundB p ⟨e.id, e.it, e.st, e.fr, e.i, e.re, e.al, false⟩ = soundB p e := by
  have : ∀ (l : List Sp) (last : Int), altOK p ⟨e.id, e.it, e.st, e.fr, e.i, e.re, e.al, false⟩ last l = altOK p e last l := by
    intro l
    induction l with
    | nil => intro last; rfl
    | cons a r ih => intro last; simp only [altOK, ih]
  unfold soundB alwM
  cases fndI e.it p.its with
  | none => rfl
  | some x => simp only [this]

set_option maxRecDepth 100000 in
set_option maxHeartbeats 8000000 in
theorem valid2_pure (p : Pl) (l : List Ev2) (hc : p.cls.length ≤ 1000000) (hsh : p.sh.length ≤ 1000000000) (hit : p.its.length ≤ 1000000000) (hal : ∀ e ∈ l, e.al.length ≤ 8796093022208) (hl : l.length ≤ 1000000000) :
    Pure Tryz.prog gl0 14 [.agg (plRow p), .sl .ro (l.map ev2RowR)] (.bool (validB p l)) := by
  refine pureE code14 (orcVa p l) (by simp) ?_
  cases l with
  | nil => simp [sc14, rs14, plRow, validB]
  | cons e0 r =>
    have hv : validB p (e0 :: r) = if e0.st < 0 then false else vchain p e0.st (e0 :: r) := rfl
    by_cases c1 : e0.st < 0
    · rw [hv, if_pos c1]
      have hne : ¬ ((r.length : Int) + 1 = 0) := by omega
      simp [sc14, rs14, plRow, ev2RowR, c1, hne]
    · rw [if_neg c1] at hv
      have hr0 : rowN ((e0 :: r).map ev2RowR) 0 = ev2RowR e0 := rfl
      have hne : ¬ (((e0 :: r).length : Int) = 0) := by simp; omega
      have hpos : 0 < (e0 :: r).length := by simp
      have hne2 : ¬ (e0 :: r) = [] := by simp
      generalize hL : e0 :: r = L at *
      simp [sc14, plRow, ev2RowR, c1, hne, hne2, hr0, hpos]
      refine vc_loopE w14_0 (InvVa p L) (fun f _ => L.length - (numOf (f 24)).toNat) ?_ ?_
      · exact ⟨0, e0.st, _, by simp, by simp, Nat.zero_le _, hv.symm, by simp [plRow]; rfl⟩
      · rintro f mm ⟨i, en, bx, h24, h5, hi, ha, rfl⟩
        rcases Nat.lt_or_ge i L.length with hlt | hge
        · obtain ⟨e, he⟩ : ∃ e, L[i]? = some e := ⟨_, List.getElem?_eq_getElem hlt⟩
          have hrow : rowN (L.map ev2RowR) i = ev2RowR e := rowN_eq (by simp [he])
          have hilt : (i : Int) < (L.length : Int) := by omega
          have hw : IntKind.i64.wrap ((i : Int) + 1) = ((i + 1 : Nat) : Int) := by rw [wrap_in] <;> omega
          rw [drop_cons he, vchain] at ha
          have j33 := sound_pure p e hc hsh hit (hal e (List.mem_of_getElem? he))
          have hnl := soundB_nl p e
          by_cases c2 : e.st = en
          · cases c3 : soundB p e with
            | false =>
              rw [if_pos (.inr c3)] at ha
              rw [c3] at j33 hnl
              rw [← ha]
              simp [h24, h5, w14_0, hlt, hilt, hrow, plRow, ev2RowR, orcVa, rs14, c2, hnl]
              have hnl' : soundB p ⟨e.id, e.it, en, e.fr, e.i, e.re, e.al, false⟩ = false := by rw [← c2]; exact hnl
              rw [hnl']
              rw [ev2RowR, c2] at j33
              exact ⟨j33, by simp⟩
            | true =>
              rw [if_neg (by rintro (h | h); exact h c2; rw [c3] at h; cases h)] at ha
              rw [c3] at j33 hnl
              simp [h24, h5, w14_0, hlt, hilt, hrow, plRow, ev2RowR, orcVa, rs14, c2, hnl, hw]
              have hnl' : soundB p ⟨e.id, e.it, en, e.fr, e.i, e.re, e.al, false⟩ = true := by rw [← c2]; exact hnl
              rw [hnl']
              rw [ev2RowR, c2] at j33
              simp
              refine ⟨j33, ag ?_, ⟨i + 1, IntKind.i64.wrap (en + e.fr), _, by simp, by simp, by omega, ha, by simp [plRow]; rfl⟩, by omega⟩
              repeat (first | exact agree_refl _ _ | refine agree_cons _ rfl ?_)
          · rw [if_pos (.inl c2)] at ha
            rw [← ha]
            simp [h24, h5, w14_0, hlt, hilt, hrow, plRow, ev2RowR, orcVa, rs14, c2]
        · obtain rfl : i = L.length := by omega
          rw [List.drop_length, vchain] at ha
          rw [← ha]
          simp [h24, h5, w14_0, plRow, rs14]
          rw [Bool.eq_iff_iff]; simp
end Go.Proofs.YtdebhhpklhbihaaGreatDoor
