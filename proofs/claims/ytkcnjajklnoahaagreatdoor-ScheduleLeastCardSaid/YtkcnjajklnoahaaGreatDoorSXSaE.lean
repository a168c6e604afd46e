import Derived.Test.YtkcnjajklnoahaaGreatDoorSXSaC
set_option linter.unusedVariables false
set_option linter.unusedSimpArgs false
namespace Go.Proofs.YtkcnjajklnoahaaGreatDoor
open Go Go.Abs
theorem spn_sound : ∀ (l : List It) (a : List (Int × It)) (s : List (Int × Int)), (∀ o z, (o, z) ∈ s -> ∃ x, af z a = some x /\ x.sp = o) -> ∀ o z, (o, z) ∈ spnG l a s -> ∃ x, af z (itsG l a) = some x /\ x.sp = o
 | [], a, s, h => h
 | x :: r, a, s, h => by
  intro o z hz
  rw [spnG] at hz
  rw [itsG]
  cases ha : af x.id a with
  | some v =>
   rw [ha] at hz
   exact spn_sound r a s h o z hz
  | none =>
   rw [ha] at hz
   simp only at hz |-
   refine spn_sound r _ _ ?_ o z hz
   intro o z hz
   have old : (o, z) ∈ s -> ∃ y, af z (aset x.id x a) = some y /\ y.sp = o := fun hs => by
    obtain ⟨y, h1, h2⟩ := h o z hs
    refine ⟨y, ?_, h2⟩
    rw [Zc, if_neg (by rintro rfl; rw [ha] at h1; cases h1)]
    exact h1
   split at hz
   ·rcases mem_aset hz with e | hs
    ·cases e
     exact ⟨x, by rw [Zc, if_pos rfl], rfl⟩
    ·exact old hs
   ·exact old hz
theorem spn_full : ∀ (l : List It) (a : List (Int × It)) (s : List (Int × Int)), (∀ z x, af z a = some x -> 1 <= x.sp /\ x.sp <= 200 -> ∃ w, af x.sp s = some w) -> ∀ z x, af z (itsG l a) = some x -> 1 <= x.sp /\ x.sp <= 200 -> ∃ w, af x.sp (spnG l a s) = some w
 | [], a, s, h => h
 | y :: r, a, s, h => by
  intro z x hz hx
  rw [spnG]
  rw [itsG] at hz
  cases ha : af y.id a with
  | some v =>
   rw [ha] at hz
   exact spn_full r a s h z x hz hx
  | none =>
   rw [ha] at hz
   simp only at hz |-
   refine spn_full r _ _ ?_ z x hz hx
   intro z x hz hx
   rw [Zc] at hz
   have key : ∀ w, af x.sp s = some w -> ∃ w, af x.sp (if 1 <= y.sp /\ y.sp <= 200 then aset y.sp y.id s else s) = some w := fun w hw => by
    split
    ·rw [Zc]
     split
     ·exact ⟨_, rfl⟩
     ·exact ⟨w, hw⟩
    ·exact ⟨w, hw⟩
   split at hz
   ·cases hz
    rw [if_pos hx, Zc, if_pos rfl]
    exact ⟨_, rfl⟩
   ·obtain ⟨w, hw⟩ := h z x hz hx
    exact key w hw
theorem spnS_sound {p : Pl} {o z : Int} (h : (o, z) ∈ Vb p) : ∃ x, Xf z p.its = some x /\ x.sp = o := by
 obtain ⟨x, h1, h2⟩ := spn_sound p.its [] [] (fun _ _ h => by cases h) o z h
 exact ⟨x, by rw [<- itsS_af]; exact h1, h2⟩
theorem spnS_full {p : Pl} {z : Int} {x : It} (h : Xf z p.its = some x) (hx : 1 <= x.sp /\ x.sp <= 200) : ∃ w, af x.sp (Vb p) = some w :=
 spn_full p.its [] [] (fun _ _ h => by cases h) z x (by have := itsS_af p z; rw [itsS] at this; rw [this]; exact h) hx
theorem hitG_sp {a b : Int} {c : Cl} (h : hitG a b c = true) : (1 <= a /\ a <= 200) /\ (1 <= b /\ b <= 200) := by
 simp only [hitG, namedC, Bool.and_eq_true, Bool.or_eq_true, decide_eq_true_eq] at h
 obtain ⟨h5, hn, hv⟩ := h
 unfold Xy at hv
 simp only [Bool.and_eq_true] at hv
 have h2 := hv.2
 unfold Ja at h2
 simp [h5, wi] at h2
 omega
theorem gapC_pos {a b : Int} : ∀ {l : List Cl} {g : Int}, g <= 0 -> 0 < Qah a b l g -> (1 <= a /\ a <= 200) /\ (1 <= b /\ b <= 200)
 | [], g, h, h2 => by rw [Qah] at h2; omega
 | c :: r, g, h, h2 => by
  rw [Kl] at h2
  split at h2
  ·rename_i hh; exact hitG_sp hh
  ·exact gapC_pos h h2
theorem gapS_pos {p : Pl} {a b : Int} (h : 0 < Zt p a b) : ∃ x y, Xf a p.its = some x /\ Xf b p.its = some y /\ (1 <= x.sp /\ x.sp <= 200) /\ (1 <= y.sp /\ y.sp <= 200) := by
 unfold Zt at h
 cases ha : Xf a p.its with
 | none => rw [ha] at h; simp at h
 | some x =>
  cases hb : Xf b p.its with
  | none => rw [ha, hb] at h; simp at h
  | some y =>
   rw [ha, hb] at h
   simp only at h
   split at h
   ·omega
   ·rename_i hc
    simp only [not_or] at hc
    have hv : Zd p.nu p.de = true := by simpa using hc.2.1
    obtain ⟨v1, v2, v3, v4, v5⟩ := Yj hv
    have hg := gapC_bd x.sp y.sp p.cls 0 (by omega)
    rcases Int.lt_or_le 0 (Qah x.sp y.sp p.cls 0) with hp | hp
    ·obtain ⟨h1, h2⟩ := gapC_pos (Int.le_refl 0) hp
     exact ⟨x, y, rfl, rfl, h1, h2⟩
    ·have h0 : Qah x.sp y.sp p.cls 0 = 0 := by omega
     rw [h0, Kj, if_pos ⟨hv, by omega, by omega⟩] at h
     rw [Int.tdiv_eq_ediv_of_nonneg (by omega), Int.zero_mul, Int.zero_add, Int.ediv_eq_zero_of_lt (by omega) (by omega)] at h
     omega
theorem gapS_spl {p : Pl} {a c b : Int} {x y : It} (ha : Xf a p.its = some x) (hc : Xf c p.its = some y) (h : x.sp = y.sp) : Zt p a b = Zt p c b := by
 simp only [Zt, ha, hc]
 cases Xf b p.its with
 | none => rfl
 | some z => simp only [h]
theorem riv_iff {p : Pl} {it : Int} (P : Int -> Int -> Prop) : (∀ r ∈ Vl p it, P r.1 r.2) <-> ∀ a x, Xf a p.its = some x -> 0 < Zt p a it -> P x.sp (Zt p a it) := by
 constructor
 ·intro h a x hx hg
  obtain ⟨x', y, h1, h2, h3, h4⟩ := gapS_pos hg
  rw [hx] at h1
  cases h1
  obtain ⟨w, hw⟩ := spnS_full hx h3
  obtain ⟨w', hw'⟩ := spnS_full h2 h4
  obtain ⟨x2, hx2, hs2⟩ := spnS_sound (af_mem hw)
  have hge := gapS_spl (b := it) hx hx2 hs2.symm
  rw [hge]
  refine h (x.sp, Zt p w it) ?_
  unfold Vl
  rw [h2]
  simp only
  rw [hw']
  simp only [List.mem_filterMap]
  exact ⟨(x.sp, w), af_mem hw, by rw [if_pos (by simp only; rw [<- hge]; exact hg)]⟩
 ·intro h r hr
  unfold Vl at hr
  cases hf : Xf it p.its with
  | none => rw [hf] at hr; cases hr
  | some y =>
   rw [hf] at hr
   simp only at hr
   cases ha : af y.sp (Vb p) with
   | none => rw [ha] at hr; cases hr
   | some _ =>
    rw [ha] at hr
    simp only [List.mem_filterMap] at hr
    obtain ⟨z, hz, hzr⟩ := hr
    split at hzr
    ·rename_i hg
     cases hzr
     obtain ⟨x, hx, hxs⟩ := spnS_sound (o := z.1) (z := z.2) hz
     have := h z.2 x hx hg
     rw [hxs] at this
     exact this
    ·cases hzr
theorem fromL_le_iff {en : List (Int × Int)} : ∀ {l : List Sp} {f t : Int}, Xz en l f <= t <-> f <= t /\ ∀ r ∈ l, ∀ v, af r.1 en = some v -> v + r.2 <= t
 | [], f, t => by simp [Xz]
 | r :: l, f, t => by
  rw [Xz, fromL_le_iff]
  simp only [List.mem_cons, forall_eq_or_imp]
  cases ha : af r.1 en with
  | none => simp
  | some e =>
   simp only [Option.some.injEq, forall_eq']
   constructor
   ·rintro ⟨h1, h2⟩; exact ⟨by omega, by omega, h2⟩
   ·rintro ⟨h1, h2, h3⟩; exact ⟨by omega, h3⟩
open Go Go.Abs
def cntI (it : Int) (bf : List (Int × Int)) : Int := ((bf.filter fun a => decide (a.1 = it)).length : Nat)
def holdG (p : Pl) : List Int -> List Sp -> List (Int × Int) -> Int -> Int -> Prop
 | [], [], _, _, _ => True
 | id :: r, s :: l, bf, free, last => ∃ k e, Yq id p.ens 0 = some k /\ p.ens[k]? = some e /\ s.1 = id /\ last < (k : Int) /\ (1 <= e.fr /\ e.fr <= 1000000) /\ free <= s.2 /\ e.ea <= s.2 /\ s.2 <= e.la /\ 0 <= s.2 /\ s.2 <= 100000000 /\ s.2 + e.fr <= p.ln /\
   Yy p e.it 0 s.2 e.fr = true /\ (Va p e.it = -1 \/ cntI e.it bf < Va p e.it) /\ (∀ a ∈ bf, 0 < Zt p a.1 e.it -> a.2 + Zt p a.1 e.it <= s.2) /\ holdG p r l ((e.it, s.2 + e.fr) :: bf) (s.2 + e.fr) k
 | _, _, _, _, _ => False
structure RelA (p : Pl) (bf us en : List (Int × Int)) : Prop where
 us : ∀ it, (af it us).getD 0 <= cntI it bf
 en : ∀ k v, af k en = some v -> ∃ a ∈ bf, ∃ x, Xf a.1 p.its = some x /\ x.sp = k /\ v <= a.2
structure RelB (p : Pl) (bf us en : List (Int × Int)) : Prop where
 us : ∀ it, cntI it bf <= (af it us).getD 0
 en : ∀ a ∈ bf, ∀ x, Xf a.1 p.its = some x -> ∃ v, af x.sp en = some v /\ a.2 <= v
theorem cntI_cons (it : Int) (a : Int × Int) (bf : List (Int × Int)) : cntI it (a :: bf) = cntI it bf + if a.1 = it then 1 else 0 := by
 unfold cntI
 rw [List.filter_cons]
 by_cases h : a.1 = it
 ·simp [h]
 ·simp [h]
theorem RelA.note {p : Pl} {bf us en : List (Int × Int)} (h : RelA p bf us en) (it : Int) {e' e : Int} (h0 : 0 <= e) (he : e' <= e) (h1 : 0 <= e') : RelA p ((it, e) :: bf) (Zf us it) (Xp p en it e') := by
 refine ⟨fun k => ?_, fun k v hk => ?_⟩
 ·rw [Zf, Zc, cntI_cons]
  have := h.us it
  have := h.us k
  by_cases hc : k = it
  ·subst hc; simp; omega
  ·have hc' : ¬ it = k := fun e => hc e.symm
   simp [hc, hc']; omega
 ·unfold Xp at hk
  cases hf : Xf it p.its with
  | none =>
   rw [hf] at hk
   obtain ⟨a, ha, hx⟩ := h.en k v hk
   exact ⟨a, by simp [ha], hx⟩
  | some x =>
   rw [hf] at hk
   simp only [Zc] at hk
   split at hk
   ·rename_i hkx
    cases hk
    cases ho : af x.sp en with
    | none => exact ⟨(it, e), by simp, x, hf, hkx.symm, by simp; omega⟩
    | some w =>
     obtain ⟨a, ha, y, h2, h3, h4⟩ := h.en _ _ ho
     rcases Int.lt_or_le w e' with hw | hw
     ·exact ⟨(it, e), by simp, x, hf, hkx.symm, by simp; omega⟩
     ·exact ⟨a, by simp [ha], y, h2, by rw [h3, hkx], by simp; omega⟩
   ·obtain ⟨a, ha, hx⟩ := h.en k v hk
    exact ⟨a, by simp [ha], hx⟩
theorem RelB.note {p : Pl} {bf us en : List (Int × Int)} (h : RelB p bf us en) (it : Int) (e : Int) : RelB p ((it, e) :: bf) (Zf us it) (Xp p en it e) := by
 refine ⟨fun k => ?_, fun a ha x hx => ?_⟩
 ·rw [Zf, Zc, cntI_cons]
  have := h.us it
  have := h.us k
  by_cases hc : k = it
  ·subst hc; simp; omega
  ·have hc' : ¬ it = k := fun e => hc e.symm
   simp [hc, hc']; omega
 ·unfold Xp
  rcases List.mem_cons.1 ha with rfl | ha
  ·rw [hx]
   simp only
   exact ⟨_, by rw [Zc, if_pos rfl], by omega⟩
  ·obtain ⟨v, hv, hle⟩ := h.en a ha x hx
   cases hf : Xf it p.its with
   | none => exact ⟨v, hv, hle⟩
   | some y =>
    simp only [Zc]
    split
    ·rename_i hc
     refine ⟨_, rfl, ?_⟩
     rw [<- hc, hv]; simp; omega
    ·exact ⟨v, hv, hle⟩
theorem earG_holds {p : Pl} : ∀ {ids : List Int} {us en bf : List (Int × Int)} {free last : Int} {l : List Sp}, RelB p bf us en -> Zp p ids us en free last = some l -> holdG p ids l bf free last
 | [], _, _, _, _, _, l, _, h => by cases h; trivial
 | id :: r, us, en, bf, free, last, l, hB, h => by
  rw [Zp] at h
  cases hf : Yq id p.ens 0 with
  | none => rw [hf] at h; cases h
  | some k =>
   rw [hf] at h
   simp only at h
   split at h
   ·cases h
   ·rename_i hkl
    cases hx : p.ens[k]? with
    | none => rw [hx] at h; cases h
    | some e =>
     rw [hx] at h
     simp only at h
     split at h
     ·cases h
     ·rename_i hr
      cases hs : Xt p e (Xz en (Vl p e.it) (max e.ea free)) with
      | none => rw [hs] at h; cases h
      | some s =>
       rw [hs] at h
       simp only at h
       cases hg : Zp p r (Zf us e.it) (Xp p en e.it (s + e.fr)) (s + e.fr) k with
       | none => rw [hg] at h; cases h
       | some l' =>
        rw [hg] at h
        cases h
        obtain ⟨a1, a2, a3, a4, a5, a6, a7⟩ := Um hs
        obtain ⟨f1, f2⟩ := fromL_le_iff.1 a2
        have hu := hB.us e.it
        refine ⟨k, e, hf, hx, rfl, by omega, a1, by omega, by omega, a4, a3, a6, a5, startS_allow hs, ?_, fun a ha hgp => ?_, earG_holds (hB.note e.it _) hg⟩
        ·by_cases h1 : Va p e.it = -1
         ·exact .inl h1
         ·refine .inr ?_
          rcases Int.lt_or_le ((af e.it us).getD 0) (Va p e.it) with h2 | h2
          ·omega
          ·exact absurd ⟨h1, h2⟩ hr
        ·obtain ⟨x, y, g1, _⟩ := gapS_pos hgp
         obtain ⟨v, hv, hle⟩ := hB.en a ha x g1
         have := (riv_iff (p := p) (it := e.it) (fun o g => ∀ v, af o en = some v -> v + g <= s)).1 f2 a.1 x g1 hgp v hv
         simp only
         omega
theorem earG_least {p : Pl} : ∀ {ids : List Int} {us en bf : List (Int × Int)} {free' free last : Int} {l : List Sp}, RelA p bf us en -> free' <= free -> holdG p ids l bf free last -> ∃ l', Zp p ids us en free' last = some l' /\ l'.length = l.length /\ ∀ (i : Nat) (s' s : Sp), l'[i]? = some s' -> l[i]? = some s -> s'.2 <= s.2
 | [], _, _, _, _, _, _, [], _, _, _ => ⟨[], rfl, rfl, fun i s' s h => by cases h⟩
 | [], _, _, _, _, _, _, _ :: _, _, _, h => h.elim
 | _ :: _, _, _, _, _, _, _, [], _, _, h => h.elim
 | id :: r, us, en, bf, free', free, last, s :: l, hA, hfr, h => by
  obtain ⟨k, e, h1, h2, h3, h4, h5, h6, h7, h8, h9, h10, h11, h12, h13, h14, h15⟩ := h
  have hu := hA.us e.it
  have hfl : Xz en (Vl p e.it) (max e.ea free') <= s.2 := by
   refine fromL_le_iff.2 ⟨by omega, ?_⟩
   refine (riv_iff (p := p) (it := e.it) (fun o g => ∀ v, af o en = some v -> v + g <= s.2)).2 fun a x hx hg v hv => ?_
   obtain ⟨b, hb, y, hy, hys, hle⟩ := hA.en _ _ hv
   have hge := gapS_spl (b := e.it) hy hx hys
   have := h14 b hb (by rw [hge]; exact hg)
   rw [hge] at this
   omega
  obtain ⟨s', hs', hle⟩ := startS_least (p := p) (e := e) h5 hfl h9 ⟨h8, h11, h10⟩ ((allowB_iff _ _ _ _ _).1 h12).2
  obtain ⟨a1, a2, a3, _⟩ := Um hs'
  obtain ⟨l', g1, g2, g3⟩ := earG_least (free' := s' + e.fr) (hA.note e.it (e' := s' + e.fr) (e := s.2 + e.fr) (by omega) (by omega) (by omega)) (by omega) h15
  refine ⟨(id, s') :: l', ?_, by simp [g2], ?_⟩
  ·rw [Zp, h1]
   simp only
   rw [if_neg (by omega), h2]
   simp only
   rw [if_neg (by intro hc; rcases h13 with h13 | h13 <;> omega), hs']
   simp only
   rw [g1]
  ·intro i t' t ht' ht
   cases i with
   | zero =>
    simp at ht' ht
    rw [<- ht', <- ht]; exact hle
   | succ i => exact g3 i t' t (by simpa using ht') (by simpa using ht)
theorem RelB.nil (p : Pl) : RelB p [] [] [] := ⟨fun _ => by simp [cntI, af], fun _ h => by cases h⟩
theorem RelA.nil (p : Pl) : RelA p [] [] [] := ⟨fun _ => by simp [cntI, af], fun _ _ h => by cases h⟩
def pastB (past : List Ad) : List (Int × Int) := (past.filter Zq).map fun a => (a.it, a.fr + a.fs)
theorem past_rel (p : Pl) : ∀ (past : List Ad) (bf us en : List (Int × Int)), RelA p bf us en /\ RelB p bf us en -> RelA p ((pastB past).reverse ++ bf) (Vt past us) (Vu p past en) /\ RelB p ((pastB past).reverse ++ bf) (Vt past us) (Vu p past en)
 | [], bf, us, en, h => by simpa [pastB, Vt, Vu] using h
 | a :: r, bf, us, en, h => by
  rw [Vt, Vu]
  cases hc : Zq a with
  | false =>
   have : pastB (a :: r) = pastB r := by simp [pastB, hc]
   rw [this]
   simp only [Bool.false_eq_true, if_false]
   exact past_rel p r bf us en h
  | true =>
   have hp : (pastB (a :: r)).reverse ++ bf = (pastB r).reverse ++ ((a.it, a.fr + a.fs) :: bf) := by simp [pastB, hc]
   rw [hp]
   simp only [if_true]
   have hb : 0 <= a.fr + a.fs := by simp [Zq] at hc; omega
   exact past_rel p r _ _ _ ⟨h.1.note a.it hb (Int.le_refl _) hb, h.2.note a.it _⟩
end Go.Proofs.YtkcnjajklnoahaaGreatDoor
