import Derived.Test.YtkcnjajklnoahaaGreatDoorSXMR
import Derived.Test.YtkcnjajklnoahaaGreatDoorSXMT
set_option linter.unusedVariables false
set_option linter.unusedSimpArgs false
namespace Go.Proofs.YtkcnjajklnoahaaGreatDoor
open Go Go.Abs
theorem earL_least {at_ n t : Int} (hn : 1 <= n) (ht : at_ <= t) : ∀ {l : List Sp}, VS l -> (∀ x, t <= x -> x < t + n -> Xl l x) -> ∃ s, earL at_ n l = some s /\ s <= t
 | [], _, h => by
  have := h t (Int.le_refl _) (by omega)
  simp at this
 | a :: r, hv, h => by
  have ha := hv.1 a (by simp)
  have hp := List.pairwise_cons.1 hv.2
  have hr : VS r := ⟨fun s hs => hv.1 s (by simp [hs]), hp.2⟩
  rw [earL]
  by_cases c : max a.1 at_ < a.2 /\ n <= a.2 - max a.1 at_
  ·rw [if_pos c]
   refine ⟨_, rfl, ?_⟩
   have h0 := h t (Int.le_refl _) (by omega)
   rw [Xb] at h0
   rcases h0 with h0 | ⟨s, hs, h1, h2⟩
   ·omega
   ·have := hp.1 s hs
    omega
  ·rw [if_neg c]
   have hnot : ∀ x, t <= x -> x < t + n -> ¬ (a.1 <= x /\ x < a.2) := by
    intro x hx1 hx2 hx
    have h2 : ¬ Xl (a :: r) a.2 := by
     rw [Xb]
     rintro (h | ⟨s, hs, h1, _⟩)
     ·omega
     ·have := hp.1 s hs
      omega
    have h3 : t + n <= a.2 := by
     rcases Int.lt_or_le a.2 (t + n) with h' | h'
     ·exact absurd (h a.2 (by omega) h') h2
     ·exact h'
    have h4 : a.1 <= t := by
     rcases Int.lt_or_le t a.1 with h' | h'
     ·have h5 := h (a.1 - 1) (by omega) (by omega)
      rw [Xb] at h5
      rcases h5 with h5 | ⟨s, hs, h6, _⟩
      ·omega
      ·have := hp.1 s hs
       omega
     ·exact h'
    exact c ⟨by omega, by omega⟩
   refine earL_least hn ht hr fun x h1 h2 => ?_
   have h3 := h x h1 h2
   rw [Xb] at h3
   exact h3.resolve_left (hnot x h1 h2)
theorem earS_least {p : Pl} {it k at_ n t : Int} (hn : 1 <= n /\ n <= 1000000) (ht : at_ <= t) (hk : k * 1000000 <= t /\ t + n <= (k + 2) * 1000000) (h : ∀ x, t <= x -> x < t + n -> Wh p it 0 x) : ∃ s, earS (Xq p it k) at_ n = some s /\ s <= t := by
 rw [earS, if_neg (by omega)]
 refine earL_least hn.1 ht (Zk _).1 fun x h1 h2 => ?_
 rw [(Zk _).2, Wl]
 exact ⟨by omega, by omega, h x h1 h2⟩
theorem earS_in {p : Pl} {it k at_ n s : Int} (hn : 1 <= n) (h : earS (Xq p it k) at_ n = some s) : s + n <= (k + 2) * 1000000 := by
 rw [earS, if_neg (by omega)] at h
 obtain ⟨a, ha, h1, h2, h3⟩ := earL_ok h
 have : Xl (Xe (Xq p it k)) (s + n - 1) := ⟨a, ha, by omega, by omega⟩
 rw [(Zk _).2, Wl] at this
 omega
theorem stP_least {p : Pl} {e : En} {last from_ n t : Int} (he : 1 <= e.fr /\ e.fr <= 1000000) (h1 : from_ <= t) (h2 : t <= last) (h3 : n * 1000000 <= t) (h : ∀ x, t <= x -> x < t + e.fr -> Wh p e.it 0 x) : ∃ s, stP p e last from_ n = some s /\ s <= t := by
 rw [stP, if_pos (by omega)]
 cases hs : earS (Xq p e.it n) from_ e.fr with
 | none =>
  simp only
  refine stP_least he h1 h2 ?_ h
  rcases Int.lt_or_le t ((n + 1) * 1000000) with h' | h'
  ·obtain ⟨s, hs', _⟩ := earS_least (p := p) (it := e.it) (k := n) he h1 ⟨h3, by omega⟩ h
   rw [hs] at hs'; cases hs'
  ·exact h'
 | some s =>
  simp only
  have hin := earS_in he.1 hs
  have hst : s <= t := by
   rcases Int.lt_or_le ((n + 2) * 1000000) (t + e.fr) with h' | h'
   ·omega
   ·obtain ⟨s', hs', hle⟩ := earS_least (p := p) (it := e.it) (k := n) he h1 ⟨h3, h'⟩ h
    rw [hs] at hs'; cases hs'; exact hle
  rw [if_neg (by omega)]
  exact ⟨s, rfl, hst⟩
termination_by (last - n * 1000000 + 1000000).toNat
decreasing_by omega
theorem startS_least {p : Pl} {e : En} {from_ t : Int} (he : 1 <= e.fr /\ e.fr <= 1000000) (h1 : from_ <= t) (h0 : 0 <= t) (h2 : t <= e.la /\ t + e.fr <= p.ln /\ t <= 100000000) (h : ∀ x, t <= x -> x < t + e.fr -> Wh p e.it 0 x) : ∃ s, Xt p e from_ = some s /\ s <= t := by
 rw [Xt, if_neg (by omega)]
 refine stP_least he (by omega) (by simp only [lastS]; omega) ?_ h
 have hm : 0 <= max from_ 0 := by omega
 rw [Int.tdiv_eq_ediv_of_nonneg hm]
 omega
def LeU (us' us : List (Int × Int)) : Prop := ∀ k, (af k us').getD 0 <= (af k us).getD 0
def LeE (en' en : List (Int × Int)) : Prop := ∀ k v', af k en' = some v' -> ∃ v, af k en = some v /\ v' <= v
theorem LeE.refl (en : List (Int × Int)) : LeE en en := fun k v h => ⟨v, h, Int.le_refl _⟩
theorem LeU.note {us' us : List (Int × Int)} (h : LeU us' us) (it : Int) : LeU (Zf us' it) (Zf us it) := fun k => by
 rw [Zf, Zf, Zc, Zc]
 have := h it
 split
 ·simp; omega
 ·exact h k
theorem LeU.skip {us' us : List (Int × Int)} (h : LeU us' us) (it : Int) : LeU us' (Zf us it) := fun k => by
 rw [Zf, Zc]
 split
 ·rename_i e
  have := h it
  rw [e]; simp; omega
 ·exact h k
theorem LeE.note {p p' : Pl} {en' en : List (Int × Int)} (h : LeE en' en) (it : Int) {e' e : Int} (he : e' <= e) (h0 : 0 <= e') (hp : Xf it p'.its = Xf it p.its) : LeE (Xp p' en' it e') (Xp p en it e) := fun k v' hk => by
 unfold Xp at hk |-
 rw [hp] at hk
 cases hf : Xf it p.its with
 | none => rw [hf] at hk; exact h k v' hk
 | some x =>
  rw [hf] at hk
  simp only [Zc] at hk |-
  split at hk
  ·rename_i hkx
   cases hk
   refine ⟨_, by rw [if_pos hkx], ?_⟩
   cases h1 : af x.sp en' with
   | none =>
    cases h2 : af x.sp en with
    | none => simp; omega
    | some v => simp; omega
   | some v1 =>
    obtain ⟨v, hv, hle⟩ := h _ _ h1
    rw [hv]; simp; omega
  ·rename_i hkx
   obtain ⟨v, hv, hle⟩ := h k v' hk
   exact ⟨v, by rw [if_neg hkx]; exact hv, hle⟩
theorem LeE.skip {p : Pl} {en' en : List (Int × Int)} (h : LeE en' en) (it e : Int) : LeE en' (Xp p en it e) := fun k v' hk => by
 obtain ⟨v, hv, hle⟩ := h k v' hk
 unfold Xp
 cases hf : Xf it p.its with
 | none => exact ⟨v, hv, hle⟩
 | some x =>
  simp only [Zc]
  split
  ·rename_i hkx
   subst hkx
   exact ⟨_, rfl, by rw [hv]; simp; omega⟩
  ·exact ⟨v, hv, hle⟩
theorem fromL_mono {en' en : List (Int × Int)} (h : LeE en' en) : ∀ (l : List Sp) {f' f : Int}, f' <= f -> Xz en' l f' <= Xz en l f
 | [], _, _, hf => hf
 | r :: l, f', f, hf => by
  rw [Xz, Xz]
  refine fromL_mono h l ?_
  cases h1 : af r.1 en' with
  | none =>
   cases h2 : af r.1 en with
   | none => exact hf
   | some v => simp only; omega
  | some v1 =>
   obtain ⟨v, hv, hle⟩ := h _ _ h1
   rw [hv]; simp only; omega
structure More (p' p : Pl) : Prop where
 its : p'.its = p.its
 ens : p'.ens = p.ens
 ln : p'.ln = p.ln
 runs : ∀ it, Va p' it = Va p it
 riv : ∀ it, Vl p' it = Vl p it
 perm : ∀ it x, Wh p it 0 x -> Wh p' it 0 x
theorem More.refl (p : Pl) : More p p := ⟨rfl, rfl, rfl, fun _ => rfl, fun _ => rfl, fun _ _ h => h⟩
inductive SubLe : List Sp -> List Sp -> Prop
 | nil (l : List Sp) : SubLe [] l
 | skip {l' l : List Sp} (s : Sp) : SubLe l' l -> SubLe l' (s :: l)
 | cons {l' l : List Sp} (id s' s : Int) : s' <= s -> SubLe l' l -> SubLe ((id, s') :: l') ((id, s) :: l)
theorem earG_mono {p' p : Pl} (hm : More p' p) {ids' ids : List Int} (hsub : ids'.Sublist ids) : ∀ {us' us en' en : List (Int × Int)} {free' free last' last : Int} {l : List Sp}, LeU us' us -> LeE en' en -> free' <= free -> last' <= last -> Zp p ids us en free last = some l ->
  ∃ l', Zp p' ids' us' en' free' last' = some l' /\ SubLe l' l := by
 induction hsub with
 | slnil =>
  intro us' us en' en free' free last' last l _ _ _ _ h
  exact ⟨[], rfl, .nil _⟩
 | @cons ids' ids id _ ih =>
  intro us' us en' en free' free last' last l hu he hf hla h
  rw [Zp] at h
  cases hk : Yq id p.ens 0 with
  | none => rw [hk] at h; cases h
  | some k =>
   rw [hk] at h
   simp only at h
   split at h
   ·cases h
   ·rename_i hkl
    cases hx : p.ens[k]? with
    | none => rw [hx] at h; cases h
    | some e =>
     rw [hx] at h
     simp only at h
     split at h
     ·cases h
     ·cases hs : Xt p e (Xz en (Vl p e.it) (max e.ea free)) with
      | none => rw [hs] at h; cases h
      | some s =>
       rw [hs] at h
       simp only at h
       cases hg : Zp p ids (Zf us e.it) (Xp p en e.it (s + e.fr)) (s + e.fr) k with
       | none => rw [hg] at h; cases h
       | some r =>
        rw [hg] at h
        cases h
        obtain ⟨a1, a2, _⟩ := Um hs
        have hfl := fromL_le en (Vl p e.it) (max e.ea free)
        obtain ⟨l', h1, h2⟩ := ih (hu.skip e.it) (he.skip e.it (s + e.fr)) (free' := free') (by omega) (last' := last') (by omega) hg
        exact ⟨l', h1, .skip _ h2⟩
 | @cons_cons ids' ids id _ ih =>
  intro us' us en' en free' free last' last l hu he hf hla h
  rw [Zp] at h
  rw [Zp, hm.ens]
  cases hk : Yq id p.ens 0 with
  | none => rw [hk] at h; cases h
  | some k =>
   rw [hk] at h
   simp only at h |-
   split at h
   ·cases h
   ·rename_i hkl
    rw [if_neg (by omega)]
    cases hx : p.ens[k]? with
    | none => rw [hx] at h; cases h
    | some e =>
     rw [hx] at h
     simp only at h |-
     split at h
     ·cases h
     ·rename_i hr
      have hue := hu e.it
      rw [hm.runs, hm.riv, if_neg (by intro hh; exact hr ⟨hh.1, by omega⟩)]
      cases hs : Xt p e (Xz en (Vl p e.it) (max e.ea free)) with
      | none => rw [hs] at h; cases h
      | some s =>
       rw [hs] at h
       simp only at h
       cases hg : Zp p ids (Zf us e.it) (Xp p en e.it (s + e.fr)) (s + e.fr) k with
       | none => rw [hg] at h; cases h
       | some r =>
        rw [hg] at h
        cases h
        obtain ⟨a1, a2, a3, a4, a5, a6, a7⟩ := Um hs
        have hfm := fromL_mono he (Vl p e.it) (show max e.ea free' <= max e.ea free by omega)
        obtain ⟨s', hs', hle⟩ := startS_least (p := p') (from_ := Xz en' (Vl p e.it) (max e.ea free')) a1 (by omega) a3 ⟨a4, by rw [hm.ln]; exact a5, a6⟩ (fun x h1 h2 => hm.perm _ _ (a7 x h1 h2))
        have hb' := Um hs'
        rw [hs']
        simp only
        obtain ⟨l', h1, h2⟩ := ih (hu.note e.it) (he.note e.it (e' := s' + e.fr) (e := s + e.fr) (by omega) (by omega) (by rw [hm.its])) (free' := s' + e.fr) (by omega) (last' := (k : Int)) (Int.le_refl _) hg
        rw [h1]
        exact ⟨_, rfl, .cons id s' s hle h2⟩
open Go Go.Abs
def Mono (ok : List Int -> Bool) : Prop := ∀ a b : List Int, a.Sublist b -> ok b = true -> ok a = true
theorem okE_mono (b : Bd) : Mono (okE b) := fun a c hs h => by
 unfold okE at h |-
 obtain ⟨l, hl⟩ := Option.isSome_iff_exists.1 h
 obtain ⟨l', h1, _⟩ := earG_mono (More.refl b.p) hs (us' := b.us) (en' := b.en) (free' := b.at_) (last' := -1) (fun _ => Int.le_refl _) (LeE.refl _) (Int.le_refl _) (Int.le_refl _) hl
 rw [h1]; rfl
theorem okE_nil (b : Bd) : okE b [] = true := rfl
theorem without_sub {c : List Int} {i j : Nat} (hj : j < i) (hi : i < c.length) : ((c.take i ++ c.drop (i + 1)).take j ++ (c.take i ++ c.drop (i + 1)).drop (j + 1)).Sublist (c.take j ++ c.drop (j + 1)) := by
 have h1 : (c.take i ++ c.drop (i + 1)).take j = c.take j := by
  rw [List.take_append_of_le_length (by simp; omega), List.take_take, Nat.min_eq_left (by omega)]
 have h2 : (c.take i ++ c.drop (i + 1)).drop (j + 1) = (c.take i).drop (j + 1) ++ c.drop (i + 1) := by
  rw [List.drop_append_of_le_length (by simp; omega)]
 have h3 : c.drop (j + 1) = (c.take i).drop (j + 1) ++ c.drop i := by
  conv => lhs; rw [<- List.take_append_drop i c]
  rw [List.drop_append_of_le_length (by simp; omega)]
 rw [h1, h2, h3]
 refine List.Sublist.append (List.Sublist.refl _) (List.Sublist.append (List.Sublist.refl _) ?_)
 rw [<- List.drop_drop]
 exact List.drop_sublist 1 _
theorem conG_spec {ok : List Int -> Bool} (hm : Mono ok) : ∀ (c : List Int) (i : Nat), ok c = false -> (∀ j, j < i -> j < c.length -> ok (c.take j ++ c.drop (j + 1)) = true) ->
  ok (conG ok c i) = false /\ (conG ok c i).Sublist c /\ ∀ j, j < (conG ok c i).length -> ok ((conG ok c i).take j ++ (conG ok c i).drop (j + 1)) = true := by
 intro c i
 induction c, i using conG.induct ok with
 | case1 c i h hok ih =>
  intro h1 h2
  rw [conG, dif_pos h, if_pos hok]
  refine ih h1 fun j hj hjl => ?_
  rcases Nat.lt_or_ge j i with h' | h'
  ·exact h2 j h' hjl
  ·obtain rfl : j = i := by omega
   exact hok
 | case2 c i h hok ih =>
  intro h1 h2
  rw [conG, dif_pos h, if_neg hok]
  obtain ⟨g1, g2, g3⟩ := ih (by simpa using hok) fun j hj hjl => hm _ _ (without_sub hj h) (h2 j hj (by omega))
  refine ⟨g1, g2.trans ?_, g3⟩
  conv => rhs; rw [<- List.take_append_drop i c]
  refine List.Sublist.append (List.Sublist.refl _) ?_
  rw [<- List.drop_drop]
  exact List.drop_sublist 1 _
 | case3 c i h =>
  intro h1 h2
  rw [conG, dif_neg h]
  exact ⟨h1, List.Sublist.refl _, fun j hj => h2 j (by omega) hj⟩
theorem conS_spec (b : Bd) (ids : List Int) : (okE b ids = true -> Uf b ids = []) /\ (okE b ids = false -> okE b (Uf b ids) = false /\ Uf b ids ≠ [] /\ (Uf b ids).Sublist ids /\ ∀ j, j < (Uf b ids).length -> okE b ((Uf b ids).take j ++ (Uf b ids).drop (j + 1)) = true) := by
 refine ⟨fun h => by rw [Uf, if_pos h], fun h => ?_⟩
 rw [Uf, if_neg (by rw [h]; simp)]
 obtain ⟨g1, g2, g3⟩ := conG_spec (okE_mono b) ids 0 h fun j hj => by omega
 refine ⟨g1, fun hn => ?_, g2, g3⟩
 rw [hn, okE_nil] at g1
 cases g1
open Go Go.Abs
def Qt (w : Bool) : List Int -> List Bool -> List Int
 | id :: r, k :: ks => if (k == w) = true then id :: Qt w r ks else Qt w r ks
 | _, _ => []
def Ub (ok : List Int -> Bool) (rd : Int -> Nat) (ids : List Int) (r : Nat) (K : List Bool) (i : Nat) : List Bool := match ids[i]? with
 | some id => if rd id = r then K.set i (ok (Qt true ids (K.set i true))) else K
 | none => K
def Ye (ok : List Int -> Bool) (rd : Int -> Nat) (ids : List Int) (r : Nat) (K : List Bool) : List Bool := (List.range ids.length).foldl (Ub ok rd ids r) K
def Yv (ok : List Int -> Bool) (rd : Int -> Nat) (ids : List Int) : List Bool := Ye ok rd ids 2 (Ye ok rd ids 1 (Ye ok rd ids 0 (List.replicate ids.length false)))
def LeK (K K' : List Bool) : Prop := ∀ j, K.getD j false = true -> K'.getD j false = true
theorem LeK.refl (K : List Bool) : LeK K K := fun _ h => h
theorem LeK.trans {K K' K'' : List Bool} (h : LeK K K') (k : LeK K' K'') : LeK K K'' := fun j hj => k j (h j hj)
theorem getD_set (K : List Bool) (i j : Nat) (b : Bool) : (K.set i b).getD j false = if i = j /\ i < K.length then b else K.getD j false := by
 simp only [List.getD_eq_getElem?_getD, List.getElem?_set]
 by_cases h : i = j
 ·subst h
  by_cases h2 : i < K.length
  ·simp [h2]
  ·have : K[i]? = none := List.getElem?_eq_none (by omega)
   simp [h2]
 ·simp [h]
theorem LeK.set {K K' : List Bool} (h : LeK K K') (hl : K.length = K'.length) (i : Nat) : LeK (K.set i true) (K'.set i true) := fun j hj => by
 rw [getD_set] at hj |-
 split at hj
 ·rename_i hc
  rw [if_pos ⟨hc.1, by omega⟩]
 ·rename_i hc
  rw [if_neg (by rw [<- hl]; exact hc)]
  exact h j hj
theorem LeK.set_self (K : List Bool) (i : Nat) : LeK K (K.set i true) := fun j hj => by
 rw [getD_set]
 split
 ·rfl
 ·exact hj
theorem selB_mono : ∀ (ids : List Int) {K K' : List Bool}, K.length = K'.length -> LeK K K' -> (Qt true ids K).Sublist (Qt true ids K')
 | [], _, _, _, _ => by simp [Qt]
 | id :: r, [], [], _, _ => by simp [Qt]
 | id :: r, [], _ :: _, h, _ => by simp at h
 | id :: r, _ :: _, [], h, _ => by simp at h
 | id :: r, k :: ks, k' :: ks', hl, h => by
  have ih := selB_mono r (K := ks) (K' := ks') (by simpa using hl) (fun j hj => by simpa using h (j + 1) (by simpa using hj))
  have h0 := h 0
  simp at h0
  cases k with
  | false =>
   cases k' with
   | false => simpa [Qt] using ih
   | true => simpa [Qt] using ih.cons id
  | true =>
   rw [h0 rfl]
   simpa [Qt] using ih.cons_cons id
theorem stepK_len (ok : List Int -> Bool) (rd : Int -> Nat) (ids : List Int) (r : Nat) (K : List Bool) (i : Nat) : (Ub ok rd ids r K i).length = K.length := by
 unfold Ub
 split
 ·split <;> simp
 ·rfl
structure ChI (ok : List Int -> Bool) (rd : Int -> Nat) (ids : List Int) (r i : Nat) (K : List Bool) : Prop where
 len : K.length = ids.length
 kok : ok (Qt true ids K) = true
 todo : ∀ (j : Nat) (id : Int), ids[j]? = some id -> (r < rd id \/ rd id = r /\ i <= j) -> K.getD j false = false
 done : ∀ (j : Nat) (id : Int), ids[j]? = some id -> (rd id < r \/ rd id = r /\ j < i) -> K.getD j false = true \/ ok (Qt true ids (K.set j true)) = false
theorem ChI.step {ok : List Int -> Bool} (hm : Mono ok) {rd : Int -> Nat} {ids : List Int} {r i : Nat} {K : List Bool} (h : ChI ok rd ids r i K) (hi : i < ids.length) : ChI ok rd ids r (i + 1) (Ub ok rd ids r K i) /\ LeK K (Ub ok rd ids r K i) := by
 obtain ⟨id, hid⟩ : ∃ id, ids[i]? = some id := ⟨_, List.getElem?_eq_getElem hi⟩
 unfold Ub
 rw [hid]
 simp only
 by_cases hr : rd id = r
 ·rw [if_pos hr]
  have hf := h.todo i id hid (.inr ⟨hr, Nat.le_refl _⟩)
  have hset0 : K.set i false = K := by
   apply List.ext_getElem (by simp)
   intro n h1 h2
   rw [List.getElem_set]
   split
   ·rename_i e
    subst e
    rw [List.getD_eq_getElem?_getD, List.getElem?_eq_getElem h2] at hf
    exact hf.symm
   ·rfl
  cases hok : ok (Qt true ids (K.set i true)) with
  | false =>
   rw [hset0]
   refine ⟨⟨h.len, h.kok, fun j x hj hc => h.todo j x hj (by omega), fun j x hj hc => ?_⟩, LeK.refl K⟩
   rcases Nat.lt_or_ge j i with hlt | hge
   ·exact h.done j x hj (by omega)
   ·rcases hc with hc | hc
    ·exact h.done j x hj (.inl hc)
    ·obtain rfl : j = i := by omega
     exact .inr hok
  | true =>
   have hle := LeK.set_self K i
   refine ⟨⟨by simp [h.len], hok, fun j x hj hc => ?_, fun j x hj hc => ?_⟩, hle⟩
   ·rw [getD_set, if_neg (by rintro ⟨e, _⟩; subst e; rw [hid] at hj; cases hj; omega)]
    exact h.todo j x hj (by omega)
   ·rcases Nat.decEq j i with hne | rfl
    ·have hd := h.done j x hj (by omega)
     rcases hd with hd | hd
     ·exact .inl (hle j hd)
     ·right
      have hs := selB_mono ids (K := K.set j true) (K' := (K.set i true).set j true) (by simp) (hle.set (by simp) j)
      cases hb : ok (Qt true ids ((K.set i true).set j true)) with
      | false => rfl
      | true => rw [hm _ _ hs hb] at hd; cases hd
    ·left
     rw [getD_set, if_pos ⟨rfl, by rw [h.len]; exact hi⟩]
 ·rw [if_neg hr]
  refine ⟨⟨h.len, h.kok, fun j x hj hc => h.todo j x hj (by omega), fun j x hj hc => h.done j x hj ?_⟩, LeK.refl K⟩
  rcases hc with hc | hc
  ·exact .inl hc
  ·have : j ≠ i := by rintro rfl; rw [hid] at hj; cases hj; exact hr hc.1
   exact .inr ⟨hc.1, by omega⟩
theorem ChI.round {ok : List Int -> Bool} (hm : Mono ok) {rd : Int -> Nat} {ids : List Int} {r : Nat} {K : List Bool} (h : ChI ok rd ids r 0 K) : ChI ok rd ids (r + 1) 0 (Ye ok rd ids r K) /\ LeK K (Ye ok rd ids r K) := by
 have key : ∀ n, n <= ids.length -> ChI ok rd ids r n ((List.range n).foldl (Ub ok rd ids r) K) /\ LeK K ((List.range n).foldl (Ub ok rd ids r) K) := by
  intro n
  induction n with
  | zero => intro _; exact ⟨h, LeK.refl K⟩
  | succ n ih =>
   intro hn
   obtain ⟨h1, h2⟩ := ih (by omega)
   obtain ⟨g1, g2⟩ := h1.step hm (by omega)
   rw [List.range_succ, List.foldl_append]
   exact ⟨g1, h2.trans g2⟩
 obtain ⟨h1, h2⟩ := key ids.length (Nat.le_refl _)
 refine ⟨⟨h1.len, h1.kok, fun j x hj hc => h1.todo j x hj (by omega), fun j x hj hc => h1.done j x hj ?_⟩, h2⟩
 have := (List.getElem?_eq_some_iff.1 hj).1
 omega
theorem selB_false (ids : List Int) (n : Nat) : Qt true ids (List.replicate n false) = [] := by
 induction ids generalizing n with
 | nil => simp [Qt]
 | cons x r ih =>
  cases n with
  | zero => simp [Qt]
  | succ n => rw [List.replicate_succ, Qt]; simpa using ih n
theorem choose_spec {ok : List Int -> Bool} (hm : Mono ok) (h0 : ok [] = true) (rd : Int -> Nat) (ids : List Int) (hrd : ∀ id ∈ ids, rd id <= 2) :
  (Yv ok rd ids).length = ids.length /\ ok (Qt true ids (Yv ok rd ids)) = true /\ ∀ (j : Nat) (id : Int), ids[j]? = some id -> (Yv ok rd ids).getD j false = true \/ ok (Qt true ids ((Yv ok rd ids).set j true)) = false := by
 have hi : ChI ok rd ids 0 0 (List.replicate ids.length false) := ⟨by simp, by rw [selB_false]; exact h0, fun j id hj _ => by
  rw [List.getD_eq_getElem?_getD, List.getElem?_replicate]; split <;> rfl, fun j id hj hc => by omega⟩
 have h1 := (hi.round hm).1
 have h2 := (h1.round hm).1
 have h3 := (h2.round hm).1
 refine ⟨h3.len, h3.kok, fun j id hj => h3.done j id hj (.inl ?_)⟩
 have := hrd id (List.mem_of_getElem? hj)
 omega
end Go.Proofs.YtkcnjajklnoahaaGreatDoor
