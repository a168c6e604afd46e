import Derived.Test.YtkcnjajklnoahaaGreatDoorSXSaI
import Derived.Test.YtkcnjajklnoahaaGreatDoorSXMT
set_option linter.unusedVariables false
set_option linter.unusedSimpArgs false
namespace Go.Proofs.YtkcnjajklnoahaaGreatDoor
open Go Go.Abs
theorem fromL_max (en : List (Int × Int)) (l : List Sp) (f g : Int) : Xz en l (max f g) = max (Xz en l f) g := by
 have key : ∀ t, Xz en l (max f g) <= t <-> max (Xz en l f) g <= t := fun t => by
  have h1 := fromL_le_iff (en := en) (l := l) (f := f) (t := t)
  have h2 := fromL_le_iff (en := en) (l := l) (f := max f g) (t := t)
  rw [h2]
  constructor
  ·rintro ⟨a, b⟩
   have := h1.2 ⟨by omega, b⟩
   omega
  ·intro h
   obtain ⟨a, b⟩ := h1.1 (by omega)
   exact ⟨by omega, b⟩
 have h1 := (key (max (Xz en l f) g)).2 (Int.le_refl _)
 have h2 := (key (Xz en l (max f g))).1 (Int.le_refl _)
 omega
theorem earG_max (p : Pl) (ids : List Int) (us en : List (Int × Int)) (free last : Int) : Zp p ids us en free last = Zp p ids us en (max free 0) last := by
 cases ids with
 | nil => rfl
 | cons id r =>
  rw [Zp, Zp]
  have h : ∀ e : En, Xt p e (Xz en (Vl p e.it) (max e.ea free)) = Xt p e (Xz en (Vl p e.it) (max e.ea (max free 0))) := fun e => by
   have : max e.ea (max free 0) = max (max e.ea free) 0 := by omega
   have h2 : ∀ f : Int, Xt p e (Xz en (Vl p e.it) f) = Xt p e (Xz en (Vl p e.it) (max f 0)) := fun f => by
    rw [fromL_max en _ f 0]
    first | exact startS_max p e _ | exact (startS_max p e _).symm
   rw [this]
   exact h2 _
  simp only [h]
theorem earG_part {p' p : Pl} (hm : More p' p) {ids' ids : List Int} (hsub : ids'.Sublist ids) {us' us en' en : List (Int × Int)} {free' free last : Int} {l : List Sp} (hu : LeU us' us) (he : LeE en' en) (hf : free' <= max free 0) (h : Zp p ids us en free last = some l) :
  ∃ l', Zp p' ids' us' en' free' last = some l' /\ SubLe l' l := by
 rw [earG_max] at h
 exact earG_mono hm hsub hu he hf (Int.le_refl _) h
theorem SubLe.len {l' l : List Sp} (h : SubLe l' l) : l'.length <= l.length := by
 induction h with
 | nil => exact Nat.zero_le _
 | skip s _ ih => simp only [List.length_cons]; omega
 | cons id s' s _ _ ih => simp only [List.length_cons]; omega
theorem SubLe.le {l' l : List Sp} (h : SubLe l' l) : (l.map (·.1)).Nodup -> ∀ (id s' s : Int), (id, s') ∈ l' -> (id, s) ∈ l -> s' <= s := by
 induction h with
 | nil => intro _ id s' s h; cases h
 | @skip l' l x hsub ih =>
  intro hn id s' s h1 h2
  simp only [List.map_cons, List.nodup_cons] at hn
  rcases List.mem_cons.1 h2 with e | h2
  ·
   exfalso
   have hmem : ∀ {a b : List Sp}, SubLe a b -> ∀ y ∈ a, y.1 ∈ b.map (·.1) := by
    intro a b hab
    induction hab with
    | nil => intro y hy; cases hy
    | skip t _ ih2 => intro y hy; exact List.mem_cons_of_mem _ (ih2 y hy)
    | cons i t' t _ _ ih2 =>
     intro y hy
     rcases List.mem_cons.1 hy with rfl | hy
     ·simp
     ·exact List.mem_cons_of_mem _ (ih2 y hy)
   have := hmem hsub _ h1
   rw [<- e] at hn
   exact hn.1 this
  ·exact ih hn.2 id s' s h1 h2
 | @cons l' l i t' t hle hsub ih =>
  intro hn id s' s h1 h2
  simp only [List.map_cons, List.nodup_cons] at hn
  have hmem : ∀ {a b : List Sp}, SubLe a b -> ∀ y ∈ a, y.1 ∈ b.map (·.1) := by
   intro a b hab
   induction hab with
   | nil => intro y hy; cases hy
   | skip t _ ih2 => intro y hy; exact List.mem_cons_of_mem _ (ih2 y hy)
   | cons i t' t _ _ ih2 =>
    intro y hy
    rcases List.mem_cons.1 hy with rfl | hy
    ·simp
    ·exact List.mem_cons_of_mem _ (ih2 y hy)
  rcases List.mem_cons.1 h1 with e1 | h1
  ·cases e1
   rcases List.mem_cons.1 h2 with e2 | h2
   ·cases e2; exact hle
   ·exact absurd (List.mem_map.2 ⟨_, h2, rfl⟩) hn.1
  ·rcases List.mem_cons.1 h2 with e2 | h2
   ·cases e2
    exact absurd (hmem hsub _ h1) hn.1
   ·exact ih hn.2 id s' s h1 h2
theorem earG_nodup {p : Pl} : ∀ {ids : List Int} {us en : List (Int × Int)} {free last : Int} {l : List Sp}, Zp p ids us en free last = some l -> ids.Nodup /\ ∀ id ∈ ids, ∃ k, Yq id p.ens 0 = some k /\ last < (k : Int)
 | [], _, _, _, _, _, _ => ⟨List.nodup_nil, fun _ h => by cases h⟩
 | id :: r, us, en, free, last, l, h => by
  rw [Zp] at h
  cases hf : Yq id p.ens 0 with
  | none => rw [hf] at h; cases h
  | some k =>
   rw [hf] at h
   simp only at h
   split at h
   ·cases h
   ·rename_i hkl
    cases hx : p.ens[k]? with
    | none => rw [hx] at h; cases h
    | some e =>
     rw [hx] at h
     simp only at h
     split at h
     ·cases h
     ·cases hs : Xt p e (Xz en (Vl p e.it) (max e.ea free)) with
      | none => rw [hs] at h; cases h
      | some s =>
       rw [hs] at h
       simp only at h
       cases hg : Zp p r (Zf us e.it) (Xp p en e.it (s + e.fr)) (s + e.fr) k with
       | none => rw [hg] at h; cases h
       | some l' =>
        obtain ⟨g1, g2⟩ := earG_nodup hg
        refine ⟨List.nodup_cons.2 ⟨fun hm => ?_, g1⟩, fun x hx' => ?_⟩
        ·obtain ⟨k', h1, h2⟩ := g2 id hm
         rw [hf] at h1
         cases h1
         omega
        ·rcases List.mem_cons.1 hx' with rfl | hx'
         ·exact ⟨k, hf, by omega⟩
         ·obtain ⟨k', h1, h2⟩ := g2 x hx'
          exact ⟨k', h1, by omega⟩
open Go Go.Abs
def Xk (n : Int) : Prop := -9223372036854775808 <= n /\ n <= 9223372036854775807
def shE (x : En) : En := { x with fr := if 2000 < x.fr then x.fr.tmod 2000 else x.fr, la := if max x.ea 0 <= 100000000 /\ max x.ea 0 + 5000 < x.la then max x.ea 0 + 5000 else x.la, al := x.al.take 8 }
def shP (p : Pl) : Pl := { p with its := p.its.take 12, bks := p.bks.take 5, cls := p.cls.take 15, sh := p.sh.take 5, ens := (p.ens.take 8).map shE }
def selI : List En -> Int -> List Int
 | [], _ => []
 | e :: r, w => if w.tmod 2 = 0 then e.id :: selI r (w.tdiv 2) else selI r (w.tdiv 2)
def fewI (p : Pl) (ids : List Int) (wh : Int) : List Int := if wh < 0 then ids.take 10 else selI p.ens wh
structure Ca where
 p : Pl
 ids : List Int
 wh : Int
 at_ : Int
 past : List Ad
def Qe (c : Ca) : List AV := Qa c.p ++ [.sl .ro (c.ids.map Qj), I c.wh, I c.at_, .sl .ro (c.past.map Qy)]
def bndC (c : Ca) : Ca := { c with p := shP c.p, ids := fewI (shP c.p) c.ids c.wh, past := c.past.take 6 }
theorem selI_len : ∀ (l : List En) (w : Int), (selI l w).length <= l.length
 | [], _ => Nat.le_refl _
 | e :: r, w => by
  rw [selI]
  have := selI_len r (w.tdiv 2)
  split <;> simp <;> omega
theorem fewI_len (p : Pl) (ids : List Int) (wh : Int) (h : p.ens.length <= 8) : (fewI p ids wh).length <= 10 := by
 unfold fewI
 split
 ·simp; omega
 ·have := selI_len p.ens wh; omega
structure PlK (p : Pl) : Prop where
 cls : p.cls.length <= 1000
 sh : p.sh.length <= 1000
 its : p.its.length <= 1000
 ens : p.ens.length <= 1000
 bks : p.bks.length <= 1000
 als : ∀ e ∈ p.ens, e.al.length <= 1000
 ln : -9223372036854775808 <= p.ln /\ p.ln <= 9223372036854775807
 ea : ∀ e ∈ p.ens, -9223372036854775808 <= e.ea /\ e.ea <= 9223372036854775807
 la : ∀ e ∈ p.ens, -9223372036854775808 <= e.la /\ e.la <= 9223372036854775807
 fr : ∀ e ∈ p.ens, -9223372036854775808 <= e.fr /\ e.fr <= 2000
theorem PlK.spn {p : Pl} (h : PlK p) : (Vb p).length <= 1000 := by
 have := spnG_len p.its [] []
 have := h.its
 simp only [Vb]
 simp at *; omega
theorem pastU_ok : ∀ (l : List Ad) (us : List (Int × Int)) (n : Int), 0 <= n -> UsOK n us -> UsOK (n + l.length) (Vt l us)
 | [], us, n, _, h => by simpa [Vt] using h
 | a :: r, us, n, hn, h => by
  rw [Vt]
  have h1 : UsOK (n + 1) (if Zq a = true then Zf us a.it else us) := by
   split
   ·exact h.note hn a.it
   ·exact fun k v hk => by have := h k v hk; omega
  have h2 := pastU_ok r _ (n + 1) (by omega) h1
  have : n + ((a :: r).length : Int) = n + 1 + (r.length : Int) := by simp; omega
  rw [this]; exact h2
theorem pastE_ok (p : Pl) : ∀ (l : List Ad) (en : List (Int × Int)), EnOK en -> EnOK (Vu p l en)
 | [], en, h => by simpa [Vu] using h
 | a :: r, en, h => by
  rw [Vu]
  refine pastE_ok p r _ ?_
  cases hc : Zq a with
  | false => simpa [hc] using h
  | true =>
   simp only [if_true]
   refine h.note a.it _ ?_
   simp [Zq] at hc; omega
open Go Go.Abs
theorem past_sub (p : Pl) {past' past : List Ad} (h : past'.Sublist past) : ∀ {us' us en' en : List (Int × Int)}, LeU us' us -> LeE en' en -> LeU (Vt past' us') (Vt past us) /\ LeE (Vu p past' en') (Vu p past en) := by
 induction h with
 | slnil => intro us' us en' en h1 h2; exact ⟨h1, h2⟩
 | @cons l₁ l₂ a _ ih =>
  intro us' us en' en h1 h2
  rw [Vt, Vu]
  cases hc : Zq a with
  | false => simpa [hc] using ih h1 h2
  | true => simpa [hc] using ih (h1.skip a.it) (h2.skip a.it _)
 | @cons_cons l₁ l₂ a _ ih =>
  intro us' us en' en h1 h2
  rw [Vt, Vu, Vt, Vu]
  cases hc : Zq a with
  | false => simpa [hc] using ih h1 h2
  | true =>
   have hb : 0 <= a.fr + a.fs := by simp [Zq] at hc; omega
   simpa [hc] using ih (h1.note a.it) (h2.note a.it (Int.le_refl _) hb rfl)
def grd : List Int -> List Int -> Nat
 | [], _ => 0
 | _ :: _, [] => 0
 | x :: r, y :: l => if x = y then grd r l + 1 else grd r (y :: l)
theorem grd_sub {l ids : List Int} (h : l.Sublist ids) : grd ids l = l.length := by
 induction ids generalizing l with
 | nil => cases h; rfl
 | cons x r ih =>
  cases l with
  | nil => rfl
  | cons y l =>
   rw [grd]
   by_cases e : x = y
   ·rw [if_pos e]
    subst e
    rw [ih (List.cons_sublist_cons.1 h)]
    rfl
   ·rw [if_neg e]
    cases h with
    | cons _ h => exact ih h
    | cons_cons _ h => exact absurd rfl e
def nlB (a b : List Sp) : Bool := a.all fun x => b.all fun y => !(decide (x.1 = y.1) && decide (y.2 < x.2))
theorem SubLe.mem {a b : List Sp} (hab : SubLe a b) : ∀ y ∈ a, y.1 ∈ b.map (·.1) := by
 induction hab with
 | nil => intro y hy; cases hy
 | skip t _ ih2 => intro y hy; exact List.mem_cons_of_mem _ (ih2 y hy)
 | cons i t' t _ _ ih2 =>
  intro y hy
  rcases List.mem_cons.1 hy with rfl | hy
  ·simp
  ·exact List.mem_cons_of_mem _ (ih2 y hy)
theorem SubLe.nl {a b : List Sp} (h : SubLe a b) (hn : (b.map (·.1)).Nodup) : nlB a b = true := by
 rw [nlB, List.all_eq_true]
 rintro ⟨i, s'⟩ h1
 rw [List.all_eq_true]
 rintro ⟨k, s⟩ h2
 by_cases e : i = k
 ·subst e
  have := h.le hn i s' s h1 h2
  simp; omega
 ·simp [e]
theorem earG_ids {p : Pl} : ∀ {ids : List Int} {us en : List (Int × Int)} {free last : Int} {l : List Sp}, Zp p ids us en free last = some l -> l.map (·.1) = ids
 | [], _, _, _, _, l, h => by rw [Zp] at h; cases h; rfl
 | id :: r, us, en, free, last, l, h => by
  rw [Zp] at h
  cases hf : Yq id p.ens 0 with
  | none => rw [hf] at h; cases h
  | some k =>
   rw [hf] at h
   simp only at h
   split at h
   ·cases h
   ·cases hx : p.ens[k]? with
    | none => rw [hx] at h; cases h
    | some e =>
     rw [hx] at h
     simp only at h
     split at h
     ·cases h
     ·cases hs : Xt p e (Xz en (Vl p e.it) (max e.ea free)) with
      | none => rw [hs] at h; cases h
      | some s =>
       rw [hs] at h
       simp only at h
       cases hg : Zp p r (Zf us e.it) (Xp p en e.it (s + e.fr)) (s + e.fr) k with
       | none => rw [hg] at h; cases h
       | some l' =>
        rw [hg] at h
        cases h
        rw [List.map_cons, earG_ids hg]
open Go Go.Abs
theorem Jl (w : Bool) : ∀ (ids : List Int) (K : List Bool), (Qt w ids K).Sublist ids
 | [], K => by cases K <;> simp [Qt]
 | id :: r, [] => by simp [Qt]
 | id :: r, k :: ks => by
  rw [Qt]
  split
  ·exact (Jl w r ks).cons_cons id
  ·exact (Jl w r ks).cons id
theorem selB_all : ∀ {ids : List Int} {K : List Bool}, K.length = ids.length -> (∀ j, j < ids.length -> K.getD j false = true) -> Qt true ids K = ids /\ Qt false ids K = []
 | [], K, _, _ => by cases K <;> exact ⟨rfl, rfl⟩
 | id :: r, [], h, _ => by simp at h
 | id :: r, k :: ks, h, hk => by
  have h0 := hk 0 (by simp)
  simp at h0
  subst h0
  obtain ⟨h1, h2⟩ := selB_all (ids := r) (K := ks) (by simpa using h) fun j hj => by
   have := hk (j + 1) (by simpa using hj)
   simpa using this
  simp [Qt, h1, h2]
theorem selB_none : ∀ {ids : List Int} {K : List Bool}, K.length = ids.length -> Qt false ids K = [] -> Qt true ids K = ids
 | [], K, _, _ => by cases K <;> rfl
 | id :: r, [], h, _ => by simp at h
 | id :: r, k :: ks, h, hk => by
  cases k with
  | true =>
   rw [Qt] at hk |-
   simp at hk |-
   exact selB_none (by simpa using h) hk
  | false => simp [Qt] at hk
theorem choose_all {ok : List Int -> Bool} (hm : Mono ok) (h0 : ok [] = true) (rd : Int -> Nat) (ids : List Int) (hrd : ∀ id ∈ ids, rd id <= 2) (h : ok ids = true) : Qt true ids (Yv ok rd ids) = ids /\ Qt false ids (Yv ok rd ids) = [] := by
 obtain ⟨h1, h2, h3⟩ := choose_spec hm h0 rd ids hrd
 refine selB_all h1 fun j hj => ?_
 rcases h3 j _ (List.getElem?_eq_getElem hj) with h4 | h4
 ·exact h4
 ·rw [hm _ _ (Jl true ids _) h] at h4
  cases h4
def splB : List Int -> List Int -> List Int -> List Int × Bool
 | [], k, d => ([], k.isEmpty && d.isEmpty)
 | id :: r, k, d => if k.head? = some id then (id :: (splB r k.tail d).1, (splB r k.tail d).2) else if d.head? = some id then splB r k d.tail else ([], false)
theorem selB_mem {w : Bool} {ids : List Int} {K : List Bool} {x : Int} (h : x ∈ Qt w ids K) : x ∈ ids := (Jl w ids K).subset h
theorem splB_sel : ∀ {ids : List Int} {K : List Bool}, K.length = ids.length -> ids.Nodup -> splB ids (Qt true ids K) (Qt false ids K) = (Qt true ids K, true)
 | [], K, _, _ => by cases K <;> rfl
 | id :: r, [], h, _ => by simp at h
 | id :: r, k :: ks, h, hn => by
  rw [List.nodup_cons] at hn
  have ih := splB_sel (ids := r) (K := ks) (by simpa using h) hn.2
  cases k with
  | true =>
   have e1 : Qt true (id :: r) (true :: ks) = id :: Qt true r ks := by rw [Qt]; simp
   have e2 : Qt false (id :: r) (true :: ks) = Qt false r ks := by rw [Qt]; simp
   rw [e1, e2, splB, if_pos (List.head?_cons), List.tail_cons, ih]
  | false =>
   have e1 : Qt true (id :: r) (false :: ks) = Qt true r ks := by rw [Qt]; simp
   have e2 : Qt false (id :: r) (false :: ks) = id :: Qt false r ks := by rw [Qt]; simp
   have hx : ¬ (Qt true r ks).head? = some id := fun e => hn.1 (selB_mem (List.mem_of_mem_head? e))
   rw [e1, e2, splB, if_neg hx, if_pos (List.head?_cons), List.tail_cons, ih]
def insB (kept : List Int) : List Int -> Nat -> List Int
 | [], _ => []
 | id :: r, 0 => id :: r.filter fun x => decide (x ∈ kept)
 | id :: r, n + 1 => if id ∈ kept then id :: insB kept r n else insB kept r n
theorem sel_filter : ∀ {ids : List Int} {K : List Bool}, K.length = ids.length -> ids.Nodup -> ∀ (S : List Int), (∀ x ∈ ids, x ∈ S <-> x ∈ Qt true ids K) -> (ids.filter fun x => decide (x ∈ S)) = Qt true ids K
 | [], K, _, _, _, _ => by cases K <;> rfl
 | id :: r, [], h, _, _, _ => by simp at h
 | id :: r, k :: ks, h, hn, S, hS => by
  rw [List.nodup_cons] at hn
  have hr : ∀ x ∈ r, (x ∈ S <-> x ∈ Qt true r ks) := fun x hx => by
   rw [hS x (List.mem_cons_of_mem _ hx), Qt]
   have : x ≠ id := fun e => hn.1 (e ▸ hx)
   split
   ·simp [this]
   ·rfl
  have ih := sel_filter (ids := r) (K := ks) (by simpa using h) hn.2 S hr
  have h0 := hS id (by simp)
  cases k with
  | true =>
   have e1 : Qt true (id :: r) (true :: ks) = id :: Qt true r ks := by rw [Qt]; simp
   rw [e1] at h0 |-
   have : id ∈ S := h0.2 (by simp)
   rw [List.filter_cons, if_pos (by simpa using this), ih]
  | false =>
   have e1 : Qt true (id :: r) (false :: ks) = Qt true r ks := by rw [Qt]; simp
   rw [e1] at h0 |-
   have : ¬ id ∈ S := fun e => hn.1 (selB_mem (h0.1 e))
   rw [List.filter_cons, if_neg (by simpa using this), ih]
theorem insB_sel : ∀ {ids : List Int} {K : List Bool} {n : Nat}, K.length = ids.length -> ids.Nodup -> n < ids.length -> ∀ (S : List Int), (∀ x ∈ ids, x ∈ S <-> x ∈ Qt true ids K) -> insB S ids n = Qt true ids (K.set n true)
 | [], _, _, _, _, h, _, _ => by simp at h
 | id :: r, [], _, h, _, _, _, _ => by simp at h
 | id :: r, k :: ks, n, h, hn, hl, S, hS => by
  rw [List.nodup_cons] at hn
  have hr : ∀ x ∈ r, (x ∈ S <-> x ∈ Qt true r ks) := fun x hx => by
   rw [hS x (List.mem_cons_of_mem _ hx), Qt]
   have : x ≠ id := fun e => hn.1 (e ▸ hx)
   split
   ·simp [this]
   ·rfl
  have h0 := hS id (by simp)
  cases n with
  | zero =>
   rw [insB, List.set_cons_zero, Qt, if_pos (by rfl), sel_filter (by simpa using h) hn.2 S hr]
  | succ n =>
   have ih := insB_sel (n := n) (by simpa using h) hn.2 (by simpa using hl) S hr
   rw [insB, List.set_cons_succ, ih]
   cases k with
   | true =>
    have e1 : Qt true (id :: r) (true :: ks) = id :: Qt true r ks := by rw [Qt]; simp
    rw [e1] at h0
    rw [if_pos (h0.2 (by simp)), Qt]
    simp
   | false =>
    have e1 : Qt true (id :: r) (false :: ks) = Qt true r ks := by rw [Qt]; simp
    rw [e1] at h0
    rw [if_neg (fun e => hn.1 (selB_mem (h0.1 e))), Qt]
    simp
theorem sel_drop : ∀ {ids : List Int} {K : List Bool}, K.length = ids.length -> ids.Nodup -> ∀ (j : Nat) (id : Int), ids[j]? = some id -> id ∈ Qt false ids K -> K.getD j false = false
 | [], _, _, _, j, id, h, _ => by simp at h
 | _ :: _, [], h, _, _, _, _, _ => by simp at h
 | x :: r, k :: ks, h, hn, j, id, hj, hm => by
  rw [List.nodup_cons] at hn
  cases j with
  | zero =>
   simp at hj
   subst hj
   cases k with
   | false => rfl
   | true =>
    rw [Qt] at hm
    exact absurd (selB_mem (by simpa using hm)) hn.1
  | succ j =>
   have hj : r[j]? = some id := by simpa using hj
   have hx : id ≠ x := fun e => hn.1 (e ▸ List.mem_of_getElem? hj)
   have hm' : id ∈ Qt false r ks := by
    rw [Qt] at hm
    split at hm
    ·rcases List.mem_cons.1 hm with e | e
     ·exact absurd e hx
     ·exact e
    ·exact hm
   have := sel_drop (by simpa using h) hn.2 j id hj hm'
   simpa using this
end Go.Proofs.YtkcnjajklnoahaaGreatDoor
