/-
  OWN WORK. The law PlayoutConsecutive on abstract arguments.
-/
import Derived.Test.YtedgjnpaebllpaaDoorLwT
set_option linter.unusedVariables false
set_option linter.unusedSimpArgs false
namespace Go.Proofs.YtedgjnpaebllpaaDoor
open Go Go.Abs

theorem chain_ge : ∀ (l : List Evt) (t : Int), Chain t l → ∀ e ∈ l, t ≤ e.st
  | [], _, _, _, h => by cases h
  | a :: r, t, ⟨h1, h2, h3⟩, e, h => by
    rcases List.mem_cons.1 h with rfl | h
    · omega
    · have := chain_ge r _ h3 e h; omega
theorem chain_uniq (f : Int) : ∀ (l : List Evt) (t : Int), Chain t l → ∀ e ∈ l, ∀ d ∈ l, onB f e = true → onB f d = true → e = d
  | [], _, _, _, h, _, _, _, _ => by cases h
  | a :: r, t, ⟨h1, h2, h3⟩, e, he, d, hd, o1, o2 => by
    simp only [onB, decide_eq_true_eq] at o1 o2
    rcases List.mem_cons.1 he with rfl | he' <;> rcases List.mem_cons.1 hd with rfl | hd'
    · rfl
    · have := chain_ge r _ h3 d hd'; omega
    · have := chain_ge r _ h3 e he'; omega
    · exact chain_uniq f r _ h3 e he' d hd' (by simpa [onB] using o1) (by simpa [onB] using o2)
theorem chain_st : ∀ (l : List Evt) (t : Int), Chain t l → ∀ e ∈ l, ∀ d ∈ l, 0 < e.fr → 0 < d.fr → e.st = d.st → e = d
  | [], _, _, _, h, _, _, _, _, _ => by cases h
  | a :: r, t, ⟨h1, h2, h3⟩, e, he, d, hd, o1, o2, o3 => by
    rcases List.mem_cons.1 he with rfl | he' <;> rcases List.mem_cons.1 hd with rfl | hd'
    · rfl
    · have := chain_ge r _ h3 d hd'; omega
    · have := chain_ge r _ h3 e he'; omega
    · exact chain_st r _ h3 e he' d hd' o1 o2 o3

/-- An asset begins with a key picture. -/
def KeyOK (L : List Asset) : Prop := ∀ a ∈ L, ∀ p, a.pics[0]? = some p → p.key = true
theorem libs_key (xs : List Int) : KeyOK (libs xs 3) := by
  intro a ha p hp
  simp [libs] at ha
  obtain ⟨j, hj, rfl⟩ := ha
  simp [libA, libPics] at hp
  obtain ⟨k, h2, rfl⟩ := hp
  have hk : k = 0 := by
    obtain ⟨hlt, h⟩ := List.getElem?_eq_some_iff.1 h2
    simpa using h.symm
  subst hk
  simp [picOf]

section
variable {ch ve ed c d : Int} {ev : List Evt} {L : List Asset} {f : Int}

theorem unit_none (h : fndE f ev = none) : unitS ch ve ed c d ev L f = slateU ch ve f := by simp [unitS, h]
/-- What a unit is that is no slate. -/
theorem unit_some (hit : (unitS ch ve ed c d ev L f).it ≠ 0) : ∃ e a p, fndE f ev = some e ∧ fnd e.it L = some a ∧ a.pics[(idxE f e).toNat]? = some p ∧ (unitS ch ve ed c d ev L f).it = e.it ∧ (unitS ch ve ed c d ev L f).ix = idxE f e ∧ (unitS ch ve ed c d ev L f).re = e.re ∧ (unitS ch ve ed c d ev L f).key = p.key := by
  cases hfe : fndE f ev with
  | none => rw [unit_none hfe] at hit; exact absurd rfl hit
  | some e =>
    cases hfn : fnd e.it L with
    | none => simp [unitS, hfe, hfn, slateU] at hit
    | some a =>
      cases hp : a.pics[(idxE f e).toNat]? with
      | none => simp [unitS, hfe, hfn, hp, slateU] at hit
      | some p => exact ⟨e, a, p, rfl, hfn, hp, by simp [unitS, hfe, hfn, hp], by simp [unitS, hfe, hfn, hp], by simp [unitS, hfe, hfn, hp], by simp [unitS, hfe, hfn, hp]⟩
theorem unit_is {e : Evt} {a : Asset} {p : Pic} (h1 : fndE f ev = some e) (h2 : fnd e.it L = some a) (h3 : a.pics[(idxE f e).toNat]? = some p) : (unitS ch ve ed c d ev L f).it = e.it ∧ (unitS ch ve ed c d ev L f).ix = idxE f e := by
  simp [unitS, h1, h2, h3]

theorem idxE_nn (hs : ∀ e ∈ ev, Small e) {e : Evt} (h : fndE f ev = some e) : 0 ≤ idxE f e := by
  obtain ⟨hm, ho⟩ := fndE_on h
  have := hs e hm
  simp only [Small] at this
  simp only [onB, decide_eq_true_eq] at ho
  unfold idxE; omega

theorem consec (hs : ∀ e ∈ ev, Small e) (hch : Chain 0 ev) {e g : Evt} (h1 : fndE f ev = some e) (h2 : fndE (f + 1) ev = some g) (h3 : e.st = g.st ∨ g.id = e.id ∧ g.i = e.i + e.fr ∧ g.it = e.it) (hv : (unitS ch ve ed c d ev L (f + 1)).it ≠ 0) :
    (unitS ch ve ed c d ev L f).it = (unitS ch ve ed c d ev L (f + 1)).it ∧ (unitS ch ve ed c d ev L (f + 1)).ix = (unitS ch ve ed c d ev L f).ix + 1 := by
  obtain ⟨m1, o1⟩ := fndE_on h1
  obtain ⟨m2, o2⟩ := fndE_on h2
  have o1' := o1
  have o2' := o2
  simp only [onB, decide_eq_true_eq] at o1 o2
  have key : g.it = e.it ∧ g.i - g.st = e.i - e.st := by
    rcases h3 with h | ⟨_, h4, h5⟩
    · have := chain_st ev 0 hch e m1 g m2 (by omega) (by omega) h
      subst this; exact ⟨rfl, rfl⟩
    · refine ⟨h5, ?_⟩
      have hne : ¬ onB f g = true := fun h => by
        have := chain_uniq f ev 0 hch e m1 g m2 o1' h
        subst this
        omega
      have hne2 : ¬ onB (f + 1) e = true := fun h => by
        have := chain_uniq (f + 1) ev 0 hch e m1 g m2 h o2'
        subst this
        omega
      simp only [onB, decide_eq_true_eq] at hne hne2
      omega
  obtain ⟨e', a, p, q1, q2, q3, q4, q5, _⟩ := unit_some hv
  rw [h2] at q1
  cases q1
  have hi1 := idxE_nn hs h1
  have hi2 := idxE_nn hs h2
  have hix : idxE (f + 1) g = idxE f e + 1 := by unfold idxE; omega
  rw [key.1] at q2
  have hlt : (idxE f e).toNat < a.pics.length := by
    have := (List.getElem?_eq_some_iff.1 q3).1
    omega
  obtain ⟨r1, r2⟩ := unit_is (ch := ch) (ve := ve) (ed := ed) (c := c) (d := d) h1 q2 (List.getElem?_eq_getElem hlt)
  exact ⟨by rw [r1, q4, key.1], by rw [r2, q5, hix]⟩
end

def orc5 (X : List Q4) (n : Q4) (L : List Asset) (f : Int) (u v : Unit) (a b : AV) : Nat → FuncId → List AV → AV := fun d g _ =>
  if g = 8 then .bool true else if g = 14 then .agg (progAV X n) else if g = 9 then .sl .ro (L.map assetRow) else if g = 10 then I f else
  if g = 15 then (if d = 32 then .agg (unitRow u) else .agg (unitRow v)) else if d = 42 then a else b

theorem ok_alC (b : Bool) : ok1 (alC b) = true := by cases b <;> rfl

section
set_option linter.unusedSectionVars false
variable (X : List Q4) (n : Q4) (xs : List Int) (frame : Int) (L : List Asset) (f : Int) (u v : Unit) (hu : ok1 u.al = true) (hv : ok1 v.al = true)
    (hsane : Pure Tryd.prog gl0 8 [] (.bool true)) (hprog : Pure Tryd.prog gl0 14 [.sl .ro (X.map q4Row), .agg (q4Row n)] (.agg (progAV X n)))
    (hlib : Pure Tryd.prog gl0 9 [ints xs] (.sl .ro (L.map assetRow))) (hpk : Pure Tryd.prog gl0 10 [I frame, I 300] (I f))
    (wf : IntKind.i64.wrap (f + 1) = f + 1) (wu : IntKind.i64.wrap (u.ix + 1) = u.ix + 1)
    (hu1 : Pure Tryd.prog gl0 15 [.agg (progAV X n), .sl .ro (L.map assetRow), I f] (.agg (unitRow u)))
    (hv1 : Pure Tryd.prog gl0 15 [.agg (progAV X n), .sl .ro (L.map assetRow), I (f + 1)] (.agg (unitRow v)))
include hu hv hsane hprog hlib hpk wf wu hu1 hv1

set_option maxRecDepth 100000 in
set_option maxHeartbeats 2000000 in
theorem core5nn (u0 : u.it = 0) (v0 : v.it = 0)
    (ha : Pure Tryd.prog gl0 16 [.sl .ro ((events X).map evtRow), I f] (foundE f none)) (hb : Pure Tryd.prog gl0 16 [.sl .ro ((events X).map evtRow), I (f + 1)] (foundE (f + 1) none)) :
    Pure Tryd.prog gl0 5 [.sl .ro (X.map q4Row), .agg (q4Row n), ints xs, I frame] (.bool true) := by
  refine pureE code5 (orc5 X n L f u v (foundE f none) (foundE (f + 1) none)) (by simp) ?_
  simp [sc5, rs5, orc5, q4Row, progAV, cuesAV, foundE, zeroE, unitRow, isCell_ok1 hu, isCell_ok1 hv, wf, u0, v0]
  rw [unitRow, u0] at hu1
  rw [unitRow, v0] at hv1
  exact ⟨hsane, hprog, hlib, hpk, hu1, hv1, ha, hb⟩

set_option maxRecDepth 100000 in
set_option maxHeartbeats 2000000 in
theorem core5ns (u0 : u.it = 0) (g : Evt) (c3 : g.i + (f + 1) - g.st = 0 → v.it ≠ 0 → v.key = true)
    (ha : Pure Tryd.prog gl0 16 [.sl .ro ((events X).map evtRow), I f] (foundE f none)) (hb : Pure Tryd.prog gl0 16 [.sl .ro ((events X).map evtRow), I (f + 1)] (foundE (f + 1) (some g))) :
    Pure Tryd.prog gl0 5 [.sl .ro (X.map q4Row), .agg (q4Row n), ints xs, I frame] (.bool true) := by
  refine pureE code5 (orc5 X n L f u v (foundE f none) (foundE (f + 1) (some g))) (by simp) ?_
  simp only [foundE] at hb
  generalize hcb : alC g.al = cb at hb
  have ob := ok_alC g.al
  rw [hcb] at ob
  simp [sc5, rs5, orc5, q4Row, progAV, cuesAV, foundE, zeroE, hcb, unitRow, isCell_ok1 hu, isCell_ok1 hv, isCell_ok1 ob, wf, u0]
  rw [unitRow, u0] at hu1
  refine ⟨hsane, hprog, hlib, hpk, hu1, hv1, ha, hb, ?_⟩
  clear hsane hprog hlib hpk hu1 hv1 ha hb
  grind

set_option maxRecDepth 100000 in
set_option maxHeartbeats 2000000 in
theorem core5sn (v0 : v.it = 0) (e : Evt) (we : IntKind.i64.wrap (e.i + e.fr) = e.i + e.fr) (c1 : u.it ≠ 0 → u.it = e.it ∧ u.ix = e.i + f - e.st ∧ u.re = e.re)
    (ha : Pure Tryd.prog gl0 16 [.sl .ro ((events X).map evtRow), I f] (foundE f (some e))) (hb : Pure Tryd.prog gl0 16 [.sl .ro ((events X).map evtRow), I (f + 1)] (foundE (f + 1) none)) :
    Pure Tryd.prog gl0 5 [.sl .ro (X.map q4Row), .agg (q4Row n), ints xs, I frame] (.bool true) := by
  refine pureE code5 (orc5 X n L f u v (foundE f (some e)) (foundE (f + 1) none)) (by simp) ?_
  simp only [foundE] at ha
  generalize hca : alC e.al = ca at ha
  have oa := ok_alC e.al
  rw [hca] at oa
  simp [sc5, rs5, orc5, q4Row, progAV, cuesAV, foundE, zeroE, hca, unitRow, isCell_ok1 hu, isCell_ok1 hv, isCell_ok1 oa, wf, v0, we]
  rw [unitRow, v0] at hv1
  refine ⟨hsane, hprog, hlib, hpk, hu1, hv1, ha, hb, ?_⟩
  clear hsane hprog hlib hpk hu1 hv1 ha hb
  grind

set_option maxRecDepth 100000 in
set_option maxHeartbeats 2000000 in
theorem core5ss (e g : Evt) (we : IntKind.i64.wrap (e.i + e.fr) = e.i + e.fr) (c1 : u.it ≠ 0 → u.it = e.it ∧ u.ix = e.i + f - e.st ∧ u.re = e.re)
    (c2 : (e.st = g.st ∨ g.id = e.id ∧ g.i = e.i + e.fr ∧ g.it = e.it) → v.it ≠ 0 → u.it = v.it ∧ v.ix = u.ix + 1) (c3 : g.i + (f + 1) - g.st = 0 → v.it ≠ 0 → v.key = true)
    (ha : Pure Tryd.prog gl0 16 [.sl .ro ((events X).map evtRow), I f] (foundE f (some e))) (hb : Pure Tryd.prog gl0 16 [.sl .ro ((events X).map evtRow), I (f + 1)] (foundE (f + 1) (some g))) :
    Pure Tryd.prog gl0 5 [.sl .ro (X.map q4Row), .agg (q4Row n), ints xs, I frame] (.bool true) := by
  refine pureE code5 (orc5 X n L f u v (foundE f (some e)) (foundE (f + 1) (some g))) (by simp) ?_
  simp only [foundE] at ha hb
  generalize hca : alC e.al = ca at ha
  have oa := ok_alC e.al
  rw [hca] at oa
  generalize hcb : alC g.al = cb at hb
  have ob := ok_alC g.al
  rw [hcb] at ob
  simp [sc5, rs5, orc5, q4Row, progAV, cuesAV, foundE, hca, hcb, unitRow, isCell_ok1 hu, isCell_ok1 hv, isCell_ok1 oa, isCell_ok1 ob, wf, we, wu]
  refine ⟨hsane, hprog, hlib, hpk, hu1, hv1, ha, hb, ?_⟩
  clear hsane hprog hlib hpk hu1 hv1 ha hb
  grind
end

theorem unit_al (ch ve ed c d : Int) (ev : List Evt) (L : List Asset) (f : Int) : ok1 (unitS ch ve ed c d ev L f).al = true := by
  unfold unitS
  repeat' split
  all_goals first | rfl | (cases (nextS f ev).al <;> rfl)
theorem unit_ix (ch ve ed c d : Int) (ev : List Evt) (hs : ∀ e ∈ ev, Small e) (L : List Asset) (f : Int) (hf : -1000000 ≤ f ∧ f ≤ 900000) : -10000000 ≤ (unitS ch ve ed c d ev L f).ix ∧ (unitS ch ve ed c d ev L f).ix ≤ 10000000 := by
  by_cases h : (unitS ch ve ed c d ev L f).it = 0
  · have : (unitS ch ve ed c d ev L f).ix = 0 ∨ ∃ e, fndE f ev = some e ∧ (unitS ch ve ed c d ev L f).ix = idxE f e := by
      unfold unitS
      split
      · exact .inl rfl
      · rename_i e he
        split
        · exact .inl rfl
        · split
          · exact .inl rfl
          · exact .inr ⟨e, he, rfl⟩
    rcases this with h | ⟨e, h1, h2⟩
    · omega
    · have := hs e (fndE_on h1).1
      obtain ⟨⟨a1, a2⟩, ⟨a3, a4⟩, a5, a6⟩ := this
      unfold idxE at h2
      omega
  · obtain ⟨e, a, p, h1, _, _, _, h2, _⟩ := unit_some h
    have := hs e (fndE_on h1).1
    obtain ⟨⟨a1, a2⟩, ⟨a3, a4⟩, a5, a6⟩ := this
    unfold idxE at h2
    omega

set_option maxRecDepth 100000 in
theorem law5 (X : List Q4) (n : Q4) (xs : List Int) (frame : Int) (hX : ∀ x ∈ X, Q4OK x) (hl : X.length ≤ 9223372036854775807) (hn : Q4OK n) (hx : ∀ x ∈ xs, i64 x) (hxl : xs.length ≤ 9223372036854775807) (hf : i64 frame) :
    Pure Tryd.prog gl0 5 [.sl .ro (X.map q4Row), .agg (q4Row n), ints xs, I frame] (.bool true) := by
  have hsane := sane_pure
  have hprog := program_pure X n hX hl hn
  have hlib : Pure Tryd.prog gl0 9 [ints xs] (.sl .ro ((libs xs 3).map assetRow)) := library_pure xs hx hxl
  have hL := libs_pow xs
  have hK := libs_key xs
  generalize libs xs 3 = L at hlib hL hK
  have hpk := pick_pure frame 300 hf.1 hf.2 (by omega)
  have hfb := pickI_bd' frame 300 (by omega)
  generalize pickI frame 300 = f at hpk hfb
  obtain ⟨hch, hsm, h14⟩ := events_all X
  have hed := pickI_bd' n.c 60 (by omega)
  have hu1 := unit_pure (pickI n.a 40) (pickI n.b 100) (pickI n.c 60) n.c n.d ⟨by omega, by omega⟩ (events X) (by omega) hsm L hL f ⟨by omega, by omega⟩
  have hv1 := unit_pure (pickI n.a 40) (pickI n.b 100) (pickI n.c 60) n.c n.d ⟨by omega, by omega⟩ (events X) (by omega) hsm L hL (f + 1) ⟨by omega, by omega⟩
  have hat := at_pure (events X) f (by omega) hsm ⟨by omega, by omega⟩
  have hbt := at_pure (events X) (f + 1) (by omega) hsm ⟨by omega, by omega⟩
  have oku := unit_al (pickI n.a 40) (pickI n.b 100) (pickI n.c 60) n.c n.d (events X) L f
  have okv := unit_al (pickI n.a 40) (pickI n.b 100) (pickI n.c 60) n.c n.d (events X) L (f + 1)
  have hix := unit_ix (pickI n.a 40) (pickI n.b 100) (pickI n.c 60) n.c n.d (events X) hsm L f ⟨by omega, by omega⟩
  have wf : IntKind.i64.wrap (f + 1) = f + 1 := by rw [wrap_in] <;> omega
  have wu : IntKind.i64.wrap ((unitS (pickI n.a 40) (pickI n.b 100) (pickI n.c 60) n.c n.d (events X) L f).ix + 1) = (unitS (pickI n.a 40) (pickI n.b 100) (pickI n.c 60) n.c n.d (events X) L f).ix + 1 := by rw [wrap_in] <;> omega
  have we : ∀ e ∈ events X, IntKind.i64.wrap (e.i + e.fr) = e.i + e.fr := fun e he => by
    obtain ⟨⟨a1, a2⟩, ⟨a3, a4⟩, a5, a6⟩ := hsm e he
    rw [wrap_in] <;> omega
  have c1 : ∀ e, fndE f (events X) = some e → (unitS (pickI n.a 40) (pickI n.b 100) (pickI n.c 60) n.c n.d (events X) L f).it ≠ 0 → (unitS (pickI n.a 40) (pickI n.b 100) (pickI n.c 60) n.c n.d (events X) L f).it = e.it ∧ (unitS (pickI n.a 40) (pickI n.b 100) (pickI n.c 60) n.c n.d (events X) L f).ix = e.i + f - e.st ∧ (unitS (pickI n.a 40) (pickI n.b 100) (pickI n.c 60) n.c n.d (events X) L f).re = e.re := fun e he h => by
    obtain ⟨e', a, p, h1, _, _, h2, h3, h4, _⟩ := unit_some h
    rw [he] at h1
    cases h1
    exact ⟨h2, h3, h4⟩
  have c3 : ∀ g, fndE (f + 1) (events X) = some g → g.i + (f + 1) - g.st = 0 → (unitS (pickI n.a 40) (pickI n.b 100) (pickI n.c 60) n.c n.d (events X) L (f + 1)).it ≠ 0 → (unitS (pickI n.a 40) (pickI n.b 100) (pickI n.c 60) n.c n.d (events X) L (f + 1)).key = true := fun g hg h0 h => by
    obtain ⟨e', a, p, h1, h2, h3, _, _, _, h4⟩ := unit_some h
    rw [hg] at h1
    cases h1
    rw [h4]
    refine hK a (fnd_mem h2) p ?_
    have : idxE (f + 1) g = 0 := h0
    rw [this] at h3
    exact h3
  cases hea : fndE f (events X) with
  | none =>
    rw [hea] at hat
    have u0 : (unitS (pickI n.a 40) (pickI n.b 100) (pickI n.c 60) n.c n.d (events X) L f).it = 0 := by rw [unit_none hea]; rfl
    cases heb : fndE (f + 1) (events X) with
    | none =>
      rw [heb] at hbt
      exact core5nn X n xs frame L f _ _ oku okv hsane hprog hlib hpk wf wu hu1 hv1 u0 (by rw [unit_none heb]; rfl) hat hbt
    | some g =>
      rw [heb] at hbt
      exact core5ns X n xs frame L f _ _ oku okv hsane hprog hlib hpk wf wu hu1 hv1 u0 g (c3 g heb) hat hbt
  | some e =>
    rw [hea] at hat
    cases heb : fndE (f + 1) (events X) with
    | none =>
      rw [heb] at hbt
      exact core5sn X n xs frame L f _ _ oku okv hsane hprog hlib hpk wf wu hu1 hv1 (by rw [unit_none heb]; rfl) e (we e (fndE_on hea).1) (c1 e hea) hat hbt
    | some g =>
      rw [heb] at hbt
      exact core5ss X n xs frame L f _ _ oku okv hsane hprog hlib hpk wf wu hu1 hv1 e g (we e (fndE_on hea).1) (c1 e hea) (consec hsm hch hea heb) (c3 g heb) hat hbt
end Go.Proofs.YtedgjnpaebllpaaDoor
