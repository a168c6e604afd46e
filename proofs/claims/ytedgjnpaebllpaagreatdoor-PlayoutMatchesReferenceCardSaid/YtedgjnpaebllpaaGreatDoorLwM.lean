/-
  OWN WORK. The contract of program; the law PlayoutSmooth on abstract arguments.
-/
import Derived.Test.YtedgjnpaebllpaaGreatDoorLwJ
import Derived.Test.YtedgjnpaebllpaaGreatDoorLwK
import Derived.Test.YtedgjnpaebllpaaGreatDoorLwC
import Derived.Test.YtedgjnpaebllpaaGreatDoorLwG
set_option linter.unusedVariables false
set_option linter.unusedSimpArgs false
namespace Go.Proofs.YtedgjnpaebllpaaGreatDoor
open Go Go.Abs

theorem pure_res {P : Program} {gl : Nat → AV} {f : FuncId} {l : List AV} {r r' : AV} (h : Pure P gl f l r) (hk : Wk r r') : Pure P gl f l r' :=
  ⟨h.1, fun ro w vs hgl hr => Calls.mono (h.2 ro w vs hgl hr) fun _ w' ⟨v, h1, h2, h3⟩ => ⟨v, h1, h2, hk _ _ _ h3⟩⟩

/-- Rows of which less is known. -/
theorem Wk.rows {α : Type} (l : List α) (f g : α → List AV) (hl : ∀ a, (g a).length = (f a).length) (hc : ∀ (a : α) (j : Nat) (c' : AV), (g a)[j]? = some c' → ∃ c, (f a)[j]? = some c ∧ Wk c c') : Wk (.sl .ro (l.map f)) (.sl .ro (l.map g)) := fun w γ v h => by
  have key : ∀ (i j : Nat) (c' : AV), rowCell (l.map g) i j = some c' → ∃ c, rowCell (l.map f) i j = some c ∧ Wk c c' := fun i j c' h => by
    unfold rowCell at h ⊢
    rw [List.getElem?_map] at h ⊢
    cases hi : l[i]? with
    | none => rw [hi] at h; cases h
    | some a =>
      rw [hi] at h
      simpa using hc a j c' (by simpa using h)
  obtain ⟨a, cap, b, off, sz, cv, rfl, s1, _⟩ := h.sl_inv
  have e1 : (l.map f).length = (l.map g).length := by simp
  rw [e1]
  refine SlV.mk' (b := b) (off := off) (sz := sz) (cv := cv) ⟨by rw [← e1]; exact s1.hcap, s1.hnil, fun hn => s1.at_ (by simpa using hn), fun row hr => ?_, fun i j c' h => ?_, fun i j c' h => ?_⟩ trivial
  · simp at hr
    obtain ⟨x, hx, rfl⟩ := hr
    rw [hl x]
    exact s1.hsz _ (by simp; exact ⟨x, hx, rfl⟩)
  · obtain ⟨c, h1, h2⟩ := key i j c' h
    exact s1.cell i j c h1
  · obtain ⟨c, h1, h2⟩ := key i j c' h
    exact h2 _ _ _ (s1.rep i j c h1)
theorem wk_alF (b : Bool) : Wk (alF b) (alA b) := by
  cases b with
  | false => exact Wk.refl _
  | true => exact Wk.sl _ _
theorem Wk.evts (l : List Evt) : Wk (.sl .ro (l.map evtRowF)) (.sl .ro (l.map evtRow)) :=
  Wk.rows l evtRowF evtRow (fun _ => rfl) fun a j c' h => by
    match j, h with
    | 0, h => exact ⟨c', h, Wk.refl _⟩
    | 1, h => exact ⟨c', h, Wk.refl _⟩
    | 2, h => exact ⟨c', h, Wk.refl _⟩
    | 3, h => exact ⟨c', h, Wk.refl _⟩
    | 4, h => exact ⟨c', h, Wk.refl _⟩
    | 5, h => exact ⟨c', h, Wk.refl _⟩
    | 6, h =>
      have : c' = alA a.al := by simpa [evtRow] using h.symm
      subst this
      exact ⟨alF a.al, rfl, wk_alF _⟩
    | j + 7, h => simp [evtRow] at h

theorem events_ro (X : List Q4) (hX : ∀ x ∈ X, Q4OK x) (hl : X.length ≤ 9223372036854775807) : Pure Tryz.prog gl0 16 [.sl .ro (X.map q4Row)] (.sl .ro ((events X).map evtRow)) := by
  have h := events_pure X hX hl
  by_cases hX0 : X = []
  · subst hX0
    simp at h
    exact pure_res h (Wk.sl _ _)
  · rw [if_neg hX0] at h
    exact pure_res h (Wk.evts _)

theorem chain_snoc (e : Evt) (h0 : 0 ≤ e.fr) : ∀ (s : List Evt) (t : Int), Chain t s → e.st = t + atS s → Chain t (s ++ [e])
  | [], t, _, h => ⟨by simp [atS] at h; exact h, h0, trivial⟩
  | a :: r, t, ⟨h1, h2, h3⟩, h => ⟨h1, h2, chain_snoc e h0 r _ h3 (by simp only [atS, List.map_cons, List.sum_cons] at h ⊢; omega)⟩
theorem newE_st (s : List Evt) (x : Q4) : (newE s x).st = atS s := by
  unfold newE; split
  · rfl
  · split <;> rfl
theorem evs_all : ∀ (r : List Q4) (s : List Evt), Chain 0 s → EOK s → Chain 0 (evs r s) ∧ EOK (evs r s) ∧ (evs r s).length = s.length + r.length
  | [], s, h1, h2 => ⟨h1, h2, by simp [evs]⟩
  | x :: r, s, h1, h2 => by
    have hb := pickI_bd' x.b 30 (by omega)
    have h := evs_all r (s ++ [newE s x]) (chain_snoc _ (by rw [newE_fr]; omega) s 0 h1 (by rw [newE_st]; omega)) (newE_ok s x h2)
    refine ⟨h.1, h.2.1, ?_⟩
    have := h.2.2
    simp only [evs, List.length_append, List.length_cons, List.length_nil] at this ⊢
    omega
theorem events_all (X : List Q4) : Chain 0 (events X) ∧ (∀ e ∈ events X, Small e) ∧ (events X).length ≤ 14 := by
  have h := evs_all (X.take 14) [] trivial (fun e he => by simp at he)
  have hl : (events X).length ≤ 14 := by
    have := h.2.2
    simp only [List.length_nil, List.length_take] at this
    unfold events; omega
  refine ⟨h.1, fun e he => ?_, hl⟩
  have := h.2.1 e he
  unfold events at hl
  simp only [Small]
  omega

def cuesAV (c d : Int) : AV := .sl .full [[I 1, I (pickI d 100), I (pickI d 100 + 40), I 0, .str ⟨#[72, 105]⟩], [I 2, I (pickI c 150), I (pickI c 150 + 60), I 1, .str ⟨#[71, 111, 111, 100, 32, 101, 118, 101, 110, 105, 110, 103]⟩]]
def progAV (X : List Q4) (n : Q4) : List AV := [I (pickI n.a 40), I 0, I 0, I 0, .sl .nil [], I 0, I 0, I 0, I 0, .sl .nil [], .sl .nil [], .sl .nil [], .sl .nil [], .sl .ro ((events X).map evtRow), cuesAV n.c n.d, I (pickI n.c 60), .sl .nil [], I (pickI n.b 100)]

def orc14 (X : List Q4) : Nat → FuncId → List AV → AV := fun _ f l => if f = 16 then .sl .ro ((events X).map evtRow) else orcP 0 f l

set_option maxRecDepth 100000 in
set_option maxHeartbeats 1000000 in
theorem program_pure (X : List Q4) (n : Q4) (hX : ∀ x ∈ X, Q4OK x) (hl : X.length ≤ 9223372036854775807) (hn : Q4OK n) : Pure Tryz.prog gl0 5 [.sl .ro (X.map q4Row), .agg (q4Row n)] (.agg (progAV X n)) := by
  have he := events_ro X hX hl
  obtain ⟨⟨o1, o2⟩, ⟨o3, o4⟩, ⟨o5, o6⟩, ⟨o7, o8⟩⟩ := hn
  have p1 := pick_pure n.a 40 o1 o2 (by omega)
  have p2 := pick_pure n.b 100 o3 o4 (by omega)
  have p3 := pick_pure n.c 60 o5 o6 (by omega)
  have p4 := pick_pure n.d 100 o7 o8 (by omega)
  have p5 := pick_pure n.c 150 o5 o6 (by omega)
  have b4 := pickI_bd' n.d 100 (by omega)
  have b5 := pickI_bd' n.c 150 (by omega)
  have w4 : IntKind.i64.wrap (pickI n.d 100 + 40) = pickI n.d 100 + 40 := by rw [wrap_in] <;> omega
  have w5 : IntKind.i64.wrap (pickI n.c 150 + 60) = pickI n.c 150 + 60 := by rw [wrap_in] <;> omega
  refine pureE code5 (orc14 X) (by simp) ?_
  simp [sc5, rs5, q4Row, orc14, orcP, w4, w5, progAV, cuesAV]
  exact ⟨p1, he, p2, p3, p4, p5⟩

theorem libs_pow (xs : List Int) : LibOK (libs xs 3) := by
  refine ⟨libs_ok xs 3 (by omega), fun a ha => ?_⟩
  simp [libs] at ha
  obtain ⟨j, hj, rfl⟩ := ha
  intro p hp
  simp [libA, libPics] at hp
  obtain ⟨i, hi, rfl⟩ := hp
  have hN : nPics (7 + j) ≤ 50 := by unfold nPics; omega
  have hc := libC_bd xs (7 + j) i (by omega) (by omega)
  have := tmod_bd (libC xs (7 + j) i) 90 hc.1 (by omega)
  simp only [picOf]
  omega

end Go.Proofs.YtedgjnpaebllpaaGreatDoor
