/-
  OWN WORK. Contracts: Events, program.
-/
import Derived.Test.YtedgjnpaebllpaaGreatDoorLwI
set_option linter.unusedVariables false
set_option linter.unusedSimpArgs false
namespace Go.Proofs.YtedgjnpaebllpaaGreatDoor
open Go Go.Abs

structure Q4 where
  a : Int
  b : Int
  c : Int
  d : Int
def q4Row (x : Q4) : List AV := [I x.a, I x.b, I x.c, I x.d]
def ok64 (n : Int) : Prop := -9223372036854775808 ≤ n ∧ n ≤ 9223372036854775807
def Q4OK (x : Q4) : Prop := ok64 x.a ∧ ok64 x.b ∧ ok64 x.c ∧ ok64 x.d

def atS (s : List Evt) : Int := (s.map fun e => e.fr).sum
def baseE (s : List Evt) (x : Q4) : Evt := ⟨pickI x.a 5, 7 + pickI x.a 4, atS s, pickI x.b 30, 0, 1 + 2 * pickI x.c 100, pickI x.d 4 == 1⟩
def newE (s : List Evt) (x : Q4) : Evt := match s.getLast? with
  | none => baseE s x
  | some p => if pickI x.d 3 = 0 then { baseE s x with id := p.id, it := p.it, i := p.i + p.fr } else baseE s x
def evs : List Q4 → List Evt → List Evt
  | [], s => s
  | x :: r, s => evs r (s ++ [newE s x])
def events (X : List Q4) : List Evt := evs (X.take 14) []

def EOK (s : List Evt) : Prop := ∀ e ∈ s, (0 ≤ e.st ∧ e.st ≤ 30 * s.length) ∧ (0 ≤ e.fr ∧ e.fr ≤ 29) ∧ (0 ≤ e.i ∧ e.i ≤ 30 * s.length)
theorem atS_bd : ∀ (s : List Evt), (∀ e ∈ s, 0 ≤ e.fr ∧ e.fr ≤ 29) → 0 ≤ atS s ∧ atS s ≤ 29 * s.length
  | [], _ => by simp [atS]
  | e :: r, h => by
    have h1 := atS_bd r (fun x hx => h x (List.mem_cons_of_mem _ hx))
    have h2 := h e (List.mem_cons_self ..)
    simp only [atS, List.map_cons, List.sum_cons, List.length_cons] at h1 ⊢
    omega
theorem pickI_bd' (c n : Int) (hn : 0 < n) : 0 ≤ pickI c n ∧ pickI c n < n := by
  unfold pickI
  have h0 : 0 ≤ (if c < 0 then -(c + 1) else c) := by split <;> omega
  rw [Int.tmod_eq_emod_of_nonneg h0]
  exact ⟨Int.emod_nonneg _ (by omega), Int.emod_lt_of_pos _ hn⟩
theorem newE_ok (s : List Evt) (x : Q4) (h : EOK s) : EOK (s ++ [newE s x]) := by
  have hat := atS_bd s (fun e he => (h e he).2.1)
  have hb := pickI_bd' x.b 30 (by omega)
  intro e he
  simp only [List.length_append, List.length_cons, List.length_nil]
  rcases List.mem_append.1 he with h' | h'
  · have := h e h'; omega
  · simp at h'
    subst h'
    unfold newE
    split
    · simp only [baseE]; omega
    · rename_i p hp
      have hpm := h p (List.mem_of_getLast? hp)
      split <;> simp only [baseE] <;> omega

theorem atS_snoc (s : List Evt) (e : Evt) : atS (s ++ [e]) = atS s + e.fr := by simp [atS]
theorem newE_fr (s : List Evt) (x : Q4) : (newE s x).fr = pickI x.b 30 := by
  unfold newE; split
  · rfl
  · split <;> rfl

def orcP : Nat → FuncId → List AV → AV := fun _ _ l => match l with
  | [.int _ a, .int _ n] => I (pickI a n)
  | _ => .junk

set_option maxRecDepth 100000 in
set_option maxHeartbeats 2000000 in
theorem events_pure (X : List Q4) (hX : ∀ x ∈ X, Q4OK x) (hl : X.length ≤ 9223372036854775807) : Pure Tryz.prog gl0 16 [.sl .ro (X.map q4Row)] (if X = [] then .sl .nil [] else .sl .ro ((events X).map evtRowF)) := by
  refine pureE code16 orcP (by simp) ?_
  simp [sc16, rs16]
  refine vc_loopE [3, 4, 5, 6, 7, 8, 9, 10, 11, 12, 13, 14, 15, 16, 17, 18, 19, 20, 21, 22, 23, 24, 25, 26, 27, 28, 29, 30, 31, 32, 33, 34, 35, 36, 37, 38, 39, 40, 41, 42, 43, 44, 45, 46, 47, 48, 49, 50, 51, 52, 53, 54, 55, 56, 57, 58, 59, 60, 61, 62, 63, 64, 65, 66, 67, 68, 69, 70, 71, 72, 73, 74, 75, 76, 77, 78, 79, 80, 81, 82, 83, 84, 85, 86, 87, 88, 89, 90, 91, 92, 93, 94, 95, 96, 97, 98, 99, 100, 101, 102]
    (fun f m => ∃ (i : Nat) (s : List Evt) (rt : Rt) (B : List (List AV)) (L' : List Nat), i ≤ X.length ∧ i ≤ 14 ∧ s.length = i ∧ evs ((X.take 14).drop i) s = events X ∧ EOK s ∧ f 5 = I i ∧ f 4 = I (atS s) ∧ f 3 = .sl rt (s.map evtRowF) ∧ m = ⟨B, L', fun _ => .gone, 0⟩ ∧ ((i = 0 ∧ rt = .nil ∧ L' = []) ∨ (0 < i ∧ rt = .own 0 7 ∧ L' = [i])))
    (fun f m => 14 - (numOf (f 5)).toNat) ?_ ?_
  · exact ⟨0, [], .nil, [], [], by omega, by omega, rfl, rfl, fun e he => by simp at he, by simp, by simp [atS], by simp, rfl, .inl ⟨rfl, rfl, rfl⟩⟩
  · rintro f m ⟨i, s, rt, B, L', hiX, hi14, hsl, hev, hok, h5, h4, h3, rfl, hrt⟩
    by_cases hend : i = X.length ∨ i = 14
    · have hev' : events X = s := by
        rw [List.drop_eq_nil_of_le (by simp; omega)] at hev
        exact hev.symm
      by_cases h1 : i < X.length
      · have h14 : i = 14 := by omega
        have hne : X ≠ [] := by rintro rfl; simp at h1
        have h1' : (i : Int) < X.length := by omega
        rcases hrt with ⟨h, _⟩ | ⟨_, rfl, rfl⟩
        · omega
        · subst h14
          simp (config := { maxSteps := 1000000 }) [h5, h3, h1, hne, hev']
      · rcases hrt with ⟨h, rfl, rfl⟩ | ⟨h, rfl, rfl⟩
        · subst h
          have hne : X = [] := List.length_eq_zero_iff.1 (by omega)
          subst hne
          have : s = [] := List.length_eq_zero_iff.1 hsl
          subst this
          simp (config := { maxSteps := 1000000 }) [h5, h3]
        · have hne : X ≠ [] := by rintro rfl; simp at hiX; omega
          simp (config := { maxSteps := 1000000 }) [h5, h3, h1, hne, hev']
    · have h1 : i < X.length := by omega
      have h2 : i < 14 := by omega
      obtain ⟨x, hx⟩ : ∃ x, X[i]? = some x := ⟨_, List.getElem?_eq_getElem h1⟩
      have hrow : rowN (X.map q4Row) i = q4Row x := rowN_eq (by simp [hx])
      obtain ⟨⟨o1, o2⟩, ⟨o3, o4⟩, ⟨o5, o6⟩, ⟨o7, o8⟩⟩ := hX x (List.mem_of_getElem? hx)
      have p1 := pick_pure x.a 5 o1 o2 (by omega)
      have p2 := pick_pure x.a 4 o1 o2 (by omega)
      have p3 := pick_pure x.b 30 o3 o4 (by omega)
      have p4 := pick_pure x.c 100 o5 o6 (by omega)
      have p5 := pick_pure x.d 3 o7 o8 (by omega)
      have p6 := pick_pure x.d 4 o7 o8 (by omega)
      have b2 := pickI_bd' x.a 4 (by omega)
      have b3 := pickI_bd' x.b 30 (by omega)
      have b4 := pickI_bd' x.c 100 (by omega)
      have hat := atS_bd s (fun e he => (hok e he).2.1)
      have w2 : IntKind.i64.wrap (7 + pickI x.a 4) = 7 + pickI x.a 4 := by rw [wrap_in] <;> omega
      have w4 : IntKind.i64.wrap (2 * pickI x.c 100) = 2 * pickI x.c 100 := by rw [wrap_in] <;> omega
      have w4' : IntKind.i64.wrap (1 + 2 * pickI x.c 100) = 1 + 2 * pickI x.c 100 := by rw [wrap_in] <;> omega
      have w5 : IntKind.i64.wrap (atS s + pickI x.b 30) = atS s + pickI x.b 30 := by rw [wrap_in] <;> omega
      have w1 : IntKind.i64.wrap ((i : Int) + 1) = ((i + 1 : Nat) : Int) := by rw [wrap_in] <;> omega
      have hdr : (X.take 14).drop i = x :: (X.take 14).drop (i + 1) := drop_cons (by rw [List.getElem?_take_of_lt h2]; exact hx)
      rw [hdr, evs] at hev
      have hok' := newE_ok s x hok
      have hi14' : (i : Int) < 14 := by omega
      have hr7 : ∀ (row : List AV), row ∈ s.map evtRowF → row.length = 7 := by
        intro row h; simp at h; obtain ⟨a, _, rfl⟩ := h; rfl
      rcases hrt with ⟨h0, rfl, rfl⟩ | ⟨h0, rfl, rfl⟩
      · subst h0
        have : s = [] := List.length_eq_zero_iff.1 hsl
        subst this
        have hnew : newE [] x = baseE [] x := rfl
        have w11 : IntKind.i64.wrap 1 = 1 := by rw [wrap_in] <;> omega
        by_cases hd : pickI x.d 4 = 1
        · rw [hd] at p6
          simp (config := { maxSteps := 1000000 }) [h5, h4, h3, h1, hrow, q4Row, orcP, w2, w4, w4', w5, w11, hd]
          refine ⟨p1, p2, p3, p4, p6, ag ?_, ⟨1, by omega, by omega, [newE [] x], rfl, hev, hok', rfl, by rw [← newE_fr [] x]; simp [atS], _, ⟨rfl, by simp [hnew, baseE, evtRowF, alF, hd]⟩, _, _, ⟨rfl, rfl⟩, .inr ⟨by omega, rfl, rfl⟩⟩⟩
          repeat (first | exact agree_refl _ _ | refine agree_cons _ rfl ?_)
        · simp (config := { maxSteps := 1000000 }) [h5, h4, h3, h1, hrow, q4Row, orcP, w2, w4, w4', w5, w11, hd]
          refine ⟨p1, p2, p3, p4, p6, ag ?_, ⟨1, by omega, by omega, [newE [] x], rfl, hev, hok', rfl, by rw [← newE_fr [] x]; simp [atS], _, ⟨rfl, by simp [hnew, baseE, evtRowF, alF, hd]⟩, _, _, ⟨rfl, rfl⟩, .inr ⟨by omega, rfl, rfl⟩⟩⟩
          repeat (first | exact agree_refl _ _ | refine agree_cons _ rfl ?_)
      · obtain ⟨k, rfl⟩ : ∃ k, i = k + 1 := ⟨i - 1, by omega⟩
        have hkl : k < s.length := by omega
        obtain ⟨p, hp⟩ : ∃ p, s[k]? = some p := ⟨_, List.getElem?_eq_getElem hkl⟩
        have hlast : s.getLast? = some p := by rw [List.getLast?_eq_getElem?, hsl]; exact hp
        have hrowp : rowN (s.map evtRowF) k = evtRowF p := rowN_eq (by simp [hp])
        have hpb := hok p (List.mem_of_getElem? hp)
        have wk : IntKind.i64.wrap (k : Int) = (k : Int) := by rw [wrap_in] <;> omega
        have wp : IntKind.i64.wrap (p.i + p.fr) = p.i + p.fr := by rw [wrap_in] <;> omega
        have w12 : IntKind.i64.wrap ((k : Int) + 1 + 1) = (k : Int) + 1 + 1 := by rw [wrap_in] <;> omega
        have hk14 : (k : Int) + 1 < 14 := by omega
        have hk1 : (k : Int) + 1 < X.length := by omega
        have hpos : (0 : Int) < (k : Int) + 1 := by omega
        have hk0 : (0 : Int) ≤ (k : Int) + 1 := by omega
        have hkk : (k : Int) < (k : Int) + 1 := by omega
        by_cases hd99903 : pickI x.d 3 = 0
        · have hnew : newE s x = { baseE s x with id := p.id, it := p.it, i := p.i + p.fr } := by simp [newE, hlast, hd99903]
          rw [hd99903] at p5
          by_cases hd : pickI x.d 4 = 1
          · rw [hd] at p6
            simp (config := { maxSteps := 1000000 }) [h5, h4, h3, h1, hk1, h2, hk14, hpos, hk0, hkk, hrow, hrowp, hkl, hsl, q4Row, evtRowF, orcP, w2, w4, w4', w5, wk, wp, w12, hd, hd99903]
            refine ⟨p1, p2, p3, p4, p5, p6, ⟨by rintro row (⟨a, _, rfl⟩ | rfl) <;> rfl, by omega⟩, ag ?_, ⟨k + 1 + 1, by omega, by omega, s ++ [newE s x], by simp [hsl], hev, hok', by simp, by rw [atS_snoc, newE_fr], _, ⟨rfl, by simp [hnew, baseE, evtRowF, alF, hd]⟩, _, _, ⟨rfl, rfl⟩, .inr ⟨by omega, rfl, rfl⟩⟩, by omega⟩
            repeat (first | exact agree_refl _ _ | refine agree_cons _ rfl ?_)
          · simp (config := { maxSteps := 1000000 }) [h5, h4, h3, h1, hk1, h2, hk14, hpos, hk0, hkk, hrow, hrowp, hkl, hsl, q4Row, evtRowF, orcP, w2, w4, w4', w5, wk, wp, w12, hd, hd99903]
            refine ⟨p1, p2, p3, p4, p5, p6, ⟨by rintro row (⟨a, _, rfl⟩ | rfl) <;> rfl, by omega⟩, ag ?_, ⟨k + 1 + 1, by omega, by omega, s ++ [newE s x], by simp [hsl], hev, hok', by simp, by rw [atS_snoc, newE_fr], _, ⟨rfl, by simp [hnew, baseE, evtRowF, alF, hd]⟩, _, _, ⟨rfl, rfl⟩, .inr ⟨by omega, rfl, rfl⟩⟩, by omega⟩
            repeat (first | exact agree_refl _ _ | refine agree_cons _ rfl ?_)
        · have hnew : newE s x = baseE s x := by simp [newE, hlast, hd99903]
          by_cases hd : pickI x.d 4 = 1
          · rw [hd] at p6
            simp (config := { maxSteps := 1000000 }) [h5, h4, h3, h1, hk1, h2, hk14, hpos, hk0, hkk, hrow, hkl, hsl, q4Row, evtRowF, orcP, w2, w4, w4', w5, w12, hd, hd99903]
            refine ⟨p1, p2, p3, p4, p5, p6, ⟨by rintro row (⟨a, _, rfl⟩ | rfl) <;> rfl, by omega⟩, ag ?_, ⟨k + 1 + 1, by omega, by omega, s ++ [newE s x], by simp [hsl], hev, hok', by simp, by rw [atS_snoc, newE_fr], _, ⟨rfl, by simp [hnew, baseE, evtRowF, alF, hd]⟩, _, _, ⟨rfl, rfl⟩, .inr ⟨by omega, rfl, rfl⟩⟩, by omega⟩
            repeat (first | exact agree_refl _ _ | refine agree_cons _ rfl ?_)
          · simp (config := { maxSteps := 1000000 }) [h5, h4, h3, h1, hk1, h2, hk14, hpos, hk0, hkk, hrow, hkl, hsl, q4Row, evtRowF, orcP, w2, w4, w4', w5, w12, hd, hd99903]
            refine ⟨p1, p2, p3, p4, p5, p6, ⟨by rintro row (⟨a, _, rfl⟩ | rfl) <;> rfl, by omega⟩, ag ?_, ⟨k + 1 + 1, by omega, by omega, s ++ [newE s x], by simp [hsl], hev, hok', by simp, by rw [atS_snoc, newE_fr], _, ⟨rfl, by simp [hnew, baseE, evtRowF, alF, hd]⟩, _, _, ⟨rfl, rfl⟩, .inr ⟨by omega, rfl, rfl⟩⟩, by omega⟩
            repeat (first | exact agree_refl _ _ | refine agree_cons _ rfl ?_)
end Go.Proofs.YtedgjnpaebllpaaGreatDoor
