/-
  OWN WORK. Contracts: the list of events that integers determine.
-/
import Derived.Test.YtdebhhpklhbihaaGreatDoorC5RwA
namespace Go.Proofs.YtdebhhpklhbihaaGreatDoor
open Go Go.Abs

structure Q5 where
  a : Int
  b : Int
  c : Int
  d : Int
  e : Int
def q5Row (x : Q5) : List AV := [I x.a, I x.b, I x.c, I x.d, I x.e]
def ok64 (n : Int) : Prop := -9223372036854775808 ≤ n ∧ n ≤ 9223372036854775807
def Q5OK (x : Q5) : Prop := ok64 x.a ∧ ok64 x.b ∧ ok64 x.c ∧ ok64 x.d ∧ ok64 x.e

def atN (s : List Evt) : Int := match s.getLast? with
  | none => 0
  | some e => e.st + e.fr
def baseE (s : List Evt) (x : Q5) : Evt := ⟨pickI x.a 4, 10 + pickI x.a 4, atN s + (pickI x.b 9).tdiv 8, pickI x.c 40, pickI x.d 3 * 7, pickI x.e 256, if pickI x.e 3 = 0 then some (20 + pickI x.e 5) else none⟩
def newE (s : List Evt) (x : Q5) : Evt := match s.getLast? with
  | none => baseE s x
  | some p => if pickI x.d 2 = 0 then { baseE s x with id := p.id, it := p.it, i := p.i + p.fr } else baseE s x
def evs : List Q5 → List Evt → List Evt
  | [], s => s
  | x :: r, s => evs r (s ++ [newE s x])
def events (X : List Q5) : List Evt := evs (X.take 20) []

def EOK (s : List Evt) : Prop := ∀ e ∈ s, (0 ≤ e.st ∧ e.st ≤ 40 * s.length) ∧ (0 ≤ e.fr ∧ e.fr ≤ 39) ∧ (0 ≤ e.i ∧ e.i ≤ 40 * s.length)
theorem atN_snoc (s : List Evt) (e : Evt) : atN (s ++ [e]) = e.st + e.fr := by simp [atN]
theorem newE_st (s : List Evt) (x : Q5) : (newE s x).st = atN s + (pickI x.b 9).tdiv 8 := by
  unfold newE; split
  · rfl
  · split <;> rfl
theorem newE_fr (s : List Evt) (x : Q5) : (newE s x).fr = pickI x.c 40 := by
  unfold newE; split
  · rfl
  · split <;> rfl
theorem div8 (b : Int) (h : 0 ≤ b ∧ b < 9) : 0 ≤ b.tdiv 8 ∧ b.tdiv 8 ≤ 1 := by
  rw [Int.tdiv_eq_ediv_of_nonneg h.1]; omega
theorem atN_bd {s : List Evt} (h : EOK s) : 0 ≤ atN s ∧ atN s ≤ 40 * s.length + 39 ∧ (s = [] → atN s = 0) := by
  unfold atN
  cases hl : s.getLast? with
  | none => simp; omega
  | some p =>
    have := h p (List.mem_of_getLast? hl)
    refine ⟨by dsimp only; omega, by dsimp only; omega, ?_⟩
    rintro rfl; simp at hl
def Tail (s : List Evt) : Prop := atN s ≤ 40 * s.length
theorem newE_ok (s : List Evt) (x : Q5) (h : EOK s) (ht : Tail s) : EOK (s ++ [newE s x]) ∧ Tail (s ++ [newE s x]) := by
  have hat := atN_bd h
  have hb := div8 _ (pickI_bd' x.b 9 (by omega))
  have hc := pickI_bd' x.c 40 (by omega)
  have hd := pickI_bd' x.d 3 (by omega)
  unfold Tail at ht ⊢
  refine ⟨?_, ?_⟩
  · intro e he
    simp only [List.length_append, List.length_cons, List.length_nil]
    rcases List.mem_append.1 he with h' | h'
    · have := h e h'; omega
    · simp at h'
      subst h'
      rw [newE_st, newE_fr]
      refine ⟨by omega, by omega, ?_⟩
      unfold newE
      split
      · simp only [baseE]; omega
      · rename_i p hp
        have hpm := h p (List.mem_of_getLast? hp)
        split <;> simp only [baseE] <;> omega
  · rw [atN_snoc, newE_st, newE_fr]
    simp only [List.length_append, List.length_cons, List.length_nil]
    omega

def orcP : Nat → FuncId → List AV → AV := fun _ _ l => match l with
  | [.int _ a, .int _ n] => I (pickI a n)
  | _ => .junk

set_option maxRecDepth 100000 in
set_option maxHeartbeats 4000000 in
theorem events_pure (X : List Q5) (hX : ∀ x ∈ X, Q5OK x) (hl : X.length ≤ 9223372036854775807) : Pure Tryz.prog gl0 17 [.sl .ro (X.map q5Row)] (if X = [] then .sl .nil [] else .sl .ro ((events X).map evtRowF)) := by
  refine pureE code17 orcP (by simp) ?_
  simp [sc17, rs17]
  refine vc_loopE w17_0
    (fun f m => ∃ (i : Nat) (s : List Evt) (rt : Rt) (B : List (List AV)) (L' : List Nat), i ≤ X.length ∧ i ≤ 20 ∧ s.length = i ∧ evs ((X.take 20).drop i) s = events X ∧ EOK s ∧ Tail s ∧ f 5 = I i ∧ f 4 = I (atN s) ∧ f 3 = .sl rt (s.map evtRowF) ∧ m = ⟨B, L', fun _ => .gone, 0⟩ ∧ ((i = 0 ∧ rt = .nil ∧ L' = []) ∨ (0 < i ∧ rt = .own 0 7 ∧ L' = [i])))
    (fun f m => 20 - (numOf (f 5)).toNat) ?_ ?_
  · exact ⟨0, [], .nil, [], [], by omega, by omega, rfl, rfl, fun e he => by simp at he, by simp [Tail, atN], by simp, by simp [atN], by simp, rfl, .inl ⟨rfl, rfl, rfl⟩⟩
  · rintro f m ⟨i, s, rt, B, L', hiX, hi14, hsl, hev, hok, htl, h5, h4, h3, rfl, hrt⟩
    by_cases hend : i = X.length ∨ i = 20
    · have hev' : events X = s := by
        rw [List.drop_eq_nil_of_le (by simp; omega)] at hev
        exact hev.symm
      by_cases h1 : i < X.length
      · have h14 : i = 20 := by omega
        have hne : X ≠ [] := by rintro rfl; simp at h1
        rcases hrt with ⟨h, _⟩ | ⟨_, rfl, rfl⟩
        · omega
        · subst h14
          simp (config := { maxSteps := 1000000 }) [h5, h3, h1, hne, hev', w17_0]
      · rcases hrt with ⟨h, rfl, rfl⟩ | ⟨h, rfl, rfl⟩
        · subst h
          have hne : X = [] := List.length_eq_zero_iff.1 (by omega)
          subst hne
          have : s = [] := List.length_eq_zero_iff.1 hsl
          subst this
          simp (config := { maxSteps := 1000000 }) [h5, h3, w17_0]
        · have hne : X ≠ [] := by rintro rfl; simp at hiX; omega
          simp (config := { maxSteps := 1000000 }) [h5, h3, h1, hne, hev', w17_0]
    · have h1 : i < X.length := by omega
      have h2 : i < 20 := by omega
      obtain ⟨x, hx⟩ : ∃ x, X[i]? = some x := ⟨_, List.getElem?_eq_getElem h1⟩
      have hrow : rowN (X.map q5Row) i = q5Row x := rowN_eq (by simp [hx])
      obtain ⟨⟨o1, o2⟩, ⟨o3, o4⟩, ⟨o5, o6⟩, ⟨o7, o8⟩, ⟨o9, o10⟩⟩ := hX x (List.mem_of_getElem? hx)
      have p1 := pick_pure x.a 4 o1 o2 (by omega)
      have p3 := pick_pure x.b 9 o3 o4 (by omega)
      have p4 := pick_pure x.c 40 o5 o6 (by omega)
      have p5 := pick_pure x.d 3 o7 o8 (by omega)
      have p6 := pick_pure x.e 256 o9 o10 (by omega)
      have p7 := pick_pure x.d 2 o7 o8 (by omega)
      have p8 := pick_pure x.e 3 o9 o10 (by omega)
      have p9 := pick_pure x.e 5 o9 o10 (by omega)
      have b2 := pickI_bd' x.a 4 (by omega)
      have b3 := div8 _ (pickI_bd' x.b 9 (by omega))
      have b4 := pickI_bd' x.c 40 (by omega)
      have b5 := pickI_bd' x.d 3 (by omega)
      have b9 := pickI_bd' x.e 5 (by omega)
      have hat := atN_bd hok
      have w2 : IntKind.i64.wrap (10 + pickI x.a 4) = 10 + pickI x.a 4 := by rw [wrap_in] <;> omega
      have w3 : IntKind.i64.wrap ((pickI x.b 9).tdiv 8) = (pickI x.b 9).tdiv 8 := by rw [wrap_in] <;> omega
      have w3' : IntKind.i64.wrap (atN s + (pickI x.b 9).tdiv 8) = atN s + (pickI x.b 9).tdiv 8 := by rw [wrap_in] <;> omega
      have w4 : IntKind.i64.wrap (pickI x.d 3 * 7) = pickI x.d 3 * 7 := by rw [wrap_in] <;> omega
      have w5 : IntKind.i64.wrap (atN s + (pickI x.b 9).tdiv 8 + pickI x.c 40) = atN s + (pickI x.b 9).tdiv 8 + pickI x.c 40 := by rw [wrap_in] <;> omega
      have w9 : IntKind.i64.wrap (20 + pickI x.e 5) = 20 + pickI x.e 5 := by rw [wrap_in] <;> omega
      have w1 : IntKind.i64.wrap ((i : Int) + 1) = ((i + 1 : Nat) : Int) := by rw [wrap_in] <;> omega
      have hdr : (X.take 20).drop i = x :: (X.take 20).drop (i + 1) := drop_cons (by rw [List.getElem?_take_of_lt h2]; exact hx)
      rw [hdr, evs] at hev
      obtain ⟨hok', htl'⟩ := newE_ok s x hok htl
      have hi14' : (i : Int) < 20 := by omega
      have hr7 : ∀ (row : List AV), row ∈ s.map evtRowF → row.length = 7 := by
        intro row h; simp at h; obtain ⟨a, _, rfl⟩ := h; rfl
      have hatn : atN (s ++ [newE s x]) = atN s + (pickI x.b 9).tdiv 8 + pickI x.c 40 := by rw [atN_snoc, newE_st, newE_fr]
      rcases hrt with ⟨h0, rfl, rfl⟩ | ⟨h0, rfl, rfl⟩
      · subst h0
        have : s = [] := List.length_eq_zero_iff.1 hsl
        subst this
        have hnew : newE [] x = baseE [] x := rfl
        have w11 : IntKind.i64.wrap 1 = 1 := by rw [wrap_in] <;> omega
        by_cases hd : pickI x.e 3 = 0
        · rw [hd] at p8
          simp (config := { maxSteps := 1000000 }) [h5, h4, h3, h1, hrow, q5Row, orcP, w2, w3, w3', w4, w5, w9, w17_0, w11, hd]
          refine ⟨p1, p3, p4, p5, p6, p8, p9, ag ?_, ⟨1, by omega, by omega, [newE [] x], rfl, hev, hok', htl', rfl, by rw [show [newE [] x] = [] ++ [newE [] x] from rfl, hatn], _, ⟨rfl, by simp [hnew, baseE, evtRowF, alF, hd]⟩, _, _, ⟨rfl, rfl⟩, .inr ⟨by omega, rfl, rfl⟩⟩⟩
          repeat (first | exact agree_refl _ _ | refine agree_cons _ rfl ?_)
        · simp (config := { maxSteps := 1000000 }) [h5, h4, h3, h1, hrow, q5Row, orcP, w2, w3, w3', w4, w5, w9, w17_0, w11, hd]
          refine ⟨p1, p3, p4, p5, p6, p8, ag ?_, ⟨1, by omega, by omega, [newE [] x], rfl, hev, hok', htl', rfl, by rw [show [newE [] x] = [] ++ [newE [] x] from rfl, hatn], _, ⟨rfl, by simp [hnew, baseE, evtRowF, alF, hd]⟩, _, _, ⟨rfl, rfl⟩, .inr ⟨by omega, rfl, rfl⟩⟩⟩
          repeat (first | exact agree_refl _ _ | refine agree_cons _ rfl ?_)
      · obtain ⟨k, rfl⟩ : ∃ k, i = k + 1 := ⟨i - 1, by omega⟩
        have hkl : k < s.length := by omega
        obtain ⟨p, hp⟩ : ∃ p, s[k]? = some p := ⟨_, List.getElem?_eq_getElem hkl⟩
        have hlast : s.getLast? = some p := by rw [List.getLast?_eq_getElem?, hsl]; exact hp
        have hrowp : rowN (s.map evtRowF) k = evtRowF p := rowN_eq (by simp [hp])
        have hpb := hok p (List.mem_of_getElem? hp)
        have wk : IntKind.i64.wrap (k : Int) = (k : Int) := by rw [wrap_in] <;> omega
        have wp : IntKind.i64.wrap (p.i + p.fr) = p.i + p.fr := by rw [wrap_in] <;> omega
        have w12 : IntKind.i64.wrap ((k : Int) + 1 + 1) = (k : Int) + 1 + 1 := by rw [wrap_in] <;> omega
        have hk14 : (k : Int) + 1 < 20 := by omega
        have hk1 : (k : Int) + 1 < X.length := by omega
        have hpos : (0 : Int) < (k : Int) + 1 := by omega
        have hk0 : (0 : Int) ≤ (k : Int) + 1 := by omega
        have hkk : (k : Int) < (k : Int) + 1 := by omega
        by_cases hd2 : pickI x.d 2 = 0
        · have hnew : newE s x = { baseE s x with id := p.id, it := p.it, i := p.i + p.fr } := by simp [newE, hlast, hd2]
          rw [hd2] at p7
          by_cases hd : pickI x.e 3 = 0
          · rw [hd] at p8
            simp (config := { maxSteps := 1000000 }) [h5, h4, h3, h1, hrow, q5Row, orcP, w2, w3, w3', w4, w5, w9, w17_0, hk1, h2, hk14, hpos, hk0, hkk, hkl, hsl, hrowp, evtRowF, wk, wp, w12, hd2, hd]
            refine ⟨p1, p3, p4, p5, p6, p7, p8, p9, ⟨by rintro row (⟨a, _, rfl⟩ | rfl) <;> rfl, by omega⟩, ag ?_, ⟨k + 1 + 1, by omega, by omega, s ++ [newE s x], by simp [hsl], hev, hok', htl', by simp, by rw [hatn], _, ⟨rfl, by simp [hnew, baseE, evtRowF, alF, hd]⟩, _, _, ⟨rfl, rfl⟩, .inr ⟨by omega, rfl, rfl⟩⟩, by omega⟩
            repeat (first | exact agree_refl _ _ | refine agree_cons _ rfl ?_)
          · simp (config := { maxSteps := 1000000 }) [h5, h4, h3, h1, hrow, q5Row, orcP, w2, w3, w3', w4, w5, w9, w17_0, hk1, h2, hk14, hpos, hk0, hkk, hkl, hsl, hrowp, evtRowF, wk, wp, w12, hd2, hd]
            refine ⟨p1, p3, p4, p5, p6, p7, p8, ⟨by rintro row (⟨a, _, rfl⟩ | rfl) <;> rfl, by omega⟩, ag ?_, ⟨k + 1 + 1, by omega, by omega, s ++ [newE s x], by simp [hsl], hev, hok', htl', by simp, by rw [hatn], _, ⟨rfl, by simp [hnew, baseE, evtRowF, alF, hd]⟩, _, _, ⟨rfl, rfl⟩, .inr ⟨by omega, rfl, rfl⟩⟩, by omega⟩
            repeat (first | exact agree_refl _ _ | refine agree_cons _ rfl ?_)
        · have hnew : newE s x = baseE s x := by simp [newE, hlast, hd2]
          by_cases hd : pickI x.e 3 = 0
          · rw [hd] at p8
            simp (config := { maxSteps := 1000000 }) [h5, h4, h3, h1, hrow, q5Row, orcP, w2, w3, w3', w4, w5, w9, w17_0, hk1, h2, hk14, hpos, hk0, hkk, hkl, hsl, hrowp, evtRowF, wk, wp, w12, hd2, hd]
            refine ⟨p1, p3, p4, p5, p6, p7, p8, p9, ⟨by rintro row (⟨a, _, rfl⟩ | rfl) <;> rfl, by omega⟩, ag ?_, ⟨k + 1 + 1, by omega, by omega, s ++ [newE s x], by simp [hsl], hev, hok', htl', by simp, by rw [hatn], _, ⟨rfl, by simp [hnew, baseE, evtRowF, alF, hd]⟩, _, _, ⟨rfl, rfl⟩, .inr ⟨by omega, rfl, rfl⟩⟩, by omega⟩
            repeat (first | exact agree_refl _ _ | refine agree_cons _ rfl ?_)
          · simp (config := { maxSteps := 1000000 }) [h5, h4, h3, h1, hrow, q5Row, orcP, w2, w3, w3', w4, w5, w9, w17_0, hk1, h2, hk14, hpos, hk0, hkk, hkl, hsl, hrowp, evtRowF, wk, wp, w12, hd2, hd]
            refine ⟨p1, p3, p4, p5, p6, p7, p8, ⟨by rintro row (⟨a, _, rfl⟩ | rfl) <;> rfl, by omega⟩, ag ?_, ⟨k + 1 + 1, by omega, by omega, s ++ [newE s x], by simp [hsl], hev, hok', htl', by simp, by rw [hatn], _, ⟨rfl, by simp [hnew, baseE, evtRowF, alF, hd]⟩, _, _, ⟨rfl, rfl⟩, .inr ⟨by omega, rfl, rfl⟩⟩, by omega⟩
            repeat (first | exact agree_refl _ _ | refine agree_cons _ rfl ?_)
end Go.Proofs.YtdebhhpklhbihaaGreatDoor
