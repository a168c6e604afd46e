/-
  OWN WORK. The contract of rundown.Before, in the caller's memory.
-/
import Derived.Test.YtdebhhpklhbihaaGreatDoorC5RwA
namespace Go.Proofs.YtdebhhpklhbihaaGreatDoor
open Go Go.Abs

def cutE (f : Int) (e : Evt) : Evt := { e with fr := if f - e.st < e.fr then f - e.st else e.fr }
def bef (f : Int) : List Evt → List Evt
  | [] => []
  | e :: r => if f ≤ e.st then bef f r else cutE f e :: bef f r
theorem bef_app (f : Int) : ∀ (l r : List Evt), bef f (l ++ r) = bef f l ++ bef f r
  | [], _ => rfl
  | e :: l, r => by
    simp only [List.cons_append, bef, bef_app f l r]
    split <;> rfl
theorem bef_len (f : Int) : ∀ (l : List Evt), (bef f l).length ≤ l.length
  | [] => Nat.le_refl _
  | e :: l => by
    have := bef_len f l
    simp only [bef]
    split <;> simp <;> omega

def orc21 : Nat → FuncId → List AV → AV := fun _ g l => if g = 39 then l.headD .junk else .junk

set_option maxRecDepth 100000 in
set_option maxHeartbeats 4000000 in
theorem before_eff (Y : YT) (l : List Evt) (f : Int) (hl : l.length ≤ 1000000) (hs : ∀ e ∈ l, Small e) (hf : 0 ≤ f ∧ f ≤ 1000000) (B0 : List (List AV)) (L0 : List Nat) (s0 : Nat → LS) (n0 : Nat) (K : AV → AM → Prop)
    (hK : ∀ bx rt L', (bef f l = [] ∧ rt = .nil ∧ L' = L0) ∨ (bef f l ≠ [] ∧ rt = .own L0.length 7 ∧ L' = L0 ++ [(bef f l).length]) → K (.sl rt ((bef f l).map evtRow)) ⟨B0 ++ bx, L', s0, n0⟩) :
    EffY Tryz.prog gl0 Y 18 [.sl .ro (l.map evtRow), I f] ⟨B0, L0, s0, n0⟩ K := by
  refine effE code18 orc21 (by simp) ?_
  simp [sc18, rs18]
  refine vc_loopE [5, 7, 8, 11, 12, 13, 14, 15, 16, 17, 18, 19, 20, 21, 22, 23, 24, 25, 26, 27, 28, 29, 30, 31, 32, 33, 34, 35, 36, 37, 38, 39, 40, 41, 42, 43, 44, 45, 46]
    (fun g m => ∃ (i : Nat) (bx : List (List AV)) (rt : Rt) (L' : List Nat), i ≤ l.length ∧ g 11 = I i ∧ m = ⟨B0 ++ bx, L', s0, n0⟩ ∧ g 5 = .sl rt ((bef f (l.take i)).map evtRow) ∧
      ((bef f (l.take i) = [] ∧ rt = .nil ∧ L' = L0) ∨ (bef f (l.take i) ≠ [] ∧ rt = .own L0.length 7 ∧ L' = L0 ++ [(bef f (l.take i)).length]))) (fun g _ => l.length - (numOf (g 11)).toNat) ?_ ?_
  · exact ⟨0, [], .nil, L0, by omega, by simp, by simp, by simp [bef], .inl ⟨by simp [bef], rfl, rfl⟩⟩
  · rintro g m ⟨i, bx, rt, L', hi, h11, rfl, h5, hrt⟩
    rcases Nat.lt_or_ge i l.length with hlt | hge
    · obtain ⟨a, ha⟩ : ∃ a, l[i]? = some a := ⟨_, List.getElem?_eq_getElem hlt⟩
      have hrow : rowN (l.map evtRow) i = evtRow a := rowN_eq (by simp [ha])
      have hw : IntKind.i64.wrap ((i : Int) + 1) = ((i + 1 : Nat) : Int) := by rw [wrap_in] <;> omega
      have htk : l.take (i + 1) = l.take i ++ [a] := by rw [List.take_add_one, ha]; rfl
      have hilt : (i : Int) < (l.length : Int) := by omega
      obtain ⟨⟨a1, a2⟩, ⟨a3, a4⟩, a5, a6⟩ := hs a (List.mem_of_getElem? ha)
      have hbl := bef_len f (l.take i)
      have hbl' : (bef f (l.take i)).length ≤ 1000000 := by simp at hbl; omega
      have hr7 : ∀ row ∈ (bef f (l.take i)).map evtRow, row.length = 7 := by
        intro row h; simp at h; obtain ⟨x, _, rfl⟩ := h; rfl
      by_cases h1 : f ≤ a.st
      · have hb : bef f (l.take (i + 1)) = bef f (l.take i) := by rw [htk, bef_app]; simp [bef, h1]
        simp [h11, hrow, hlt, evtRow, isCell_ok1 (ok1_alA _), h1, hw]
        refine ⟨ag ?_, ⟨i + 1, by omega, by simp, bx ++ [[I a.id, I a.it, I a.st, I a.fr, I a.i, I a.re, alA a.al]], rt, L', by simp, ?_, ?_⟩, by omega⟩
        · repeat (first | exact agree_refl _ _ | refine agree_cons _ rfl ?_)
        · rw [hb]; exact h5
        · rw [hb]; exact hrt
      · have hb : bef f (l.take (i + 1)) = bef f (l.take i) ++ [cutE f a] := by rw [htk, bef_app]; simp [bef, h1]
        have wf1 := wu f (by omega) (by omega)
        have wf2 := wu a.st (by omega) (by omega)
        have wf3 := wu a.fr (by omega) (by omega)
        have wf4 := wu (f - a.st) (by omega) (by omega)
        have wf5 : IntKind.i64.wrap (f - a.st) = f - a.st := by rw [wrap_in] <;> omega
        have hcl : Pure Tryz.prog gl0 39 [alA a.al] (alA a.al) := by
          cases a.al with
          | none => exact cloneN_pure
          | some k => exact cloneA_pure k
        obtain ⟨fr', hfr'⟩ : ∃ fr', fr' = if f - a.st < a.fr then f - a.st else a.fr := ⟨_, rfl⟩
        have hrw : ∀ al, alA a.al = al → evtRow (cutE f a) = [I a.id, I a.it, I a.st, I fr', I a.i, I a.re, al] := fun al h => by rw [← h, hfr']; rfl
        have hcu : (0 < a.fr ∧ f - a.st < a.fr ∧ fr' = f - a.st) ∨ (0 < a.fr ∧ ¬ f - a.st < a.fr ∧ fr' = a.fr) ∨ (¬ 0 < a.fr ∧ fr' = a.fr) := by
          rw [hfr']
          by_cases h0 : 0 < a.fr
          · by_cases hc : f - a.st < a.fr
            · exact .inl ⟨h0, hc, by simp [hc]⟩
            · exact .inr (.inl ⟨h0, hc, by simp [hc]⟩)
          · exact .inr (.inr ⟨h0, by rw [if_neg (by omega)]⟩)
        have hlen1 : (bef f (l.take (i + 1))).length = (bef f (l.take i)).length + 1 := by rw [hb]; simp
        have hne1 : bef f (l.take (i + 1)) ≠ [] := by rw [hb]; simp
        have fin : ∀ al, alA a.al = al → (bef f (l.take (i + 1))).map evtRow = (bef f (l.take i)).map evtRow ++ [[I a.id, I a.it, I a.st, I fr', I a.i, I a.re, al]] := fun al h => by rw [hb, List.map_append, ← hrw al h]; rfl
        clear hfr' hrw
        rcases hrt with ⟨e0, rfl, rfl⟩ | ⟨e0, rfl, rfl⟩
        · rw [e0] at h5 fin hlen1
          cases hal : a.al with
          | none =>
            simp only [alA, hal] at hcl fin
            rcases hcu with ⟨h0, hc, rfl⟩ | ⟨h0, hc, rfl⟩ | ⟨h0, rfl⟩
            · simp [h11, hrow, hlt, evtRow, alA, hal, h1, hw, wf1, wf2, wf3, wf4, wf5, h0, hc, orc21, h5]
              refine ⟨hcl, ag ?_, ⟨i + 1, by omega, by simp, _, _, _, ⟨rfl, rfl⟩, ⟨rfl, (fin _ rfl).symm⟩, .inr ⟨hne1, rfl, by rw [hlen1]; rfl⟩⟩, by omega⟩
              repeat (first | exact agree_refl _ _ | refine agree_cons _ rfl ?_)
            · simp [h11, hrow, hlt, evtRow, alA, hal, h1, hw, wf1, wf2, wf3, wf4, wf5, h0, hc, orc21, h5]
              refine ⟨hcl, ag ?_, ⟨i + 1, by omega, by simp, _, _, _, ⟨rfl, rfl⟩, ⟨rfl, (fin _ rfl).symm⟩, .inr ⟨hne1, rfl, by rw [hlen1]; rfl⟩⟩, by omega⟩
              repeat (first | exact agree_refl _ _ | refine agree_cons _ rfl ?_)
            · simp [h11, hrow, hlt, evtRow, alA, hal, h1, hw, wf1, wf2, wf3, wf4, wf5, h0, orc21, h5]
              refine ⟨hcl, ag ?_, ⟨i + 1, by omega, by simp, _, _, _, ⟨rfl, rfl⟩, ⟨rfl, (fin _ rfl).symm⟩, .inr ⟨hne1, rfl, by rw [hlen1]; rfl⟩⟩, by omega⟩
              repeat (first | exact agree_refl _ _ | refine agree_cons _ rfl ?_)
          | some kk =>
            simp only [alA, hal] at hcl fin
            rcases hcu with ⟨h0, hc, rfl⟩ | ⟨h0, hc, rfl⟩ | ⟨h0, rfl⟩
            · simp [h11, hrow, hlt, evtRow, alA, hal, h1, hw, wf1, wf2, wf3, wf4, wf5, h0, hc, orc21, h5]
              refine ⟨hcl, ag ?_, ⟨i + 1, by omega, by simp, _, _, _, ⟨rfl, rfl⟩, ⟨rfl, (fin _ rfl).symm⟩, .inr ⟨hne1, rfl, by rw [hlen1]; rfl⟩⟩, by omega⟩
              repeat (first | exact agree_refl _ _ | refine agree_cons _ rfl ?_)
            · simp [h11, hrow, hlt, evtRow, alA, hal, h1, hw, wf1, wf2, wf3, wf4, wf5, h0, hc, orc21, h5]
              refine ⟨hcl, ag ?_, ⟨i + 1, by omega, by simp, _, _, _, ⟨rfl, rfl⟩, ⟨rfl, (fin _ rfl).symm⟩, .inr ⟨hne1, rfl, by rw [hlen1]; rfl⟩⟩, by omega⟩
              repeat (first | exact agree_refl _ _ | refine agree_cons _ rfl ?_)
            · simp [h11, hrow, hlt, evtRow, alA, hal, h1, hw, wf1, wf2, wf3, wf4, wf5, h0, orc21, h5]
              refine ⟨hcl, ag ?_, ⟨i + 1, by omega, by simp, _, _, _, ⟨rfl, rfl⟩, ⟨rfl, (fin _ rfl).symm⟩, .inr ⟨hne1, rfl, by rw [hlen1]; rfl⟩⟩, by omega⟩
              repeat (first | exact agree_refl _ _ | refine agree_cons _ rfl ?_)
        · cases hal : a.al with
          | none =>
            simp only [alA, hal] at hcl fin
            rcases hcu with ⟨h0, hc, rfl⟩ | ⟨h0, hc, rfl⟩ | ⟨h0, rfl⟩
            · simp [h11, hrow, hlt, evtRow, alA, hal, h1, hw, wf1, wf2, wf3, wf4, wf5, h0, hc, orc21, h5]
              refine ⟨hcl, ⟨by rintro row (⟨x, _, rfl⟩ | rfl) <;> rfl, by omega⟩, ag ?_, ⟨i + 1, by omega, by simp, _, _, _, ⟨rfl, rfl⟩, ⟨rfl, (fin _ rfl).symm⟩, .inr ⟨hne1, rfl, by rw [hlen1]⟩⟩, by omega⟩
              repeat (first | exact agree_refl _ _ | refine agree_cons _ rfl ?_)
            · simp [h11, hrow, hlt, evtRow, alA, hal, h1, hw, wf1, wf2, wf3, wf4, wf5, h0, hc, orc21, h5]
              refine ⟨hcl, ⟨by rintro row (⟨x, _, rfl⟩ | rfl) <;> rfl, by omega⟩, ag ?_, ⟨i + 1, by omega, by simp, _, _, _, ⟨rfl, rfl⟩, ⟨rfl, (fin _ rfl).symm⟩, .inr ⟨hne1, rfl, by rw [hlen1]⟩⟩, by omega⟩
              repeat (first | exact agree_refl _ _ | refine agree_cons _ rfl ?_)
            · simp [h11, hrow, hlt, evtRow, alA, hal, h1, hw, wf1, wf2, wf3, wf4, wf5, h0, orc21, h5]
              refine ⟨hcl, ⟨by rintro row (⟨x, _, rfl⟩ | rfl) <;> rfl, by omega⟩, ag ?_, ⟨i + 1, by omega, by simp, _, _, _, ⟨rfl, rfl⟩, ⟨rfl, (fin _ rfl).symm⟩, .inr ⟨hne1, rfl, by rw [hlen1]⟩⟩, by omega⟩
              repeat (first | exact agree_refl _ _ | refine agree_cons _ rfl ?_)
          | some kk =>
            simp only [alA, hal] at hcl fin
            rcases hcu with ⟨h0, hc, rfl⟩ | ⟨h0, hc, rfl⟩ | ⟨h0, rfl⟩
            · simp [h11, hrow, hlt, evtRow, alA, hal, h1, hw, wf1, wf2, wf3, wf4, wf5, h0, hc, orc21, h5]
              refine ⟨hcl, ⟨by rintro row (⟨x, _, rfl⟩ | rfl) <;> rfl, by omega⟩, ag ?_, ⟨i + 1, by omega, by simp, _, _, _, ⟨rfl, rfl⟩, ⟨rfl, (fin _ rfl).symm⟩, .inr ⟨hne1, rfl, by rw [hlen1]⟩⟩, by omega⟩
              repeat (first | exact agree_refl _ _ | refine agree_cons _ rfl ?_)
            · simp [h11, hrow, hlt, evtRow, alA, hal, h1, hw, wf1, wf2, wf3, wf4, wf5, h0, hc, orc21, h5]
              refine ⟨hcl, ⟨by rintro row (⟨x, _, rfl⟩ | rfl) <;> rfl, by omega⟩, ag ?_, ⟨i + 1, by omega, by simp, _, _, _, ⟨rfl, rfl⟩, ⟨rfl, (fin _ rfl).symm⟩, .inr ⟨hne1, rfl, by rw [hlen1]⟩⟩, by omega⟩
              repeat (first | exact agree_refl _ _ | refine agree_cons _ rfl ?_)
            · simp [h11, hrow, hlt, evtRow, alA, hal, h1, hw, wf1, wf2, wf3, wf4, wf5, h0, orc21, h5]
              refine ⟨hcl, ⟨by rintro row (⟨x, _, rfl⟩ | rfl) <;> rfl, by omega⟩, ag ?_, ⟨i + 1, by omega, by simp, _, _, _, ⟨rfl, rfl⟩, ⟨rfl, (fin _ rfl).symm⟩, .inr ⟨hne1, rfl, by rw [hlen1]⟩⟩, by omega⟩
              repeat (first | exact agree_refl _ _ | refine agree_cons _ rfl ?_)
    · have hbf : l.take i = l := List.take_of_length_le hge
      rw [hbf] at h5 hrt
      simp [h11, Nat.not_lt.2 hge, h5]
      exact hK bx rt L' hrt
end Go.Proofs.YtdebhhpklhbihaaGreatDoor
