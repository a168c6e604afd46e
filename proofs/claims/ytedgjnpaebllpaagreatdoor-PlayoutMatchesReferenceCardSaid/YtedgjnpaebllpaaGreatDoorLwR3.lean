/-
  OWN WORK. The contract of optout.Next, whole.
-/
import Derived.Test.YtedgjnpaebllpaaGreatDoorLwR2
set_option linter.unusedVariables false
set_option linter.unusedSimpArgs false
namespace Go.Proofs.YtedgjnpaebllpaaGreatDoor
open Go Go.Abs

set_option maxRecDepth 100000 in
set_option maxHeartbeats 4000000 in
theorem second30 (l : List Evt) (f : Int) (hl : l.length ≤ 1000000000) (hs : ∀ e ∈ l, Small e) (o : Opt) (m : AM) (rest : List (List AV)) (hm : m.boxes = [I f] :: zrow :: rest) (E : List (Nat × AV)) (h0 : Abs.look E 0 = .sl .ro (l.map evtRow)) (h3 : Abs.look E 3 = .ptr 0 0) (h4 : Abs.look E 4 = .ptr 1 0) (Q : Exit → AS → Prop) (hQ : ∀ s, Q .ret s = post Tryz.prog gl0 (orc30 l f o) rs22 (.agg (ownRow ((offers f (plc l)).getD zO))) .ret s) :
    vc Tryz.prog gl0 (orc30 l f o) Y0 tl22 ⟨envT 48 E, m⟩ Q := by
  have ho := optionals_pure (l.map evtRow)
  have hsm : ∀ e ∈ plc l, Small e ∧ 1 ≤ e.fr := fun e h => ⟨hs e (plc_mem h).1, (plc_mem h).2⟩
  obtain ⟨mb, mlens, mst, mln⟩ := m
  simp only at hm
  subst hm
  simp [tl22, h0, h3, h4, orc30]
  refine ⟨ho, vc_rf (f := 67) (first := []) (cap := [.ep [.sl .ro (l.map evtRow)] 0]) (by simp) ?_⟩
  rintro l1 rfl hg1
  simp only at hg1
  have hpre : ([I f] :: zrow :: rest).length = rest.length + 2 := rfl
  refine opt62 l f o hl hs _ _ l1 _ (fun i m => m.st l1 = .ready ∧ ∃ rest', m.boxes = ([I f] :: zrow :: rest) ++ (optRow ((offers f ((plc l).take i)).getD zO) :: [.bool (offers f ((plc l).take i)).isSome] :: [.fn 45 [] [.ptr (rest.length + 3) 0, .ptr (rest.length + 2) 0]] :: [.yld l1] :: rest')) ?_ ?_ ?_ ?_ ?_ ?_ ?_
  · exact ⟨by simp [AM.begin_], [], by simp [AM.begin_, offers, optRow, zO, alA]⟩
  · rintro i m ⟨h1, rest', h2⟩
    refine ⟨?_, h1⟩
    rw [h2]
    simp [AM.begin_]
  · rintro i m m' ⟨h1, rest', h2⟩ ⟨⟨b2, e2⟩, _, e3⟩
    exact ⟨by rw [e3 l1 (by rw [h1]; simp), h1], rest' ++ b2, by rw [e2, h2]; simp⟩
  · rintro i m l2 x ⟨h1, h2⟩ hne
    exact ⟨by simp [upd, Ne.symm hne, h1], h2⟩
  · rintro i e m hy hv ⟨h1, rest', h2⟩ K' hK
    have htk : (plc l).take (i + 1) = (plc l).take i ++ [e] := by rw [List.take_add_one, hy]; rfl
    obtain ⟨hsme, hfr⟩ := hsm e (List.mem_of_getElem? hy)
    have hfo := follows_pure e f hsme
    generalize hbb : offers f ((plc l).take i) = b at h2
    have hnb : offers f ((plc l).take (i + 1)) = offE f b e := by rw [htk, ← hbb]; simp [offers, List.foldl_append]
    have hal : e.al = true := by simp [valE] at hv; exact hv.2
    simp only [Yin, if_true]
    refine ⟨h1, rfl, ?_⟩
    rw [hnb] at hK
    clear hbb hnb htk ho
    obtain ⟨mb, mlens, mst, mln⟩ := m
    simp only at h2 h1
    subst h2
    simp only [evtRow, hal, alA, if_true] at hfo
    by_cases hi : e.i = 0
    · cases hf' : folB f e with
      | true =>
        have hf2 : f < e.st ∧ e.st - 20 ≤ f := by simpa [folB] using hf'
        rw [hf'] at hfo
        simp only [offE, hv, hi, hf', and_self, if_true] at hK
        simp [set_env, evtRow, optRow, optE, hal, alA, orc30, h1, h3, hi, hf2]
        have hoe : optE e = ⟨e.st, e.fr, true⟩ := by simp [optE, hi, hal]
        rw [hoe] at hK
        rw [hi] at hfo
        refine ⟨hfo, offer_eff Y0 ⟨e.st, e.fr, true⟩ b _ ([I f] :: zrow :: rest) _ rfl _ ?_⟩
        exact hK _ ⟨by simp, rest' ++ [[I e.id, I e.it, I e.st, I e.fr, I 0, I e.re, .sl .ro [[I 1, I 8]], I e.st, I e.fr, .sl .ro [[I 1, I 8]]], optRow ⟨e.st, e.fr, true⟩], by simp [optRow, alA]⟩
      | false =>
        have hf2 : ¬ (f < e.st ∧ e.st - 20 ≤ f) := by simpa [folB] using hf'
        rw [hf'] at hfo
        simp only [offE, hv, hi, hf', and_self, and_false, Bool.false_eq_true, if_false] at hK
        have hd : (decide (f < e.st) && decide (e.st - 20 ≤ f)) = false := by simpa using hf2
        rw [hi] at hfo
        simp [set_env, evtRow, optRow, optE, hal, alA, orc30, h1, h3, hi, hd]
        refine ⟨hfo, ?_⟩
        exact hK _ ⟨by simp, rest' ++ [[I e.id, I e.it, I e.st, I e.fr, I 0, I e.re, .sl .ro [[I 1, I 8]], I e.st, I e.fr, .sl .ro [[I 1, I 8]]]], by simp [optRow, alA]⟩
    · simp only [offE, hi, and_false, false_and, if_false] at hK
      simp [set_env, evtRow, optRow, optE, hal, alA, orc30, h1, h3, hi]
      exact hK _ ⟨by simp, rest' ++ [[I e.id, I e.it, I e.st, I e.fr, I e.i, I e.re, .sl .ro [[I 1, I 8]], I (e.st - e.i), I (e.fr + e.i), .sl .ro [[I 1, I 8]]]], by simp [optRow, alA]⟩
  · rintro i e m hy hv ⟨h1, rest', h2⟩
    have htk : (plc l).take (i + 1) = (plc l).take i ++ [e] := by rw [List.take_add_one, hy]; rfl
    refine ⟨h1, rest', ?_⟩
    rw [h2, htk]
    have : offers f ((plc l).take i ++ [e]) = offers f ((plc l).take i) := by simp [offers, List.foldl_append, offE, hv]
    rw [this]
  · rintro m ⟨h1, rest', h2⟩
    rw [List.take_length] at h2
    have how := own_pure ((offers f (plc l)).getD zO)
    simp only [h1, Qend]
    obtain ⟨mb, mlens, mst, mln⟩ := m
    simp only at h2
    subst h2
    generalize (offers f (plc l)).getD zO = w at how hQ ⊢
    cases hal : w.al with
    | true =>
      simp only [optRow, ownRow, hal, alA, alO, if_true] at how
      simp [optRow, ownRow, hal, alA, alO, orc30, h4, zrow, rs22, hQ]
      exact how
    | false =>
      simp only [optRow, ownRow, hal, alA, alO, Bool.false_eq_true, if_false] at how
      simp [optRow, ownRow, hal, alA, alO, orc30, h4, zrow, rs22, hQ]
      exact how
end Go.Proofs.YtedgjnpaebllpaaGreatDoor
