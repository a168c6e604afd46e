import Derived.Test.YtkcnjajklnoahaaGreatDoorSXScC
import Derived.Test.YtkcnjajklnoahaaGreatDoorSXSdB
import Derived.Test.YtkcnjajklnoahaaGreatDoorSXScP
import Derived.Test.YtkcnjajklnoahaaGreatDoorSXSaI
set_option linter.unusedVariables false
set_option linter.unusedSimpArgs false
namespace Go.Proofs.YtkcnjajklnoahaaGreatDoor
open Go Go.Abs
def boS (p : Pl) (id : Int) : Int := match Vy id p.ens with
 | none => 0
 | some e => e.bo
theorem rdS_zero (p : Pl) (id : Int) : rdS p id = 0 <-> boS p id ≠ 0 := by
 unfold rdS boS
 cases Vy id p.ens with
 | none => simp
 | some e =>
  by_cases h : e.bo = 0
  ·have hn : ¬ e.bo ≠ 0 := fun k => k h
   simp only
   rw [if_neg hn]
   cases Xf e.it p.its with
   | none => simp [h]
   | some x =>
    simp only [h, ne_eq, not_true_eq_false, iff_false]
    split <;> omega
  ·simp [h]
def keepS (p : Pl) (at_ : Int) (past : List Ad) (ids : List Int) : List Int := Qt true ids (Ue p at_ past ids)
def dropS (p : Pl) (at_ : Int) (past : List Ad) (ids : List Int) : List Int := Qt false ids (Ue p at_ past ids)
def soldS (p : Pl) (ids : List Int) : List Int := ids.filter fun id => decide (rdS p id = 0)
theorem sold_step {p : Pl} {ids : List Int} {i : Nat} {id : Int} (h : ids[i]? = some id) : soldS p (ids.take (i + 1)) = soldS p (ids.take i) ++ if boS p id ≠ 0 then [id] else [] := by
 rw [Yk h, soldS, soldS, List.filter_append]
 by_cases hb : boS p id ≠ 0
 ·rw [if_pos hb, List.filter_cons_of_pos (by simpa using (rdS_zero p id).2 hb)]; rfl
 ·rw [if_neg hb, List.filter_cons_of_neg (by simpa using fun h => hb ((rdS_zero p id).1 h))]; rfl
theorem sold_len (p : Pl) (ids : List Int) : (soldS p ids).length <= ids.length := List.length_filter_le _ _
theorem drop_len (p : Pl) (at_ : Int) (past : List Ad) (ids : List Int) : (dropS p at_ past ids).length <= ids.length := (Jl false ids _).length_le
theorem keep_len (p : Pl) (at_ : Int) (past : List Ad) (ids : List Int) : (keepS p at_ past ids).length <= ids.length := (Jl true ids _).length_le
theorem choR_eq (p : Pl) (at_ : Int) (past : List Ad) (ids : List Int) : ∃ L, Qp p at_ past (keepS p at_ past ids) = some L /\ L.map (·.1) = keepS p at_ past ids /\ choR p at_ past ids = .tup [.sl (rtE L) (L.map Qd), .sl (rtE (dropS p at_ past ids)) ((dropS p at_ past ids).map Qj)] := by
 obtain ⟨ka, kb, kc⟩ := Kq p at_ past ids
 obtain ⟨L, hL⟩ := Option.isSome_iff_exists.1 kb
 refine ⟨L, hL, ear_ids hL, ?_⟩
 rw [choR, hL, slAV8_rt, slI8_rt]; rfl
theorem cho_all (p : Pl) (at_ : Int) (past : List Ad) (ids : List Int) : (Qp p at_ past ids).isSome = decide (dropS p at_ past ids = []) := by
 obtain ⟨ka, kb, kc⟩ := Kq p at_ past ids
 by_cases h : dropS p at_ past ids = []
 ·rw [selB_none ka h] at kb
  rw [kb]; simp [h]
 ·cases he : (Qp p at_ past ids).isSome with
  | true => exact absurd (keptS_all p at_ past ids he).2 h
  | false => simp [h]
theorem cho_spl {p : Pl} {at_ : Int} {past : List Ad} {ids : List Int} (hn : ids.Nodup) : splB ids (keepS p at_ past ids) (dropS p at_ past ids) = (keepS p at_ past ids, true) :=
 splB_sel (Kq p at_ past ids).1 hn
theorem cho_ins {p : Pl} {at_ : Int} {past : List Ad} {ids : List Int} (hn : ids.Nodup) {i : Nat} {id : Int} (hi : ids[i]? = some id) (hd : id ∈ dropS p at_ past ids) : Qp p at_ past (Wd (keepS p at_ past ids) (i : Int) ids 0) = none := by
 obtain ⟨ka, kb, kc⟩ := Kq p at_ past ids
 have hl : i < ids.length := (List.getElem?_eq_some_iff.1 hi).1
 have h1 := insF_B (keepS p at_ past ids) ids i 0
 rw [Nat.add_zero] at h1
 have h2 := insB_sel ka hn hl (keepS p at_ past ids) (fun x _ => Iff.rfl)
 rw [h1, h2]
 rcases kc i id hi with h | h
 ·rw [sel_drop ka hn i id hi hd] at h; cases h
 ·simpa using h
theorem insF_len (kept : List Int) (at_ : Int) : ∀ (l : List Int) (i : Nat), (Wd kept at_ l i).length <= l.length
 | [], _ => Nat.le_refl _
 | id :: r, i => by
  rw [Wd]
  have := insF_len kept at_ r (i + 1)
  split <;> simp <;> omega
def repF (x : Int) : List Int -> List Int
 | [] => []
 | y :: r => if x = y then x :: repF x r else repF x r
def dblF (sold : List Int) : List Int -> List Int
 | [] => []
 | x :: r => repF x sold ++ dblF sold r
theorem repF_not {x : Int} : ∀ {l : List Int}, x ∉ l -> repF x l = []
 | [], _ => rfl
 | y :: r, h => by
  rw [repF, if_neg (fun e => h (by simp [e])), repF_not (fun hm => h (by simp [hm]))]
theorem repF_in {x : Int} : ∀ {l : List Int}, l.Nodup -> x ∈ l -> repF x l = [x]
 | [], _, h => by cases h
 | y :: r, hn, h => by
  rw [List.nodup_cons] at hn
  rw [repF]
  by_cases e : x = y
  ·rw [if_pos e, repF_not (by rw [e]; exact hn.1)]
  ·rw [if_neg e]
   refine repF_in hn.2 ?_
   rcases List.mem_cons.1 h with h | h
   ·exact absurd h e
   ·exact h
theorem dblF_eq {sold : List Int} (hn : sold.Nodup) : ∀ l : List Int, dblF sold l = l.filter fun x => decide (x ∈ sold)
 | [] => rfl
 | x :: r => by
  rw [dblF, dblF_eq hn r, List.filter_cons]
  by_cases h : x ∈ sold
  ·rw [repF_in hn h, if_pos (by simpa using h)]; rfl
  ·rw [repF_not h, if_neg (by simpa using h)]; rfl
theorem booked_out {p : Pl} {at_ : Int} {past : List Ad} {ids : List Int} (hn : ids.Nodup) : dblF (soldS p ids) (dropS p at_ past ids) = dropS p at_ past (soldS p ids) := by
 have hs : (soldS p ids).Nodup := hn.filter _
 rw [dblF_eq hs]
 refine Eq.trans ?_ (booked (okE (bdP p at_ past)) (rdS p) ids)
 refine List.filter_congr fun x hx => ?_
 have hx' : x ∈ ids := selB_mem hx
 simp [soldS, hx']
theorem nodup_step {l : List Int} {i : Nat} {x : Int} (h : l[i]? = some x) (hn : (l.take i).Nodup) (hx : x ∉ l.take i) : (l.take (i + 1)).Nodup := by
 rw [Yk h, List.nodup_append]
 refine ⟨hn, by simp, ?_⟩
 intro a ha b hb
 rw [List.mem_singleton] at hb
 rintro rfl
 exact hx (hb ▸ ha)
theorem take_mem_step {l : List Int} {k : Nat} {x y : Int} (h : l[k]? = some y) (hx : x ∉ l.take k) (hne : x ≠ y) : x ∉ l.take (k + 1) := by
 rw [Yk h, List.mem_append, List.mem_singleton]
 rintro (h | h)
 ·exact hx h
 ·exact hne h
end Go.Proofs.YtkcnjajklnoahaaGreatDoor
