/-
  OWN WORK. The law's Library, made in the caller's memory, so that its pictures may be changed.
-/
import Derived.Test.YtedgjnpaebllpaaDoorLwV
set_option linter.unusedVariables false
set_option linter.unusedSimpArgs false
namespace Go.Proofs.YtedgjnpaebllpaaDoor
open Go Go.Abs

section
variable {B : List (List AV)} {i j : Nat}
theorem gs_ne (v : List AV) (h : i ≠ j) : rowN (B.set i v) j = rowN B j := by simp [rowN, List.getD_eq_getElem?_getD, -getD_rowN, List.getElem?_set_ne h]
theorem gs_eq (v : List AV) (h : i < B.length) : rowN (B.set i v) i = v := by simp [rowN, List.getD_eq_getElem?_getD, -getD_rowN, List.getElem?_set_self h]
theorem ga_lt (C : List (List AV)) (h : j < B.length) : rowN (B ++ C) j = rowN B j := by simp [rowN, List.getD_eq_getElem?_getD, -getD_rowN, List.getElem?_append_left h]
theorem ga_eq (c : List AV) : rowN (B ++ [c]) B.length = c := by simp [rowN, List.getD_eq_getElem?_getD, -getD_rowN]
theorem ga_eq' (c : List AV) (h : j = B.length) : rowN (B ++ [c]) j = c := by subst h; exact ga_eq c
end

/-- The cells of pictures. -/
def fl (ps : List Pic) : List AV := (ps.map picRow).flatten
theorem fl_len (ps : List Pic) : (fl ps).length = ps.length * 3 := by
  induction ps with
  | nil => rfl
  | cons p r ih => simp only [fl, List.map_cons, List.flatten_cons, List.length_append] at ih ⊢; rw [ih]; simp [picRow]; omega
theorem fl_snoc (ps : List Pic) (p : Pic) : fl (ps ++ [p]) = fl ps ++ picRow p := by simp [fl]

/-- The cells of the library's assets: their pictures lie in these boxes. -/
def lrow : List Nat → Nat → List AV
  | [], _ => []
  | id :: r, j => I ((7 + j : Nat) : Int) :: .bs id 0 (nPics (7 + j)) 3 :: lrow r (j + 1)
theorem lrow_len : ∀ (l : List Nat) (j : Nat), (lrow l j).length = l.length * 2
  | [], _ => rfl
  | _ :: r, j => by simp only [lrow, List.length_cons, lrow_len r (j + 1)]; omega
theorem lrow_snoc : ∀ (l : List Nat) (j id : Nat), lrow (l ++ [id]) j = lrow l j ++ [I ((7 + (j + l.length) : Nat) : Int), .bs id 0 (nPics (7 + (j + l.length))) 3]
  | [], j, id => by simp [lrow]
  | a :: r, j, id => by
    simp only [List.cons_append, lrow, lrow_snoc r (j + 1) id, List.length_cons]
    rw [show j + 1 + r.length = j + (r.length + 1) from by omega]

/-- k assets have been made, in boxes from b0 on. -/
structure LM (xs : List Int) (b0 : Nat) (B0 B : List (List AV)) (ids : List Nat) : Prop where
  old : ∀ j, j < b0 → rowN B j = rowN B0 j
  len : b0 ≤ B.length
  bd : ∀ id ∈ ids, b0 ≤ id ∧ id < B.length
  nd : ids.Nodup
  pc : ∀ (j id : Nat), ids[j]? = some id → rowN B id = fl (libPics xs (7 + j) (nPics (7 + j)))
def LV (b0 : Nat) (B : List (List AV)) (ids : List Nat) (v : AV) : Prop := (ids = [] ∧ v = .sl .nil []) ∨ ∃ idL, v = .bs idL 0 ids.length 2 ∧ b0 ≤ idL ∧ idL < B.length ∧ idL ∉ ids ∧ rowN B idL = lrow ids 0 ∧ ids ≠ []

theorem LM_step {xs : List Int} {b0 idp : Nat} {B0 B B' : List (List AV)} {ids : List Nat} (hM : LM xs b0 B0 B ids) (hlen : B.length ≤ B'.length) (hd : ∀ j, j < B.length → (j < b0 ∨ j ∈ ids) → rowN B' j = rowN B j)
    (hp1 : B.length ≤ idp) (hp2 : idp < B'.length) (hp3 : rowN B' idp = fl (libPics xs (7 + ids.length) (nPics (7 + ids.length)))) : LM xs b0 B0 B' (ids ++ [idp]) := by
  refine ⟨fun j hj => ?_, Nat.le_trans hM.len hlen, fun id hid => ?_, ?_, fun j id hj => ?_⟩
  · have := hM.len
    rw [hd j (by omega) (.inl hj)]; exact hM.old j hj
  · have := hM.len
    rcases List.mem_append.1 hid with h | h
    · have := hM.bd id h; omega
    · simp at h; omega
  · rw [List.nodup_append]
    refine ⟨hM.nd, by simp, fun a ha b hb => ?_⟩
    simp at hb
    have := hM.bd a ha
    omega
  · rcases Nat.lt_or_ge j ids.length with h | h
    · rw [List.getElem?_append_left h] at hj
      have hm := List.mem_of_getElem? hj
      rw [hd id (hM.bd id hm).2 (.inr hm)]
      exact hM.pc j id hj
    · have hlt := (List.getElem?_eq_some_iff.1 hj).1
      simp at hlt
      have : j = ids.length := by omega
      subst this
      simp at hj
      subst hj
      exact hp3

def orcM : Nat → FuncId → List AV → AV := fun d f l => if f = 999999 then (if d = 61 ∨ d = 65 ∨ d = 66 then .mobj [] else .junk) else match l with | [.int _ a, .int _ b] => I (pickI a b) | _ => .junk

set_option maxRecDepth 100000 in
set_option maxHeartbeats 4000000 in
theorem library_eff (Y : YT) (xs : List Int) (hx : ∀ x ∈ xs, -9223372036854775808 ≤ x ∧ x ≤ 9223372036854775807) (hl : xs.length ≤ 9223372036854775807) (B0 : List (List AV)) (L0 : List Nat) (s0 : Nat → LS) (n0 : Nat) (K : AV → AM → Prop)
    (hK : ∀ idL ids B, ids.length = 3 → LM xs B0.length B0 B ids → B0.length ≤ idL → idL < B.length → idL ∉ ids → rowN B idL = lrow ids 0 → K (.bs idL 0 3 2) ⟨B, L0, s0, n0⟩) : EffY Tryd.prog gl0 Y 9 [ints xs] ⟨B0, L0, s0, n0⟩ K := by
  refine effE code9 orcM (by simp) ?_
  simp [sc9, rs9]
  refine vc_loopE [2, 3, 4, 5, 6, 7, 8, 9, 10, 11, 12, 13, 14, 15, 16, 17, 18, 19, 20, 21, 22, 23, 24, 25, 26, 27, 28, 29, 30, 31, 32, 33, 34, 35, 36, 37, 38, 39, 40, 41, 42, 43, 44, 45, 46, 47, 48, 49, 50, 51, 52, 53, 54, 55, 56, 57, 58, 59, 60, 61, 62, 63, 64, 65, 66]
    (fun f m => ∃ (ids : List Nat) (B : List (List AV)), ids.length ≤ 3 ∧ f 4 = I ((7 + ids.length : Nat) : Int) ∧ m = ⟨B, L0, s0, n0⟩ ∧ LM xs B0.length B0 B ids ∧ LV B0.length B ids (f 3)) (fun f m => 10 - (numOf (f 4)).toNat) ?_ ?_
  · exact ⟨[], B0, by simp, by simp, rfl, ⟨fun _ _ => rfl, Nat.le_refl _, fun _ h => by simp at h, List.nodup_nil, fun _ _ h => by simp at h⟩, .inl ⟨rfl, by simp⟩⟩
  · rintro f m ⟨ids, B, hk, h4, rfl, hM, hV⟩
    by_cases hk3 : ids.length = 3
    · rw [hk3] at h4
      simp [h4]
      rcases hV with ⟨h, _⟩ | ⟨idL, h3, h5, h6, h7, h8, _⟩
      · rw [h] at hk3; cases hk3
      · rw [hk3] at h3
        simp [h3]
        exact hK idL ids B hk3 hM h5 h6 h7 h8
    · obtain ⟨it, hit⟩ : ∃ it, it = 7 + ids.length := ⟨_, rfl⟩
      have hle : (it : Int) ≤ 9 := by omega
      have hitn : it ≤ 9 := by omega
      rw [← hit] at h4
      have hsub : IntKind.i64.wrap ((it : Int) - 7) = (it : Int) - 7 := by rw [wrap_in] <;> omega
      have hmul : IntKind.i64.wrap (5 * ((it : Int) - 7)) = 5 * ((it : Int) - 7) := by rw [wrap_in] <;> omega
      have hadd : IntKind.i64.wrap (40 + 5 * ((it : Int) - 7)) = ((nPics it : Nat) : Int) := by unfold nPics; rw [wrap_in] <;> omega
      have hN : nPics it ≤ 50 := by unfold nPics; omega
      have hN0 : 40 ≤ nPics it := by unfold nPics; omega
      simp [h4, hle]
      refine vc_loopE [6, 7, 14, 15, 16, 17, 18, 19, 20, 21, 22, 23, 24, 25, 26, 27, 28, 29, 30, 31, 32, 33, 34, 35, 36, 37, 38, 39, 40, 41, 42, 43, 44, 45, 46, 47, 48, 49, 50, 51, 52, 53, 54, 55, 56, 57, 58, 59, 60, 61, 62]
        (fun f m => ∃ (i : Nat) (v : AV) (Bx : List (List AV)), i ≤ nPics it ∧ f 6 = I i ∧ m = ⟨Bx, L0, s0, n0⟩ ∧ B.length < Bx.length ∧ rowN Bx B.length = [I it, v] ∧ (∀ j, j < B.length → rowN Bx j = rowN B j) ∧
          ((i = 0 ∧ v = .sl .nil []) ∨ (0 < i ∧ ∃ id, v = .bs id 0 i 3 ∧ B.length < id ∧ id < Bx.length ∧ rowN Bx id = fl (libPics xs it i)))) (fun f m => 60 - (numOf (f 6)).toNat) ?_ ?_
      · exact ⟨0, .sl .nil [], _, by omega, by simp, rfl, by simp, ga_eq _, fun j hj => ga_lt _ hj, .inl ⟨rfl, rfl⟩⟩
      · rintro g m ⟨i, v, Bx, hi, h6, rfl, hbl, hbv, hbo, hv⟩
        by_cases hiN : i = nPics it
        · subst hiN
          obtain ⟨_, idp, rfl, hp1, hp2, hp3⟩ : 0 < nPics it ∧ ∃ id, v = .bs id 0 (nPics it) 3 ∧ B.length < id ∧ id < Bx.length ∧ rowN Bx id = fl (libPics xs it (nPics it)) := by
            rcases hv with ⟨h, _⟩ | h
            · omega
            · exact h
          have hw1 : IntKind.i64.wrap ((it : Int) + 1) = ((it + 1 : Nat) : Int) := by rw [wrap_in] <;> omega
          rcases hV with ⟨h0, h3⟩ | ⟨idL, h3, h5, h7, h8, h9, h10⟩
          · simp [h6, h4, hsub, hmul, hadd, h3, hw1, hbv, orcM]
            subst h0
            have hit' : it = 7 := by simpa using hit
            refine ⟨ag ?_, ⟨[idp], by simp, by simp [hit'], LM_step (ids := []) hM (by simp; omega) (fun j hj _ => by rw [ga_lt _ (by omega)]; exact hbo j hj) (by omega) (by simp; omega) (by rw [ga_lt _ hp2, hp3]; simp [hit']), .inr ⟨Bx.length + 1, rfl, ?_, by simp, ?_, ?_, by simp⟩⟩, by omega⟩
            · repeat (first | exact agree_refl _ _ | refine agree_cons _ rfl ?_)
            · have := hM.len; omega
            · simp; omega
            · simp [lrow, hit']
          · have hl9 : (rowN B idL).length = ids.length * 2 := by rw [h9, lrow_len]
            have hbL : rowN Bx idL = lrow ids 0 := by rw [hbo idL h7]; exact h9
            have hbL1 : rowN (Bx ++ [[I it, .bs idp 0 (nPics it) 3]]) idL = lrow ids 0 := by rw [ga_lt _ (by omega)]; exact hbL
            have hne : ¬ lrow ids 0 = [] := fun h => by have := congrArg List.length h; rw [lrow_len, List.length_nil] at this; exact h10 (List.length_eq_zero_iff.1 (by omega))
            have htk : List.take (ids.length * 2) (lrow ids 0) = lrow ids 0 := List.take_of_length_le (by rw [lrow_len]; exact Nat.le_refl _)
            have hlx : idL < Bx.length + 1 := by omega
            simp [h6, h4, hsub, hmul, hadd, h3, hw1, hbv, hbL1, lrow_len, orcM, hne, htk, hlx]
            have hgo : ∀ j, j < B.length → (j < B0.length ∨ j ∈ ids) → rowN ((Bx ++ [[I it, .bs idp 0 (nPics it) 3]]).set idL [] ++ [lrow ids 0 ++ [I it, .bs idp 0 (nPics it) 3]]) j = rowN B j := fun j hj h => by
              have hne' : idL ≠ j := by
                rintro rfl
                rcases h with h | h
                · omega
                · exact h8 h
              rw [ga_lt _ (by simp; omega), gs_ne _ hne', ga_lt _ (by omega)]; exact hbo j hj
            refine ⟨by omega, ag ?_, ⟨ids ++ [idp], by simp; omega, by simp; omega, LM_step hM (by simp; omega) hgo (by omega) (by simp; omega) ?_, .inr ⟨Bx.length + 1, by simp, ?_, by simp, ?_, ?_, by simp⟩⟩, by omega⟩
            · repeat (first | exact agree_refl _ _ | refine agree_cons _ rfl ?_)
            · rw [ga_lt _ (by simp; omega), gs_ne _ (by omega), ga_lt _ hp2, hp3, hit]
            · have := hM.len; omega
            · intro h
              rcases List.mem_append.1 h with h | h
              · have := hM.bd _ h; omega
              · simp at h; omega
            · rw [ga_eq' _ (by simp), lrow_snoc, hit]; simp
        · have hlt : i < nPics it := by omega
          have hc := libC_bd xs it i hitn (by omega)
          have hw3 : IntKind.i64.wrap ((i : Int) + 3) = (i : Int) + 3 := by rw [wrap_in] <;> omega
          have hw1 : IntKind.i64.wrap ((i : Int) + 1) = ((i + 1 : Nat) : Int) := by rw [wrap_in] <;> omega
          have ht5 := tmod_bd (libC xs it i) 5 hc.1 (by omega)
          have ht90 := tmod_bd (libC xs it i) 90 hc.1 (by omega)
          have hpw : IntKind.i64.wrap ((libC xs it i).tmod 90 * 1000) = (libC xs it i).tmod 90 * 1000 := by rw [wrap_in] <;> omega
          have hlen : (libPics xs it i).length = i := by simp [libPics]
          have hsucc : fl (libPics xs it (i + 1)) = fl (libPics xs it i) ++ picRow (picOf xs it i) := by rw [libPics_succ, fl_snoc]
          have hfl : (fl (libPics xs it i)).length = i * 3 := by rw [fl_len, hlen]
          have hb0 : ((i : Int) == 0) = (i == 0) := by cases i <;> simp <;> omega
          have hrow : [AV.bool ((i : Int) == 0 || (libC xs it i).tmod 5 == 0), AV.str ⟨#[UInt8.ofNat (IntKind.u8.wrap it).toNat, UInt8.ofNat (IntKind.u8.wrap i).toNat, UInt8.ofNat (IntKind.u8.wrap (libC xs it i)).toNat]⟩, AV.int .i64 ((libC xs it i).tmod 90 * 1000)] = picRow (picOf xs it i) := by
            rw [hb0]; rfl
          have hstep : ∀ (id : Nat), 0 < i → B.length < id → id < Bx.length → rowN Bx id = fl (libPics xs it i) → rowN Bx B.length = [I it, .bs id 0 i 3] →
              (2 ≤ (rowN (Bx.set id [] ++ [List.take (i * 3) (fl (libPics xs it i)) ++ picRow (picOf xs it i)]) B.length).length ∧ B.length < Bx.length + 1) ∧
              ∃ (v : AV), rowN ((Bx.set id [] ++ [List.take (i * 3) (fl (libPics xs it i)) ++ picRow (picOf xs it i)]).set B.length [I it, .bs Bx.length 0 (i + 1) 3]) B.length = [I it, v] ∧ v = .bs Bx.length 0 (i + 1) 3 ∧
              rowN ((Bx.set id [] ++ [List.take (i * 3) (fl (libPics xs it i)) ++ picRow (picOf xs it i)]).set B.length [I it, .bs Bx.length 0 (i + 1) 3]) Bx.length = fl (libPics xs it (i + 1)) ∧
              ∀ j, j < B.length → rowN ((Bx.set id [] ++ [List.take (i * 3) (fl (libPics xs it i)) ++ picRow (picOf xs it i)]).set B.length [I it, .bs Bx.length 0 (i + 1) 3]) j = rowN B j := by
            intro id h0 hp1 hp2 hp3 hbv
            have e1 : rowN (Bx.set id [] ++ [List.take (i * 3) (fl (libPics xs it i)) ++ picRow (picOf xs it i)]) B.length = [I it, .bs id 0 i 3] := by rw [ga_lt _ (by simp; omega), gs_ne _ (by omega)]; exact hbv
            refine ⟨⟨by rw [e1]; simp, by omega⟩, .bs Bx.length 0 (i + 1) 3, gs_eq _ (by simp; omega), rfl, ?_, fun j hj => ?_⟩
            · rw [gs_ne _ (by omega), ga_eq' _ (by simp), List.take_of_length_le (by omega), hsucc]
            · rw [gs_ne _ (by omega), ga_lt _ (by simp; omega), gs_ne _ (by omega)]; exact hbo j hj
          have hne : 0 < i → ¬ fl (libPics xs it i) = [] := fun h0 h => by rw [h] at hfl; simp at hfl; omega
          have hstep0 : i = 0 → rowN ((Bx ++ [picRow (picOf xs it 0)]).set B.length [I it, .bs Bx.length 0 1 3]) B.length = [I it, .bs Bx.length 0 1 3] ∧
              (∀ j, j < B.length → rowN ((Bx ++ [picRow (picOf xs it 0)]).set B.length [I it, .bs Bx.length 0 1 3]) j = rowN B j) ∧
              rowN ((Bx ++ [picRow (picOf xs it 0)]).set B.length [I it, .bs Bx.length 0 1 3]) Bx.length = fl (libPics xs it 1) := fun h0 => by
            subst h0
            refine ⟨gs_eq _ (by simp; omega), fun j hj => ?_, ?_⟩
            · rw [gs_ne _ (by omega), ga_lt _ (by omega)]; exact hbo j hj
            · rw [gs_ne _ (by omega), ga_eq' _ rfl, hsucc]; simp [fl, libPics]
          have hrow' : [AV.bool true, AV.str ⟨#[UInt8.ofNat (IntKind.u8.wrap it).toNat, UInt8.ofNat (IntKind.u8.wrap 0).toNat, UInt8.ofNat (IntKind.u8.wrap (libC xs it 0)).toNat]⟩, AV.int .i64 ((libC xs it 0).tmod 90 * 1000)] = picRow (picOf xs it 0) := by rfl
          by_cases hxs : xs = []
          · have hlc : IntKind.i64.wrap ((it : Int) * ((i : Int) + 3)) = libC xs it i := by
              have : libC xs it i = (it : Int) * ((i : Int) + 3) := by simp [libC, hxs]
              rw [← this, wrap_in] <;> omega
            have hxs' := eq_true hxs
            rcases hv with ⟨rfl, rfl⟩ | ⟨h0, id, rfl, hp1, hp2, hp3⟩
            · have e1 : ∀ c, rowN (Bx ++ [c]) B.length = [I it, .sl .nil []] := fun c => by rw [ga_lt _ hbl]; exact hbv
              have hbx : B.length < Bx.length + 1 := by omega
              simp only [Int.natCast_zero, Int.zero_add] at hw3 hlc h6 hw1 hrow
              simp [h6, h4, hsub, hmul, hadd, hlt, hw3, hlc, ints, hxs', hpw, hw1, hbv, orcM, e1, hbx]
              rw [hrow']
              obtain ⟨k1, k2, k3⟩ := hstep0 rfl
              refine ⟨ag ?_, ⟨1, by omega, by simp, _, k1, k2, .inr ⟨by omega, Bx.length, rfl, by omega, by omega, k3⟩⟩⟩
              · repeat (first | exact agree_refl _ _ | refine agree_cons _ rfl ?_)
            · have e1 : ∀ c, rowN (Bx.set id [] ++ [c]) B.length = [I it, .bs id 0 i 3] := fun c => by rw [ga_lt _ (by simp; omega), gs_ne _ (by omega)]; exact hbv
              have hbx : B.length < Bx.length + 1 := by omega
              have hne' := hne h0
              simp [h6, h4, hsub, hmul, hadd, hlt, hw3, hlc, ints, hxs', hpw, hw1, hbv, hp3, hfl, orcM, e1, hbx, hp2, hne']
              rw [hrow]
              obtain ⟨-, v, k1, k2, k3, k4⟩ := hstep id h0 hp1 hp2 hp3 hbv
              refine ⟨by omega, ag ?_, ⟨i + 1, by omega, by simp, v, k1, k4, .inr ⟨by omega, Bx.length, k2, by omega, by omega, k3⟩⟩, by omega⟩
              · repeat (first | exact agree_refl _ _ | refine agree_cons _ rfl ?_)
          · have hpos : 0 < xs.length := List.length_pos_iff.2 hxs
            have hmod : i % xs.length < xs.length := Nat.mod_lt _ hpos
            obtain ⟨x, hxi⟩ : ∃ x, xs[i % xs.length]? = some x := ⟨_, List.getElem?_eq_getElem hmod⟩
            have hxb := hx x (List.mem_of_getElem? hxi)
            have hrw : rowN (xs.map fun n => [I n]) (i % xs.length) = [I x] := rowN_eq (by simp [hxi])
            have hrem : Int.tmod (i : Int) (xs.length : Int) = ((i % xs.length : Nat) : Int) := (Int.ofNat_tmod _ _).symm
            have hpk := pick_pure x 1073741824 hxb.1 hxb.2 (by omega)
            have hlc : IntKind.i64.wrap (pickI x 1073741824 + (i : Int)) = libC xs it i := by
              have : libC xs it i = pickI x 1073741824 + (i : Int) := by simp [libC, hxs, List.getD_eq_getElem?_getD, hxi]
              rw [← this, wrap_in] <;> omega
            have hxs' := eq_false hxs
            have m1 : 0 ≤ (i : Int) % (xs.length : Int) := by omega
            have m2 : (i : Int) % (xs.length : Int) < (xs.length : Int) := by omega
            have m3 : ((i : Int) % (xs.length : Int)).toNat = i % xs.length := by omega
            rcases hv with ⟨rfl, rfl⟩ | ⟨h0, id, rfl, hp1, hp2, hp3⟩
            · have e1 : ∀ c, rowN (Bx ++ [c]) B.length = [I it, .sl .nil []] := fun c => by rw [ga_lt _ hbl]; exact hbv
              have hbx : B.length < Bx.length + 1 := by omega
              simp only [Int.natCast_zero, Int.zero_add, Int.add_zero, Int.zero_emod] at hlc h6 hw1 m1 m2 m3 hrem
              simp only [Nat.zero_mod] at hrw
              simp [h6, h4, hsub, hmul, hadd, hlt, ints, hxs', hpos, hpw, hw1, hrw, hlc, hbv, orcM, e1, hbx]
              rw [hrow']
              obtain ⟨k1, k2, k3⟩ := hstep0 rfl
              refine ⟨hpk, ag ?_, ⟨1, by omega, by simp, _, k1, k2, .inr ⟨by omega, Bx.length, rfl, by omega, by omega, k3⟩⟩⟩
              · repeat (first | exact agree_refl _ _ | refine agree_cons _ rfl ?_)
            · have e1 : ∀ c, rowN (Bx.set id [] ++ [c]) B.length = [I it, .bs id 0 i 3] := fun c => by rw [ga_lt _ (by simp; omega), gs_ne _ (by omega)]; exact hbv
              have hbx : B.length < Bx.length + 1 := by omega
              have hne' := hne h0
              simp [h6, h4, hsub, hmul, hadd, hlt, ints, hxs', hpos, hpw, hw1, hrem, hrw, hlc, m1, m2, m3, hbv, hp3, hfl, orcM, e1, hbx, hp2, hne']
              rw [hrow]
              obtain ⟨-, v, k1, k2, k3, k4⟩ := hstep id h0 hp1 hp2 hp3 hbv
              refine ⟨hpk, by omega, ag ?_, ⟨i + 1, by omega, by simp, v, k1, k4, .inr ⟨by omega, Bx.length, k2, by omega, by omega, k3⟩⟩, by omega⟩
              · repeat (first | exact agree_refl _ _ | refine agree_cons _ rfl ?_)
end Go.Proofs.YtedgjnpaebllpaaDoor
