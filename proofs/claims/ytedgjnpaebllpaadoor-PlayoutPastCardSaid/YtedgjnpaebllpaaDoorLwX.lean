/-
  OWN WORK. The law PlayoutGenuine on abstract arguments.
-/
import Derived.Test.YtedgjnpaebllpaaDoorLwW
set_option linter.unusedVariables false
set_option linter.unusedSimpArgs false
namespace Go.Proofs.YtedgjnpaebllpaaDoor
open Go Go.Abs

theorem chunk_fl : ∀ (ps : List Pic), chunk 3 ps.length (fl ps) = ps.map picRow
  | [] => rfl
  | p :: r => by
    have : fl (p :: r) = picRow p ++ fl r := by simp [fl]
    rw [this]
    simp only [List.length_cons, chunk_succ, List.map_cons]
    rw [show List.take 3 (picRow p ++ fl r) = picRow p from rfl, show List.drop 3 (picRow p ++ fl r) = fl r from rfl, chunk_fl r]

theorem fl_ok (ps : List Pic) : okRow (fl ps) = true := by
  induction ps with
  | nil => rfl
  | cons p r ih =>
    have : fl (p :: r) = picRow p ++ fl r := by simp [fl]
    rw [this]
    simp only [okRow, List.all_append, Bool.and_eq_true] at ih ⊢
    exact ⟨rfl, ih⟩

theorem fl_drop : ∀ (ps : List Pic) (i : Nat) (p : Pic), ps[i]? = some p → ∃ r, (fl ps).drop (i * 3 + 1) = .str p.data :: r
  | [], i, p, h => by simp at h
  | q :: r, 0, p, h => by
    simp at h; subst h
    exact ⟨_, by simp [fl, picRow]; rfl⟩
  | q :: r, i + 1, p, h => by
    obtain ⟨t, ht⟩ := fl_drop r i p (by simpa using h)
    refine ⟨t, ?_⟩
    have : fl (q :: r) = picRow q ++ fl r := by simp [fl]
    rw [this, show (i + 1) * 3 + 1 = 3 + (i * 3 + 1) by omega, ← List.drop_drop]
    exact ht

theorem fl_set : ∀ (ps : List Pic) (i : Nat) (p : Pic) (d : ByteArray), ps[i]? = some p → (fl ps).set (i * 3 + 1) (.str d) = fl (ps.set i { p with data := d })
  | [], i, p, d, h => by simp at h
  | q :: r, 0, p, d, h => by
    simp at h; subst h
    simp [fl, picRow]
  | q :: r, i + 1, p, d, h => by
    have ih := fl_set r i p d (by simpa using h)
    have e1 : fl (q :: r) = picRow q ++ fl r := by simp [fl]
    have e2 : fl (q :: r.set i { p with data := d }) = picRow q ++ fl (r.set i { p with data := d }) := by simp [fl]
    rw [List.set_cons_succ, e1, e2, ← ih, List.set_append_right _ _ (by simp [picRow]; omega)]
    rw [show (i + 1) * 3 + 1 - (picRow q).length = i * 3 + 1 by simp [picRow]; omega]

theorem lrow_drop : ∀ (ids : List Nat) (j i id : Nat), ids[i]? = some id → (lrow ids j).drop (i * 2) = I ((7 + (j + i) : Nat) : Int) :: .bs id 0 (nPics (7 + (j + i))) 3 :: lrow (ids.drop (i + 1)) (j + i + 1)
  | [], j, i, id, h => by simp at h
  | a :: r, j, 0, id, h => by simp at h; subst h; simp [lrow]
  | a :: r, j, i + 1, id, h => by
    have ih := lrow_drop r (j + 1) i id (by simpa using h)
    rw [show (i + 1) * 2 = 2 + i * 2 by omega, ← List.drop_drop]
    rw [show j + (i + 1) = j + 1 + i by omega, List.drop_succ_cons]
    exact ih
theorem lrow_drop1 (ids : List Nat) (j i id : Nat) (h : ids[i]? = some id) : (lrow ids j).drop (i * 2 + 1) = .bs id 0 (nPics (7 + (j + i))) 3 :: lrow (ids.drop (i + 1)) (j + i + 1) := by
  rw [← List.drop_drop, lrow_drop ids j i id h]; rfl

/-- What a callee sees of a library that lies in boxes. -/
theorem lib_cv (m : AM) (idL i0 i1 i2 : Nat) (Q0 Q1 Q2 : List Pic) (l0 : Q0.length = nPics 7) (l1 : Q1.length = nPics 8) (l2 : Q2.length = nPics 9) (hL : rowN m.boxes idL = lrow [i0, i1, i2] 0) (h0 : rowN m.boxes i0 = fl Q0) (h1 : rowN m.boxes i1 = fl Q1) (h2 : rowN m.boxes i2 = fl Q2) :
    cvn m 6 (.bs idL 0 3 2) = .sl .ro (([⟨7, Q0⟩, ⟨8, Q1⟩, ⟨9, Q2⟩] : List Asset).map assetRow) := by
  have key : ∀ (id n : Nat) (Q : List Pic), Q.length = n → rowN m.boxes id = fl Q → cvn m 5 (.bs id 0 n 3) = .sl .ro (Q.map picRow) := fun id n Q hl h => by
    rw [cvn_bs, getD_rowN, h, map_okRow m 3 (fl_ok Q), if_pos (by rw [fl_len, hl]; omega), List.drop_zero, ← hl, chunk_fl]
  have e0 := key i0 (nPics 7) Q0 l0 h0
  have e1 := key i1 (nPics 8) Q1 l1 h1
  have e2 := key i2 (nPics 9) Q2 l2 h2
  rw [cvn_bs, getD_rowN, hL]
  have hl : lrow [i0, i1, i2] 0 = [I 7, .bs i0 0 (nPics 7) 3, I 8, .bs i1 0 (nPics 8) 3, I 9, .bs i2 0 (nPics 9) 3] := rfl
  rw [hl, if_pos (by simp)]
  simp only [List.map_cons, List.map_nil, cvn_int, e0, e1, e2]
  rfl

theorem unit_gen {ch ve ed c d : Int} {ev : List Evt} (hs : ∀ e ∈ ev, Small e) {L : List Asset} (hL : ∀ a ∈ L, a.item ≠ 0) {f : Int} : genB L (unitS ch ve ed c d ev L f) = true := by
  cases hfe : fndE f ev with
  | none => rw [unit_none hfe]; simp [genB, slateU, eB]
  | some e =>
    cases hfn : fnd e.it L with
    | none => simp [unitS, hfe, hfn, genB, slateU, eB]
    | some a =>
      cases hp : a.pics[(idxE f e).toNat]? with
      | none => simp [unitS, hfe, hfn, hp, genB, slateU, eB]
      | some p =>
        have h0 := idxE_nn hs hfe
        obtain ⟨k, _, h2, h3⟩ := srch_some (i := 0) hfn
        have h4 := hL a (List.mem_of_getElem? h2)
        rw [h3] at h4
        have h5 : ¬ idxE f e < 0 := by omega
        simp [unitS, hfe, hfn, hp, genB, h4, h5]

theorem unit_hd {ch ve ed c d : Int} {ev : List Evt} {L : List Asset} {f : Int} : (unitS ch ve ed c d ev L f).ch = ch ∧ (unitS ch ve ed c d ev L f).ve = ve ∧ (unitS ch ve ed c d ev L f).fr = f := by
  unfold unitS
  repeat' split
  all_goals exact ⟨rfl, rfl, rfl⟩

def orc4 (X : List Q4) (n : Q4) (L : List Asset) (f : Int) (u : Unit) : Nat → FuncId → List AV → AV := fun d g _ =>
  if g = 8 then .bool true else if g = 14 then .agg (progAV X n) else if g = 9 then (if d = 57 then .gd false .junk else .sl .ro (L.map assetRow)) else if g = 10 then I f else
  if g = 15 then .agg (unitRow u) else if d = 28 then .bool true else .bool false

section
set_option linter.unusedSectionVars false
variable (X : List Q4) (n : Q4) (xs : List Int) (frame : Int) (L : List Asset) (f : Int) (u : Unit) (hu : ok1 u.al = true)
    (hsane : Pure Tryd.prog gl0 8 [] (.bool true)) (hprog : Pure Tryd.prog gl0 14 [.sl .ro (X.map q4Row), .agg (q4Row n)] (.agg (progAV X n)))
    (hlib : Pure Tryd.prog gl0 9 [ints xs] (.sl .ro (L.map assetRow))) (hpk : Pure Tryd.prog gl0 10 [I frame, I 450] (I f))
    (hu1 : Pure Tryd.prog gl0 15 [.agg (progAV X n), .sl .ro (L.map assetRow), I f] (.agg (unitRow u)))
    (hg1 : Pure Tryd.prog gl0 12 [.sl .ro (L.map assetRow), .agg (unitRow u)] (.bool true))
    (hch : u.ch = pickI n.a 40) (hve : u.ve = pickI n.b 100) (hfr : u.fr = f)
include hu hsane hprog hlib hpk hu1 hg1 hch hve hfr

set_option maxRecDepth 100000 in
set_option maxHeartbeats 2000000 in
theorem core4z (h0 : u.it = 0) : Pure Tryd.prog gl0 4 [.sl .ro (X.map q4Row), .agg (q4Row n), ints xs, I frame] (.bool true) := by
  refine pureE code4 (orc4 X n L f u) (by simp) ?_
  rw [unitRow, h0] at hu1 hg1
  have c5 : ∀ m, cvn m 5 u.al = u.al := fun m => cvn_ok1 m 4 hu
  simp [sc4, rs4, orc4, q4Row, progAV, cuesAV, unitRow, isCell_ok1 hu, hch, hve, hfr, h0, c5]
  rw [hch, hve, hfr] at hu1 hg1
  exact ⟨hsane, hprog, hlib, hpk, hu1, hg1, hpk⟩

set_option maxRecDepth 100000 in
set_option maxHeartbeats 4000000 in
theorem core4 (hx : ∀ x ∈ xs, -9223372036854775808 ≤ x ∧ x ≤ 9223372036854775807) (hl : xs.length ≤ 9223372036854775807) (k ix : Nat) (hk : k < 3) (hit : u.it = 7 + (k : Int)) (hix : u.ix = (ix : Int)) (p : Pic) (hp : (libPics xs (7 + k) (nPics (7 + k)))[ix]? = some p) (hsz : p.data.size ≤ 1000)
    (Q : Nat → List Pic) (hQ : ∀ j, Q j = if j = k then (libPics xs (7 + j) (nPics (7 + j))).set ix { p with data := p.data ++ ⟨#[120]⟩ } else libPics xs (7 + j) (nPics (7 + j)))
    (hg2 : Pure Tryd.prog gl0 12 [.sl .ro (([⟨7, Q 0⟩, ⟨8, Q 1⟩, ⟨9, Q 2⟩] : List Asset).map assetRow), .agg (unitRow u)] (.bool false)) :
    Pure Tryd.prog gl0 4 [.sl .ro (X.map q4Row), .agg (q4Row n), ints xs, I frame] (.bool true) := by
  refine pureE code4 (orc4 X n L f u) (by simp) ?_
  have hne : ¬ (7 + (k : Int)) = 0 := by omega
  have hlp : ∀ j, (libPics xs (7 + j) (nPics (7 + j))).length = nPics (7 + j) := fun j => by simp [libPics]
  have hlQ : ∀ j, (Q j).length = nPics (7 + j) := fun j => by rw [hQ j]; split <;> simp [libPics]
  have hixl : ix < nPics (7 + k) := by have := (List.getElem?_eq_some_iff.1 hp).1; rwa [hlp] at this
  have c5 : ∀ m, cvn m 5 u.al = u.al := fun m => cvn_ok1 m 4 hu
  rw [unitRow, hch, hve, hfr, hit] at hu1 hg1 hg2
  simp [sc4, rs4, orc4, q4Row, progAV, cuesAV, unitRow, isCell_ok1 hu, hch, hve, hfr, hit, c5]
  refine ⟨hsane, hprog, hlib, hpk, hu1, hg1, hpk, fun _ => ?_⟩
  refine library_eff Y0 xs hx hl _ _ _ _ _ ?_
  intro idL ids B h3 hM hge hlt hnot hrow
  have hB2 : rowN B 2 = [I (pickI n.a 40), I f, I (pickI n.b 100), I (7 + (k : Int)), I u.ix, .bool u.key, .str u.data, I u.re, I u.ga, .str u.cap, I u.os, I u.of, u.al] := by rw [hM.old 2 (by simp)]; rfl
  have hbl : 3 ≤ B.length := hM.len
  have hbd := hM.bd
  have hpc := hM.pc
  have hnd := hM.nd
  simp only [List.length_cons, List.length_nil] at hge hbd
  clear hM
  obtain ⟨a0, a1, a2, rfl⟩ : ∃ a0 a1 a2, ids = [a0, a1, a2] := by
    match ids, h3 with
    | [a0, a1, a2], _ => exact ⟨a0, a1, a2, rfl⟩
  refine vc_loopE [14, 58, 59, 60, 61, 62, 63, 64, 65, 66, 67, 68, 69, 70, 71, 72, 73, 74, 75, 76, 77, 78, 79, 80, 81, 82, 83, 84, 85, 86, 87, 88, 89, 90, 91, 92, 93, 94, 95, 96, 97, 98, 99, 100, 101, 102]
    (fun g m => ∃ (i : Nat) (B' : List (List AV)), i ≤ 3 ∧ g 14 = I i ∧ m = ⟨B', [], fun _ => .gone, 0⟩ ∧ B'.length = B.length ∧ rowN B' idL = lrow [a0, a1, a2] 0 ∧ rowN B' 2 = rowN B 2 ∧
      ∀ j id, [a0, a1, a2][j]? = some id → rowN B' id = fl (if j < i then Q j else libPics xs (7 + j) (nPics (7 + j)))) (fun g _ => 3 - (numOf (g 14)).toNat) ?_ ?_
  · exact ⟨0, B, by omega, by simp, rfl, rfl, hrow, rfl, fun j id h => by simpa using hpc j id h⟩
  · rintro g m ⟨i, B', hi, h14, rfl, hbl', hrow', hB2', hpc'⟩
    rw [hB2] at hB2'
    by_cases hi3 : i = 3
    · subst hi3
      have hcv := lib_cv ⟨B', [], fun _ => .gone, 0⟩ idL a0 a1 a2 (Q 0) (Q 1) (Q 2) (hlQ 0) (hlQ 1) (hlQ 2) hrow' (by simpa using hpc' 0 a0 rfl) (by simpa using hpc' 1 a1 rfl) (by simpa using hpc' 2 a2 rfl)
      simp [-cvn_bs, h14, hB2', rs4, c5, hcv, orc4]
      exact hg2
    · have hi2 : i < 3 := by omega
      obtain ⟨id, hid⟩ : ∃ id, [a0, a1, a2][i]? = some id := ⟨_, List.getElem?_eq_getElem (by simpa using hi2)⟩
      have hd0 := lrow_drop [a0, a1, a2] 0 i id hid
      have hd1 := lrow_drop1 [a0, a1, a2] 0 i id hid
      generalize hrr : lrow [a0, a1, a2] 0 = LL at hrow' hd0 hd1
      simp only [Nat.zero_add] at hd0 hd1
      have hw1 : IntKind.i64.wrap ((i : Int) + 1) = ((i + 1 : Nat) : Int) := by rw [wrap_in] <;> omega
      have hi2' : (i : Int) < 3 := by omega
      by_cases hik : i = k
      · subst hik
        have hixl' : (ix : Int) < (nPics (7 + i) : Nat) := by omega
        have hcell : rowN B' id = fl (libPics xs (7 + i) (nPics (7 + i))) := by simpa using hpc' i id hid
        obtain ⟨t, ht⟩ := fl_drop _ ix p hp
        have hset := fl_set _ ix p (p.data ++ ⟨#[120]⟩) hp
        have hQi : Q i = (libPics xs (7 + i) (nPics (7 + i))).set ix { p with data := p.data ++ ⟨#[120]⟩ } := by rw [hQ i, if_pos rfl]
        rw [← hQi] at hset
        have hfl : (fl (libPics xs (7 + i) (nPics (7 + i)))).length = nPics (7 + i) * 3 := by rw [fl_len, hlp]
        have hidm : id ∈ [a0, a1, a2] := List.mem_of_getElem? hid
        have hidb := hbd id hidm
        simp [h14, hi2', hi2, hrow', hd0, hd1, hB2', hw1, hix, hixl', hcell, ht, hset, hfl]
        refine ⟨by show p.data.size + 1 ≤ _; omega, ⟨by omega, by omega⟩, ag ?_, ⟨i + 1, by omega, by simp, hbl', ?_, ?_, fun j id' hj => ?_⟩, by omega⟩
        · repeat (first | exact agree_refl _ _ | refine agree_cons _ rfl ?_)
        · rw [gs_ne _ (by rintro rfl; exact hnot hidm)]; exact hrow'
        · rw [gs_ne _ (by omega), hB2', hB2]
        · by_cases hji : j = i
          · subst hji
            rw [hid] at hj
            cases hj
            rw [gs_eq _ (by omega), if_pos (by omega)]
          · have hne' : id ≠ id' := by
              rintro rfl
              have e1 := (List.getElem?_eq_some_iff.1 hj)
              have e2 := (List.getElem?_eq_some_iff.1 hid)
              exact hji ((List.getElem_inj hnd (h₀ := e1.1) (h₁ := e2.1)).1 (e1.2.trans e2.2.symm))
            rw [gs_ne _ hne', hpc' j id' hj]
            congr 1
            by_cases h' : j < i
            · rw [if_pos h', if_pos (by omega)]
            · rw [if_neg h', if_neg (by omega)]
      · have hik' : ¬ (7 + (i : Int)) = 7 + (k : Int) := by omega
        simp [h14, hi2', hi2, hrow', hd0, hd1, hB2', hw1, hik, hik']
        refine ⟨ag ?_, ⟨i + 1, by omega, by simp, hbl', hB2.symm, fun j id' hj => ?_⟩, by omega⟩
        · repeat (first | exact agree_refl _ _ | refine agree_cons _ rfl ?_)
        · rw [hpc' j id' hj]
          congr 1
          by_cases h' : j < i
          · rw [if_pos h', if_pos (by omega)]
          · rw [if_neg h']
            by_cases h'' : j = i
            · rw [if_pos (by omega), hQ j, if_neg (by omega)]
            · rw [if_neg (by omega)]
end

theorem ba_loop_len (bs : ByteArray) : ∀ (n i : Nat) (acc : List UInt8), bs.size - i = n → (ByteArray.toList.loop bs i acc).length = acc.length + n
  | 0, i, acc, h => by
    unfold ByteArray.toList.loop
    rw [if_neg (by omega)]; simp
  | n + 1, i, acc, h => by
    unfold ByteArray.toList.loop
    rw [if_pos (by omega), ba_loop_len bs n (i + 1) _ (by omega)]; simp; omega
theorem ba_len (bs : ByteArray) : bs.toList.length = bs.size := by
  unfold ByteArray.toList; rw [ba_loop_len bs bs.size 0 [] (by omega)]; simp

theorem fnd_libs (xs : List Int) {it : Int} {a : Asset} (h : fnd it (libs xs 3) = some a) : ∃ k, k < 3 ∧ it = 7 + ((k : Nat) : Int) ∧ a.pics = libPics xs (7 + k) (nPics (7 + k)) := by
  obtain ⟨k, _, h2, h3⟩ := srch_some (i := 0) h
  simp [libs] at h2
  obtain ⟨j, h4, rfl⟩ := h2
  have hlt := (List.getElem?_eq_some_iff.1 h4).1
  have hj : k = j := by
    obtain ⟨hlt, h⟩ := List.getElem?_eq_some_iff.1 h4
    simpa using h
  subst hj
  simp at hlt
  exact ⟨k, hlt, by rw [← h3]; simp [libA], rfl⟩

theorem libs_item (xs : List Int) : ∀ a ∈ libs xs 3, a.item ≠ 0 := by
  intro a ha
  simp [libs] at ha
  obtain ⟨j, hj, rfl⟩ := ha
  simp only [libA]; omega

theorem unit_data {ch ve ed c d : Int} {ev : List Evt} {L : List Asset} {f : Int} (hit : (unitS ch ve ed c d ev L f).it ≠ 0) : ∃ e a p, fndE f ev = some e ∧ fnd e.it L = some a ∧ a.pics[(idxE f e).toNat]? = some p ∧ (unitS ch ve ed c d ev L f).it = e.it ∧ (unitS ch ve ed c d ev L f).ix = idxE f e ∧ (unitS ch ve ed c d ev L f).data = p.data := by
  cases hfe : fndE f ev with
  | none => rw [unit_none hfe] at hit; exact absurd rfl hit
  | some e =>
    cases hfn : fnd e.it L with
    | none => simp [unitS, hfe, hfn, slateU] at hit
    | some a =>
      cases hp : a.pics[(idxE f e).toNat]? with
      | none => simp [unitS, hfe, hfn, hp, slateU] at hit
      | some p => exact ⟨e, a, p, rfl, hfn, hp, by simp [unitS, hfe, hfn, hp], by simp [unitS, hfe, hfn, hp], by simp [unitS, hfe, hfn, hp]⟩

theorem libPics_data (xs : List Int) (it n i : Nat) (p : Pic) (h : (libPics xs it n)[i]? = some p) : p.data.size = 3 := by
  simp [libPics] at h
  obtain ⟨j, _, rfl⟩ := h
  rfl

theorem pics_ok (xs : List Int) (k ix : Nat) (hk : k < 3) (p q : Pic) (hp : (libPics xs (7 + k) (nPics (7 + k)))[ix]? = some p) (Q : Nat → List Pic) (hQ : ∀ j, Q j = if j = k then (libPics xs (7 + j) (nPics (7 + j))).set ix q else libPics xs (7 + j) (nPics (7 + j))) :
    BigOK [⟨7, Q 0⟩, ⟨8, Q 1⟩, ⟨9, Q 2⟩] ∧ ∃ a, fnd (7 + (k : Int)) [⟨7, Q 0⟩, ⟨8, Q 1⟩, ⟨9, Q 2⟩] = some a ∧ a.pics[ix]? = some q := by
  have hl : ∀ j, (Q j).length = nPics (7 + j) := fun j => by rw [hQ j]; split <;> simp [libPics]
  have hq : (Q k)[ix]? = some q := by
    rw [hQ k, if_pos rfl]
    exact List.getElem?_set_self (List.getElem?_eq_some_iff.1 hp).1
  refine ⟨⟨by simp, fun a ha => ?_⟩, ?_⟩
  · simp at ha
    rcases ha with rfl | rfl | rfl
    · show (Q 0).length ≤ _; rw [hl 0]; decide
    · show (Q 1).length ≤ _; rw [hl 1]; decide
    · show (Q 2).length ≤ _; rw [hl 2]; decide
  · match k, hk, hq with
    | 0, _, hq => exact ⟨⟨7, Q 0⟩, by simp [fnd], hq⟩
    | 1, _, hq => exact ⟨⟨8, Q 1⟩, by simp [fnd], hq⟩
    | 2, _, hq => exact ⟨⟨9, Q 2⟩, by simp [fnd], hq⟩

set_option maxRecDepth 100000 in
theorem law4 (X : List Q4) (n : Q4) (xs : List Int) (frame : Int) (hX : ∀ x ∈ X, Q4OK x) (hl : X.length ≤ 9223372036854775807) (hn : Q4OK n) (hx : ∀ x ∈ xs, i64 x) (hxl : xs.length ≤ 9223372036854775807) (hf : i64 frame) :
    Pure Tryd.prog gl0 4 [.sl .ro (X.map q4Row), .agg (q4Row n), ints xs, I frame] (.bool true) := by
  have hsane := sane_pure
  have hprog := program_pure X n hX hl hn
  have hlib : Pure Tryd.prog gl0 9 [ints xs] (.sl .ro ((libs xs 3).map assetRow)) := library_pure xs hx hxl
  have hL := libs_pow xs
  have hpk := pick_pure frame 450 hf.1 hf.2 (by omega)
  have hfb := pickI_bd' frame 450 (by omega)
  generalize pickI frame 450 = f at hpk hfb
  obtain ⟨hch, hsm, h14⟩ := events_all X
  have hed := pickI_bd' n.c 60 (by omega)
  have hu1 := unit_pure (pickI n.a 40) (pickI n.b 100) (pickI n.c 60) n.c n.d ⟨by omega, by omega⟩ (events X) (by omega) hsm (libs xs 3) hL f ⟨by omega, by omega⟩
  have oku := unit_al (pickI n.a 40) (pickI n.b 100) (pickI n.c 60) n.c n.d (events X) (libs xs 3) f
  have hgen := unit_gen (ch := pickI n.a 40) (ve := pickI n.b 100) (ed := pickI n.c 60) (c := n.c) (d := n.d) hsm (libs_item xs) (f := f)
  obtain ⟨q1, q2, q3⟩ := unit_hd (ch := pickI n.a 40) (ve := pickI n.b 100) (ed := pickI n.c 60) (c := n.c) (d := n.d) (ev := events X) (L := libs xs 3) (f := f)
  have hdat := unit_data (ch := pickI n.a 40) (ve := pickI n.b 100) (ed := pickI n.c 60) (c := n.c) (d := n.d) (ev := events X) (L := libs xs 3) (f := f)
  generalize unitS (pickI n.a 40) (pickI n.b 100) (pickI n.c 60) n.c n.d (events X) (libs xs 3) f = u at *
  have hg1 := genuine_pure (libs xs 3) u hL.1 oku
  rw [hgen] at hg1
  by_cases h0 : u.it = 0
  · exact core4z X n xs frame (libs xs 3) f u oku hsane hprog hlib hpk hu1 hg1 q1 q2 q3 h0
  · obtain ⟨e, a, p, d1, d2, d3, d4, d5, d6⟩ := hdat h0
    obtain ⟨k, hk, k1, k2⟩ := fnd_libs xs d2
    have hix := idxE_nn hsm d1
    rw [k2] at d3
    have hps := libPics_data _ _ _ _ _ d3
    obtain ⟨Q, hQ⟩ : ∃ Q : Nat → List Pic, ∀ j, Q j = if j = k then (libPics xs (7 + j) (nPics (7 + j))).set (idxE f e).toNat { p with data := p.data ++ ⟨#[120]⟩ } else libPics xs (7 + j) (nPics (7 + j)) := ⟨_, fun _ => rfl⟩
    obtain ⟨hB, a', ha1, ha2⟩ := pics_ok xs k _ hk p _ d3 Q hQ
    have hg2 := genuine_pure _ u hB oku
    have hit : u.it = 7 + (k : Int) := by rw [d4, k1]
    have hfalse : genB [⟨7, Q 0⟩, ⟨8, Q 1⟩, ⟨9, Q 2⟩] u = false := by
      have hne : ¬ u.ix < 0 := by omega
      simp only [genB, if_neg h0]
      rw [hit, ha1]
      simp only [if_neg hne]
      rw [d5, ha2]
      have : ((p.data ++ ⟨#[120]⟩).toList == u.data.toList) = false := by
        rw [d6]
        rw [beq_eq_false_iff_ne]
        intro h
        have := congrArg List.length h
        rw [ba_len, ba_len, ByteArray.size_append] at this
        have h1 : (⟨#[120]⟩ : ByteArray).size = 1 := rfl
        omega
      simp [this]
    rw [hfalse] at hg2
    exact core4 X n xs frame (libs xs 3) f u oku hsane hprog hlib hpk hu1 hg1 q1 q2 q3 hx hxl k (idxE f e).toNat hk hit (by rw [d5]; omega) p d3 (by omega) Q hQ hg2
end Go.Proofs.YtedgjnpaebllpaaDoor
