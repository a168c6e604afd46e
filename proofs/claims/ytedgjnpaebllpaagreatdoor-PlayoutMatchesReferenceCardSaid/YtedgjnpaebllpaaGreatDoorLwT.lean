/-
  OWN WORK. The contract of playout.Unit.
-/
import Derived.Test.YtedgjnpaebllpaaGreatDoorLwP
import Derived.Test.YtedgjnpaebllpaaGreatDoorLwR4
import Derived.Test.YtedgjnpaebllpaaGreatDoorLwM
set_option linter.unusedVariables false
set_option linter.unusedSimpArgs false
namespace Go.Proofs.YtedgjnpaebllpaaGreatDoor
open Go Go.Abs

theorem codeN_pure (f : Int) : Pure Tryz.prog gl0 20 [.sl .nil [], I f, I f] (.str (codeS 1 0 0 0)) := by
  have c1 := code_pure 1 0 0 0
  refine pureE code20 orc28 (by simp) ?_
  simp [sc20, rs20, orc28]
  exact c1

def slateU (ch ve f : Int) : Unit := ⟨ch, f, ve, 0, 0, true, eB, 255, 1000, codeS 1 0 0 0, 0, 0, .sl .nil []⟩
theorem slate_pure (ch f : Int) : Pure Tryz.prog gl0 13 [I ch, I f] (.agg (unitRow (slateU ch 0 f))) := by
  have h := codeN_pure f
  refine pureE code13 (fun _ _ _ => .str (codeS 1 0 0 0)) (by simp) ?_
  simp [sc13, rs13, unitRow, slateU]
  exact ⟨h, rfl⟩

/-- A program's cells. -/
def pgRow (ch ve ed : Int) (ev cu : AV) : List AV := [I ch, I 0, I 0, I 0, .sl .nil [], I 0, I 0, I 0, I 0, .sl .nil [], .sl .nil [], .sl .nil [], .sl .nil [], ev, cu, I ed, .sl .nil [], I ve]

def orgI (e : Evt) (ed : Int) : Int := if e.st - e.i < ed then ed else e.st - e.i
set_option maxRecDepth 100000 in
theorem origin_pure (ch ve ed : Int) (ev cu : AV) (hev : ok1 ev = true) (hcu : ok1 cu = true) (e : Evt) (h : Small e) (al : AV) (hal : ok1 al = true) :
    Pure Tryz.prog gl0 21 [.agg (pgRow ch ve ed ev cu), .agg [I e.id, I e.it, I e.st, I e.fr, I e.i, I e.re, al]] (I (orgI e ed)) := by
  refine pureE code21 (fun _ _ _ => .junk) (by simp) ?_
  obtain ⟨⟨a1, a2⟩, ⟨a3, a4⟩, a5, a6⟩ := h
  have w1 : IntKind.i64.wrap (e.st - e.i) = e.st - e.i := by rw [wrap_in] <;> omega
  have w2 : IntKind.i64.wrap (-9223372036854775808 + e.i) = -9223372036854775808 + e.i := by rw [wrap_in] <;> omega
  have e1 : ¬ e.st < -9223372036854775808 + e.i := by omega
  by_cases h0 : 0 < e.i
  · simp [sc21, rs21, pgRow, isCell_ok1 hev, isCell_ok1 hcu, isCell_ok1 hal, h0, w1, w2, e1, orgI]
  · simp [sc21, rs21, pgRow, isCell_ok1 hev, isCell_ok1 hcu, isCell_ok1 hal, h0, w1, orgI]

def idxE (f : Int) (e : Evt) : Int := e.i + f - e.st
/-- What a feed shows. -/
def unitS (ch ve ed c d : Int) (ev : List Evt) (L : List Asset) (f : Int) : Unit := match fndE f ev with
  | none => slateU ch ve f
  | some e => match fnd e.it L with
    | none => slateU ch ve f
    | some a => match a.pics[(idxE f e).toNat]? with
      | none => slateU ch ve f
      | some p => ⟨ch, f, ve, e.it, idxE f e, p.key, p.data, e.re, gainF L (begs f ev) 1000, codeR blkF (cues c d) (orgI e ed) f, (nextS f ev).st, (nextS f ev).fr, alO (nextS f ev).al⟩

def orc15 (sl fe fa : AV) (g : Int) (og : Int) (cap : ByteArray) (o : Opt) : Nat → FuncId → List AV → AV := fun _ k _ =>
  if k = 13 then sl else if k = 18 then fe else if k = 19 then fa else if k = 11 then I g else if k = 21 then I og else if k = 20 then .str cap else .agg (ownRow o)

theorem fndE_on {f : Int} {ev : List Evt} {e : Evt} (h : fndE f ev = some e) : e ∈ ev ∧ onB f e = true := by
  obtain ⟨k, _, h2, h3⟩ := srchE_some (i := 0) h
  exact ⟨List.mem_of_getElem? h2, h3⟩

set_option maxRecDepth 100000 in
set_option maxHeartbeats 2000000 in
theorem unit_pure (ch ve ed c d : Int) (hed : 0 ≤ ed ∧ ed ≤ 1000000) (ev : List Evt) (hl : ev.length ≤ 1000000000) (hs : ∀ e ∈ ev, Small e) (L : List Asset) (hL : LibOK L) (f : Int) (hf : -1000000 ≤ f ∧ f ≤ 900000) :
    Pure Tryz.prog gl0 9 [.agg (pgRow ch ve ed (.sl .ro (ev.map evtRow)) (.sl .full ((cues c d).map cueRow))), .sl .ro (L.map assetRow), I f] (.agg (unitRow (unitS ch ve ed c d ev L f))) := by
  have hsl := slate_pure ch f
  have hat := at_pure ev f hl hs ⟨by omega, by omega⟩
  cases hfe : fndE f ev with
  | none =>
    rw [hfe] at hat
    refine pureE code9 (orc15 (.agg (unitRow (slateU ch 0 f))) zeroE zeroA 0 0 eB zO) (by simp) ?_
    simp [sc9, rs9, orc15, pgRow, unitRow, slateU, zeroE, unitS, hfe]
    exact ⟨hsl, hat⟩
  | some e =>
    obtain ⟨hmem, hon⟩ := fndE_on hfe
    have hon' : e.st ≤ f ∧ f < e.st + e.fr := by simpa [onB] using hon
    have hsm := hs e hmem
    obtain ⟨⟨a1, a2⟩, ⟨a3, a4⟩, a5, a6⟩ := hsm
    have hfd := find_pure L e.it hL.1
    rw [hfe] at hat
    have e0 : ¬ e.i + f - e.st < 0 := by omega
    cases hfn : fnd e.it L with
    | none =>
      rw [hfn] at hfd
      refine pureE code9 (orc15 (.agg (unitRow (slateU ch 0 f))) (foundE f (some e)) zeroA 0 0 eB zO) (by simp) ?_
      cases hal : e.al with
      | false =>
        simp [foundE, hal, alC] at hat
        simp [sc9, rs9, orc15, pgRow, unitRow, slateU, foundE, hal, alC, zeroA, unitS, hfe, hfn]
        exact ⟨hsl, hat, hfd⟩
      | true =>
        simp [foundE, hal, alC] at hat
        simp [sc9, rs9, orc15, pgRow, unitRow, slateU, foundE, hal, alC, zeroA, unitS, hfe, hfn]
        exact ⟨hsl, hat, hfd⟩
    | some a =>
      rw [hfn] at hfd
      have hfd' : Pure Tryz.prog gl0 19 [.sl .ro (L.map assetRow), I e.it] (.tup [.agg [I a.item, .sl .ro (a.pics.map picRow)], .bool true]) := hfd
      cases hp : a.pics[(idxE f e).toNat]? with
      | none =>
        have hge : a.pics.length ≤ (idxE f e).toNat := by
          rcases Nat.lt_or_ge (idxE f e).toNat a.pics.length with h | h
          · rw [List.getElem?_eq_getElem h] at hp; cases hp
          · exact h
        have e1 : (a.pics.length : Int) ≤ e.i + f - e.st := by unfold idxE at hge; omega
        refine pureE code9 (orc15 (.agg (unitRow (slateU ch 0 f))) (foundE f (some e)) (foundA (some a)) 0 0 eB zO) (by simp) ?_
        cases hal : e.al with
        | false =>
          simp [foundE, hal, alC] at hat
          simp [sc9, rs9, orc15, pgRow, unitRow, slateU, foundE, hal, alC, foundA, assetRow, unitS, hfe, hfn, hp, e0, e1]
          exact ⟨hsl, hat, hfd'⟩
        | true =>
          simp [foundE, hal, alC] at hat
          simp [sc9, rs9, orc15, pgRow, unitRow, slateU, foundE, hal, alC, foundA, assetRow, unitS, hfe, hfn, hp, e0, e1]
          exact ⟨hsl, hat, hfd'⟩
      | some p =>
        have hlt : (idxE f e).toNat < a.pics.length := (List.getElem?_eq_some_iff.1 hp).1
        have e1 : ¬ (a.pics.length : Int) ≤ e.i + f - e.st := by unfold idxE at hlt; omega
        have e2 : e.i + f - e.st < (a.pics.length : Int) := by omega
        have e3 : (0 : Int) ≤ e.i + f - e.st := by omega
        have hp' : a.pics[(e.i + f - e.st).toNat]? = some p := hp
        have hrow : rowN (a.pics.map picRow) (e.i + f - e.st).toNat = picRow p := rowN_eq (by simp only [idxE] at hp; simp [hp])
        have hga := gain_pure L hL ev f hl hs ⟨by omega, by omega⟩ ch ve ed (.sl .full ((cues c d).map cueRow)) rfl
        have hnx := next30_pure ev f hl hs
        have hog : 0 ≤ orgI e ed ∧ orgI e ed ≤ 1000000 := by unfold orgI; split <;> omega
        have hco := code28_pure blkF (cues c d) (by simp [cues]) (cues_ok c d) (orgI e ed) f hog.1 hog.2 (by omega) (by omega)
        refine pureE code9 (orc15 (.agg (unitRow (slateU ch 0 f))) (foundE f (some e)) (foundA (some a)) (gainF L (begs f ev) 1000) (orgI e ed) (codeR blkF (cues c d) (orgI e ed) f) (nextS f ev)) (by simp) ?_
        cases hal : e.al with
        | false =>
          have hor := origin_pure ch ve ed (.sl .ro (ev.map evtRow)) (.sl .full ((cues c d).map cueRow)) rfl rfl e ⟨⟨a1, a2⟩, ⟨a3, a4⟩, a5, a6⟩ (.sl .nil []) rfl
          simp [foundE, hal, alC] at hat
          simp [sc9, rs9, orc15, pgRow, unitRow, slateU, foundE, hal, alC, foundA, assetRow, unitS, hfe, hfn, hp, e0, e1, e2, e3, hrow, picRow, ownRow, alO, idxE, hp']
          exact ⟨hsl, hat, hfd', (by omega), hga, hor, hco, hnx⟩
        | true =>
          have hor := origin_pure ch ve ed (.sl .ro (ev.map evtRow)) (.sl .full ((cues c d).map cueRow)) rfl rfl e ⟨⟨a1, a2⟩, ⟨a3, a4⟩, a5, a6⟩ (.sl .ro [[I 1, I 8]]) rfl
          simp [foundE, hal, alC] at hat
          simp [sc9, rs9, orc15, pgRow, unitRow, slateU, foundE, hal, alC, foundA, assetRow, unitS, hfe, hfn, hp, e0, e1, e2, e3, hrow, picRow, ownRow, alO, idxE, hp']
          exact ⟨hsl, hat, hfd', (by omega), hga, hor, hco, hnx⟩
end Go.Proofs.YtedgjnpaebllpaaGreatDoor
