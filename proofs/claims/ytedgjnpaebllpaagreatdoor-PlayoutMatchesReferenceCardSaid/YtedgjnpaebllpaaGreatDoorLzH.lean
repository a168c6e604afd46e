/-
  OWN WORK. The contracts of the reference's Unit and Slate (onairref19).
-/
import Derived.Test.YtedgjnpaebllpaaGreatDoorLzB
import Derived.Test.YtedgjnpaebllpaaGreatDoorLzC
import Derived.Test.YtedgjnpaebllpaaGreatDoorLzD
import Derived.Test.YtedgjnpaebllpaaGreatDoorLzG
import Derived.Test.YtedgjnpaebllpaaGreatDoorLwV
import Derived.Test.YtedgjnpaebllpaaGreatDoorLwZ
set_option linter.unusedVariables false
set_option linter.unusedSimpArgs false
namespace Go.Proofs.YtedgjnpaebllpaaGreatDoor
open Go Go.Abs

theorem rslate_pure (ch f : Int) : Pure Tryz.prog gl0 14 [I ch, I f] (.agg (unitRow (slateU ch 0 f))) := by
  refine pureE code14 (fun _ _ _ => .junk) (by simp) ?_
  simp [sc14, rs14, unitRow, slateU, code1, eB]

def orc10 (sl fe fa : AV) (g : Int) (cap : ByteArray) (o : Opt) : Nat → FuncId → List AV → AV := fun _ k _ =>
  if k = 14 then sl else if k = 23 then fe else if k = 24 then fa else if k = 12 then I g else if k = 25 then .str cap else .agg (ownRow o)

set_option maxRecDepth 100000 in
set_option maxHeartbeats 4000000 in
theorem runit_pure (ch ve ed c d : Int) (hed : 0 ≤ ed ∧ ed ≤ 1000000) (ev : List Evt) (hl : ev.length ≤ 1000000000) (hs : ∀ e ∈ ev, Small e) (L : List Asset) (hL : LibOK L) (f : Int) (hf : -1000000 ≤ f ∧ f ≤ 900000) :
    Pure Tryz.prog gl0 10 [.agg (pgRow ch ve ed (.sl .ro (ev.map evtRow)) (.sl .full ((cues c d).map cueRow))), .sl .ro (L.map assetRow), I f] (.agg (unitRow (unitS ch ve ed c d ev L f))) := by
  have hsl := rslate_pure ch f
  have hat := rat_pure ev f hl hs ⟨by omega, by omega⟩
  cases hfe : fndE f ev with
  | none =>
    have hfd0 : Pure Tryz.prog gl0 24 [.sl .ro (L.map assetRow), I 0] (foundA (fnd 0 L)) := refFind_pure L 0 hL.1
    rw [hfe] at hat
    cases hf0 : fnd 0 L with
    | none =>
      rw [hf0] at hfd0
      refine pureE code10 (orc10 (.agg (unitRow (slateU ch 0 f))) zeroE zeroA 0 eB zO) (by simp) ?_
      simp [sc10, rs10, orc10, pgRow, unitRow, slateU, zeroE, zeroA, unitS, hfe]
      exact ⟨hsl, hat, hfd0⟩
    | some a =>
      rw [hf0] at hfd0
      refine pureE code10 (orc10 (.agg (unitRow (slateU ch 0 f))) zeroE (foundA (some a)) 0 eB zO) (by simp) ?_
      simp [sc10, rs10, orc10, pgRow, unitRow, slateU, zeroE, foundA, assetRow, unitS, hfe]
      exact ⟨hsl, hat, hfd0⟩
  | some e =>
    obtain ⟨hmem, hon⟩ := fndE_on hfe
    have hon' : e.st ≤ f ∧ f < e.st + e.fr := by simpa [onB] using hon
    have hsm := hs e hmem
    obtain ⟨⟨a1, a2⟩, ⟨a3, a4⟩, a5, a6⟩ := hsm
    have hfd : Pure Tryz.prog gl0 24 [.sl .ro (L.map assetRow), I e.it] (foundA (fnd e.it L)) := refFind_pure L e.it hL.1
    rw [hfe] at hat
    have e0 : ¬ e.i + f - e.st < 0 := by omega
    cases hfn : fnd e.it L with
    | none =>
      rw [hfn] at hfd
      refine pureE code10 (orc10 (.agg (unitRow (slateU ch 0 f))) (foundE f (some e)) zeroA 0 eB zO) (by simp) ?_
      cases hal : e.al with
      | false =>
        simp [foundE, hal, alC] at hat
        simp [sc10, rs10, orc10, pgRow, unitRow, slateU, foundE, hal, alC, zeroA, unitS, hfe, hfn]
        exact ⟨hsl, hat, hfd⟩
      | true =>
        simp [foundE, hal, alC] at hat
        simp [sc10, rs10, orc10, pgRow, unitRow, slateU, foundE, hal, alC, zeroA, unitS, hfe, hfn]
        exact ⟨hsl, hat, hfd⟩
    | some a =>
      rw [hfn] at hfd
      have hfd' : Pure Tryz.prog gl0 24 [.sl .ro (L.map assetRow), I e.it] (.tup [.agg [I a.item, .sl .ro (a.pics.map picRow)], .bool true]) := hfd
      cases hp : a.pics[(idxE f e).toNat]? with
      | none =>
        have hge : a.pics.length ≤ (idxE f e).toNat := by
          rcases Nat.lt_or_ge (idxE f e).toNat a.pics.length with h | h
          · rw [List.getElem?_eq_getElem h] at hp; cases hp
          · exact h
        have e1 : (a.pics.length : Int) ≤ e.i + f - e.st := by unfold idxE at hge; omega
        refine pureE code10 (orc10 (.agg (unitRow (slateU ch 0 f))) (foundE f (some e)) (foundA (some a)) 0 eB zO) (by simp) ?_
        cases hal : e.al with
        | false =>
          simp [foundE, hal, alC] at hat
          simp [sc10, rs10, orc10, pgRow, unitRow, slateU, foundE, hal, alC, foundA, assetRow, unitS, hfe, hfn, hp, e0, e1]
          exact ⟨hsl, hat, hfd'⟩
        | true =>
          simp [foundE, hal, alC] at hat
          simp [sc10, rs10, orc10, pgRow, unitRow, slateU, foundE, hal, alC, foundA, assetRow, unitS, hfe, hfn, hp, e0, e1]
          exact ⟨hsl, hat, hfd'⟩
      | some p =>
        have hlt : (idxE f e).toNat < a.pics.length := (List.getElem?_eq_some_iff.1 hp).1
        have e1 : ¬ (a.pics.length : Int) ≤ e.i + f - e.st := by unfold idxE at hlt; omega
        have e2 : e.i + f - e.st < (a.pics.length : Int) := by omega
        have e3 : (0 : Int) ≤ e.i + f - e.st := by omega
        have hp' : a.pics[(e.i + f - e.st).toNat]? = some p := hp
        have hrow : rowN (a.pics.map picRow) (e.i + f - e.st).toNat = picRow p := rowN_eq (by simp only [idxE] at hp; simp [hp])
        have hga := rGain_pure L hL ev f hl hs ⟨by omega, by omega⟩ ch ve ed (.sl .full ((cues c d).map cueRow)) rfl
        have hnx := rnext_opt_pure ev f hl hs ⟨by omega, by omega⟩
        have hog : 0 ≤ orgI e ed ∧ orgI e ed ≤ 1000000 := by unfold orgI; split <;> omega
        have hco := rcode_pure blkF (cues c d) (by simp [cues]) (cues_ok c d) (rcues_ok c d) (orgI e ed) f hog.1 hog.2 (by omega) (by omega)
        have w1 : IntKind.i64.wrap (e.st - e.i) = e.st - e.i := by rw [wrap_in] <;> omega
        have horg : (if e.st - e.i < ed then ed else e.st - e.i) = orgI e ed := rfl
        refine pureE code10 (orc10 (.agg (unitRow (slateU ch 0 f))) (foundE f (some e)) (foundA (some a)) (gainF L (begs f ev) 1000) (codeR blkF (cues c d) (orgI e ed) f) (nextS f ev)) (by simp) ?_
        cases hal : e.al with
        | false =>
          simp [foundE, hal, alC] at hat
          simp [sc10, rs10, orc10, pgRow, unitRow, slateU, foundE, hal, alC, foundA, assetRow, unitS, hfe, hfn, hp, e0, e1, e2, e3, hrow, picRow, ownRow, alO, idxE, hp', w1, horg]
          exact ⟨hsl, hat, hfd', (by omega), hga, hco, hnx⟩
        | true =>
          simp [foundE, hal, alC] at hat
          simp [sc10, rs10, orc10, pgRow, unitRow, slateU, foundE, hal, alC, foundA, assetRow, unitS, hfe, hfn, hp, e0, e1, e2, e3, hrow, picRow, ownRow, alO, idxE, hp', w1, horg]
          exact ⟨hsl, hat, hfd', (by omega), hga, hco, hnx⟩
end Go.Proofs.YtedgjnpaebllpaaGreatDoor
