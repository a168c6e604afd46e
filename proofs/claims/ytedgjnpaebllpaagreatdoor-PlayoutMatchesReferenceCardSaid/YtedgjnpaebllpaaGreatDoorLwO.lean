/-
  OWN WORK. Contracts: caption.Active, captionstream.sender and Code.
-/
import Derived.Test.YtedgjnpaebllpaaGreatDoorLwE
import Derived.Test.YtedgjnpaebllpaaGreatDoorMF
set_option linter.unusedVariables false
set_option linter.unusedSimpArgs false
namespace Go.Proofs.YtedgjnpaebllpaaGreatDoor
open Go Go.Abs

structure Cue where
  id : Int
  fr : Int
  to : Int
  pr : Int
  tx : ByteArray
def cueRow (c : Cue) : List AV := [I c.id, I c.fr, I c.to, I c.pr, .str c.tx]
def eB : ByteArray := ⟨#[]⟩
def zCue : Cue := ⟨0, 0, 0, 0, eB⟩

def codeS (k p a b : Int) : ByteArray := ⟨#[UInt8.ofNat (IntKind.u8.wrap (IntKind.i64.wrap (IntKind.i64.wrap (k * 64) + p))).toNat, UInt8.ofNat a.toNat, UInt8.ofNat b.toNat]⟩

theorem code_pure (k p a b : Int) : Pure Tryz.prog gl0 39 [I k, I p, .int .u8 a, .int .u8 b] (.str (codeS k p a b)) := by
  refine pureE code39 (fun _ _ _ => .junk) (by simp) ?_
  simp [sc39, rs39, codeS]

/-- Which cue is shown. -/
def pref (b : Option Cue) (x : Cue) : Bool := match b with
  | none => true
  | some b => if x.pr ≠ b.pr then decide (b.pr < x.pr) else if x.fr ≠ b.fr then decide (b.fr < x.fr) else decide (b.id ≤ x.id)
def actStep (f : Int) (b : Option Cue) (x : Cue) : Option Cue := if x.fr ≤ f ∧ f < x.to ∧ pref b x = true then some x else b
def actv (f : Int) (l : List Cue) : Option Cue := l.foldl (actStep f) none
theorem actv_mem (f : Int) : ∀ (l : List Cue) (b : Option Cue) (c : Cue), l.foldl (actStep f) b = some c → b = some c ∨ c ∈ l
  | [], _, _, h => .inl h
  | x :: r, b, c, h => by
    rcases actv_mem f r _ c h with h1 | h1
    · unfold actStep at h1
      split at h1
      · cases h1; exact .inr (by simp)
      · exact .inl h1
    · exact .inr (by simp [h1])

set_option maxRecDepth 100000 in
theorem pref_eff (Y : YT) (x : Cue) (b : Option Cue) (m : AM) (r0 : List AV) (rest : List (List AV)) (hm : m.boxes = r0 :: cueRow (b.getD zCue) :: [.bool b.isSome] :: rest) (K : AV → AM → Prop)
    (hK : K (.bool (pref b x)) { m with boxes := r0 :: cueRow (b.getD zCue) :: [.bool b.isSome] :: (rest ++ [cueRow x]) }) : EffY Tryz.prog gl0 Y 75 [.agg (cueRow x), .ptr 2 0, .ptr 1 0] m K := by
  refine effE code75 (fun _ _ _ => .junk) (by simp) ?_
  cases b with
  | none =>
    simp only [Option.getD_none, Option.isSome_none, pref] at hm hK
    simp [sc75, rs75, hm, cueRow]
    simpa [cueRow] using hK
  | some c =>
    simp only [Option.getD_some, Option.isSome_some, pref] at hm hK
    by_cases h1 : x.pr = c.pr
    · by_cases h2 : x.fr = c.fr
      · simp only [h1, h2, ne_eq, not_true_eq_false, if_false] at hK
        simp [sc75, rs75, hm, cueRow, h1, h2]
        simpa [cueRow, h1, h2] using hK
      · simp only [h1, h2, ne_eq, not_true_eq_false, not_false_eq_true, if_false, if_true] at hK
        simp [sc75, rs75, hm, cueRow, h1, h2]
        simpa [cueRow, h1, h2] using hK
    · simp only [h1, ne_eq, not_false_eq_true, if_true] at hK
      simp [sc75, rs75, hm, cueRow, h1]
      simpa [cueRow] using hK

def orc58 : Nat → FuncId → List AV → AV := fun _ f _ => if f = 75 then .gd false .junk else .junk

set_option maxRecDepth 100000 in
set_option maxHeartbeats 1000000 in
theorem active_pure (l : List Cue) (rt : Rt) (f : Int) (hl : l.length ≤ 1000000000) : Pure Tryz.prog gl0 63 [.sl rt (l.map cueRow), I f] (.tup [.agg (cueRow ((actv f l).getD zCue)), .bool (actv f l).isSome]) := by
  refine pureE code63 orc58 (by simp) ?_
  simp [sc63, rs63]
  refine vc_loopE [10, 14, 15, 16, 17, 18, 19, 20, 21, 22, 23, 24, 25, 26, 27, 28, 29, 30, 31, 32, 33, 34] (fun s m => ∃ i : Nat, s 14 = I i ∧ i ≤ l.length ∧ ∃ rest, m = ⟨cueRow zCue :: cueRow (((l.take i).foldl (actStep f) none).getD zCue) :: [.bool ((l.take i).foldl (actStep f) none).isSome] :: rest, [], fun _ => .gone, 0⟩) (fun s m => l.length - (numOf (s 14)).toNat) ?_ ?_
  · exact ⟨0, by simp, by omega, [], by simp [cueRow, zCue, eB]⟩
  · rintro s m ⟨i, hi, hle, rest, rfl⟩
    rcases Nat.lt_or_ge i l.length with hlt | hge
    · obtain ⟨a, ha⟩ : ∃ a, l[i]? = some a := ⟨l[i], List.getElem?_eq_getElem hlt⟩
      have hrow : rowN (l.map cueRow) i = cueRow a := rowN_eq (by simp [ha])
      have hw : IntKind.i64.wrap ((i : Int) + 1) = ((i + 1 : Nat) : Int) := by rw [wrap_in] <;> omega
      have htk : (l.take (i + 1)).foldl (actStep f) none = actStep f ((l.take i).foldl (actStep f) none) a := by
        rw [List.take_add_one, ha]; simp [List.foldl_append]
      generalize (l.take i).foldl (actStep f) none = b at htk
      by_cases h1 : a.fr ≤ f
      · by_cases h2 : f < a.to
        · simp [hi, hrow, hlt, hw, cueRow, h1, h2, orc58]
          refine pref_eff _ a b _ _ _ rfl _ ?_
          cases hp : pref b a with
          | true =>
            simp [cueRow]
            refine ⟨ag ?_, ⟨i + 1, by simp, by omega, ?_⟩, by omega⟩
            · repeat (first | exact agree_refl _ _ | refine agree_cons _ rfl ?_)
            · rw [htk]
              simp [actStep, h1, h2, hp, cueRow]
          | false =>
            simp [cueRow]
            refine ⟨ag ?_, ⟨i + 1, by simp, by omega, ?_⟩, by omega⟩
            · repeat (first | exact agree_refl _ _ | refine agree_cons _ rfl ?_)
            · rw [htk]
              simp [actStep, h1, h2, hp, cueRow]
        · simp [hi, hrow, hlt, hw, cueRow, h1, h2, orc58]
          refine ⟨ag ?_, ⟨i + 1, by simp, by omega, ?_⟩, by omega⟩
          · repeat (first | exact agree_refl _ _ | refine agree_cons _ rfl ?_)
          · rw [htk]
            simp [actStep, h1, h2, cueRow]
      · simp [hi, hrow, hlt, hw, cueRow, h1, orc58]
        refine ⟨ag ?_, ⟨i + 1, by simp, by omega, ?_⟩, by omega⟩
        · repeat (first | exact agree_refl _ _ | refine agree_cons _ rfl ?_)
        · rw [htk]
          simp [actStep, h1, cueRow]
    · have htk : l.take i = l := List.take_of_length_le hge
      rw [htk]
      simp [hi, Nat.not_lt.2 hge]
      refine vc_drawM ?_
      simp [cueRow, actv]
end Go.Proofs.YtedgjnpaebllpaaGreatDoor
