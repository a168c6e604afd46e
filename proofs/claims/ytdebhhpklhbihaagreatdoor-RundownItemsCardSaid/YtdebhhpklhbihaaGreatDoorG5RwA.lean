/-
  OWN WORK. Contracts for the laws on rundowns: pick, rundown.At.
-/
import Derived.Test.YtdebhhpklhbihaaGreatDoorG5CodeT
import Derived.Test.YtdebhhpklhbihaaGreatDoorG5MF
import Derived.Test.YtdebhhpklhbihaaGreatDoorG5MH
set_option linter.unusedVariables false
set_option linter.unusedSimpArgs false
namespace Go.Proofs.YtdebhhpklhbihaaGreatDoor
open Go Go.Abs


def tblR : List AV := [I 24000, I 1001, I 24, I 0, I 24, I 1, I 24, I 0, I 25, I 1, I 25, I 0, I 30000, I 1001, I 30, I 2, I 30, I 1, I 30, I 0, I 50, I 1, I 50, I 0, I 60000, I 1001, I 60, I 4, I 60, I 1, I 60, I 0]
def gl0 : Nat → AV
  | 0 => .ep tblR 0
  | _ => .junk

def pickI (c n : Int) : Int := (if c < 0 then -(c + 1) else c).tmod n

theorem pick_pure (c n : Int) (h0 : -9223372036854775808 ≤ c) (h1 : c ≤ 9223372036854775807) (hn : n ≠ 0) : Pure Tryz.prog gl0 11 [I c, I n] (I (pickI c n)) := by
  refine pureE code11 (fun _ _ _ => .junk) (by simp) ?_
  have hw1 : c < 0 → IntKind.i64.wrap (c + 1) = c + 1 := fun h => by rw [wrap_in] <;> omega
  have hw2 : c < 0 → IntKind.i64.wrap (-(c + 1)) = -(c + 1) := fun h => by rw [wrap_in] <;> omega
  by_cases h : c < 0
  · simp [sc11, rs11, h, hw1 h, hw2 h, hn, pickI]
  · simp [sc11, rs11, h, hn, pickI]

theorem drop_cons {α : Type} {l : List α} {i : Nat} {a : α} (h : l[i]? = some a) : l.drop i = a :: l.drop (i + 1) := by
  obtain ⟨h1, h2⟩ := List.getElem?_eq_some_iff.1 h
  rw [List.drop_eq_getElem_cons h1, h2]

theorem pickI_bd' (c n : Int) (hn : 0 < n) : 0 ≤ pickI c n ∧ pickI c n < n := by
  unfold pickI
  have h0 : 0 ≤ (if c < 0 then -(c + 1) else c) := by split <;> omega
  rw [Int.tmod_eq_emod_of_nonneg h0]
  exact ⟨Int.emod_nonneg _ (by omega), Int.emod_lt_of_pos _ hn⟩
structure Evt where
  id : Int
  it : Int
  st : Int
  fr : Int
  i : Int
  re : Int
  al : Option Int
theorem cloneN_pure : Pure Tryz.prog gl0 39 [.sl .nil []] (.sl .nil []) := by
  refine pureE code39 (fun _ _ _ => .junk) (by simp) ?_
  simp [sc39, rs39]
end Go.Proofs.YtdebhhpklhbihaaGreatDoor
