/-
  OWN WORK. Contracts for the laws on rundowns: pick, rundown.At.
-/
import Derived.Test.YtdebhhpklhbihaaGreatDoorG7CodeT
import Derived.Test.YtdebhhpklhbihaaGreatDoorG7MF
import Derived.Test.YtdebhhpklhbihaaGreatDoorG7MH
set_option linter.unusedVariables false
set_option linter.unusedSimpArgs false
namespace Go.Proofs.YtdebhhpklhbihaaGreatDoor
open Go Go.Abs


def tblR : List AV := [I 24000, I 1001, I 24, I 0, I 24, I 1, I 24, I 0, I 25, I 1, I 25, I 0, I 30000, I 1001, I 30, I 2, I 30, I 1, I 30, I 0, I 50, I 1, I 50, I 0, I 60000, I 1001, I 60, I 4, I 60, I 1, I 60, I 0]
def gl0 : Nat → AV
  | 0 => .ep tblR 0
  | _ => .junk

theorem drop_cons {α : Type} {l : List α} {i : Nat} {a : α} (h : l[i]? = some a) : l.drop i = a :: l.drop (i + 1) := by
  obtain ⟨h1, h2⟩ := List.getElem?_eq_some_iff.1 h
  rw [List.drop_eq_getElem_cons h1, h2]

structure Evt where
  id : Int
  it : Int
  st : Int
  fr : Int
  i : Int
  re : Int
  al : Option Int
theorem cloneN_pure : Pure Tryz.prog gl0 39 [.sl .nil []] (.sl .nil []) := by
  refine pureE code39 (fun _ _ _ => .junk) (by simp) ?_
  simp [sc39, rs39]
def SmallF (f : Int) : Prop := -1000000 ≤ f ∧ f ≤ 1000000

theorem wu (n : Int) (h : 0 ≤ n) (h' : n ≤ 2000000) : IntKind.u64.wrap n = n := by
  simp [IntKind.wrap, IntKind.bits, IntKind.signed]; omega

def zeroE : AV := .tup [.agg [I 0, I 0, I 0, I 0, I 0, I 0, .sl .nil []], I 0, .bool false]
end Go.Proofs.YtdebhhpklhbihaaGreatDoor
