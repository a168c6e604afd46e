/-
  OWN WORK. The document's example, and levels for runs by the kernel.
-/
import Derived.Test.YtdebhhpklhbihaaGreatDoorG7RwA
import Derived.Test.YtdebhhpklhbihaaGreatDoorG7CodeT
set_option linter.unusedVariables false
set_option linter.unusedSimpArgs false
namespace Go.Proofs.YtdebhhpklhbihaaGreatDoor
open Go Go.Abs

def exPl : AV := .agg [I 0, I 25, I 1, I 0, .sl .nil [], I 0, I 2, I 100, I 1, .sl .ro [[I 1, I 5, I 30, I 0, I 0], [I 12, I 1, I 40, I 0, I 0]], .sl .ro [[I 5, I 12, I 40, I 0, I 60, I 0, .sl .nil []]], .sl .nil [], .sl .ro [[I 1, I 12, I 0, I 1000, I 1, I 0, I 0, I 0]]]
def exA : List AV := [I 0, I 1, I 0, I 30, I 0, I 3, .sl .nil []]
def exB : List AV := [I 0, I 1, I 30, I 5, I 0, I 3, .sl .nil []]
def exC : List AV := [I 5, I 12, I 35, I 40, I 0, I 1, .sl .nil []]
def exD : List AV := [I 0, I 1, I 75, I 25, I 0, I 3, .sl .nil []]
def lvlL : List (Nat × Nat) := [(35, 0), (207, 0), (146, 0), (117, 0), (28, 0), (71, 1), (36, 2), (32, 3), (14, 3), (74, 0), (233, 0), (204, 1), (165, 2), (999999, 77)]
def lvlF : List (Nat × Nat) → Nat → Nat
  | [], _ => 100
  | (f, k) :: r, g => bif Nat.beq f g then k else lvlF r g
def lvl : FuncId → Nat := fun f => lvlF lvlL f
theorem ex_pure : Pure Tryz.prog gl0 27 [] exPl := pure_run tab_ok lvl 3000 4 (by kernel_rfl) rfl
theorem ex_same1 : Pure Tryz.prog gl0 28 [.sl .ro [exA, exB, exC, exD], .sl .ro [exA, exB, exC, exD]] (.bool true) := pure_run tab_ok lvl 3000 4 (by kernel_rfl) rfl
theorem ex_same2 : Pure Tryz.prog gl0 28 [.sl .ro [exA, exB, exC, exD], .sl .ro [exB, exC, exD]] (.bool false) := pure_run tab_ok lvl 3000 4 (by kernel_rfl) rfl
theorem ex_at : Pure Tryz.prog gl0 16 [.sl .ro [exA, exB, exC, exD], I 40] (.tup [.agg exC, I 5, .bool true]) := pure_run tab_ok lvl 3000 4 (by kernel_rfl) rfl
theorem ex_before : Pure Tryz.prog gl0 18 [.sl .ro [exA, exB, exC, exD], I 50] (.sl .ro [exA, exB, [I 5, I 12, I 35, I 15, I 0, I 1, .sl .nil []]]) := pure_run tab_ok lvl 3000 4 (by kernel_rfl) rfl
theorem ex_aired1 : Pure Tryz.prog gl0 29 [.sl .ro [exA, exB, exC, exD], I 50] (.sl .ro [[I 12, I 0, I 35, I 15]]) := pure_run tab_ok lvl 3000 4 (by kernel_rfl) rfl
theorem ex_aired2 : Pure Tryz.prog gl0 29 [.sl .ro [exA, exB, exC, exD], I 35] (.sl .nil []) := pure_run tab_ok lvl 3000 4 (by kernel_rfl) rfl
end Go.Proofs.YtdebhhpklhbihaaGreatDoor
