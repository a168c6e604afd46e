/-
  OWN WORK. Rules for drawn regions with one effect.
-/
import Derived.Test.YtedgjnpaebllpaaDoorAbs15e
namespace Go.Abs
open Go

section
variable (P : Program) (gl : Nat → AV) (orc : Nat → FuncId → List AV → AV) (Y : YT) (l2 : List SO) (K : AS → Prop) (av : AV) (m m1 : AM) (r : List SO) (T : List AV) (o : SO) (j : Nat)
@[simp] theorem vcE_nil (x : Option Nat) : vcE P gl orc Y l2 K av m m1 [] x T = vcOps P gl orc Y l2 ⟨T, m1⟩ K := nd (by cases x <;> rfl)
@[simp] theorem vcE_zero : vcE P gl orc Y l2 K av m m1 (o :: r) (some 0) T = (effC P gl orc Y (ev gl T) m o.dst av m1 o.op ∧ vcE P gl orc Y l2 K av m m1 r none (put T o.dst av)) := nd rfl
@[simp] theorem vcE_succ : vcE P gl orc Y l2 K av m m1 (o :: r) (some (j + 1)) T = ((rop P gl orc (ev gl T) m o.dst o.op).1 ∧ rop P gl orc (ev gl T) m1 o.dst o.op = rop P gl orc (ev gl T) m o.dst o.op ∧ vcE P gl orc Y l2 K av m m1 r (some j) (put T o.dst (rop P gl orc (ev gl T) m o.dst o.op).2)) := nd rfl
@[simp] theorem vcE_none : vcE P gl orc Y l2 K av m m1 (o :: r) none T = ((rop P gl orc (ev gl T) m o.dst o.op).1 ∧ rop P gl orc (ev gl T) m1 o.dst o.op = rop P gl orc (ev gl T) m o.dst o.op ∧ vcE P gl orc Y l2 K av m m1 r none (put T o.dst (rop P gl orc (ev gl T) m o.dst o.op).2)) := nd rfl
theorem vc_drawE {P : Program} {gl : Nat → AV} {orc : Nat → FuncId → List AV → AV} {Y : YT} {j : Nat} {l l2 : List SO} {s : AS} {Q : Exit → AS → Prop} (av : AV) (m1 : AM) (h : vcE P gl orc Y l2 (Q .normal) av s.m m1 l (some j) s.T) : vc P gl orc Y (.drawE j l l2) s Q := .inr ⟨av, m1, h⟩
end
attribute [simp] effC
end Go.Abs
