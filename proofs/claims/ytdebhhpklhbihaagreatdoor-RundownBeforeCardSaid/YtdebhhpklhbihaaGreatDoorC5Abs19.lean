/-
  OWN WORK. Rules for drawn regions with effects that come one behind the other.
-/
import Derived.Test.YtdebhhpklhbihaaGreatDoorC5Abs15e
namespace Go.Abs
open Go

section
variable (P : Program) (gl : Nat → AV) (orc : Nat → FuncId → List AV → AV) (Y : YT) (l2 : List SO) (K : AS → Prop) (m : AM) (ms q : List (AV × AM)) (mc : AM) (r : List SO) (fl : List Fg) (T : List AV) (o : SO) (x : AV × AM)
@[simp] theorem vcE_nil : vcE P gl orc Y l2 K m ms [] fl q mc T = (q = [] ∧ vcOps P gl orc Y l2 ⟨T, mc⟩ K) := nd (by simp only [vcE])
@[simp] theorem vcE_true : vcE P gl orc Y l2 K m ms (o :: r) (.eff :: fl) (x :: q) mc T = (effC P gl orc Y (ev gl T) mc o.dst x.1 x.2 o.op ∧ vcE P gl orc Y l2 K m ms r fl q x.2 (put T o.dst x.1)) := nd (by simp only [vcE])
@[simp] theorem vcE_pre : vcE P gl orc Y l2 K m ms (o :: r) (.pre :: fl) q mc T = ((rop P gl orc (ev gl T) m o.dst o.op).1 ∧ vcE P gl orc Y l2 K m ms r fl q mc (put T o.dst (rop P gl orc (ev gl T) m o.dst o.op).2)) := nd (by simp only [vcE])
@[simp] theorem vcE_false : vcE P gl orc Y l2 K m ms (o :: r) (.oth :: fl) q mc T = ((rop P gl orc (ev gl T) m o.dst o.op).1 ∧ (∀ x ∈ ms, rop P gl orc (ev gl T) x.2 o.dst o.op = rop P gl orc (ev gl T) m o.dst o.op) ∧ vcE P gl orc Y l2 K m ms r fl q mc (put T o.dst (rop P gl orc (ev gl T) m o.dst o.op).2)) := nd (by simp only [vcE])
theorem vc_drawE {P : Program} {gl : Nat → AV} {orc : Nat → FuncId → List AV → AV} {Y : YT} {fl : List Fg} {l l2 : List SO} {s : AS} {Q : Exit → AS → Prop} (ms : List (AV × AM)) (h : vcE P gl orc Y l2 (Q .normal) s.m ms l fl ms s.m s.T) : vc P gl orc Y (.drawE fl l l2) s Q := .inr ⟨ms, h⟩

/-- The memories behind effects on memory alone. -/
def msOf (P : Program) (gl : Nat → AV) (orc : Nat → FuncId → List AV → AV) (m : AM) : List SO → List Fg → AM → List AV → List (AV × AM)
  | o :: r, .eff :: fl, mc, T => (.junk, (sop P gl orc (ev gl T) mc o.dst o.op).2.2) :: msOf P gl orc m r fl (sop P gl orc (ev gl T) mc o.dst o.op).2.2 (put T o.dst .junk)
  | o :: r, .pre :: fl, mc, T => msOf P gl orc m r fl mc (put T o.dst (rop P gl orc (ev gl T) m o.dst o.op).2)
  | o :: r, .oth :: fl, mc, T => msOf P gl orc m r fl mc (put T o.dst (rop P gl orc (ev gl T) m o.dst o.op).2)
  | _, _, _, _ => []
@[simp] theorem msOf_nil : msOf P gl orc m [] fl mc T = [] := nd (by simp only [msOf])
@[simp] theorem msOf_true : msOf P gl orc m (o :: r) (.eff :: fl) mc T = (.junk, (sop P gl orc (ev gl T) mc o.dst o.op).2.2) :: msOf P gl orc m r fl (sop P gl orc (ev gl T) mc o.dst o.op).2.2 (put T o.dst .junk) := nd (by simp only [msOf])
@[simp] theorem msOf_pre : msOf P gl orc m (o :: r) (.pre :: fl) mc T = msOf P gl orc m r fl mc (put T o.dst (rop P gl orc (ev gl T) m o.dst o.op).2) := nd (by simp only [msOf])
@[simp] theorem msOf_false : msOf P gl orc m (o :: r) (.oth :: fl) mc T = msOf P gl orc m r fl mc (put T o.dst (rop P gl orc (ev gl T) m o.dst o.op).2) := nd (by simp only [msOf])
theorem vc_drawM {P : Program} {gl : Nat → AV} {orc : Nat → FuncId → List AV → AV} {Y : YT} {fl : List Fg} {l l2 : List SO} {s : AS} {Q : Exit → AS → Prop} (h : vcE P gl orc Y l2 (Q .normal) s.m (msOf P gl orc s.m l fl s.m s.T) l fl (msOf P gl orc s.m l fl s.m s.T) s.m s.T) : vc P gl orc Y (.drawE fl l l2) s Q := .inr ⟨_, h⟩
end
attribute [simp] effC memEff
end Go.Abs
