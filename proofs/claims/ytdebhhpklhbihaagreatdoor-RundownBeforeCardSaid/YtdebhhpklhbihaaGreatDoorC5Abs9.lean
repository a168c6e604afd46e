/-
  OWN WORK. The other operations that leave the abstract memory.
-/
import Derived.Test.YtdebhhpklhbihaaGreatDoorC5Abs8
namespace Go.Abs
open Go Go.RowKit

section
variable {N : Nat} {w0 : Bas} {ro0 : Nat → Nat → Prop} {γ : G} {w : World} {B : Nat → Option (List AV)} {L : Nat → Option Nat} {P : Program} {o : Oper} {a : Act} {r : AV}
variable {dst : Option Tmp} {ty : TypeId} {pos : String} {after : Array Edge} {guard : Option (Nat × Bool)} {gl : Nat → AV} {orc : Nat → FuncId → List AV → AV} {e : Opd → AV} {m : AM}

theorem step_fld (hm : MSim N w0 ro0 γ w B L) {t : TypeId} {x : Operand} {f : Nat} (h1 : Rep w γ (e (opd x)) (a.eval x))
    (hc : (rop P gl orc e m dst (tr P ⟨dst, .field t x f, ty, pos, after, guard⟩)).1) :
    Step N w0 ro0 P ⟨dst, .field t x f, ty, pos, after, guard⟩ a γ w B L (rop P gl orc e m dst (tr P ⟨dst, .field t x f, ty, pos, after, guard⟩)).2 := by
  simp only [tr] at hc ⊢
  split at hc
  case h_2 => exact hc.elim
  rename_i fields hu
  split at hc
  case h_2 => exact hc.elim
  rename_i fl hfl
  split at hc
  case h_2 => exact hc.elim
  rename_i i d hi hd
  have main : ∀ (agg : Bool) (n : Nat), aggT P fl.type = agg → (agg = true → n = i.size) → (rop P gl orc e m dst (.fld agg fl.offset n (opd x))).1 →
      Step N w0 ro0 P ⟨dst, .field t x f, ty, pos, after, guard⟩ a γ w B L (rop P gl orc e m dst (.fld agg fl.offset n (opd x))).2 := by
    intro agg n hagg hn hc
    simp only [rop] at hc ⊢
    split at hc
    case h_2 => exact hc.elim
    rename_i cs he
    rw [he] at h1
    obtain ⟨arr, hv, hr⟩ := h1.inv_agg
    obtain ⟨hc1, hc2⟩ := hc
    have hd' := hr.drop fl.offset
    cases agg with
    | true =>
      have hnn := hn rfl
      subst hnn
      refine step_val hm (v := .agg (arr.extract fl.offset (fl.offset + i.size))) ?_ ?_
      · unfold aggT at hagg
        rw [hd] at hagg
        cases d <;> simp at hagg <;> simp [execOp, hv, Instr.field, run_underlying hu, hfl, asAgg, part, isAgg, run_underlying hd, sizeOf, typeInfo, hi]
      · simp only [cutCells, if_true]
        refine RepL.agg' ?_
        have := hd'.take i.size
        simpa [Array.toList_extract, List.extract] using this
    | false =>
      have hn1 := hc2 rfl
      subst hn1
      have hlen : fl.offset < arr.size := by
        rw [List.length_take, List.length_drop] at hc1
        have := hr.1
        simp at this
        omega
      have hu' : arr[fl.offset]? = some arr[fl.offset] := Array.getElem?_eq_getElem hlen
      refine step_val hm (v := arr[fl.offset]) ?_ ?_
      · unfold aggT at hagg
        rw [hd] at hagg
        cases d <;> simp at hagg <;> simp [execOp, hv, Instr.field, run_underlying hu, hfl, asAgg, part, isAgg, run_underlying hd, hu']
      · simp only [cutCells]
        have := hd'.get 0
        simp [List.getD] at this ⊢
        simpa [hlen] using this
  cases hagg : aggT P fl.type with
  | true => simp only [hagg, if_true] at hc ⊢; exact main true _ hagg (fun _ => rfl) hc
  | false => simp only [hagg] at hc ⊢; exact main false 1 hagg (fun h => by cases h) hc

theorem step_idxS (hm : MSim N w0 ro0 γ w B L) {t : TypeId} {x y : Operand} (h1 : Rep w γ (e (opd x)) (a.eval x)) (h2 : Rep w γ (e (opd y)) (a.eval y))
    (hc : (rop P gl orc e m dst (tr P ⟨dst, .index t x y, ty, pos, after, guard⟩)).1) :
    Step N w0 ro0 P ⟨dst, .index t x y, ty, pos, after, guard⟩ a γ w B L (rop P gl orc e m dst (tr P ⟨dst, .index t x y, ty, pos, after, guard⟩)).2 := by
  simp only [tr] at hc ⊢
  split at hc
  case h_3 => exact hc.elim
  case h_2 =>
    rename_i len te hu
    split at hc
    case h_2 => exact hc.elim
    rename_i j d hj hd
    have main : ∀ (agg : Bool) (sz : Nat), aggT P te = agg → j.size = sz → (rop P gl orc e m dst (.idxA agg len sz (opd x) (opd y))).1 →
        Step N w0 ro0 P ⟨dst, .index t x y, ty, pos, after, guard⟩ a γ w B L (rop P gl orc e m dst (.idxA agg len sz (opd x) (opd y))).2 := by
      intro agg sz hagg hsz hc
      subst hsz
      simp only [rop] at hc ⊢
      split at hc
      case h_2 => exact hc.elim
      rename_i cs k n e1 e2
      rw [e1] at h1
      rw [e2] at h2
      obtain ⟨arr, hv, hr⟩ := h1.inv_agg
      obtain ⟨⟨hn0, hn1⟩, hc1, hc2⟩ := hc
      have hd' := hr.drop (n.toNat * j.size)
      cases agg with
      | true =>
        refine step_val hm (v := .agg (arr.extract (n.toNat * j.size) (n.toNat * j.size + j.size))) ?_ ?_
        · unfold aggT at hagg
          rw [hd] at hagg
          cases d <;> simp at hagg <;> simp [execOp, hv, h2.inv_int, Instr.index, run_underlying hu, asIntOf, hn0, hn1, asAgg, part, isAgg, run_underlying hd, sizeOf, typeInfo, hj]
        · simp only [cutCells, if_true]
          refine RepL.agg' ?_
          have := hd'.take j.size
          simpa [Array.toList_extract, List.extract] using this
      | false =>
        have hn1' := hc2 rfl
        have hlen : n.toNat * j.size < arr.size := by
          rw [List.length_take, List.length_drop] at hc1
          have := hr.1
          simp at this
          omega
        have hu' : arr[n.toNat * j.size]? = some arr[n.toNat * j.size] := Array.getElem?_eq_getElem hlen
        refine step_val hm (v := arr[n.toNat * j.size]) ?_ ?_
        · unfold aggT at hagg
          rw [hd] at hagg
          cases d <;> simp at hagg <;> simp [execOp, hv, h2.inv_int, Instr.index, run_underlying hu, asIntOf, hn0, hn1, asAgg, part, isAgg, run_underlying hd, sizeOf, typeInfo, hj, hu']
        · simp only [cutCells]
          have := hd'.get 0
          simp [List.getD] at this ⊢
          simpa [hlen] using this
    cases hagg : aggT P te with
    | true => simp only [hagg, if_true] at hc ⊢; exact main true _ hagg rfl hc
    | false =>
      simp only [hagg, Bool.false_eq_true, if_false] at hc ⊢
      split at hc
      · rename_i h0
        have h0' : j.size = 1 := by simpa using h0
        rw [if_pos h0]
        exact main false 1 hagg h0' hc
      · exact hc.elim
  rename_i hu
  simp only [rop] at hc ⊢
  split at hc
  case h_2 => exact hc.elim
  rename_i s k n e1 e2
  rw [e1] at h1
  rw [e2] at h2
  obtain ⟨hn0, hn1⟩ := hc
  have hlt : n.toNat < s.size := by omega
  have hg : s[n.toNat]? = some (s.data.toList.getD n.toNat 0) := by
    have h3 : n.toNat < s.data.size := hlt
    have : s[n.toNat]? = some s[n.toNat] := by simp [hlt]
    rw [this]
    congr 1
    have h4 : s.data.toList.getD n.toNat 0 = s.data[n.toNat] := by
      show (s.data.toList[n.toNat]?).getD 0 = _
      rw [Array.getElem?_toList, Array.getElem?_eq_getElem h3]; rfl
    rw [h4]
    rfl
  refine step_val hm (v := .int .u8 (s.data.toList.getD n.toNat 0).toNat) ?_ (.int _ _)
  simp [execOp, h1.inv_str, h2.inv_int, Instr.index, asIntOf, run_underlying hu, hn0, hg]

theorem run_binI {op : BinOp} {k : IntKind} {x y : Int} {t : TypeId} (hop : op ≠ .shl ∧ op ≠ .shr) (hc : (binI op k x y).1) : ∃ v, (binOp op t (.int k x) (.int k y)).run P w = .ok v w ∧ Rep w γ (binI op k x y).2 v := by
  cases op <;> simp only [binI] at hc ⊢ <;> first
    | exact hc.elim
    | (simp at hop; done)
    | (refine ⟨.bool _, ?_, .bool _⟩; simp [binOp, Op.intCmp]; done)
    | (refine ⟨.int k _, ?_, .int k _⟩; simp [binOp, Op.intArith, Op.intBits]; done)
    | (refine ⟨.int k _, ?_, .int k _⟩; simp [binOp, Op.intDiv, hc]; done)

theorem run_binS {op : BinOp} {x y : ByteArray} {t : TypeId} (hop : op ≠ .shl ∧ op ≠ .shr) (hc : (binS op x y).1) : ∃ v, (binOp op t (.string x) (.string y)).run P w = .ok v w ∧ Rep w γ (binS op x y).2 v := by
  cases op <;> simp only [binS] at hc ⊢ <;> first
    | exact hc.elim
    | (simp at hop; done)
    | (refine ⟨.bool _, ?_, .bool _⟩; simp [binOp, Op.stringOp]; done)
    | (refine ⟨.string (x ++ y), ?_, .str _⟩
       have h1 : ¬ (((x.size + y.size : Nat) : Int) > IntKind.i64.max) := by
         have : IntKind.i64.max = 9223372036854775807 := by decide
         rw [this]; omega
       simp only [binOp, Op.stringOp, if_neg h1]
       rfl)

theorem eqGuard_int {op : BinOp} {t : TypeId} {x y : Operand} {k k' : IntKind} {p q : Int} : (eqGuard op t x y (.int k p) (.int k' q)).run P w = .ok () w := by
  cases op <;> simp [eqGuard]
theorem eqGuard_str {op : BinOp} {t : TypeId} {x y : Operand} {p q : ByteArray} : (eqGuard op t x y (.string p) (.string q)).run P w = .ok () w := by
  cases op <;> simp [eqGuard]
theorem eqGuard_bool {op : BinOp} {t : TypeId} {x y : Operand} {p q : Bool} : (eqGuard op t x y (.bool p) (.bool q)).run P w = .ok () w := by
  cases op <;> simp [eqGuard]

theorem step_bin (hm : MSim N w0 ro0 γ w B L) {op : BinOp} {t t' : TypeId} {x y : Operand} (h1 : Rep w γ (e (opd x)) (a.eval x)) (h2 : Rep w γ (e (opd y)) (a.eval y))
    (hc : (binV op (e (opd x)) (e (opd y))).1) :
    Step N w0 ro0 P ⟨dst, .binOp op t x y t', ty, pos, after, guard⟩ a γ w B L (binV op (e (opd x)) (e (opd y))).2 := by
  unfold binV at hc ⊢
  split at hc
  · split at hc
    case h_2 => exact hc.elim
    rename_i k p k' q e1 e2
    try simp only [e1, e2]
    rw [e1] at h1
    rw [e2] at h2
    have hq : ¬ q < 0 := by omega
    refine step_val hm (v := .int k (k.wrap (p * 2 ^ (min q.toNat k.bits)))) ?_ (.int _ _)
    simp [execOp, h1.inv_int, h2.inv_int, eqGuard_int, binOp, Op.shift, hq]
  · split at hc
    case h_2 => exact hc.elim
    rename_i k p k' q e1 e2
    try simp only [e1, e2]
    rw [e1] at h1
    rw [e2] at h2
    have hq : ¬ q < 0 := by omega
    refine step_val hm (v := .int k (p.fdiv (2 ^ (min q.toNat k.bits)))) ?_ (.int _ _)
    simp [execOp, h1.inv_int, h2.inv_int, eqGuard_int, binOp, Op.shift, hq]
  · rename_i op' hns1 hns2
    split at hc
    · rename_i k p k' q e1 e2
      try simp only [e1, e2]
      rw [e1] at h1
      rw [e2] at h2
      obtain ⟨rfl, hc⟩ := hc
      obtain ⟨v, hv, hr⟩ := run_binI (P := P) (w := w) (γ := γ) (t := t) ⟨fun h => hns1 h, fun h => hns2 h⟩ hc
      exact step_val hm (v := v) (by simp [execOp, h1.inv_int, h2.inv_int, eqGuard_int, hv]) hr
    · rename_i p q e1 e2
      try simp only [e1, e2]
      rw [e1] at h1
      rw [e2] at h2
      obtain ⟨v, hv, hr⟩ := run_binS (P := P) (w := w) (γ := γ) (t := t) ⟨fun h => hns1 h, fun h => hns2 h⟩ hc
      exact step_val hm (v := v) (by simp [execOp, h1.inv_str, h2.inv_str, eqGuard_str, hv]) hr
    · exact hc.elim

theorem run_equalIn_bool {t : TypeId} (hu : P.underlying t = some .bool) (p q : Bool) (d : Nat) : (Op.equalIn (d + 1) t (.bool p) (.bool q)).run P w = .ok (p == q) w := by
  simp [Op.equalIn, run_underlying hu]

theorem step_binB (hm : MSim N w0 ro0 γ w B L) {op : BinOp} {t t' : TypeId} {x y : Operand} (hu : P.underlying t = some .bool) (h1 : Rep w γ (e (opd x)) (a.eval x)) (h2 : Rep w γ (e (opd y)) (a.eval y))
    (hc : (binBool op (e (opd x)) (e (opd y))).1) :
    Step N w0 ro0 P ⟨dst, .binOp op t x y t', ty, pos, after, guard⟩ a γ w B L (binBool op (e (opd x)) (e (opd y))).2 := by
  unfold binBool at hc ⊢
  split at hc
  · rename_i p q e1 e2
    try simp only [e1, e2]
    rw [e1] at h1
    rw [e2] at h2
    have := run_equalIn_bool (P := P) (w := w) hu p q 9999
    exact step_val hm (v := .bool (p == q)) (by simp [execOp, h1.inv_bool, h2.inv_bool, eqGuard_bool, binOp, Op.equal, Op.maxDepth, this]) (.bool _)
  · rename_i p q e1 e2
    try simp only [e1, e2]
    rw [e1] at h1
    rw [e2] at h2
    have := run_equalIn_bool (P := P) (w := w) hu p q 9999
    exact step_val hm (v := .bool (!(p == q))) (by simp [execOp, h1.inv_bool, h2.inv_bool, eqGuard_bool, binOp, Op.equal, Op.maxDepth, this]) (.bool _)
  · exact hc.elim

theorem step_un (hm : MSim N w0 ro0 γ w B L) {op : UnOp} {t : TypeId} {x : Operand} (h1 : Rep w γ (e (opd x)) (a.eval x)) (hc : (rop P gl orc e m dst (.un op (opd x))).1) :
    Step N w0 ro0 P ⟨dst, .unOp op t x, ty, pos, after, guard⟩ a γ w B L (rop P gl orc e m dst (.un op (opd x))).2 := by
  simp only [rop] at hc ⊢
  split at hc
  · rename_i b e1
    try simp only [e1]
    rw [e1] at h1
    exact step_val hm (v := .bool (!b)) (by simp [execOp, h1.inv_bool, Op.unary]) (.bool _)
  · rename_i k n e1
    try simp only [e1]
    rw [e1] at h1
    exact step_val hm (v := .int k (k.wrap (0 - n))) (by simp [execOp, h1.inv_int, Op.unary, Op.intArith]) (.int _ _)
  · rename_i k n e1
    try simp only [e1]
    rw [e1] at h1
    refine step_val hm ?_ (.int _ _)
    simp [execOp, h1.inv_int, Op.unary, Op.intBits]
  · exact hc.elim

theorem step_conv (hm : MSim N w0 ro0 γ w B L) {s d : TypeId} {x : Operand} {k0 k : IntKind} (hs : P.underlying s = some (.int k0)) (hd : P.underlying d = some (.int k)) (h1 : Rep w γ (e (opd x)) (a.eval x)) (hc : (rop P gl orc e m dst (.conv k (opd x))).1) :
    Step N w0 ro0 P ⟨dst, .convert s d x, ty, pos, after, guard⟩ a γ w B L (rop P gl orc e m dst (.conv k (opd x))).2 := by
  simp only [rop] at hc ⊢
  split at hc
  case h_2 => exact hc.elim
  rename_i k1 n e1
  rw [e1] at h1
  exact step_val hm (v := .int k (k.wrap n)) (by simp [execOp, h1.inv_int, convert, run_underlying hs, run_underlying hd, Conv.intToInt]) (.int _ _)

theorem step_mkfn (hm : MSim N w0 ro0 γ w B L) {f : FuncId} {first cap : Array Operand} (h1 : ∀ x ∈ first, Rep w γ (e (opd x)) (a.eval x)) (h2 : ∀ x ∈ cap, Rep w γ (e (opd x)) (a.eval x)) :
    Step N w0 ro0 P ⟨dst, .makeFunc (.func f) first cap, ty, pos, after, guard⟩ a γ w B L (.fn f ((first.toList.map opd).map e) ((cap.toList.map opd).map e)) := by
  refine step_val hm (v := .func (.func f) (first.map a.eval) (cap.map a.eval)) (by simp [execOp, Instr.makeFunc]) ?_
  refine .fn (by simp) (fun i c v g1 g2 => ?_) (by simp) fun i c v g1 g2 => ?_
  · simp at g1 g2
    obtain ⟨x, hx, rfl⟩ := g1
    obtain ⟨x', hx', rfl⟩ := g2
    rw [hx] at hx'
    cases hx'
    exact h1 x (Array.mem_of_getElem? hx)
  · simp at g1 g2
    obtain ⟨x, hx, rfl⟩ := g1
    obtain ⟨x', hx', rfl⟩ := g2
    rw [hx] at hx'
    cases hx'
    exact h2 x (Array.mem_of_getElem? hx)

theorem step_ext (hm : MSim N w0 ro0 γ w B L) {x : Operand} {i : Nat} (h1 : Rep w γ (e (opd x)) (a.eval x)) (hc : (rop P gl orc e m dst (.ext (opd x) i)).1) :
    Step N w0 ro0 P ⟨dst, .extract x i, ty, pos, after, guard⟩ a γ w B L (rop P gl orc e m dst (.ext (opd x) i)).2 := by
  simp only [rop] at hc ⊢
  split at hc
  case h_2 => exact hc.elim
  rename_i vs e1
  rw [e1] at h1
  obtain ⟨arr, hv, hr⟩ := h1.inv_tup
  have hlt : i < arr.size := by have := hr.1; simp at this; omega
  have hu : arr[i]? = some arr[i] := Array.getElem?_eq_getElem hlt
  refine step_val hm (v := arr[i]) (by simp [execOp, hv, Instr.extract, hu]) ?_
  have := hr.get i
  simpa [List.getD, hlt] using this

theorem step_nilc (hm : MSim N w0 ro0 γ w B L) {x : Operand} (h1 : Rep w γ (e (opd x)) (a.eval x)) (hc : (rop P gl orc e m dst (.nilc (opd x))).1) :
    Step N w0 ro0 P ⟨dst, .nilCheck x, ty, pos, after, guard⟩ a γ w B L (rop P gl orc e m dst (.nilc (opd x))).2 := by
  simp only [rop] at hc ⊢
  split at hc
  · rename_i id o' e1
    try simp only [e1]
    rw [e1] at h1
    have h1' := h1
    obtain ⟨b, hb, hv⟩ := h1.inv_ptr
    exact step_val hm (v := a.eval x) (by simp [execOp, hv]) h1'
  · rename_i row o' e1
    try simp only [e1]
    rw [e1] at h1
    have h1' := h1
    obtain ⟨b, off, cv, hv, _⟩ := h1.inv_ep
    exact step_val hm (v := a.eval x) (by simp [execOp, hv]) h1'
  · rename_i f first cap e1
    try simp only [e1]
    rw [e1] at h1
    have h1' := h1
    obtain ⟨fa, ca, hv, _⟩ := h1.inv_fn
    exact step_val hm (v := a.eval x) (by simp [execOp, hv]) h1'
  · exact hc.elim

theorem step_slS (hm : MSim N w0 ro0 γ w B L) {t : TypeId} {x : Operand} {lo hi : Option Operand} (h1 : Rep w γ (e (opd x)) (a.eval x)) (h2 : ∀ y ∈ lo, Rep w γ (e (opd y)) (a.eval y)) (h3 : ∀ y ∈ hi, Rep w γ (e (opd y)) (a.eval y))
    (hu : P.underlying t = some .string) (hc : (rop P gl orc e m dst (.slS (opd x) (lo.map opd) (hi.map opd))).1) :
    Step N w0 ro0 P ⟨dst, .slice t x lo hi none, ty, pos, after, guard⟩ a γ w B L (rop P gl orc e m dst (.slS (opd x) (lo.map opd) (hi.map opd))).2 := by
  simp only [rop] at hc ⊢
  split at hc
  · rename_i s k l k' h e1 e2 e3
    rw [e1] at h1
    cases lo with
    | none => simp at e2
    | some lo =>
      cases hi with
      | none => simp at e3
      | some hi =>
        simp at e2 e3
        have r2 := h2 lo (by simp)
        have r3 := h3 hi (by simp)
        rw [e2] at r2
        rw [e3] at r3
        obtain ⟨c1, c2, c3⟩ := hc
        have c4 : (0 : Int) ≤ h := by omega
        have c5 : l ≤ (h.toNat : Int) := by omega
        try simp only [e1, e2, e3, Option.map_some]
        refine step_val hm (v := .string (s.extract l.toNat h.toNat)) ?_ (.str _)
        simp [execOp, h1.inv_str, r2.inv_int, r3.inv_int, Instr.sliceAt, Instr.slice, Instr.sliceBounds, Instr.sliceBound, asIntOf, run_underlying hu, c1, c3, c4, c5]
        intro hlt
        exact absurd hlt (by rw [Int.max_eq_left c4]; omega)
  · rename_i s k h e1 e2 e3
    rw [e1] at h1
    cases lo with
    | some lo => simp at e2
    | none =>
      cases hi with
      | none => simp at e3
      | some hi =>
        simp at e3
        have r3 := h3 hi (by simp)
        rw [e3] at r3
        obtain ⟨c1, c3⟩ := hc
        try simp only [e1, e3, Option.map_some, Option.map_none]
        refine step_val hm (v := .string (s.extract 0 h.toNat)) ?_ (.str _)
        simp [execOp, h1.inv_str, r3.inv_int, Instr.sliceAt, Instr.slice, Instr.sliceBounds, Instr.sliceBound, asIntOf, run_underlying hu, c1, c3]
  · rename_i s k l e1 e2 e3
    rw [e1] at h1
    cases lo with
    | none => simp at e2
    | some lo =>
      cases hi with
      | some hi => simp at e3
      | none =>
        simp at e2
        have r2 := h2 lo (by simp)
        rw [e2] at r2
        obtain ⟨c1, c3⟩ := hc
        try simp only [e1, e2, Option.map_some, Option.map_none]
        refine step_val hm (v := .string (s.extract l.toNat s.size)) ?_ (.str _)
        simp [execOp, h1.inv_str, r2.inv_int, Instr.sliceAt, Instr.slice, Instr.sliceBounds, Instr.sliceBound, asIntOf, run_underlying hu, c1, c3]
  · exact hc.elim

end
end Go.Abs
