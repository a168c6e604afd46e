/-
  OWN WORK. Calls and builtins; every operation is sound.
-/
import Derived.Test.YtdebhhpklhbihaaGreatDoorC5Abs10c
namespace Go.Abs
open Go Go.RowKit

section
variable {N : Nat} {w0 : Bas} {ro0 : Nat → Nat → Prop} {γ : G} {w : World} {B : Nat → Option (List AV)} {L : Nat → Option Nat} {P : Program} {o : Oper} {a : Act} {r : AV}
variable {dst : Option Tmp} {ty : TypeId} {pos : String} {after : Array Edge} {guard : Option (Nat × Bool)} {gl : Nat → AV} {orc : Nat → FuncId → List AV → AV} {e : Opd → AV} {m : AM}

theorem repL_args {xs : Array Operand} (h : ∀ x ∈ xs, Rep w γ (e (opd x)) (a.eval x)) : RepL w γ ((xs.toList.map opd).map e) (xs.map a.eval).toList := by
  refine ⟨by simp, fun i c v h1 h2 => ?_⟩
  simp at h1 h2
  obtain ⟨x, hx, rfl⟩ := h1
  obtain ⟨x', hx', rfl⟩ := h2
  rw [hx] at hx'
  cases hx'
  exact h x (Array.mem_of_getElem? hx)

theorem run_callFunc {f : FuncId} {args : Array Value} (h : callable P f) : (callFunc f args).run P w = .ok (.enter f args) w := by
  obtain ⟨fn, h1, h2, h3⟩ := h
  have h2' : ¬ fn.body = none := by intro h; simp [h] at h2
  have h3' : ¬ fn.name = "runtime.NumGoroutine" := by simpa using h3
  simp [callFunc, h1, h2', h3']

theorem step_call (hm : MSim N w0 ro0 γ w B L) (hB : ∀ id cells, m.boxes[id]? = some cells → B id = some cells) (hgl : ∀ g, Rep w γ.imm (gl g) (.pointer (some ⟨g, 0, none⟩))) {f : Operand} {args : Array Operand} {ts : Array TypeId}
    (h1 : Rep w γ (e (opd f)) (a.eval f)) (h2 : ∀ x ∈ args, Rep w γ (e (opd x)) (a.eval x)) (hc : (rop P gl orc e m dst (.call (opd f) (args.toList.map opd))).1) :
    Step N w0 ro0 P ⟨dst, .call ⟨.value f, args, ts⟩, ty, pos, after, guard⟩ a γ w B L (rop P gl orc e m dst (.call (opd f) (args.toList.map opd))).2 := by
  simp only [rop] at hc ⊢
  split at hc
  case h_2 => exact hc.elim
  rename_i g first cap e1
  try simp only [e1]
  rw [e1] at h1
  obtain ⟨fa, ca, hv, r1, r2⟩ := h1.inv_fn
  have hargs := (r1.append (repL_args h2)).append r2
  generalize orc (dst.getD 0) g ((first ++ (args.toList.map opd).map e ++ cap).map (cvn m 6)) = x at hc
  have hrun : callable P g → (execOp a.eval ⟨dst, .call ⟨.value f, args, ts⟩, ty, pos, after, guard⟩).run P w = .ok (.enter g ((fa.toList ++ (args.map a.eval).toList ++ ca.toList).toArray)) w := fun hcl => by
    simp [execOp, resolve, hv, Deferred.ofValue, invoke, run_callFunc hcl]
  have pure : ∀ r, (Pure P gl g ((first ++ (args.toList.map opd).map e ++ cap).map (cvn m 6)) r ∧ ((first ++ (args.toList.map opd).map e ++ cap).any (hasP 6) = true → flat r = true)) → Step N w0 ro0 P ⟨dst, .call ⟨.value f, args, ts⟩, ty, pos, after, guard⟩ a γ w B L r := fun r ⟨hp, hfl⟩ rd next Q hk =>
    wp_enter (hrun hp.1) (call_sound hm hB hgl hargs hp hfl fun v w' γ' h3 h4 h5 => hk v w' γ' h3 h4 h5)
  cases x with
  | gd b r =>
    intro rd next Q hk
    refine wp_enter (hrun hc.1) ((hc.2 N w0 ro0 γ w B L _ hm hB hgl hargs).mono ?_)
    rintro en w' ⟨v, γ', rfl, h3, h4, h5⟩
    exact hk v w' γ' h3 h4 h5
  | _ => exact pure _ hc

theorem step_lenS (hm : MSim N w0 ro0 γ w B L) {x : Operand} {t : TypeId} (hu : P.underlying t = some .string) (h1 : Rep w γ (e (opd x)) (a.eval x)) (hc : (rop P gl orc e m dst (.lenS (opd x))).1) :
    Step N w0 ro0 P ⟨dst, .call ⟨.builtin .len, #[x], #[t]⟩, ty, pos, after, guard⟩ a γ w B L (rop P gl orc e m dst (.lenS (opd x))).2 := by
  simp only [rop] at hc ⊢
  split at hc
  case h_2 => exact hc.elim
  rename_i s e1
  rw [e1] at h1
  exact step_val hm (v := .int .i64 s.size) (by simp [execOp, resolve, invoke, builtin, Builtin.len_, run_underlying hu, h1.inv_str, goInt]) (.int _ _)

theorem step_len (hm : MSim N w0 ro0 γ w B L) {x : Operand} {t te : TypeId} (hu : P.underlying t = some (.slice te)) (h1 : Rep w γ (e (opd x)) (a.eval x)) (hc : (rop P gl orc e m dst (.len (opd x))).1) :
    Step N w0 ro0 P ⟨dst, .call ⟨.builtin .len, #[x], #[t]⟩, ty, pos, after, guard⟩ a γ w B L (rop P gl orc e m dst (.len (opd x))).2 := by
  simp only [rop] at hc ⊢
  split at hc
  case h_3 => exact hc.elim
  case h_2 =>
    rename_i id off len sz e1
    rw [e1] at h1
    try simp only [e1]
    obtain ⟨b, cap, arr, te', hb, hv, _⟩ := h1.inv_bs
    exact step_val hm (v := .int .i64 len) (by simp [execOp, resolve, invoke, builtin, Builtin.len_, run_underlying hu, hv, goInt]) (.int _ _)
  rename_i rt rows e1
  rw [e1] at h1
  try simp only [e1]
  obtain ⟨a', cap, b, off, sz, cv, hv, _⟩ := h1.sl_inv
  exact step_val hm (v := .int .i64 rows.length) (by simp [execOp, resolve, invoke, builtin, Builtin.len_, run_underlying hu, hv, goInt]) (.int _ _)

theorem step_mn (hm : MSim N w0 ro0 γ w B L) {x y : Operand} {ts : Array TypeId} (h1 : Rep w γ (e (opd x)) (a.eval x)) (h2 : Rep w γ (e (opd y)) (a.eval y)) (hc : (rop P gl orc e m dst (.mn (opd x) (opd y))).1) :
    Step N w0 ro0 P ⟨dst, .call ⟨.builtin .min, #[x, y], ts⟩, ty, pos, after, guard⟩ a γ w B L (rop P gl orc e m dst (.mn (opd x) (opd y))).2 := by
  simp only [rop] at hc ⊢
  split at hc
  case h_2 => exact hc.elim
  rename_i k p k' q e1 e2
  rw [e1] at h1
  rw [e2] at h2
  exact step_val hm (v := .int k (if q < p then q else p)) (by simp [execOp, resolve, invoke, builtin, Builtin.min_, Builtin.min2, h1.inv_int, h2.inv_int]) (.int _ _)

theorem step_mx (hm : MSim N w0 ro0 γ w B L) {x y : Operand} {ts : Array TypeId} (h1 : Rep w γ (e (opd x)) (a.eval x)) (h2 : Rep w γ (e (opd y)) (a.eval y)) (hc : (rop P gl orc e m dst (.mx (opd x) (opd y))).1) :
    Step N w0 ro0 P ⟨dst, .call ⟨.builtin .max, #[x, y], ts⟩, ty, pos, after, guard⟩ a γ w B L (rop P gl orc e m dst (.mx (opd x) (opd y))).2 := by
  simp only [rop] at hc ⊢
  split at hc
  case h_2 => exact hc.elim
  rename_i k p k' q e1 e2
  rw [e1] at h1
  rw [e2] at h2
  exact step_val hm (v := .int k (if p < q then q else p)) (by simp [execOp, resolve, invoke, builtin, Builtin.max_, Builtin.max2, h1.inv_int, h2.inv_int]) (.int _ _)

theorem big_of_fit {n b : Nat} (hb : b ≠ 0) (h : (2 * n + 2000) * b ≤ 281474976710656) : n ≤ 9223372036854775807 := by
  have : (2 * n + 2000) * 1 ≤ (2 * n + 2000) * b := Nat.mul_le_mul_left _ (Nat.one_le_iff_ne_zero.2 hb)
  omega

theorem step_app (hm : MSim N w0 ro0 γ w B L) {s x : Operand} {t te : TypeId} {i : TypeInfo} {z : Value} (hu : P.underlying t = some (.slice te)) (hi : P.info? te = some i) (hz : i.zero = some z) (hb0 : i.bytes ≠ 0)
    (h1 : Rep w γ (e (opd s)) (a.eval s)) (h2 : Rep w γ (e (opd x)) (a.eval x)) (hc : (rop P gl orc e m dst (.app i.size i.bytes (opd s) (opd x))).1) :
    Step N w0 ro0 P ⟨dst, .call ⟨.builtin .append, #[s, x], #[t, t]⟩, ty, pos, after, guard⟩ a γ w B L (rop P gl orc e m dst (.app i.size i.bytes (opd s) (opd x))).2 := by
  simp only [rop] at hc ⊢
  split at hc
  case h_2 => exact hc.elim
  rename_i rt rows rt2 rows2 e1 e2
  rw [e1] at h1
  rw [e2] at h2
  obtain ⟨hfu, hr, hfit⟩ := hc
  replace h1 := h1.full_of hfu
  obtain ⟨v, w', γ', g1, g2, g3, g4⟩ := app_ro (ty := ty) hm hu hi hz h1 h2 hr hfit (big_of_fit hb0 hfit)
  exact step_val' g3 g2 (by simp [execOp, resolve, invoke, builtin, g1]) g4

/-- EVERY OPERATION THAT LEAVES THE ABSTRACT MEMORY. -/
theorem rop_sound (hm : MSim N w0 ro0 γ w B L) (hB : ∀ id cells, m.boxes[id]? = some cells → B id = some cells) (hgl : ∀ g, Rep w γ.imm (gl g) (.pointer (some ⟨g, 0, none⟩)))
    (he : ∀ x ∈ o.op.operands, Rep w γ (e (opd x)) (a.eval x)) (hc : (rop P gl orc e m o.dst (tr P o)).1) : Step N w0 ro0 P o a γ w B L (rop P gl orc e m o.dst (tr P o)).2 := by
  obtain ⟨dst, op, ty, pos, after, guard⟩ := o
  cases op with
  | move x => exact step_val hm (by simp [execOp]) (he x (by simp [Op.operands]))
  | assign x => exact step_val hm (by simp [execOp]) (he x (by simp [Op.operands]))
  | pick c x y => exact step_pick hm (he c (by simp [Op.operands])) (he x (by simp [Op.operands])) (he y (by simp [Op.operands])) hc
  | load t x => exact step_load hm hB (he x (by simp [Op.operands])) hc
  | fieldAddr t x f => exact step_faddr hm (he x (by simp [Op.operands])) hc
  | field t x f => exact step_fld hm (he x (by simp [Op.operands])) hc
  | indexAddr t x y => exact step_iaddr hm (he x (by simp [Op.operands])) (he y (by simp [Op.operands])) hc
  | index t x y => exact step_idxS hm (he x (by simp [Op.operands])) (he y (by simp [Op.operands])) hc
  | binOp op t x y t' =>
    have h1 := he x (by simp [Op.operands])
    have h2 := he y (by simp [Op.operands])
    simp only [tr] at hc ⊢
    split at hc
    · rename_i hu; exact step_binB hm hu h1 h2 hc
    · exact step_bin hm h1 h2 hc
    · exact step_bin hm h1 h2 hc
    · rename_i te hu; exact step_nilS hm hu h1 hc
    · rename_i fs hu; exact step_eqA hm hu h1 h2 hc
    · exact hc.elim
  | unOp op t x => exact step_un hm (he x (by simp [Op.operands])) hc
  | convert s d x =>
    have h1 := he x (by simp [Op.operands])
    simp only [tr] at hc ⊢
    split at hc
    · rename_i k0 k hs hd; exact step_conv hm hs hd h1 hc
    · rename_i te hs hd
      split at hc
      · rename_i ht
        cases hx : e (opd x) with
        | sl rt rows => exact step_b2s hm hs hd ht h1 ⟨rt, rows, hx⟩ hc
        | bs id off len sz =>
          simp only [rop, hx] at hc ⊢
          split at hc
          · rename_i l hl
            try simp only [hl]
            exact step_b2sB hm hB hs hd ht h1 hx hl
          · exact hc.elim
        | _ => simp [rop, hx] at hc
      · exact hc.elim
    · exact hc.elim
  | lookup t x k ok =>
    have h1 := he x (by simp [Op.operands])
    have h2 := he k (by simp [Op.operands])
    simp only [tr] at hc ⊢
    split at hc
    · rename_i v z ht; exact step_look hm hB ht h1 h2 hc
    · exact hc.elim
  | build t parts => exact step_build hm (fun p hp => he p.2 (by simp [Op.operands]; exact ⟨p.1, hp⟩)) hc
  | buildSlice t len parts => exact step_bsl hm hB (fun p hp => he p.2 (by simp [Op.operands]; exact ⟨p.1, hp⟩)) hc
  | makeFunc fn first cap =>
    cases fn with
    | func f => exact step_mkfn hm (fun x hx => he x (by simp [Op.operands, hx])) (fun x hx => he x (by simp [Op.operands, hx]))
    | _ => exact hc.elim
  | extract x i => exact step_ext hm (he x (by simp [Op.operands])) hc
  | nilCheck x => exact step_nilc hm (he x (by simp [Op.operands])) hc
  | slice t x lo hi mx =>
    cases mx with
    | none =>
      simp only [tr] at hc ⊢
      split at hc
      · rename_i hu; exact step_slS hm (he x (by simp [Op.operands])) (fun y hy => he y (by simp at hy; simp [Op.operands, hy])) (fun y hy => he y (by simp at hy; simp [Op.operands, hy])) hu hc
      · rename_i te hu
        split at hc
        · rename_i i hi'; exact step_slL hm hu hi' (he x (by simp [Op.operands])) (fun y hy => he y (by simp at hy; simp [Op.operands, hy])) (fun y hy => he y (by simp at hy; simp [Op.operands, hy])) hc
        · exact hc.elim
      · rename_i n te hu
        split at hc
        · rename_i i hi'; exact step_slA hm hB hu hi' (he x (by simp [Op.operands])) (fun y hy => he y (by simp at hy; simp [Op.operands, hy])) (fun y hy => he y (by simp at hy; simp [Op.operands, hy])) hc
        · exact hc.elim
      · exact hc.elim
    | some mx => exact hc.elim
  | call c =>
    obtain ⟨callee, args, ts⟩ := c
    have harg : ∀ x ∈ args, Rep w γ (e (opd x)) (a.eval x) := fun x hx => he x (by simp [Op.operands, Call.operands, hx])
    cases callee with
    | value f => exact step_call hm hB hgl (he f (by simp [Op.operands, Call.operands])) harg hc
    | invoke recv name => exact hc.elim
    | builtin b =>
      cases b <;> first | exact hc.elim | skip
      case append =>
        simp only [tr, trCall] at hc ⊢
        split at hc
        case h_2 => exact hc.elim
        rename_i s x t t' ha ht
        split at hc
        case h_2 => exact hc.elim
        rename_i te te' hu hu'
        split at hc
        case h_2 => exact hc.elim
        rename_i i hi
        split at hc
        case isFalse => exact hc.elim
        rename_i hcond
        try rw [if_pos hcond]
        simp only [Bool.and_eq_true, beq_iff_eq, bne_iff_ne] at hcond
        obtain ⟨⟨⟨rfl, hz⟩, _⟩, hb0⟩ := hcond
        obtain rfl : args = #[s, x] := by cases args; simp_all
        obtain rfl : ts = #[t, t] := by cases ts; simp_all
        cases hzz : i.zero with
        | none => simp [hzz] at hz
        | some z => exact step_app hm hu hi hzz hb0 (harg s (by simp)) (harg x (by simp)) hc
      case copy => simp only [tr, trCall] at hc; repeat' split at hc
                   all_goals exact hc.elim
      case clear => simp only [tr, trCall] at hc; repeat' split at hc
                    all_goals exact hc.elim
      case len =>
        simp only [tr, trCall] at hc ⊢
        split at hc
        case h_2 => exact hc.elim
        rename_i x t ha ht
        obtain rfl : args = #[x] := by cases args; simp_all
        obtain rfl : ts = #[t] := by cases ts; simp_all
        split at hc
        · rename_i hu; exact step_lenS hm hu (harg x (by simp)) hc
        · rename_i te hu; exact step_len hm hu (harg x (by simp)) hc
        · exact hc.elim
      case max =>
        simp only [tr, trCall] at hc ⊢
        split at hc
        case h_2 => exact hc.elim
        rename_i x y ha
        obtain rfl : args = #[x, y] := by cases args; simp_all
        exact step_mx hm (harg x (by simp)) (harg y (by simp)) hc
      case min =>
        simp only [tr, trCall] at hc ⊢
        split at hc
        case h_2 => exact hc.elim
        rename_i x y ha
        obtain rfl : args = #[x, y] := by cases args; simp_all
        exact step_mn hm (harg x (by simp)) (harg y (by simp)) hc
  | makeMap t r => cases r <;> first | exact hc.elim | (simp only [tr] at hc; split at hc <;> exact hc.elim)
  | makeSlice t l c => simp only [tr] at hc; repeat' split at hc
                       all_goals exact hc.elim
  | _ => first | exact hc.elim | (simp only [tr] at hc; split at hc <;> exact hc.elim)

end
end Go.Abs
