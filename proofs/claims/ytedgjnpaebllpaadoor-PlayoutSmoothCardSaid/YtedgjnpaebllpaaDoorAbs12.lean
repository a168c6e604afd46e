/-
  OWN WORK. The operations that change the abstract memory are sound.
-/
import Derived.Test.YtedgjnpaebllpaaDoorAbs11
namespace Go.Abs
open Go Go.RowKit

def StepM (N : Nat) (w0 : Bas) (ro0 : Nat → Nat → Prop) (P : Program) (o : Oper) (a : Act) (γ : G) (w : World) (ph : (Nat → LS) × Nat) (K : AV → AM → Prop) : Prop :=
  ∀ (rd : Option Nat) (next : Act → World → Prop) (Q : Exit → Act → World → Prop), (∀ v w' γ' av m', K av m' → (m'.st, m'.ln) = ph → Ev w γ w' γ' → MSim N w0 ro0 γ' w' m'.B m'.L → Rep w' γ' av v → next (a.put o.dst v) w') → o.wpIn (FW rd) 0 P a w next Q

section
variable {N : Nat} {w0 : Bas} {ro0 : Nat → Nat → Prop} {γ : G} {w : World} {P : Program} {o : Oper} {a : Act} {K : AV → AM → Prop}
variable {dst : Option Tmp} {ty : TypeId} {pos : String} {after : Array Edge} {guard : Option (Nat × Bool)} {gl : Nat → AV} {orc : Nat → FuncId → List AV → AV} {e : Opd → AV} {m : AM}

theorem stepM_rop (hm : MSim N w0 ro0 γ w m.B m.L) (hgl : ∀ g, Rep w γ.imm (gl g) (.pointer (some ⟨g, 0, none⟩)))
    (he : ∀ x ∈ o.op.operands, Rep w γ (e (opd x)) (a.eval x)) (hc : (rop P gl orc e m o.dst (tr P o)).1 ∧ K (rop P gl orc e m o.dst (tr P o)).2 m) : StepM N w0 ro0 P o a γ w (m.st, m.ln) K :=
  fun rd next Q hk => rop_sound hm (fun _ _ h => h) hgl he hc.1 rd next Q fun v w' γ' h1 h2 h3 => hk v w' γ' _ m hc.2 rfl h1 h2 h3

theorem B_snoc (m : AM) (cells : List AV) : ({ m with boxes := m.boxes ++ [cells] } : AM).B = fun i => if i = m.boxes.length then some cells else m.B i := by
  funext i
  simp only [AM.B]
  by_cases h : i = m.boxes.length
  · simp [h]
  · rw [if_neg h]
    rcases Nat.lt_or_ge i m.boxes.length with h' | h'
    · rw [List.getElem?_append_left h']
    · rw [List.getElem?_eq_none h', List.getElem?_eq_none (by simp; omega)]

theorem L_snoc (m : AM) (n : Nat) : ({ m with lens := m.lens ++ [n] } : AM).L = fun i => if i = m.lens.length then some n else m.L i := by
  funext i
  simp only [AM.L]
  by_cases h : i = m.lens.length
  · simp [h]
  · rw [if_neg h]
    rcases Nat.lt_or_ge i m.lens.length with h' | h'
    · rw [List.getElem?_append_left h']
    · rw [List.getElem?_eq_none h', List.getElem?_eq_none (by simp; omega)]

theorem B_set (m : AM) (id : Nat) (h : id < m.boxes.length) (cells : List AV) : ({ m with boxes := m.boxes.set id cells } : AM).B = fun i => if i = id then some cells else m.B i := by
  funext i
  simp only [AM.B]
  by_cases hi : i = id
  · subst hi; simp [h]
  · rw [if_neg hi, List.getElem?_set_ne (Ne.symm hi)]

theorem L_set (m : AM) (id : Nat) (h : id < m.lens.length) (n : Nat) : ({ m with lens := m.lens.set id n } : AM).L = fun i => if i = id then some n else m.L i := by
  funext i
  simp only [AM.L]
  by_cases hi : i = id
  · subst hi; simp [h]
  · rw [if_neg hi, List.getElem?_set_ne (Ne.symm hi)]

theorem repL_one {cs : List AV} {vs : List Value} (h : RepL w γ cs vs) (hc : cs.all isCell = true) : ∀ v ∈ vs, v.oneCell' = true := fun v hv => by
  obtain ⟨i, hi⟩ := List.mem_iff_getElem?.1 hv
  have hlt : i < cs.length := by rw [h.1]; exact (List.getElem?_eq_some_iff.1 hi).1
  have := List.getElem?_eq_getElem hlt
  exact rep_one (h.2 i _ v this hi) (List.all_eq_true.1 hc _ (List.getElem_mem hlt))

theorem stepM_new (hm : MSim N w0 ro0 γ w m.B m.L) {cells : List AV} {arr : Array Value} {te : TypeId} (hr : RepL w γ cells arr.toList) (hc : cells.all isCell = true)
    (hrun : (execOp a.eval o).run P w = .ok (.value (.pointer (some ⟨w.heap.size, 0, none⟩))) (w.alloc (.cells arr te))) (hk : K (.ptr m.boxes.length 0) { m with boxes := m.boxes ++ [cells] }) : StepM N w0 ro0 P o a γ w (m.st, m.ln) K := by
  intro rd next Q hn
  have hid : m.B m.boxes.length = none := by simp [AM.B]
  refine wp_val hrun (hn _ _ (γ.box m.boxes.length w.heap.size) _ _ hk rfl (hm.ev_box _ hid _) ?_ (.ptr (by simp [G.box])))
  rw [B_snoc]
  exact hm.newBox _ hid hr (repL_one hr hc)

theorem stepM_alloc (hm : MSim N w0 ro0 γ w m.B m.L) {t : TypeId} (h : ((sop P gl orc e m dst (tr P ⟨dst, .alloc t, ty, pos, after, guard⟩)).1 ∧ K (sop P gl orc e m dst (tr P ⟨dst, .alloc t, ty, pos, after, guard⟩)).2.1 (sop P gl orc e m dst (tr P ⟨dst, .alloc t, ty, pos, after, guard⟩)).2.2)) : StepM N w0 ro0 P ⟨dst, .alloc t, ty, pos, after, guard⟩ a γ w (m.st, m.ln) K := by
  simp only [tr] at h
  split at h
  case h_2 => exact h.1.elim
  rename_i zs hz
  obtain ⟨i, z, hi, hzz, hr⟩ := zc_rep (w := w) (γ := γ) hz
  obtain ⟨h1, h2⟩ := h
  refine stepM_new hm (te := t) hr h1 ?_ h2
  simp [execOp, Instr.alloc, zeroValue, typeInfo, hi, hzz, newVar, newRow]

theorem stepM_box (hm : MSim N w0 ro0 γ w m.B m.L) {t : TypeId} {x : Operand} (he : Rep w γ (e (opd x)) (a.eval x)) (h : ((sop P gl orc e m dst (.box (opd x))).1 ∧ K (sop P gl orc e m dst (.box (opd x))).2.1 (sop P gl orc e m dst (.box (opd x))).2.2)) : StepM N w0 ro0 P ⟨dst, .box t x, ty, pos, after, guard⟩ a γ w (m.st, m.ln) K := by
  have key : bare (e (opd x)) = true → (cellsOf (e (opd x))).all isCell = true → K (.ptr m.boxes.length 0) { m with boxes := m.boxes ++ [cellsOf (e (opd x))] } → StepM N w0 ro0 P ⟨dst, .box t x, ty, pos, after, guard⟩ a γ w (m.st, m.ln) K := fun hb h1 h2 =>
    stepM_new hm (te := t) (rep_cells he hb) h1 (by simp [execOp, Instr.box, newVar, newRow]) h2
  exact key h.1.1 h.1.2 h.2

theorem stepM_store (hm : MSim N w0 ro0 γ w m.B m.L) {t : TypeId} {x y : Operand} (h1 : Rep w γ (e (opd x)) (a.eval x)) (h2 : Rep w γ (e (opd y)) (a.eval y)) (h : ((sop P gl orc e m dst (tr P ⟨dst, .store t x y, ty, pos, after, guard⟩)).1 ∧ K (sop P gl orc e m dst (tr P ⟨dst, .store t x y, ty, pos, after, guard⟩)).2.1 (sop P gl orc e m dst (tr P ⟨dst, .store t x y, ty, pos, after, guard⟩)).2.2)) :
    StepM N w0 ro0 P ⟨dst, .store t x y, ty, pos, after, guard⟩ a γ w (m.st, m.ln) K := by
  simp only [tr] at h
  split at h
  case h_2 => exact h.1.elim
  rename_i i hi
  simp only [sop] at h
  split at h
  case h_2 => exact h.1.elim
  rename_i id o' e1
  rw [e1] at h1
  obtain ⟨b, hb, hv⟩ := h1.inv_ptr
  obtain ⟨⟨g1, g2, g3, g4, g5⟩, g6⟩ := h
  have hcs := rep_cells h2 g1
  have hone := repL_one hcs g2
  have hB : m.B id = some (m.boxes.getD id []) := by simp [AM.B, g5]
  obtain ⟨arr, te, q2, q3, q4⟩ := hm.box id _ b hB hb
  have hsz : (a.eval y).cells.size = i.size := by have := hcs.1; simp at this; omega
  have hlen : arr.size = (m.boxes.getD id []).length := by have := q3.1; simp at this ⊢; omega
  have hst := run_storeCells_cells (P := P) b o' (a.eval y).cells.toList 0 w (fun j hj => by
      simp at hj
      rw [cell_of_block q2, Nat.add_zero, Array.getElem?_eq_getElem (by omega)]; rfl) (fun j hj => frozen_of_block q2) hone
  intro rd next Q hn
  simp only [Nat.add_zero] at hst
  have hrun : (execOp a.eval ⟨dst, .store t x y, ty, pos, after, guard⟩).run P w = .ok .skip (w.setCells b o' (a.eval y).cells.toList) := by
    simp [execOp, Instr.storeAt, hv, Instr.sureAddr, storeVar, sizeOf, typeInfo, hi, hsz, hst]
  refine wp_skip' hrun (hn undef _ γ _ _ g6 rfl (hm.ev_store hb o' _) ?_ (.junk _))
  rw [B_set m id g5]
  exact hm.store hB hb q2 q3 q4 hcs hone

theorem stepM_app (hm : MSim N w0 ro0 γ w m.B m.L) (hgl : ∀ g, Rep w γ.imm (gl g) (.pointer (some ⟨g, 0, none⟩))) {c : Call} (he : ∀ x ∈ c.operands, Rep w γ (e (opd x)) (a.eval x)) (h : ((sop P gl orc e m dst (trCall P c)).1 ∧ K (sop P gl orc e m dst (trCall P c)).2.1 (sop P gl orc e m dst (trCall P c)).2.2)) :
    StepM N w0 ro0 P ⟨dst, .call c, ty, pos, after, guard⟩ a γ w (m.st, m.ln) K := by
  have gen : sop P gl orc e m dst (trCall P c) = ((rop P gl orc e m dst (trCall P c)).1, (rop P gl orc e m dst (trCall P c)).2, m) → StepM N w0 ro0 P ⟨dst, .call c, ty, pos, after, guard⟩ a γ w (m.st, m.ln) K := fun hg =>
    stepM_rop hm hgl he (by rw [hg] at h; exact h)
  obtain ⟨callee, args, ts⟩ := c
  cases callee with
  | value f => exact gen rfl
  | invoke recv name => exact gen rfl
  | builtin b =>
    cases b <;> first | exact gen rfl | skip
    case append =>
      simp only [trCall] at h
      split at h
      case h_2 => exact h.1.elim
      rename_i s x t t' ha ht
      split at h
      case h_2 => exact h.1.elim
      rename_i te te' hu hu'
      split at h
      case h_2 => exact h.1.elim
      rename_i i hi
      split at h
      case isFalse => exact h.1.elim
      rename_i hcond
      simp only [Bool.and_eq_true, beq_iff_eq, bne_iff_ne] at hcond
      obtain ⟨⟨⟨rfl, hz⟩, _⟩, hb0⟩ := hcond
      obtain rfl : args = #[s, x] := by cases args; simp_all
      obtain rfl : ts = #[t, t] := by cases ts; simp_all
      have h1 := he s (by simp [Call.operands])
      have h2 := he x (by simp [Call.operands])
      cases hzz : i.zero with
      | none => simp [hzz] at hz
      | some z =>
        simp [hzz] at hz
        simp only [sop] at h
        split at h
        · rename_i id sz' rows rt2 rows2 e1 e2
          rw [e1] at h1
          rw [e2] at h2
          obtain ⟨⟨rfl, hlen, hr, hfit⟩, hk⟩ := h
          obtain ⟨v, w', γ', g1, g2, g3, g4⟩ := app_own (ty := ty) hm hu hi hzz hz (id := id) (.inr ⟨h1, hlen⟩) h2 hr hfit (big_of_fit hb0 hfit)
          intro rd next Q hn
          refine wp_val (v := v) (w' := w') (by simp [execOp, resolve, invoke, builtin, g1]) (hn v w' γ' _ _ hk rfl g2 ?_ g4)
          rw [L_set m id (List.getElem?_eq_some_iff.1 hlen).1]
          exact g3
        · rename_i rt rows rt2 rows2 _ e1 e2
          rw [e1] at h1
          rw [e2] at h2
          obtain ⟨⟨hfu, hr, hfit⟩, hk⟩ := h
          replace h1 := h1.full_of hfu
          obtain ⟨v, w', γ', g1, g2, g3, g4⟩ := app_own (ty := ty) hm hu hi hzz hz (id := m.lens.length) (.inl ⟨h1, by simp [AM.L]⟩) h2 hr hfit (big_of_fit hb0 hfit)
          intro rd next Q hn
          refine wp_val (v := v) (w' := w') (by simp [execOp, resolve, invoke, builtin, g1]) (hn v w' γ' _ _ hk rfl g2 ?_ g4)
          rw [L_snoc]
          exact g3
        · exact h.1.elim
    case len =>
      refine gen ?_
      simp only [trCall]
      repeat' split
      all_goals rfl
    case max => refine gen ?_; simp only [trCall]; repeat' split
                all_goals rfl
    case min => refine gen ?_; simp only [trCall]; repeat' split
                all_goals rfl

/-- A new map. -/
def G.newm (γ : G) (id b : Nat) : G := { γ with mm := fun i => if i = id then some b else γ.mm i }

theorem MSim.newMap {B : Nat → Option (List AV)} {L : Nat → Option Nat} (hm : MSim N w0 ro0 γ w B L) (id : Nat) (hid : B id = none) :
    Ev w γ (w.alloc (.map #[] 0)) (γ.newm id w.heap.size) ∧ MSim N w0 ro0 (γ.newm id w.heap.size) (w.alloc (.map #[] 0)) (fun i => if i = id then some [.mobj []] else B i) L := by
  have hne : ∀ i b, γ.mm i = some b → i ≠ id := fun i b h => by
    rintro rfl
    obtain ⟨_, _, _, _, _, _, _, _, _, _, hx, _⟩ := hm.mm i b h
    rw [hid] at hx; cases hx
  have hneβ : ∀ i b, γ.β i = some b → i ≠ id := fun i b h => by
    rintro rfl
    obtain ⟨_, _, _, _, c, hc⟩ := hm.β i b h
    rw [hid] at hc; cases hc
  have hβ0 : γ.β id = none := by
    cases h : γ.β id with
    | none => rfl
    | some b => exact absurd rfl (hneβ id b h)
  have hev : Ev w γ (w.alloc (.map #[] 0)) (γ.newm id w.heap.size) := ⟨by simp, fun b o' hb hr => ⟨hr, cell_of_heap (Below.heap_alloc w _ b hb)⟩, fun _ _ h => h, fun _ => Nat.le_refl _, fun i b h => by simp [G.newm, hne i b h, h], rfl,
      fun i b _ ho => ⟨ho, fun arr e he => ⟨arr, by rw [Below.heap_alloc w _ b (hm.own i b ho).2.1]; exact he, Nat.le_refl _⟩, fun _ h => h⟩,
      fun b hb => ⟨hb, Below.heap_alloc w _ b (hm.sp b hb).2.1⟩⟩
  refine ⟨hev, ⟨w0.st _ _ _ _ hm.bs ⟨rfl, rfl, rfl, by simp, fun b hb _ => Below.heap_alloc w _ b hb, hev.ro, fun b hb => ?_, fun _ _ h => .inl h⟩, by have := hm.hN; simp; omega, hm.ro0, fun b o h => by have := hm.robd b o h; simp; omega,
    fun i cells b hb h1 => ?_, fun i b hb => ?_, hm.inj, fun i b hb => ?_, hm.oinj, fun b hb => ?_, fun i b hb => ?_, fun i i' b h h' => ?_, hm.len, hm.cur0⟩⟩
  · rcases hb with hb | hb | hb | ⟨i, hb⟩
    · exact .inl (.inl hb)
    · exact .inl (.inr (.inl hb))
    · exact .inl (.inr (.inr (.inl hb)))
    · by_cases h : i = id
      · simp [G.newm, h] at hb; exact .inr (by omega)
      · simp [G.newm, h] at hb; exact .inl (.inr (.inr (.inr ⟨i, hb⟩)))
  · have h1' : γ.β i = some b := h1
    simp only [if_neg (hneβ i b h1')] at hb
    obtain ⟨arr, e, h2, h3, h4⟩ := hm.box i cells b hb h1'
    exact ⟨arr, e, by rw [Below.heap_alloc w _ b (lt_of_heap h2)]; exact h2, h3.mono hev, h4⟩
  · have hb' : γ.β i = some b := hb
    obtain ⟨h1, h2, h3, h4, c, h5⟩ := hm.β i b hb'
    exact ⟨h1, by simp; omega, h3, h4, c, by simp only [if_neg (hneβ i b hb')]; exact h5⟩
  · obtain ⟨h1, h2, h3⟩ := hm.own i b hb
    exact ⟨h1, by simp; omega, h3⟩
  · obtain ⟨h1, h2, h3⟩ := hm.sp b hb
    exact ⟨h1, by simp; omega, h3⟩
  · by_cases h : i = id
    · subst h
      simp [G.newm] at hb
      subst hb
      refine ⟨hm.hN, by simp, fun o' h => ?_, fun i h => ?_, fun i h => ?_, fun h => ?_, hβ0, [], #[], 0, by simp, by show (w.heap.push _)[w.heap.size]? = _; simp, rfl, fun j k c x q1 => by simp at q1⟩
      · have := hm.robd _ _ h; omega
      · have := (hm.β i _ h).2.1; omega
      · have := (hm.own i _ h).2.1; omega
      · have := (hm.sp _ h).2.1; omega
    · simp [G.newm, h] at hb
      obtain ⟨h1, h2, h3, h4, h5, h6, h8, h7⟩ := hm.mm i b hb
      refine ⟨h1, by simp; omega, h3, h4, h5, h6, h8, ?_⟩
      simp only [if_neg h]
      exact h7.mono hev.toR.toV (Below.heap_alloc w _ b h2)
  · by_cases hi : i = id <;> by_cases hi' : i' = id
    · rw [hi, hi']
    · simp [G.newm, hi] at h
      simp [G.newm, hi'] at h'
      have := (hm.mm i' b h').2.1; omega
    · simp [G.newm, hi] at h
      simp [G.newm, hi'] at h'
      have := (hm.mm i b h).2.1; omega
    · simp [G.newm, hi] at h
      simp [G.newm, hi'] at h'
      exact hm.minj i i' b h h'

theorem stepM_mkmap (hm : MSim N w0 ro0 γ w m.B m.L) {t : TypeId} {r : Option Operand} (h : ((sop P gl orc e m dst (tr P ⟨dst, .makeMap t r, ty, pos, after, guard⟩)).1 ∧ K (sop P gl orc e m dst (tr P ⟨dst, .makeMap t r, ty, pos, after, guard⟩)).2.1 (sop P gl orc e m dst (tr P ⟨dst, .makeMap t r, ty, pos, after, guard⟩)).2.2)) : StepM N w0 ro0 P ⟨dst, .makeMap t r, ty, pos, after, guard⟩ a γ w (m.st, m.ln) K := by
  cases r with
  | some r => exact h.1.elim
  | none =>
    simp only [tr] at h
    split at h
    case h_2 => exact h.1.elim
    intro rd next Q hn
    have hid : m.B m.boxes.length = none := by simp [AM.B]
    obtain ⟨g1, g2⟩ := hm.newMap _ hid
    refine wp_val (v := .map (some w.heap.size)) (w' := w.alloc (.map #[] 0)) (by simp [execOp, Instr.makeMap]) (hn _ _ (γ.newm m.boxes.length w.heap.size) _ _ h.2 rfl g1 ?_ (.mp (by simp [G.newm])))
    simp only [sop]
    rw [B_snoc]
    exact g2

/-- A map is changed. -/
theorem MSim.putMap {B : Nat → Option (List AV)} {L : Nat → Option Nat} (hm : MSim N w0 ro0 γ w B L) {id b : Nat} (hb : γ.mm id = some b) {kvs : List (Int × AV)} {es : Array MapEntry} {c : Nat} (hl : kvs.length = es.size)
    (hk : ∀ (i : Nat) (k : Int) (a : AV) (e : MapEntry), kvs[i]? = some (k, a) → es[i]? = some e → e.key = .int .i64 k ∧ Rep w γ a e.val) :
    Ev w γ (w.putObj b (.map es c)) γ ∧ MSim N w0 ro0 γ (w.putObj b (.map es c)) (fun i => if i = id then some [.mobj kvs] else B i) L := by
  obtain ⟨n1, n2, n3, n4, n5, n6, n8, kvs0, es0, c0, n7, h0, _⟩ := hm.mm id b hb
  have hother : ∀ b', b' ≠ b → (w.putObj b (.map es c)).heap[b']? = w.heap[b']? := fun b' hb' => World.putObj_heap_other hb'
  have hthis : (w.putObj b (.map es c)).heap[b]? = some (.map es c) := by simp [World.putObj, n2]
  have hcell : ∀ b' o', (w.putObj b (.map es c)).cell? ⟨b', o', none⟩ = w.cell? ⟨b', o', none⟩ := fun b' o' => by
    by_cases hbb : b' = b
    · subst hbb; simp only [World.cell?, hthis, h0]
    · exact cell_of_heap (hother b' hbb)
  have hev : Ev w γ (w.putObj b (.map es c)) γ := by
    refine ⟨by simp, fun b' o' _ hr => ⟨hr, hcell b' o'⟩, fun _ _ h => h, fun _ => Nat.le_refl _, fun _ _ h => h, rfl, fun i b' _ ho => ⟨ho, fun arr e he => ⟨arr, ?_, Nat.le_refl _⟩, fun _ h => h⟩, fun b' h => ⟨h, hother b' (by rintro rfl; exact n6 h)⟩⟩
    rw [hother b' (by rintro rfl; exact n5 i ho)]; exact he
  refine ⟨hev, ⟨w0.st _ _ _ _ hm.bs ⟨rfl, rfl, rfl, by simp, fun b' _ hno => hother b' (by rintro rfl; exact hno (.inr (.inr (.inr ⟨id, hb⟩)))), hev.ro, fun b' hb' => .inl hb', fun b' o' h => .inl h⟩, by simpa using hm.hN,
    hm.ro0, fun b' o' h => by simpa using hm.robd b' o' h, fun i cells b' hbi h1 => ?_, fun i b' hb' => ?_, hm.inj, fun i b' hb' => ?_, hm.oinj, fun b' hb' => ?_, fun i b' hb' => ?_, hm.minj, hm.len, hm.cur0⟩⟩
  · have hi : i ≠ id := by rintro rfl; rw [n8] at h1; cases h1
    simp only [if_neg hi] at hbi
    obtain ⟨arr, e, h2, h3, h4⟩ := hm.box i cells b' hbi h1
    exact ⟨arr, e, by rw [hother b' (by rintro rfl; exact n4 i h1)]; exact h2, h3.mono hev, h4⟩
  · have hi : i ≠ id := by rintro rfl; rw [n8] at hb'; cases hb'
    obtain ⟨h1, h2, h3, h4, c', h5⟩ := hm.β i b' hb'
    exact ⟨h1, by simpa using h2, h3, h4, c', by simp only [if_neg hi]; exact h5⟩
  · obtain ⟨h1, h2, h3⟩ := hm.own i b' hb'
    exact ⟨h1, by simpa using h2, h3⟩
  · obtain ⟨h1, h2, h3⟩ := hm.sp b' hb'
    exact ⟨h1, by simpa using h2, h3⟩
  · by_cases hi : i = id
    · subst hi
      obtain rfl : b' = b := Option.some.inj (hb'.symm.trans hb)
      exact ⟨n1, by simpa using n2, n3, n4, n5, n6, n8, kvs, es, c, by simp, hthis, hl, fun j k a e q1 q2 => ⟨(hk j k a e q1 q2).1, (hk j k a e q1 q2).2.mono hev⟩⟩
    · obtain ⟨h1, h2, h3, h4, h5, h6, h8, h7⟩ := hm.mm i b' hb'
      refine ⟨h1, by simpa using h2, h3, h4, h5, h6, h8, ?_⟩
      simp only [if_neg hi]
      exact h7.mono hev.toR.toV (hother b' (by rintro rfl; exact hi (hm.minj _ _ _ hb' hb)))

theorem run_keyStays {old new : Value} {n : Int} (h1 : old = .int .i64 n) (h2 : new = .int .i64 n) : (Instr.keyThatStays old new).run P w = .ok new w := by
  subst h1; subst h2
  simp [Instr.keyThatStays, Instr.sameBits]

theorem stepM_mupd (hm : MSim N w0 ro0 γ w m.B m.L) {t : TypeId} {x k y : Operand} (h1 : Rep w γ (e (opd x)) (a.eval x)) (h2 : Rep w γ (e (opd k)) (a.eval k)) (h3 : Rep w γ (e (opd y)) (a.eval y))
    (h : ((sop P gl orc e m dst (tr P ⟨dst, .mapUpdate t x k y, ty, pos, after, guard⟩)).1 ∧ K (sop P gl orc e m dst (tr P ⟨dst, .mapUpdate t x k y, ty, pos, after, guard⟩)).2.1 (sop P gl orc e m dst (tr P ⟨dst, .mapUpdate t x k y, ty, pos, after, guard⟩)).2.2)) : StepM N w0 ro0 P ⟨dst, .mapUpdate t x k y, ty, pos, after, guard⟩ a γ w (m.st, m.ln) K := by
  simp only [tr] at h
  split at h
  case h_2 => exact h.1.elim
  rename_i p ht
  obtain ⟨v, z⟩ := p
  simp only [sop] at h
  split at h
  case h_2 => exact h.1.elim
  rename_i id n e1 e2
  rw [e1] at h1
  rw [e2] at h2
  split at h
  case h_2 => exact h.1.elim
  rename_i kvs hbox
  obtain ⟨kt, i, zv, hu, hk, hi, hz, rfl⟩ := mapT_spec ht
  obtain ⟨b, hb, hv⟩ : ∃ b, γ.mm id = some b ∧ a.eval x = .map (some b) := by
    generalize a.eval x = vx at h1
    cases h1 with
    | mp h => exact ⟨_, h, rfl⟩
  obtain ⟨_, hlt, _, _, _, _, _, kvs', es, clock, q1, q2, q3, q4⟩ := hm.mm id b hb
  have hid : id < m.boxes.length := by
    rcases Nat.lt_or_ge id m.boxes.length with h | h
    · exact h
    · simp [List.getD, List.getElem?_eq_none h] at hbox
  have hBid : m.B id = some [.mobj kvs] := by
    simp [AM.B, hid]
    simpa [List.getD, hid] using hbox
  rw [hBid] at q1
  cases q1
  obtain ⟨f1, f2⟩ := find_ok (w := w) (γ := γ) (n := n) (kvs := kvs) (es := es.toList) 0 (by simpa using q3) fun j k' c x' g1 g2 => q4 j k' c x' g1 (by simpa using g2)
  have hget := MapKept.run_getObj_map (P := P) q2
  have hset : ∀ o, (setObj b o).run P w = .ok () (w.putObj b o) := fun o => by simp [setObj, Sem.run, q2, World.putObj]
  have hck : (Instr.checkKey false 10000 kt (.int .i64 n)).run P w = .ok () w := run_checkKey hk
  intro rd next Q hn
  obtain ⟨hba, hK⟩ := h
  cases hf : kfind n kvs 0 with
  | none =>
    rw [hf] at hK
    have hfk := MapKept.run_findKey (P := P) (w := w) hk (f1 hf)
    have hrun : (execOp a.eval ⟨dst, .mapUpdate t x k y, ty, pos, after, guard⟩).run P w = .ok .skip (w.putObj b (.map (es.push ⟨.int .i64 n, a.eval y, clock⟩) (clock + 1))) := by
      simp [execOp, Instr.mapUpdate, run_underlying hu, hv, h2.inv_int, hget, hck, hfk, hset]
    obtain ⟨g1, g2⟩ := hm.putMap hb (kvs := kvs ++ [(n, e (opd y))]) (es := es.push ⟨.int .i64 n, a.eval y, clock⟩) (c := clock + 1) (by simp [q3]) fun j k' c x' s1 s2 => by
      rcases Nat.lt_or_ge j kvs.length with hj | hj
      · rw [List.getElem?_append_left hj] at s1
        rw [Array.getElem?_push_lt (by omega)] at s2
        exact q4 j k' c x' s1 (by rw [Array.getElem?_eq_getElem (by omega)]; exact s2)
      · have hj' : j = kvs.length := by
          have := (List.getElem?_eq_some_iff.1 s1).1
          simp at this; omega
        subst hj'
        simp at s1
        obtain ⟨rfl, rfl⟩ := s1
        rw [q3] at s2
        simp at s2
        subst s2
        exact ⟨rfl, h3⟩
    refine wp_skip' hrun (hn undef _ γ _ _ hK rfl g1 ?_ (.junk _))
    rw [B_set m id hid]
    exact g2
  | some p =>
    obtain ⟨j, c⟩ := p
    rw [hf] at hK
    obtain ⟨vv, s1, s2, s3, s4, s5⟩ := f2 j c hf
    have hfk := MapKept.run_findKey (P := P) (w := w) hk s1
    simp only [Nat.sub_zero] at s5
    have hjl : j < es.size := by omega
    have hold := (q4 j n c es[j] s5 (Array.getElem?_eq_getElem hjl)).1
    have hks := run_keyStays (P := P) (w := w) hold rfl
    have hrun : (execOp a.eval ⟨dst, .mapUpdate t x k y, ty, pos, after, guard⟩).run P w = .ok .skip (w.putObj b (.map (es.modify j fun q => { q with key := .int .i64 n, val := a.eval y }) clock)) := by
      simp [execOp, Instr.mapUpdate, run_underlying hu, hv, h2.inv_int, hget, hck, hfk, hjl, hks, hset]
    obtain ⟨g1, g2⟩ := hm.putMap hb (kvs := kvs.set j (n, e (opd y))) (es := es.modify j fun q => { q with key := .int .i64 n, val := a.eval y }) (c := clock) (by simp [q3]) fun j' k' c' x' t1 t2 => by
      rw [Array.getElem?_modify] at t2
      by_cases hjj : j = j'
      · subst hjj
        simp [hjl] at t2
        rw [List.getElem?_set_self (by omega)] at t1
        cases t1
        subst t2
        exact ⟨rfl, h3⟩
      · rw [List.getElem?_set_ne hjj] at t1
        rw [if_neg hjj] at t2
        exact q4 j' k' c' x' t1 t2
    refine wp_skip' hrun (hn undef _ γ _ _ hK rfl g1 ?_ (.junk _))
    rw [B_set m id hid]
    exact g2

theorem stepM_mks0 (hm : MSim N w0 ro0 γ w m.B m.L) {t : TypeId} {l c : Operand} (h1 : Rep w γ (e (opd c)) (a.eval c))
    (h : ((sop P gl orc e m dst (tr P ⟨dst, .makeSlice t l c, ty, pos, after, guard⟩)).1 ∧ K (sop P gl orc e m dst (tr P ⟨dst, .makeSlice t l c, ty, pos, after, guard⟩)).2.1 (sop P gl orc e m dst (tr P ⟨dst, .makeSlice t l c, ty, pos, after, guard⟩)).2.2)) : StepM N w0 ro0 P ⟨dst, .makeSlice t l c, ty, pos, after, guard⟩ a γ w (m.st, m.ln) K := by
  simp only [tr] at h
  split at h
  case h_2 => exact h.1.elim
  rename_i te hu
  split at h
  case h_2 => exact h.1.elim
  rename_i i hi
  split at h
  case isFalse => exact h.1.elim
  rename_i hz
  obtain ⟨z, hz⟩ := Option.isSome_iff_exists.1 hz
  simp only [sop] at h
  split at h
  case h_2 => exact h.1.elim
  rename_i kk n e1
  rw [e1] at h1
  obtain ⟨⟨g1, g2, g3⟩, g4⟩ := h
  have hrun := run_make (P := P) w t te i z hu hi hz .i64 kk 0 n (Int.le_refl _) g1 g2 g3
  have hL : m.L m.lens.length = none := by simp [AM.L]
  have hcur : γ.cur m.lens.length = 0 := hm.cur0 _ hL
  have hown : γ.own m.lens.length = none := by
    cases h : γ.own m.lens.length with
    | none => rfl
    | some b => obtain ⟨_, _, k, hk⟩ := hm.own _ _ h; rw [hL] at hk; cases hk
  intro rd next Q hn
  have hcst : a.eval (.const (.int .i64 0)) = .int .i64 0 := rfl
  let o : Obj := .cells (madeCells z.cells (n.toNat * i.size)) te
  refine wp_val (v := .slice (some ⟨w.heap.size, 0, none⟩) 0 n.toNat) (w' := w.alloc o) (by simp [execOp, hcst, h1.inv_int, hrun, o])
    (hn _ _ (γ.renew m.lens.length w.heap.size 0 0) _ _ g4 rfl (hm.ev_renew (q := 0) (by omega) (fun _ => hown) o) ?_ ?_)
  · rw [L_snoc]
    exact hm.renew (by omega) (fun _ => hown) o
  · refine .sl (rows := []) w.heap.size 0 i.size (fun _ _ => undef) (Nat.zero_le _) (fun h => (by cases h)) (fun h => absurd rfl h) (fun _ h => by cases h) (fun i j c h => by simp [rowCell] at h) (fun i j c h => by simp [rowCell] at h) ?_
    refine ⟨rfl, Nat.zero_le _, fun _ => .inr ⟨w.heap.size, 0, madeCells z.cells (n.toNat * i.size), te, rfl, by simp [G.renew], by show (w.heap.push _)[w.heap.size]? = _; simp [o], by simp [size_madeCells], fun o' _ hr => ?_⟩⟩
    rcases hr with hr | ⟨_, hr⟩
    · have := hm.robd _ _ hr; omega
    · omega

/-- EVERY OPERATION. -/
theorem sop_sound (hm : MSim N w0 ro0 γ w m.B m.L) (hgl : ∀ g, Rep w γ.imm (gl g) (.pointer (some ⟨g, 0, none⟩)))
    (he : ∀ x ∈ o.op.operands, Rep w γ (e (opd x)) (a.eval x)) (h : ((sop P gl orc e m o.dst (tr P o)).1 ∧ K (sop P gl orc e m o.dst (tr P o)).2.1 (sop P gl orc e m o.dst (tr P o)).2.2)) : StepM N w0 ro0 P o a γ w (m.st, m.ln) K := by
  have gen : sop P gl orc e m o.dst (tr P o) = ((rop P gl orc e m o.dst (tr P o)).1, (rop P gl orc e m o.dst (tr P o)).2, m) → StepM N w0 ro0 P o a γ w (m.st, m.ln) K := fun hg =>
    stepM_rop hm hgl he (by rw [hg] at h; exact h)
  obtain ⟨dst, op, ty, pos, after, guard⟩ := o
  cases op with
  | alloc t => exact stepM_alloc hm h
  | box t x => exact stepM_box hm (he x (by simp [Op.operands])) h
  | store t x y => exact stepM_store hm (he x (by simp [Op.operands])) (he y (by simp [Op.operands])) h
  | call c => exact stepM_app hm hgl he h
  | makeMap t r => exact stepM_mkmap hm h
  | mapUpdate t x k y => exact stepM_mupd hm (he x (by simp [Op.operands])) (he k (by simp [Op.operands])) (he y (by simp [Op.operands])) h
  | makeSlice t l c => exact stepM_mks0 hm (he c (by simp [Op.operands])) h
  | binOp op t x y t' => refine gen ?_; simp only [tr, trNil]; repeat' split
                         all_goals rfl
  | build t parts => refine gen ?_; simp only [tr, trBuild]; repeat' split
                     all_goals rfl
  | slice t x lo hi mx => refine gen ?_; cases mx <;> simp only [tr] <;> (repeat' split) <;> rfl
  | makeFunc fn first cap => refine gen ?_; cases fn <;> rfl
  | _ => first | exact gen rfl | (refine gen ?_; simp only [tr]; repeat' split
                                  all_goals rfl)

end
end Go.Abs
