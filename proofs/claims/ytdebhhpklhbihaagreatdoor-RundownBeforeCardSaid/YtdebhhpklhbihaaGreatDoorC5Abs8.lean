/-
  OWN WORK. The operations that leave the abstract memory are sound: all of them.
-/
import Derived.Test.YtdebhhpklhbihaaGreatDoorC5Abs7
namespace Go.Abs
open Go Go.RowKit

/-- What an operation owes that leaves the abstract memory. -/
def Step (N : Nat) (w0 : Bas) (ro0 : Nat → Nat → Prop) (P : Program) (o : Oper) (a : Act) (γ : G) (w : World) (B : Nat → Option (List AV)) (L : Nat → Option Nat) (r : AV) : Prop :=
  ∀ (rd : Option Nat) (next : Act → World → Prop) (Q : Exit → Act → World → Prop), (∀ v w' γ', Ev w γ w' γ' → MSim N w0 ro0 γ' w' B L → Rep w' γ' r v → next (a.put o.dst v) w') → o.wpIn (FW rd) 0 P a w next Q

section
variable {N : Nat} {w0 : Bas} {ro0 : Nat → Nat → Prop} {γ : G} {w : World} {B : Nat → Option (List AV)} {L : Nat → Option Nat} {P : Program} {o : Oper} {a : Act} {r : AV}

theorem step_val (hm : MSim N w0 ro0 γ w B L) {v : Value} (h : (execOp a.eval o).run P w = .ok (.value v) w) (hr : Rep w γ r v) : Step N w0 ro0 P o a γ w B L r :=
  fun _ _ _ hk => wp_val h (hk v w γ (Ev.refl _ _) hm hr)

theorem step_val' {v : Value} {w' : World} {γ' : G} (hm : MSim N w0 ro0 γ' w' B L) (e : Ev w γ w' γ') (h : (execOp a.eval o).run P w = .ok (.value v) w') (hr : Rep w' γ' r v) : Step N w0 ro0 P o a γ w B L r :=
  fun _ _ _ hk => wp_val h (hk v w' γ' e hm hr)

variable {dst : Option Tmp} {ty : TypeId} {pos : String} {after : Array Edge} {guard : Option (Nat × Bool)} {gl : Nat → AV} {orc : Nat → FuncId → List AV → AV} {e : Opd → AV} {m : AM}

theorem asB_rep {x : AV} {v : Value} {g b : Bool} (h : asB x = some (g, b)) (hr : Rep w γ x v) (hg : g = true) : v = .bool b := by
  cases x <;> simp [asB] at h
  · obtain ⟨rfl, rfl⟩ := h; exact hr.inv_bool
  · rename_i g' y
    obtain ⟨h1, rfl⟩ := h
    rw [hg] at h1
    cases g' with
    | false => cases h1
    | true =>
      cases y <;> simp [isB] at h1
      exact (hr.inv_gd rfl).inv_bool

theorem step_pick (hm : MSim N w0 ro0 γ w B L) {c x y : Operand} (h1 : Rep w γ (e (opd c)) (a.eval c)) (h2 : Rep w γ (e (opd x)) (a.eval x)) (h3 : Rep w γ (e (opd y)) (a.eval y))
    (hc : (rop P gl orc e m dst (.pick (opd c) (opd x) (opd y))).1) :
    Step N w0 ro0 P ⟨dst, .pick c x y, ty, pos, after, guard⟩ a γ w B L (rop P gl orc e m dst (.pick (opd c) (opd x) (opd y))).2 := by
  simp only [rop] at hc ⊢
  split at hc
  · rename_i g0 c' g1 x' g2 y' e1 e2 e3
    try simp only [e1, e2, e3]
    obtain ⟨hc0, hc1, hc2⟩ := hc
    have h1 := asB_rep e1 h1 hc0
    cases c' with
    | true =>
      have := asB_rep e2 h2 (hc1 rfl)
      exact step_val hm (v := .bool x') (by simp [execOp, h1, asBool, this]) (.bool _)
    | false =>
      have := asB_rep e3 h3 (hc2 rfl)
      exact step_val hm (v := .bool y') (by simp [execOp, h1, asBool, this]) (.bool _)
  · exact hc.elim

theorem step_load (hm : MSim N w0 ro0 γ w B L) (hB : ∀ id cells, m.boxes[id]? = some cells → B id = some cells) {t : TypeId} {x : Operand} (h1 : Rep w γ (e (opd x)) (a.eval x))
    (hc : (rop P gl orc e m dst (tr P ⟨dst, .load t x, ty, pos, after, guard⟩)).1) :
    Step N w0 ro0 P ⟨dst, .load t x, ty, pos, after, guard⟩ a γ w B L (rop P gl orc e m dst (tr P ⟨dst, .load t x, ty, pos, after, guard⟩)).2 := by
  simp only [tr] at hc ⊢
  split at hc
  case h_2 => exact hc.elim
  rename_i i d hi hd
  try simp only [hi, hd]
  have main : ∀ (agg : Bool) (n : Nat), aggT P t = agg → (agg = true → n = i.size) → (rop P gl orc e m dst (.load agg n (opd x))).1 →
      Step N w0 ro0 P ⟨dst, .load t x, ty, pos, after, guard⟩ a γ w B L (rop P gl orc e m dst (.load agg n (opd x))).2 := by
    intro agg n hagg hn hc
    simp only [rop] at hc ⊢
    split at hc
    · rename_i id o' he
      try simp only [he]
      rw [he] at h1
      obtain ⟨b, hb, hv⟩ := h1.inv_ptr
      cases hmb : m.boxes[id]? with
      | none =>
        have e0 : m.boxes.getD id [] = [] := by simp [List.getD, hmb]
        rw [e0] at hc ⊢
        obtain ⟨v, h2, h3⟩ := cut_load (P := P) (w := w) (γ := γ) (b := b) (o := o') (cv := fun _ => undef) hi hd hagg hn (fun j c hj => by simp at hj) (fun j c hj => by simp at hj) hc
        exact step_val hm (by simp [execOp, hv, h2]) h3
      | some cells =>
        have e0 : m.boxes.getD id [] = cells := by simp [List.getD, hmb]
        rw [e0] at hc ⊢
        obtain ⟨arr, te, g2, g3, g4⟩ := hm.box id cells b (hB id cells hmb) hb
        have hget : ∀ (j : Nat) (c : AV), (cells.drop o')[j]? = some c → arr[o' + j]? = some (arr.getD (o' + j) undef) ∧ Rep w γ c (arr.getD (o' + j) undef) := fun j c hj => by
          rw [List.getElem?_drop] at hj
          have hlt : o' + j < arr.size := by
            have := (List.getElem?_eq_some_iff.1 hj).1
            have h0 := g3.1
            simp at h0
            omega
          have hu : arr[o' + j]? = some (arr.getD (o' + j) undef) := by simp [hlt]
          exact ⟨hu, g3.2 _ _ _ hj (by simpa using hu)⟩
        obtain ⟨v, h2, h3⟩ := cut_load (P := P) (w := w) (γ := γ) (b := b) (o := o') (cv := fun j => arr.getD (o' + j) undef) hi hd hagg hn (fun j c hj => by rw [cell_of_block g2]; exact (hget j c hj).1) (fun j c hj => (hget j c hj).2) hc
        exact step_val hm (by simp [execOp, hv, h2]) h3
    · rename_i row o' he
      try simp only [he]
      rw [he] at h1
      obtain ⟨b, off, cv, hv, hb, hcell, hrep⟩ := h1.inv_ep
      have hget : ∀ (j : Nat) (c : AV), (row.drop o')[j]? = some c → row[o' + j]? = some c := fun j c hj => by rw [List.getElem?_drop] at hj; exact hj
      obtain ⟨v, h2, h3⟩ := cut_load (P := P) (w := w) (γ := γ) (b := b) (o := off + o') (cv := fun j => cv (o' + j)) hi hd hagg hn
        (fun j c hj => by rw [Nat.add_assoc]; exact (hcell _ _ (hget j c hj)).1) (fun j c hj => (hrep _ _ (hget j c hj)).of_imm) hc
      exact step_val hm (by simp [execOp, hv, h2]) h3
    · exact hc.elim
  cases hagg : aggT P t with
  | true => simp only [hagg, if_true] at hc ⊢; exact main true _ hagg (fun _ => rfl) hc
  | false => simp only [hagg] at hc ⊢; exact main false 1 hagg (fun h => by cases h) hc

theorem step_faddr (hm : MSim N w0 ro0 γ w B L) {t : TypeId} {x : Operand} {f : Nat} (h1 : Rep w γ (e (opd x)) (a.eval x))
    (hc : (rop P gl orc e m dst (tr P ⟨dst, .fieldAddr t x f, ty, pos, after, guard⟩)).1) :
    Step N w0 ro0 P ⟨dst, .fieldAddr t x f, ty, pos, after, guard⟩ a γ w B L (rop P gl orc e m dst (tr P ⟨dst, .fieldAddr t x f, ty, pos, after, guard⟩)).2 := by
  simp only [tr] at hc ⊢
  split at hc
  case h_2 => exact hc.elim
  rename_i fields hu
  try simp only [hu]
  split at hc
  case h_2 => exact hc.elim
  rename_i fl hfl
  try simp only [hfl]
  split at hc
  case h_2 => exact hc.elim
  rename_i i hi
  try simp only [hi]
  split at hc
  case isTrue => exact hc.elim
  rename_i hsz
  try rw [if_neg hsz]
  simp only [rop] at hc ⊢
  have hsz' : i.size ≠ 0 := by simpa using hsz
  split at hc
  · rename_i id o' he
    try simp only [he]
    rw [he] at h1
    obtain ⟨b, hb, hv⟩ := h1.inv_ptr
    exact step_val hm (v := .pointer (some ⟨b, o' + fl.offset, none⟩)) (by simp [execOp, hv, Instr.fieldAt, run_underlying hu, hfl, Instr.sureAddr, fieldPlace, sizeOf, typeInfo, hi, hsz', addr_add]) (.ptr hb)
  · rename_i row o' he
    try simp only [he]
    rw [he] at h1
    obtain ⟨b, off, cv, hv, hb, hcell, hrep⟩ := h1.inv_ep
    refine step_val hm (v := .pointer (some ⟨b, off + (o' + fl.offset), none⟩)) (by simp [execOp, hv, Instr.fieldAt, run_underlying hu, hfl, Instr.sureAddr, fieldPlace, sizeOf, typeInfo, hi, hsz', addr_add, Nat.add_assoc]) (.ep cv hb hcell hrep)
  · exact hc.elim

theorem step_iaddr (hm : MSim N w0 ro0 γ w B L) {t : TypeId} {x y : Operand} (h1 : Rep w γ (e (opd x)) (a.eval x)) (h2 : Rep w γ (e (opd y)) (a.eval y))
    (hc : (rop P gl orc e m dst (tr P ⟨dst, .indexAddr t x y, ty, pos, after, guard⟩)).1) :
    Step N w0 ro0 P ⟨dst, .indexAddr t x y, ty, pos, after, guard⟩ a γ w B L (rop P gl orc e m dst (tr P ⟨dst, .indexAddr t x y, ty, pos, after, guard⟩)).2 := by
  simp only [tr] at hc ⊢
  split at hc
  · rename_i te hu
    try simp only [hu]
    split at hc
    case h_2 => exact hc.elim
    rename_i i hi
    try simp only [hi]
    simp only [rop] at hc ⊢
    split at hc
    case h_3 => exact hc.elim
    case h_2 =>
      rename_i id off len sz' k n e1 e2
      try simp only [e1, e2]
      rw [e1] at h1
      rw [e2] at h2
      obtain ⟨b, cap, arr, te', hb, hv, hl, hh, hs⟩ := h1.inv_bs
      obtain ⟨⟨hn0, hn1⟩, rfl⟩ := hc
      refine step_val hm (v := .pointer (some ⟨b, off + n.toNat * i.size, none⟩)) ?_ (.ptr hb)
      simp [execOp, hv, h2.inv_int, Instr.indexAt, run_underlying hu, asIntOf, hn0, hn1, sizeOf, typeInfo, hi, addr_add]
    rename_i rt rows k n e1 e2
    try simp only [e1, e2]
    rw [e1] at h1
    rw [e2] at h2
    obtain ⟨a', cap, b, off, sz, cv, hv, s, _⟩ := h1.sl_inv
    obtain ⟨⟨hn0, hn1⟩, hlen⟩ := hc
    have hlt : n.toNat < rows.length := by omega
    have hmem : rows.getD n.toNat [] ∈ rows := by simp [List.getD, hlt]
    have hsz : sz = i.size := (s.hsz _ hmem).symm.trans hlen
    subst hsz
    obtain ⟨ha, hb⟩ := s.at_ (by rintro rfl; simp at hlt)
    have hrc : ∀ (j : Nat) (c : AV), (rows.getD n.toNat [])[j]? = some c → rowCell rows n.toNat j = some c := fun j c hj => by
      simp [rowCell, List.getD, hlt] at hj ⊢; exact hj
    refine step_val hm (v := .pointer (some ⟨b, (off + n.toNat * i.size) + 0, none⟩)) ?_ (.ep (off := off + n.toNat * i.size) (cv n.toNat) hb (fun j c hj => s.cell _ j c (hrc j c hj)) fun j c hj => s.rep _ j c (hrc j c hj))
    have hn2 : n < (rows.length : Int) := hn1
    simp [execOp, hv, h2.inv_int, ha, Instr.indexAt, run_underlying hu, asIntOf, hn0, hn2, sizeOf, typeInfo, hi, addr_add]
  · rename_i len te hu
    try simp only [hu]
    split at hc
    case h_2 => exact hc.elim
    rename_i i hi
    try simp only [hi]
    simp only [rop] at hc ⊢
    split at hc
    · rename_i id o' k n e1 e2
      try simp only [e1, e2]
      rw [e1] at h1
      rw [e2] at h2
      obtain ⟨b, hb, hv⟩ := h1.inv_ptr
      obtain ⟨hn0, hn1⟩ := hc
      refine step_val hm (v := .pointer (some ⟨b, o' + n.toNat * i.size, none⟩)) ?_ (.ptr hb)
      simp [execOp, hv, h2.inv_int, Instr.indexAt, Instr.sureAddr, run_underlying hu, asIntOf, hn0, hn1, sizeOf, typeInfo, hi, addr_add]
    · rename_i row o' k n e1 e2
      try simp only [e1, e2]
      rw [e1] at h1
      rw [e2] at h2
      obtain ⟨b, off, cv, hv, hb, hcell, hrep⟩ := h1.inv_ep
      obtain ⟨hn0, hn1⟩ := hc
      refine step_val hm (v := .pointer (some ⟨b, off + (o' + n.toNat * i.size), none⟩)) ?_ (.ep cv hb hcell hrep)
      simp [execOp, hv, h2.inv_int, Instr.indexAt, Instr.sureAddr, run_underlying hu, asIntOf, hn0, hn1, sizeOf, typeInfo, hi, addr_add, Nat.add_assoc]
    · exact hc.elim
  · exact hc.elim

end
end Go.Abs
