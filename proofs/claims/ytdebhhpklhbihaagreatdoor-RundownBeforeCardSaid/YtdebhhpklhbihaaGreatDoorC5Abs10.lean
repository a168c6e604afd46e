/-
  OWN WORK. Structs and slices that are built; calls; the theorem on all operations that leave the abstract memory.
-/
import Derived.Test.YtdebhhpklhbihaaGreatDoorC5Abs9
namespace Go.Abs
open Go Go.RowKit

section
variable {N : Nat} {w0 : Bas} {ro0 : Nat → Nat → Prop} {γ : G} {w : World} {B : Nat → Option (List AV)} {L : Nat → Option Nat} {P : Program} {o : Oper} {a : Act} {r : AV}
variable {dst : Option Tmp} {ty : TypeId} {pos : String} {after : Array Edge} {guard : Option (Nat × Bool)} {gl : Nat → AV} {orc : Nat → FuncId → List AV → AV} {e : Opd → AV} {m : AM}

/-- A value is made of its cells. -/
theorem rep_cells {x : AV} {v : Value} (h : Rep w γ x v) (hx : bare x = true) : RepL w γ (cellsOf x) v.cells.toList := by
  cases x with
  | junk => simp [bare] at hx
  | gd g y => simp [bare] at hx
  | tup cs => simp [bare] at hx
  | agg cs => obtain ⟨arr, rfl, hr⟩ := h.inv_agg; exact hr
  | bool b => cases h; exact RepL.cons (.bool b) RepL.nil
  | int k n => cases h; exact RepL.cons (.int k n) RepL.nil
  | str s => cases h; exact RepL.cons (.str s) RepL.nil
  | nilfn => cases h; exact RepL.cons .nilfn RepL.nil
  | yld l => cases h with | yld h => exact RepL.cons (.yld h) RepL.nil
  | mp id => cases h with | mp h => exact RepL.cons (.mp h) RepL.nil
  | nilv p => cases h; cases p <;> exact RepL.cons (.nilv _) RepL.nil
  | mobj kvs => simp [bare] at hx
  | sl rt rows => have h' := h; obtain ⟨_, _, _, _, _, _, rfl, _⟩ := h.sl_inv; exact RepL.cons h' RepL.nil
  | ep row o => have h' := h; obtain ⟨_, _, _, rfl, _⟩ := h.inv_ep; exact RepL.cons h' RepL.nil
  | ptr id o => have h' := h; obtain ⟨_, _, rfl⟩ := h.inv_ptr; exact RepL.cons h' RepL.nil
  | bs id off len sz => have h' := h; obtain ⟨_, _, _, _, _, rfl, _⟩ := h.inv_bs; exact RepL.cons h' RepL.nil
  | fn f first cap => have h' := h; obtain ⟨_, _, rfl, _⟩ := h.inv_fn; exact RepL.cons h' RepL.nil

theorem foldl_setL (off : Nat) : ∀ (l : List Value) (k : Nat) (arr : Array Value), (l.zipIdx k).foldl (fun (cs : Array Value) (p : Value × Nat) => cs.setIfInBounds (off + p.2) p.1) arr = setL arr (off + k) l
  | [], _, _ => rfl
  | v :: l, k, arr => by
    simp only [List.zipIdx_cons, List.foldl_cons, setL]
    exact foldl_setL off l (k + 1) _

theorem zipIdx_setL (off : Nat) (vs arr : Array Value) : vs.zipIdx.foldl (fun (cs : Array Value) (p : Value × Nat) => cs.setIfInBounds (off + p.2) p.1) arr = setL arr off vs.toList := by
  rw [← Array.foldl_toList, Array.toList_zipIdx]
  exact foldl_setL off vs.toList 0 arr

theorem length_setA : ∀ (as : List AV) (o : Nat) (cs : List AV), (setA cs o as).length = cs.length
  | [], _, _ => rfl
  | a :: as, o, cs => by rw [setA, length_setA as]; simp

/-- Filling in parts. -/
theorem fill_sound {place : Nat → Option (Nat × Nat)} : ∀ (ps : List (Nat × Nat × AV)) (vs : List (Nat × Value)) (cs : List AV) (arr : Array Value), ps.length = vs.length →
    (∀ (i : Nat) (p : Nat × Nat × AV) (q : Nat × Value), ps[i]? = some p → vs[i]? = some q → place q.1 = some (p.1, p.2.1) ∧ Rep w γ p.2.2 q.2) → RepL w γ cs arr.toList → (fillA cs ps).1 →
    ∃ cells, Instr.fill place arr vs = some cells ∧ RepL w γ (fillA cs ps).2 cells.toList ∧ cells.size = arr.size
  | [], [], cs, arr, _, _, hr, _ => ⟨arr, rfl, hr, rfl⟩
  | [], _ :: _, _, _, h, _, _, _ => by simp at h
  | _ :: _, [], _, _, h, _, _, _ => by simp at h
  | (off, size, x) :: ps, (i, v) :: vs, cs, arr, hl, hp, hr, hc => by
    obtain ⟨h1, h2, h3, h4⟩ := hc
    obtain ⟨g1, g2⟩ := hp 0 _ _ rfl rfl
    have hx := rep_cells g2 h1
    have hsz : v.cells.size = size := by have := hx.1; simp at this; omega
    have hle : ¬ (off + v.cells.size > arr.size) := by have := hr.1; simp at this; omega
    have hr' := hx.setA (o := off) hr
    obtain ⟨cells, q1, q2, q3⟩ := fill_sound ps vs (setA cs off (cellsOf x)) (setL arr off v.cells.toList) (by simpa using hl) (fun j p q hj1 hj2 => hp (j + 1) p q (by simpa using hj1) (by simpa using hj2)) hr' h4
    refine ⟨cells, ?_, q2, by rw [q3, size_setL]⟩
    simp only at g1
    have hz := zipIdx_setL off v.cells arr
    simp only [Instr.fill, g1]
    rw [if_neg (by simp [hsz]; omega)]
    rw [← hz] at q1
    exact q1

theorem places_ok : ∀ (fs : List Field), fs.all (fun f => (P.info? f.type).isSome) = true → ∃ places, fs.mapM (fun f => (P.info? f.type).map fun i => (f.offset, i.size)) = some places ∧
    ∀ i : Nat, places[i]? = (fs[i]?).bind fun f => (P.info? f.type).map fun i => (f.offset, i.size)
  | [], _ => ⟨[], by simp, fun i => by simp⟩
  | f :: fs, h => by
    simp at h
    obtain ⟨h1, h2⟩ := h
    obtain ⟨places, g1, g2⟩ := places_ok fs (by simpa using h2)
    obtain ⟨i, hi⟩ := Option.isSome_iff_exists.1 h1
    refine ⟨(f.offset, i.size) :: places, by simp [List.mapM_cons, hi, g1], fun j => ?_⟩
    cases j with
    | zero => simp [hi]
    | succ j => simpa using g2 j

theorem mapM_get {α β : Type} (f : α → Option β) : ∀ (l : List α) (l' : List β), l.mapM f = some l' → l'.length = l.length ∧ ∀ (i : Nat) (x : α) (y : β), l[i]? = some x → l'[i]? = some y → f x = some y
  | [], l', h => by simp at h; subst h; simp
  | x :: l, l', h => by
    simp only [List.mapM_cons, Option.bind_eq_bind, Option.pure_def] at h
    cases hx : f x with
    | none => simp [hx] at h
    | some y =>
      cases hr : l.mapM f with
      | none => simp [hx, hr] at h
      | some rest =>
        simp [hx, hr] at h
        subst h
        obtain ⟨g1, g2⟩ := mapM_get f l rest hr
        refine ⟨by simp [g1], fun i x' y' h1 h2 => ?_⟩
        cases i with
        | zero => simp at h1 h2; subst h1; subst h2; exact hx
        | succ i => simp at h1 h2; exact g2 i x' y' h1 h2

theorem zc_rep {t : TypeId} {zs : List AV} (h : zc P t = some zs) : ∃ i z, P.info? t = some i ∧ i.zero = some z ∧ RepL w γ zs z.cells.toList := by
  unfold zc at h
  cases hi : P.info? t with
  | none => simp [hi] at h
  | some i =>
    cases hz : i.zero with
    | none => simp [hi, hz] at h
    | some z =>
      simp [hi, hz] at h
      subst h
      refine ⟨i, z, rfl, hz, by simp, fun j x v h1 h2 => ?_⟩
      simp at h1 h2
      obtain ⟨v', h3, rfl⟩ := h1
      rw [h2] at h3
      cases h3
      exact rep_ofVal1 w γ v

theorem step_build (hm : MSim N w0 ro0 γ w B L) {t : TypeId} {parts : Array (Nat × Operand)} (h1 : ∀ p ∈ parts, Rep w γ (e (opd p.2)) (a.eval p.2))
    (hc : (rop P gl orc e m dst (trBuild P t parts)).1) :
    Step N w0 ro0 P ⟨dst, .build t parts, ty, pos, after, guard⟩ a γ w B L (rop P gl orc e m dst (trBuild P t parts)).2 := by
  unfold trBuild at hc ⊢
  split at hc
  case h_2 => exact hc.elim
  rename_i fields zs hu hz
  split at hc
  case h_2 => exact hc.elim
  rename_i ps hps
  split at hc
  case isFalse => exact hc.elim
  rename_i hall
  try rw [if_pos hall]
  simp only [rop] at hc ⊢
  obtain ⟨i, z, hi, hzz, hzr⟩ := zc_rep (w := w) (γ := γ) hz
  obtain ⟨places, hpl, hpg⟩ := places_ok (P := P) fields.toList hall
  obtain ⟨hlen, hget⟩ := mapM_get _ _ _ hps
  obtain ⟨cells, f1, f2, _⟩ := fill_sound (w := w) (γ := γ) (place := fun i => places[i]?) (ps.map fun p => (p.1, p.2.1, e p.2.2)) (parts.toList.map fun p => (p.1, a.eval p.2)) zs z.cells (by simp [hlen]) (fun j p q hj1 hj2 => by
      simp at hj1 hj2
      obtain ⟨o1, o2, o3, hp1, rfl⟩ := hj1
      obtain ⟨x1, x2, hx1, rfl⟩ := hj2
      have := hget j (x1, x2) (o1, o2, o3) (by simpa using hx1) hp1
      simp only at this ⊢
      rw [hpg]
      cases hf : fields[x1]? with
      | none => simp [hf] at this
      | some f =>
        cases hfi : P.info? f.type with
        | none => simp [hf, hfi] at this
        | some fi =>
          simp [hf, hfi] at this
          obtain ⟨rfl, rfl, rfl⟩ := this
          exact ⟨by simp [hf, hfi], h1 (x1, x2) (Array.mem_of_getElem? hx1)⟩) hzr hc
  have hb : P.built t (parts.map fun p => (p.1, a.eval p.2)).toList = some cells := by
    unfold Program.built
    simp only [hi, hu, hzz, hpl]
    simpa using f1
  have hrun := run_build (P := P) w t (parts.map fun p => (p.1, a.eval p.2)) cells hb
  refine step_val hm (v := .agg cells) ?_ (RepL.agg' f2)
  simp [execOp, hrun]

theorem step_bsl (hm : MSim N w0 ro0 γ w B L) (hB : ∀ id cells, m.boxes[id]? = some cells → B id = some cells) {t : TypeId} {len : Nat} {parts : Array (Nat × Operand)} (h1 : ∀ p ∈ parts, Rep w γ (e (opd p.2)) (a.eval p.2))
    (hc : (rop P gl orc e m dst (tr P ⟨dst, .buildSlice t len parts, ty, pos, after, guard⟩)).1) :
    Step N w0 ro0 P ⟨dst, .buildSlice t len parts, ty, pos, after, guard⟩ a γ w B L (rop P gl orc e m dst (tr P ⟨dst, .buildSlice t len parts, ty, pos, after, guard⟩)).2 := by
  simp only [tr] at hc ⊢
  split at hc
  case h_2 => exact hc.elim
  rename_i te hu
  split at hc
  case h_2 => exact hc.elim
  rename_i i hi
  split at hc
  case isFalse => exact hc.elim
  rename_i hcond
  try rw [if_pos hcond]
  simp only [Bool.and_eq_true, beq_iff_eq, bne_iff_ne, decide_eq_true_eq] at hcond
  obtain ⟨⟨hz, hs0⟩, hbig⟩ := hcond
  cases hzz : i.zero with
  | none => simp [hzz] at hz
  | some z =>
    simp [hzz] at hz
    simp only [rop] at hc ⊢
    rw [chunk_eq]
    obtain ⟨hc1, hc2, hc3⟩ := hc
    let arr0 : Array Value := (Array.range (len * i.size)).map (z.cells[· % z.cells.size]!)
    have hr0 : RepL w γ (List.replicate (len * i.size) .junk) arr0.toList := by
      refine ⟨by simp [arr0], fun j x v hj _ => ?_⟩
      simp [List.getElem?_replicate] at hj
      rw [← hj.2]; exact .junk _
    obtain ⟨cells, f1, f2, f3⟩ := fill_sound (w := w) (γ := γ) (place := fun j => some (j * i.size, i.size)) (parts.toList.map fun p => (p.1 * i.size, i.size, e (opd p.2))) (parts.toList.map fun p => (p.1, a.eval p.2)) _ arr0 (by simp) (fun j p q hj1 hj2 => by
        simp at hj1 hj2
        obtain ⟨x1, x2, hx1, rfl⟩ := hj1
        obtain ⟨y1, y2, hy1, rfl⟩ := hj2
        rw [hx1] at hy1
        cases hy1
        exact ⟨rfl, h1 (x1, x2) (Array.mem_of_getElem? hx1)⟩) hr0 (by simpa [Function.comp_def] using hc1)
    generalize hq : (fillA (List.replicate (len * i.size) .junk) (parts.toList.map fun p => (p.1 * i.size, i.size, e (opd p.2)))).2 = A at f2
    have hq' : (fillA (List.replicate (len * i.size) .junk) ((parts.toList.map fun p => (p.1, opd p.2)).map fun p => (p.1 * i.size, i.size, e p.2))).2 = A := by
      rw [← hq]; simp [Function.comp_def]
    rw [hq'] at hc2 hc3
    simp only [hq']
    have hcs : cells.size = len * i.size := by rw [f3]; simp [arr0]
    have hAl : A.length = len * i.size := by have := f2.1; simp at this; omega
    have hb : Below w.heap.size w (w.alloc (.cells cells te)) := (Below.refl _ w).alloc (Nat.le_refl _) _
    have hrun : (execOp a.eval ⟨dst, .buildSlice t len parts, ty, pos, after, guard⟩).run P w = .ok (.value (.slice (some ⟨w.heap.size, 0, none⟩) len len)) (w.alloc (.cells cells te)) := by
      have hbig' : ¬ (16777216 < len * i.size) := by omega
      by_cases hl0 : len * i.size = 0
      · have harr : arr0 = (Array.range (len * i.size)).map ((#[] : Array Value)[· % (#[] : Array Value).size]!) := by
          simp [arr0, hl0]
        rw [harr] at f1
        have hl1 : len = 0 := by
          rcases Nat.mul_eq_zero.1 hl0 with h | h
          · exact h
          · exact absurd h hs0
        simp [hl0] at f1
        simp [execOp, Instr.buildSlice, run_underlying hu, sizeOf, typeInfo, hi, hl0, f1, newRow]
      · simp only [execOp, Instr.buildSlice]
        have f1' : Instr.fill (fun j => some (j * i.size, i.size)) ((Array.range (len * i.size)).map (z.cells[· % z.cells.size]!)) (parts.toList.map fun p => (p.1, a.eval p.2)) = some cells := f1
        simp [run_underlying hu, sizeOf, typeInfo, zeroValue, hi, hzz, hl0, hbig', f1', newRow]
    refine step_val' (hm.grow hb) (hm.ev_below hb) hrun ?_
    have hlen : ((List.range len).map fun k => ((A.map (cvn m 6)).drop (k * i.size)).take i.size).length = len := by simp
    have hbl : (w.alloc (.cells cells te)).heap[w.heap.size]? = some (.cells cells te (0, 0)) := by show (w.heap.push _)[w.heap.size]? = _; simp
    have hrc : ∀ (k j : Nat) (c : AV), rowCell ((List.range len).map fun k => ((A.map (cvn m 6)).drop (k * i.size)).take i.size) k j = some c → ∃ c' u, A[k * i.size + j]? = some c' ∧ c = cvn m 6 c' ∧ cells[k * i.size + j]? = some u ∧ cells.getD (k * i.size + j) undef = u ∧ Rep w γ c' u := fun k j c h => by
      unfold rowCell at h
      rcases Nat.lt_or_ge k len with hk | hk
      · simp [hk] at h
        rw [List.getElem?_take] at h
        split at h
        · simp at h
          obtain ⟨c', hc', rfl⟩ := h
          have hlt : k * i.size + j < cells.size := by rw [hcs, ← hAl]; exact (List.getElem?_eq_some_iff.1 hc').1
          have hu' : cells[k * i.size + j]? = some cells[k * i.size + j] := Array.getElem?_eq_getElem hlt
          exact ⟨c', _, hc', rfl, hu', by simp [hlt], f2.2 _ _ _ hc' (by simp [hlt])⟩
        · cases h
      · simp [Nat.not_lt.2 hk] at h
    have hsl : SlV (w.alloc (.cells cells te)) (γ.grow w.heap.size (w.alloc (.cells cells te)).heap.size) ((List.range len).map fun k => ((A.map (cvn m 6)).drop (k * i.size)).take i.size) (some ⟨w.heap.size, 0, none⟩) len w.heap.size 0 i.size
        (fun k j => cells.getD (k * i.size + j) undef) := by
      refine ⟨by simp, fun h => (by cases h), fun _ => ⟨rfl, by simp⟩, fun row hrow => ?_, fun k j c h => ?_, fun k j c h => ?_⟩
      · simp at hrow
        obtain ⟨k, hk, rfl⟩ := hrow
        have : (k + 1) * i.size ≤ len * i.size := Nat.mul_le_mul_right _ hk
        rw [Nat.add_mul, Nat.one_mul] at this
        simp
        omega
      · obtain ⟨c', u, g1, rfl, g3, g4, g5⟩ := hrc k j c h
        rw [Nat.zero_add, cell_of_block hbl, g3, g4]
        refine ⟨rfl, .inr ⟨Nat.le_refl _, by simp⟩, rep_one g5 (List.all_eq_true.1 hc2 c' (List.mem_of_getElem? g1))⟩
      · obtain ⟨c', u, g1, rfl, g3, g4, g5⟩ := hrc k j c h
        rw [g4]
        have := cvn_rep hm hB (ro' := γ.ro) (fun _ _ h => h) 6 c' u g5 fun hp => by
          have : A.any (hasP 6) = true := List.any_eq_true.2 ⟨c', List.mem_of_getElem? g1, hp⟩
          rw [hc3] at this; cases this
        exact this.mono (hm.ev_below hb).imm
    have := hsl.mk' (rt := .full) hlen.symm
    rwa [hlen] at this

end
end Go.Abs
