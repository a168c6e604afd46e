/-
  OWN WORK. The memory of one activation: boxes, owned rows; how it is kept by growth, a new box, a store, an append.
-/
import Derived.Test.YtdebhhpklhbihaaGreatDoorC5Abs1
namespace Go.Abs
open Go Go.RowKit

/-- How far a loop over a function is: none, ready for a round, in one, left by a jump. -/
inductive LS where
  | gone
  | ready
  | busy
  | done (ex : Exit)

structure AM where
  boxes : List (List AV)
  lens : List Nat
  st : Nat → LS
  ln : Nat

/-- The blocks that an activation may change. -/
def OI (γ : G) (b : Nat) : Prop := (∃ id, γ.β id = some b) ∨ (∃ id, γ.own id = some b) ∨ γ.sp b ∨ ∃ id, γ.mm id = some b

/-- What an activation's own step may do. -/
structure Chg (γ : G) (w : World) (γ' : G) (w' : World) : Prop where
  os : w'.os = w.os
  tape : w'.tape = w.tape
  output : w'.output = w.output
  size : w.heap.size ≤ w'.heap.size
  same : ∀ b, b < w.heap.size → ¬ OI γ b → w'.heap[b]? = w.heap[b]?
  ro : ∀ b o, b < w.heap.size → γ.ro b o → γ'.ro b o ∧ w'.cell? ⟨b, o, none⟩ = w.cell? ⟨b, o, none⟩
  oi : ∀ b, OI γ' b → OI γ b ∨ w.heap.size ≤ b
  ron : ∀ b o, γ'.ro b o → γ.ro b o ∨ OI γ b ∨ w.heap.size ≤ b

/-- What is to be said of the world as long as the activation alone changes it. -/
structure Bas where
  p : G → World → Prop
  st : ∀ γ w γ' w', p γ w → Chg γ w γ' w' → p γ' w'

/-- A map from int, by its entries. -/
def MapOK (w : World) (γ : G) (b : Nat) (x : Option (List AV)) : Prop := ∃ kvs es clock, x = some [.mobj kvs] ∧ w.heap[b]? = some (.map es clock) ∧ kvs.length = es.size ∧
  ∀ (i : Nat) (k : Int) (a : AV) (e : MapEntry), kvs[i]? = some (k, a) → es[i]? = some e → e.key = .int .i64 k ∧ Rep w γ a e.val

theorem MapOK.mono {w w' : World} {γ γ' : G} {b : Nat} {x : Option (List AV)} (h : MapOK w γ b x) (ev : EvV w γ w' γ') (e : w'.heap[b]? = w.heap[b]?) : MapOK w' γ' b x := by
  obtain ⟨kvs, es, c, h1, h2, h3, h4⟩ := h; exact ⟨kvs, es, c, h1, e.trans h2, h3, fun i k a e q1 q2 => ⟨(h4 i k a e q1 q2).1, (h4 i k a e q1 q2).2.monoV ev⟩⟩

structure MSim (N : Nat) (w0 : Bas) (ro0 : Nat → Nat → Prop) (γ : G) (w : World) (B : Nat → Option (List AV)) (L : Nat → Option Nat) : Prop where
  bs : w0.p γ w
  hN : N ≤ w.heap.size
  ro0 : ∀ b o, γ.ro b o → ro0 b o ∨ N ≤ b
  robd : ∀ b o, γ.ro b o → b < w.heap.size
  box : ∀ id cells b, B id = some cells → γ.β id = some b → ∃ arr e, w.heap[b]? = some (.cells arr e (0, 0)) ∧ RepP w γ cells arr.toList ∧ ∀ v ∈ arr.toList, v.oneCell' = true
  β : ∀ id b, γ.β id = some b → N ≤ b ∧ b < w.heap.size ∧ (∀ o, ¬ γ.ro b o) ∧ (∀ id', γ.own id' ≠ some b) ∧ ∃ cells, B id = some cells
  inj : ∀ id id' b, γ.β id = some b → γ.β id' = some b → B id = some [] ∨ B id' = some [] ∨ id = id'
  own : ∀ id b, γ.own id = some b → N ≤ b ∧ b < w.heap.size ∧ ∃ n, L id = some n
  oinj : ∀ id id' b, γ.own id = some b → γ.own id' = some b → id = id'
  sp : ∀ b, γ.sp b → N ≤ b ∧ b < w.heap.size ∧ (∀ o, ¬ γ.ro b o) ∧ (∀ id, γ.β id ≠ some b) ∧ (∀ id, γ.own id ≠ some b)
  mm : ∀ id b, γ.mm id = some b → N ≤ b ∧ b < w.heap.size ∧ (∀ o, ¬ γ.ro b o) ∧ (∀ id, γ.β id ≠ some b) ∧ (∀ id, γ.own id ≠ some b) ∧ ¬ γ.sp b ∧ γ.β id = none ∧ MapOK w γ b (B id)
  minj : ∀ id id' b, γ.mm id = some b → γ.mm id' = some b → id = id'
  len : ∀ id n, L id = some n → γ.cur id = n
  cur0 : ∀ id, L id = none → γ.cur id = 0

def AM.B (m : AM) : Nat → Option (List AV) := fun id => m.boxes[id]?
def AM.L (m : AM) : Nat → Option Nat := fun id => m.lens[id]?

/-- Memory that has only grown: what is new may be relied on. -/
def G.grow (γ : G) (n n' : Nat) : G := { γ with ro := fun b o => γ.ro b o ∨ (n ≤ b ∧ b < n') }

theorem cell_of_heap {w w' : World} {b o : Nat} (h : w'.heap[b]? = w.heap[b]?) : w'.cell? ⟨b, o, none⟩ = w.cell? ⟨b, o, none⟩ := by
  simp [World.cell?, h]

theorem cell_of_block {w : World} {b o : Nat} {arr : Array Value} {e : TypeId} {f : Nat × Nat} (h : w.heap[b]? = some (.cells arr e f)) : w.cell? ⟨b, o, none⟩ = arr[o]? := by
  simp [World.cell?, h]

theorem frozen_of_block {w : World} {b o : Nat} {arr : Array Value} {e : TypeId} (h : w.heap[b]? = some (.cells arr e (0, 0))) : w.frozen? ⟨b, o, none⟩ = false := by
  simp [World.frozen?, h]

theorem lt_of_heap {w : World} {b : Nat} {x : Obj} (h : w.heap[b]? = some x) : b < w.heap.size := by
  rcases Nat.lt_or_ge b w.heap.size with h' | h'
  · exact h'
  · simp [Array.getElem?_eq_none h'] at h

theorem Ev.of_below {w w' : World} {γ : G} (h : Below w.heap.size w w') (hown : ∀ id b, γ.own id = some b → b < w.heap.size) (hsp : ∀ b, γ.sp b → b < w.heap.size) : Ev w γ w' (γ.grow w.heap.size w'.heap.size) where
  size := h.size
  ro b o hb hr := ⟨.inl hr, cell_of_heap (h.block b hb)⟩
  β _ _ h := h
  cur _ := Nat.le_refl _
  mm _ _ h := h
  lp := rfl
  own id b _ ho := by
    have hb := hown id b ho
    refine ⟨ho, fun arr e he => ⟨arr, by rw [h.block b hb]; exact he, Nat.le_refl _⟩, fun o hr => ?_⟩
    rcases hr with hr | ⟨hr, _⟩
    · exact hr
    · omega
  sp b hb := ⟨hb, h.block b (hsp b hb)⟩
  ss := Sz.of_same h.block

variable {N : Nat} {w0 : Bas} {ro0 : Nat → Nat → Prop} {γ : G} {w : World} {B : Nat → Option (List AV)} {L : Nat → Option Nat}

theorem MSim.ev_below (hm : MSim N w0 ro0 γ w B L) {w' : World} (h : Below w.heap.size w w') : Ev w γ w' (γ.grow w.heap.size w'.heap.size) :=
  Ev.of_below h (fun id b hb => (hm.own id b hb).2.1) fun b hb => (hm.sp b hb).2.1

/-- A step that makes memory and changes nothing that was there. -/
theorem MSim.grow (hm : MSim N w0 ro0 γ w B L) {w' : World} (h : Below w.heap.size w w') : MSim N w0 ro0 (γ.grow w.heap.size w'.heap.size) w' B L where
  bs := w0.st _ _ _ _ hm.bs ⟨h.os, h.tape, h.output, h.size, fun b hb _ => h.block b hb, (hm.ev_below h).ro, fun b hb => .inl hb, fun b o hr => hr.imp_right fun h => .inr h.1⟩
  hN := Nat.le_trans hm.hN h.size
  ro0 b o hr := by
    rcases hr with hr | ⟨hr, _⟩
    · exact hm.ro0 b o hr
    · exact .inr (Nat.le_trans hm.hN hr)
  robd b o hr := by
    rcases hr with hr | ⟨_, hr⟩
    · exact Nat.lt_of_lt_of_le (hm.robd b o hr) h.size
    · exact hr
  box id cells b hb h1 := by
    obtain ⟨arr, e, h2, h3, h4⟩ := hm.box id cells b hb h1
    exact ⟨arr, e, by rw [h.block b (lt_of_heap h2)]; exact h2, h3.mono (hm.ev_below h), h4⟩
  β id b hb := by
    obtain ⟨h1, h2, h3, h4, h5⟩ := hm.β id b hb
    refine ⟨h1, Nat.lt_of_lt_of_le h2 h.size, fun o hr => ?_, h4, h5⟩
    rcases hr with hr | ⟨hr, _⟩
    · exact h3 o hr
    · omega
  inj := hm.inj
  own id b hb := by
    obtain ⟨h1, h2, h3⟩ := hm.own id b hb
    exact ⟨h1, Nat.lt_of_lt_of_le h2 h.size, h3⟩
  oinj := hm.oinj
  sp b hb := by
    obtain ⟨h1, h2, h3, h4⟩ := hm.sp b hb
    refine ⟨h1, Nat.lt_of_lt_of_le h2 h.size, fun o hr => ?_, h4⟩
    rcases hr with hr | ⟨hr, _⟩
    · exact h3 o hr
    · omega
  mm id b hb := by
    obtain ⟨h1, h2, h3, h4, h5, h6, h8, h7⟩ := hm.mm id b hb
    refine ⟨h1, Nat.lt_of_lt_of_le h2 h.size, fun o hr => ?_, h4, h5, h6, h8, h7.mono (hm.ev_below h).toR.toV (h.block b h2)⟩
    rcases hr with hr | ⟨hr, _⟩
    · exact h3 o hr
    · omega
  minj := hm.minj
  len := hm.len
  cur0 := hm.cur0

/-- A new box. -/
def G.box (γ : G) (id b : Nat) : G := { γ with β := fun i => if i = id then some b else γ.β i }

theorem MSim.ev_box (hm : MSim N w0 ro0 γ w B L) (id : Nat) (hid : B id = none) (o : Obj) : Ev w γ (w.alloc o) (γ.box id w.heap.size) where
  size := by simp
  ro b o' hb hr := ⟨hr, cell_of_heap (Below.heap_alloc w o b hb)⟩
  β i b hb := by
    have : i ≠ id := by rintro rfl; obtain ⟨_, _, _, _, c, hc⟩ := hm.β i b hb; rw [hid] at hc; cases hc
    simp [G.box, this, hb]
  cur _ := Nat.le_refl _
  mm _ _ h := h
  lp := rfl
  own i b _ ho := ⟨ho, fun arr e he => ⟨arr, by rw [Below.heap_alloc w o b (hm.own i b ho).2.1]; exact he, Nat.le_refl _⟩, fun _ h => h⟩
  sp b hb := ⟨hb, Below.heap_alloc w o b (hm.sp b hb).2.1⟩
  ss := Sz.of_same (Below.heap_alloc w o)

theorem MSim.newBox (hm : MSim N w0 ro0 γ w B L) (id : Nat) (hid : B id = none) {cells : List AV} {arr : Array Value} {e : TypeId} (hr : RepP w γ cells arr.toList) (h1c : ∀ v ∈ arr.toList, v.oneCell' = true) :
    MSim N w0 ro0 (γ.box id w.heap.size) (w.alloc (.cells arr e)) (fun i => if i = id then some cells else B i) L where
  bs := w0.st _ _ _ _ hm.bs ⟨rfl, rfl, rfl, by simp, fun b hb _ => Below.heap_alloc w _ b hb, (hm.ev_box id hid _).ro, fun b hb => by
    rcases hb with ⟨i, hi⟩ | hb | hb
    · by_cases h : i = id
      · simp [G.box, h] at hi; exact .inr (by omega)
      · simp [G.box, h] at hi; exact .inl (.inl ⟨i, hi⟩)
    · exact .inl (.inr (.inl hb))
    · exact .inl (.inr (.inr hb)), fun _ _ h => .inl h⟩
  hN := by have := hm.hN; simp; omega
  ro0 := hm.ro0
  robd b o h := by have := hm.robd b o h; simp; omega
  box i cs b hb h1 := by
    by_cases hi : i = id
    · subst hi
      simp at hb
      subst hb
      simp [G.box] at h1
      subst h1
      exact ⟨arr, e, by show (w.heap.push _)[w.heap.size]? = _; simp, hr.mono (hm.ev_box i hid _), h1c⟩
    · simp [hi] at hb
      simp [G.box, hi] at h1
      obtain ⟨arr', e', h2, h3, h4⟩ := hm.box i cs b hb h1
      exact ⟨arr', e', by rw [Below.heap_alloc w _ b (lt_of_heap h2)]; exact h2, h3.mono (hm.ev_box id hid _), h4⟩
  β i b hb := by
    by_cases hi : i = id
    · subst hi
      simp [G.box] at hb
      subst hb
      refine ⟨hm.hN, by simp, fun o h => ?_, fun i' h => ?_, cells, by simp⟩
      · have := hm.robd _ o h; omega
      · have := (hm.own i' _ h).2.1; omega
    · simp [G.box, hi] at hb
      obtain ⟨h1, h2, h3, h4, c, hc⟩ := hm.β i b hb
      exact ⟨h1, by simp; omega, h3, h4, c, by simp [hi, hc]⟩
  inj i i' b h h' := by
    by_cases hi : i = id <;> by_cases hi' : i' = id
    · exact .inr (.inr (by rw [hi, hi']))
    · simp [G.box, hi] at h
      simp [G.box, hi'] at h'
      have := (hm.β i' b h').2.1; omega
    · simp [G.box, hi'] at h'
      simp [G.box, hi] at h
      have := (hm.β i b h).2.1; omega
    · simp [G.box, hi] at h
      simp [G.box, hi'] at h'
      simp only [if_neg hi, if_neg hi']
      exact hm.inj i i' b h h'
  own i b hb := by
    obtain ⟨h1, h2, h3⟩ := hm.own i b hb
    exact ⟨h1, by simp; omega, h3⟩
  oinj := hm.oinj
  sp b hb := by
    obtain ⟨h1, h2, h3, h4, h5⟩ := hm.sp b hb
    refine ⟨h1, by simp; omega, h3, fun i hi => ?_, h5⟩
    by_cases hid : i = id
    · simp [G.box, hid] at hi; omega
    · simp [G.box, hid] at hi; exact h4 i hi
  mm i' b hb := by
    obtain ⟨h1, h2, h3, h4, h5, h6, h8, h7⟩ := hm.mm i' b hb
    have hne : i' ≠ id := by
      rintro rfl
      obtain ⟨_, _, _, hx, _⟩ := h7
      rw [hid] at hx; cases hx
    refine ⟨h1, by simp; omega, h3, fun i hi => ?_, h5, h6, by simp [G.box, hne, h8], ?_⟩
    · by_cases hid : i = id
      · simp [G.box, hid] at hi; omega
      · simp [G.box, hid] at hi; exact h4 i hi
    · simp only [hne, if_false]
      exact h7.mono (hm.ev_box id hid _).toR.toV (Below.heap_alloc w _ b h2)
  minj := hm.minj
  len := hm.len
  cur0 := hm.cur0

/-- A store of cells into a block. -/
def setL (arr : Array Value) : Nat → List Value → Array Value
  | _, [] => arr
  | o, v :: r => setL (arr.setIfInBounds o v) (o + 1) r

theorem size_setL : ∀ (vs : List Value) (arr : Array Value) (o : Nat), (setL arr o vs).size = arr.size
  | [], _, _ => rfl
  | v :: r, arr, o => by rw [setL, size_setL r]; simp

theorem heap_setCell_same {w : World} {b o : Nat} {arr : Array Value} {e : TypeId} {f : Nat × Nat} (h : w.heap[b]? = some (.cells arr e f)) (v : Value) :
    (w.setCell ⟨b, o, none⟩ v).heap[b]? = some (.cells (arr.setIfInBounds o v) e f) := by
  simp [World.setCell, Array.getElem?_modify, h]

theorem setCells_same (b : Nat) : ∀ (vs : List Value) (o : Nat) (w : World) (arr : Array Value) (e : TypeId) (f : Nat × Nat), w.heap[b]? = some (.cells arr e f) →
    (w.setCells b o vs).heap[b]? = some (.cells (setL arr o vs) e f)
  | [], _, _, _, _, _, h => h
  | v :: r, o, w, arr, e, f, h => by
    rw [World.setCells, setL]
    exact setCells_same b r (o + 1) _ _ e f (heap_setCell_same h v)

theorem setCells_below (b : Nat) {N : Nat} (hb : N ≤ b) : ∀ (vs : List Value) (o : Nat) (w : World), Below N w (w.setCells b o vs)
  | [], _, _ => Below.refl _ _
  | v :: r, o, w => by
    rw [World.setCells]
    exact ((Below.refl N w).setCell (p := ⟨b, o, none⟩) hb v).trans (setCells_below b hb r (o + 1) _)

theorem setCells_other (b : Nat) : ∀ (vs : List Value) (o : Nat) (w : World) (b' : Nat), b' ≠ b → (w.setCells b o vs).heap[b']? = w.heap[b']?
  | [], _, _, _, _ => rfl
  | v :: r, o, w, b', h => by
    rw [World.setCells, setCells_other b r (o + 1) _ b' h]
    exact Below.heap_setCell w ⟨b, o, none⟩ v b' h

theorem setCells_size (b : Nat) : ∀ (vs : List Value) (o : Nat) (w : World), (w.setCells b o vs).heap.size = w.heap.size
  | [], _, _ => rfl
  | v :: r, o, w => by
    rw [World.setCells, setCells_size b r]
    simp [World.setCell]

theorem Sz.setCells (b o : Nat) (vs : List Value) (w : World) : Sz w (w.setCells b o vs) := fun b' arr e f h => by
  by_cases hb : b' = b
  · subst hb; exact ⟨_, setCells_same b' vs o w arr e f h, size_setL vs arr o⟩
  · exact ⟨arr, (setCells_other b vs o w b' hb).trans h, rfl⟩

/-- The same on abstract cells. -/
def setA (cs : List AV) : Nat → List AV → List AV
  | _, [] => cs
  | o, a :: r => setA (cs.set o a) (o + 1) r

theorem one_setL : ∀ (vs : List Value) (o : Nat) (arr : Array Value), (∀ v ∈ arr.toList, v.oneCell' = true) → (∀ v ∈ vs, v.oneCell' = true) → ∀ v ∈ (setL arr o vs).toList, v.oneCell' = true
  | [], _, _, h, _ => h
  | u :: vs, o, arr, h, h' => by
    rw [setL]
    refine one_setL vs (o + 1) _ (fun v hv => ?_) (fun v hv => h' v (by simp [hv]))
    rw [Array.toList_setIfInBounds] at hv
    rcases List.mem_or_eq_of_mem_set hv with hv | rfl
    · exact h v hv
    · exact h' _ (by simp)

theorem RepL.setA {w : World} {γ : G} : ∀ {as : List AV} {vs : List Value} {o : Nat} {cs : List AV} {arr : Array Value}, RepL w γ as vs → RepL w γ cs arr.toList → RepL w γ (setA cs o as) (setL arr o vs).toList
  | [], [], _, _, _, _, h => h
  | [], _ :: _, _, _, _, h, _ => by have := h.1; simp at this
  | _ :: _, [], _, _, _, h, _ => by have := h.1; simp at this
  | a :: as, v :: vs, o, cs, arr, h, hc => by
    have h0 : Rep w γ a v := h.2 0 a v rfl rfl
    have hs : RepL w γ as vs := ⟨by have := h.1; simpa using this, fun i x y h1 h2 => h.2 (i + 1) x y (by simpa using h1) (by simpa using h2)⟩
    rw [Abs.setA, setL]
    refine RepL.setA hs ?_
    rw [Array.toList_setIfInBounds]
    exact hc.set o h0

theorem RepP.setA {w : World} {γ : G} : ∀ {as : List AV} {vs : List Value} {o : Nat} {cs : List AV} {arr : Array Value}, RepL w γ as vs → RepP w γ cs arr.toList → RepP w γ (setA cs o as) (setL arr o vs).toList
  | [], [], _, _, _, _, h => h
  | [], _ :: _, _, _, _, h, _ => by have := h.1; simp at this
  | _ :: _, [], _, _, _, h, _ => by have := h.1; simp at this
  | a :: as, v :: vs, o, cs, arr, h, hc => by
    have h0 : Rep w γ a v := h.2 0 a v rfl rfl
    have hs : RepL w γ as vs := ⟨by have := h.1; simpa using this, fun i x y h1 h2 => h.2 (i + 1) x y (by simpa using h1) (by simpa using h2)⟩
    rw [Abs.setA, setL]
    refine RepP.setA hs ?_
    rw [Array.toList_setIfInBounds]
    exact hc.set o h0

theorem length_setA' : ∀ (as : List AV) (o : Nat) (cs : List AV), (setA cs o as).length = cs.length
  | [], _, _ => rfl
  | a :: as, o, cs => by rw [setA, length_setA' as]; simp

theorem MSim.ev_store (hm : MSim N w0 ro0 γ w B L) {id b : Nat} (hb : γ.β id = some b) (o : Nat) (vs : List Value) : Ev w γ (w.setCells b o vs) γ where
  size := by rw [setCells_size]; exact Nat.le_refl _
  ro b' o' _ hr := ⟨hr, cell_of_heap (setCells_other b vs o w b' (by rintro rfl; exact (hm.β id b' hb).2.2.1 o' hr))⟩
  β _ _ h := h
  cur _ := Nat.le_refl _
  mm _ _ h := h
  lp := rfl
  own i b' _ ho := by
    have hne : b' ≠ b := by rintro rfl; exact (hm.β id b' hb).2.2.2.1 i ho
    exact ⟨ho, fun arr e he => ⟨arr, by rw [setCells_other b vs o w b' hne]; exact he, Nat.le_refl _⟩, fun _ h => h⟩
  sp b' hb' := ⟨hb', setCells_other b vs o w b' (by rintro rfl; exact (hm.sp b' hb').2.2.2.1 id hb)⟩
  ss := Sz.setCells b o vs w

theorem MSim.store (hm : MSim N w0 ro0 γ w B L) {id : Nat} {cells : List AV} (hB : B id = some cells) {b : Nat} {arr : Array Value} {e : TypeId} (hb : γ.β id = some b)
    (hh : w.heap[b]? = some (.cells arr e (0, 0))) (hr : RepP w γ cells arr.toList) (h1c : ∀ v ∈ arr.toList, v.oneCell' = true) {o : Nat} {as : List AV} {vs : List Value} (ha : RepL w γ as vs) (h1v : ∀ v ∈ vs, v.oneCell' = true) (hne0 : cells ≠ []) :
    MSim N w0 ro0 γ (w.setCells b o vs) (fun i => if i = id then some (setA cells o as) else B i) L where
  bs := w0.st _ _ _ _ hm.bs ⟨(setCells_below b (Nat.le_refl b) vs o w).os, (setCells_below b (Nat.le_refl b) vs o w).tape, (setCells_below b (Nat.le_refl b) vs o w).output, by rw [setCells_size]; exact Nat.le_refl _,
    fun b' _ hno => setCells_other b vs o w b' (by rintro rfl; exact hno (.inl ⟨id, hb⟩)), (hm.ev_store hb o vs).ro, fun b hb => .inl hb, fun _ _ h => .inl h⟩
  hN := by rw [setCells_size]; exact hm.hN
  ro0 := hm.ro0
  robd b' o' h := by rw [setCells_size]; exact hm.robd b' o' h
  box i cs b' hbi h1 := by
    by_cases hi : i = id
    · subst hi
      simp at hbi
      subst hbi
      obtain rfl : b' = b := Option.some.inj (h1.symm.trans hb)
      exact ⟨_, e, setCells_same b' vs o w arr e _ hh, (RepP.setA ha hr).mono (hm.ev_store hb o vs), one_setL vs o arr h1c h1v⟩
    · simp [hi] at hbi
      obtain ⟨arr', e', h2, h3, h4⟩ := hm.box i cs b' hbi h1
      by_cases hne : b' = b
      · subst hne
        rcases hm.inj _ _ _ h1 hb with h | h | h
        · rw [h] at hbi; cases hbi
          exact ⟨_, e, setCells_same b' vs o w arr e _ hh, RepP.nil, one_setL vs o arr h1c h1v⟩
        · rw [h] at hB; cases hB; exact absurd rfl hne0
        · exact absurd h hi
      · exact ⟨arr', e', by rw [setCells_other b vs o w b' hne]; exact h2, h3.mono (hm.ev_store hb o vs), h4⟩
  β i b' hbi := by
    obtain ⟨h1, h2, h3, h4, c, hc⟩ := hm.β i b' hbi
    refine ⟨h1, by rw [setCells_size]; exact h2, h3, h4, ?_⟩
    by_cases hi : i = id
    · exact ⟨setA cells o as, by simp [hi]⟩
    · exact ⟨c, by simp [hi, hc]⟩
  inj i i' b' h h' := by
    rcases hm.inj i i' b' h h' with k | k | k
    · refine .inl ?_
      by_cases hi : i = id
      · subst hi; rw [k] at hB; cases hB; exact absurd rfl hne0
      · simp only [if_neg hi]; exact k
    · refine .inr (.inl ?_)
      by_cases hi : i' = id
      · subst hi; rw [k] at hB; cases hB; exact absurd rfl hne0
      · simp only [if_neg hi]; exact k
    · exact .inr (.inr k)
  own i b' hbi := by
    obtain ⟨h1, h2, h3⟩ := hm.own i b' hbi
    exact ⟨h1, by rw [setCells_size]; exact h2, h3⟩
  oinj := hm.oinj
  sp b' hb' := by
    obtain ⟨h1, h2, h3⟩ := hm.sp b' hb'
    exact ⟨h1, by rw [setCells_size]; exact h2, h3⟩
  mm i' b' hb' := by
    obtain ⟨h1, h2, h3, h4, h5, h6, h8, h7⟩ := hm.mm i' b' hb'
    have hne : i' ≠ id := by rintro rfl; rw [hb] at h8; cases h8
    refine ⟨h1, by rw [setCells_size]; exact h2, h3, h4, h5, h6, h8, ?_⟩
    simp only [hne, if_false]
    exact h7.mono (hm.ev_store hb o vs).toR.toV (setCells_other b vs o w b' (by rintro rfl; exact h4 id hb))
  minj := hm.minj
  len := hm.len
  cur0 := hm.cur0

/-- An append in place: the spare cells of the row of right 'id' are written from place 'p' on; 'q': the first place behind them. -/
def G.extend (γ : G) (id b p q n : Nat) : G := { γ with cur := fun i => if i = id then n else γ.cur i, ro := fun b' o => γ.ro b' o ∨ (b' = b ∧ p ≤ o ∧ o < q) }

theorem MSim.ev_extend (hm : MSim N w0 ro0 γ w B L) {id b p q n : Nat} {vs : List Value} (ho : γ.own id = some b) (hn : γ.cur id ≤ n) (hq : γ.cur id = n → q ≤ p) (hpq : q = p + vs.length) (hfree : ∀ o, p ≤ o → ¬ γ.ro b o) : Ev w γ (w.setCells b p vs) (γ.extend id b p q n) where
  size := by rw [setCells_size]; exact Nat.le_refl _
  ro b' o' _ hr := by
    refine ⟨.inl hr, World.cell?_setCells_out b vs p w _ fun e1 _ => ?_⟩
    simp only at e1 ⊢
    subst e1
    rcases Nat.lt_or_ge o' p with h | h
    · exact .inl h
    · exact absurd hr (hfree o' h)
  β _ _ h := h
  cur i := by
    simp only [G.extend]
    split
    · rename_i h; subst h; exact hn
    · exact Nat.le_refl _
  mm _ _ h := h
  lp := rfl
  own i b' hc hoi := by
    by_cases hi : i = id
    · subst hi
      obtain rfl : b' = b := Option.some.inj (hoi.symm.trans ho)
      simp only [G.extend, if_true] at hc
      have := hq hc.symm
      have hvs : vs = [] := List.eq_nil_of_length_eq_zero (by omega)
      subst hvs
      refine ⟨hoi, fun arr e he => ⟨arr, he, Nat.le_refl _⟩, fun o hr => ?_⟩
      rcases hr with hr | ⟨_, h1, h2⟩
      · exact hr
      · omega
    · have hne : b' ≠ b := by rintro rfl; exact hi (hm.oinj _ _ _ hoi ho)
      refine ⟨hoi, fun arr e he => ⟨arr, by rw [setCells_other b vs p w b' hne]; exact he, Nat.le_refl _⟩, fun o hr => ?_⟩
      rcases hr with hr | ⟨h1, _, _⟩
      · exact hr
      · exact absurd h1 hne
  sp b' hb' := ⟨hb', setCells_other b vs p w b' (by rintro rfl; exact (hm.sp b' hb').2.2.2.2 id ho)⟩
  ss := Sz.setCells b p vs w

theorem MSim.extend (hm : MSim N w0 ro0 γ w B L) {id b p q n : Nat} {vs : List Value} (ho : γ.own id = some b) (hn : γ.cur id ≤ n) (hq : γ.cur id = n → q ≤ p) (hpq : q = p + vs.length) (hfree : ∀ o, p ≤ o → ¬ γ.ro b o) :
    MSim N w0 ro0 (γ.extend id b p q n) (w.setCells b p vs) B (fun i => if i = id then some n else L i) where
  bs := w0.st _ _ _ _ hm.bs ⟨(setCells_below b (Nat.le_refl b) vs p w).os, (setCells_below b (Nat.le_refl b) vs p w).tape, (setCells_below b (Nat.le_refl b) vs p w).output, by rw [setCells_size]; exact Nat.le_refl _,
    fun b' _ hno => setCells_other b vs p w b' (by rintro rfl; exact hno (.inr (.inl ⟨id, ho⟩))), (hm.ev_extend ho hn hq hpq hfree).ro, fun b hb => .inl hb, fun b' o' hr => hr.imp_right fun h => .inl (by rw [h.1]; exact .inr (.inl ⟨id, ho⟩))⟩
  hN := by rw [setCells_size]; exact hm.hN
  ro0 b' o' hr := by
    rcases hr with hr | ⟨rfl, _, _⟩
    · exact hm.ro0 b' o' hr
    · exact .inr (hm.own id b' ho).1
  robd b' o' hr := by
    rw [setCells_size]
    rcases hr with hr | ⟨rfl, _, _⟩
    · exact hm.robd b' o' hr
    · exact (hm.own id b' ho).2.1
  box i cs b' hbi h1 := by
    obtain ⟨arr', e', h2, h3, h4⟩ := hm.box i cs b' hbi h1
    have hne : b' ≠ b := by rintro rfl; exact (hm.β i b' h1).2.2.2.1 id ho
    exact ⟨arr', e', by rw [setCells_other b vs p w b' hne]; exact h2, h3.mono (hm.ev_extend ho hn hq hpq hfree), h4⟩
  β i b' hbi := by
    obtain ⟨h1, h2, h3, h4, hc⟩ := hm.β i b' hbi
    refine ⟨h1, by rw [setCells_size]; exact h2, fun o hr => ?_, h4, hc⟩
    rcases hr with hr | ⟨rfl, _, _⟩
    · exact h3 o hr
    · exact h4 id ho
  inj := hm.inj
  own i b' hbi := by
    obtain ⟨h1, h2, m, hm'⟩ := hm.own i b' hbi
    refine ⟨h1, by rw [setCells_size]; exact h2, ?_⟩
    by_cases hi : i = id
    · exact ⟨n, by simp [hi]⟩
    · exact ⟨m, by simp [hi, hm']⟩
  oinj := hm.oinj
  sp b' hb' := by
    obtain ⟨h1, h2, h3, h4, h5⟩ := hm.sp b' hb'
    refine ⟨h1, by rw [setCells_size]; exact h2, fun o hr => ?_, h4, h5⟩
    rcases hr with hr | ⟨rfl, _, _⟩
    · exact h3 o hr
    · exact h5 id ho
  mm i' b' hb' := by
    obtain ⟨h1, h2, h3, h4, h5, h6, h8, h7⟩ := hm.mm i' b' hb'
    have hne : b' ≠ b := by rintro rfl; exact h5 id ho
    refine ⟨h1, by rw [setCells_size]; exact h2, fun o hr => ?_, h4, h5, h6, h8, h7.mono (hm.ev_extend ho hn hq hpq hfree).toR.toV (setCells_other b vs p w b' hne)⟩
    rcases hr with hr | ⟨rfl, _, _⟩
    · exact h3 o hr
    · exact hne rfl
  minj := hm.minj
  len i m hi := by
    by_cases h : i = id
    · simp [h] at hi; simp [G.extend, h, hi]
    · simp [h] at hi; simp [G.extend, h, hm.len i m hi]
  cur0 i hi := by
    by_cases h : i = id
    · simp [h] at hi
    · simp [h] at hi; simp [G.extend, h, hm.cur0 i hi]

/-- A new row for right 'id' in a new block, of which the first 'q' cells are relied on. -/
def G.renew (γ : G) (id b q n : Nat) : G := { γ with own := fun i => if i = id then some b else γ.own i, cur := fun i => if i = id then n else γ.cur i, ro := fun b' o => γ.ro b' o ∨ (b' = b ∧ o < q) }

theorem MSim.ev_renew (hm : MSim N w0 ro0 γ w B L) {id q n : Nat} (hn : γ.cur id ≤ n) (hne : γ.cur id = n → γ.own id = none) (o : Obj) : Ev w γ (w.alloc o) (γ.renew id w.heap.size q n) where
  size := by simp
  ro b' o' hb hr := ⟨.inl hr, cell_of_heap (Below.heap_alloc w o b' hb)⟩
  β _ _ h := h
  cur i := by
    simp only [G.renew]
    split
    · rename_i h; subst h; exact hn
    · exact Nat.le_refl _
  mm _ _ h := h
  lp := rfl
  own i b' hc hoi := by
    by_cases hi : i = id
    · subst hi
      simp only [G.renew, if_true] at hc
      rw [hne hc.symm] at hoi
      cases hoi
    · have hlt := (hm.own i b' hoi).2.1
      refine ⟨by simp [G.renew, hi, hoi], fun arr e he => ⟨arr, by rw [Below.heap_alloc w o b' hlt]; exact he, Nat.le_refl _⟩, fun o' hr => ?_⟩
      rcases hr with hr | ⟨h1, _⟩
      · exact hr
      · omega
  sp b hb := ⟨hb, Below.heap_alloc w o b (hm.sp b hb).2.1⟩
  ss := Sz.of_same (Below.heap_alloc w o)

theorem MSim.renew (hm : MSim N w0 ro0 γ w B L) {id q n : Nat} (hn : γ.cur id ≤ n) (hne : γ.cur id = n → γ.own id = none) (o : Obj) :
    MSim N w0 ro0 (γ.renew id w.heap.size q n) (w.alloc o) B (fun i => if i = id then some n else L i) where
  bs := w0.st _ _ _ _ hm.bs ⟨rfl, rfl, rfl, by simp, fun b hb _ => Below.heap_alloc w _ b hb, (hm.ev_renew hn hne o).ro, fun b hb => by
    rcases hb with hb | ⟨i, hi⟩ | hb
    · exact .inl (.inl hb)
    · by_cases h : i = id
      · simp [G.renew, h] at hi; exact .inr (by omega)
      · simp [G.renew, h] at hi; exact .inl (.inr (.inl ⟨i, hi⟩))
    · exact .inl (.inr (.inr hb)), fun b' o' hr => hr.imp_right fun h => .inr (by rw [h.1]; exact Nat.le_refl _)⟩
  hN := by have := hm.hN; simp; omega
  ro0 b' o' hr := by
    rcases hr with hr | ⟨rfl, _⟩
    · exact hm.ro0 b' o' hr
    · exact .inr hm.hN
  robd b' o' hr := by
    rcases hr with hr | ⟨rfl, _⟩
    · have := hm.robd b' o' hr; simp; omega
    · simp
  box i cs b' hbi h1 := by
    obtain ⟨arr', e', h2, h3, h4⟩ := hm.box i cs b' hbi h1
    exact ⟨arr', e', by rw [Below.heap_alloc w _ b' (lt_of_heap h2)]; exact h2, h3.mono (hm.ev_renew hn hne o), h4⟩
  β i b' hbi := by
    obtain ⟨h1, h2, h3, h4, hc⟩ := hm.β i b' hbi
    refine ⟨h1, by simp; omega, fun o' hr => ?_, fun i' hr => ?_, hc⟩
    · rcases hr with hr | ⟨rfl, _⟩
      · exact h3 o' hr
      · omega
    · by_cases hi : i' = id
      · simp [G.renew, hi] at hr; omega
      · simp [G.renew, hi] at hr; exact h4 i' hr
  inj := hm.inj
  own i b' hbi := by
    by_cases hi : i = id
    · simp [G.renew, hi] at hbi
      subst hbi
      exact ⟨hm.hN, by simp, n, by simp [hi]⟩
    · simp [G.renew, hi] at hbi
      obtain ⟨h1, h2, m, hm'⟩ := hm.own i b' hbi
      exact ⟨h1, by simp; omega, m, by simp [hi, hm']⟩
  oinj i i' b' h h' := by
    by_cases hi : i = id <;> by_cases hi' : i' = id
    · rw [hi, hi']
    · simp [G.renew, hi] at h
      simp [G.renew, hi'] at h'
      have := (hm.own i' b' h').2.1; omega
    · simp [G.renew, hi'] at h'
      simp [G.renew, hi] at h
      have := (hm.own i b' h).2.1; omega
    · simp [G.renew, hi] at h
      simp [G.renew, hi'] at h'
      exact hm.oinj i i' b' h h'
  sp b hb := by
    obtain ⟨h1, h2, h3, h4, h5⟩ := hm.sp b hb
    refine ⟨h1, by simp; omega, fun o' hr => ?_, h4, fun i hi => ?_⟩
    · rcases hr with hr | ⟨rfl, _⟩
      · exact h3 o' hr
      · omega
    · by_cases h : i = id
      · simp [G.renew, h] at hi; omega
      · simp [G.renew, h] at hi; exact h5 i hi
  minj := hm.minj
  mm i' b hb := by
    obtain ⟨h1, h2, h3, h4, h5, h6, h8, h7⟩ := hm.mm i' b hb
    refine ⟨h1, by simp; omega, fun o' hr => ?_, h4, fun i hi => ?_, h6, h8, h7.mono (hm.ev_renew hn hne o).toR.toV (Below.heap_alloc w _ b h2)⟩
    · rcases hr with hr | ⟨rfl, _⟩
      · exact h3 o' hr
      · omega
    · by_cases h : i = id
      · simp [G.renew, h] at hi; omega
      · simp [G.renew, h] at hi; exact h5 i hi
  len i m hi := by
    by_cases h : i = id
    · simp [h] at hi; simp [G.renew, h, hi]
    · simp [h] at hi; simp [G.renew, h, hm.len i m hi]
  cur0 i hi := by
    by_cases h : i = id
    · simp [h] at hi
    · simp [h] at hi; simp [G.renew, h, hm.cur0 i hi]

/-- A draw changes nothing. -/
theorem MSim.drew (hm : MSim N w0 ro0 γ w B L) : MSim N w0 ro0 γ w.drew B L where
  bs := w0.st _ _ _ _ hm.bs ⟨rfl, rfl, rfl, Nat.le_refl _, fun _ _ _ => rfl, fun _ _ _ h => ⟨h, rfl⟩, fun _ hb => .inl hb, fun _ _ h => .inl h⟩
  hN := hm.hN
  ro0 := hm.ro0
  robd := hm.robd
  box i cs b hb h1 := by
    obtain ⟨arr, e, h2, h3, h4⟩ := hm.box i cs b hb h1
    exact ⟨arr, e, h2, h3.mono ⟨Nat.le_refl _, fun _ _ _ h => ⟨h, rfl⟩, fun _ _ h => h, fun _ => Nat.le_refl _, fun _ _ h => h, rfl, fun _ _ _ h => ⟨h, fun arr _ h => ⟨arr, h, Nat.le_refl _⟩, fun _ h => h⟩, fun _ h => ⟨h, rfl⟩, Sz.refl w⟩, h4⟩
  β := hm.β
  inj := hm.inj
  own := hm.own
  oinj := hm.oinj
  sp := hm.sp
  mm i b hb := by
    obtain ⟨h1, h2, h3, h4, h5, h6, h8, h7⟩ := hm.mm i b hb
    exact ⟨h1, h2, h3, h4, h5, h6, h8, h7.mono (w' := w.drew) (γ' := γ) ⟨Nat.le_refl _, fun _ _ _ h => ⟨h, rfl⟩, fun _ _ h => h, fun _ => Nat.le_refl _, fun _ _ h => h, fun _ _ h => h, fun _ _ _ h => ⟨h, fun arr _ h => ⟨arr, h, Nat.le_refl _⟩, fun _ h => h⟩, Sz.refl w⟩ rfl⟩
  minj := hm.minj
  len := hm.len
  cur0 := hm.cur0

theorem Ev.drew (w : World) (γ : G) : Ev w γ w.drew γ :=
  ⟨Nat.le_refl _, fun _ _ _ h => ⟨h, rfl⟩, fun _ _ h => h, fun _ => Nat.le_refl _, fun _ _ h => h, rfl, fun _ _ _ h => ⟨h, fun arr _ h => ⟨arr, h, Nat.le_refl _⟩, fun _ h => h⟩, fun _ h => ⟨h, rfl⟩, Sz.refl w⟩

/-- A box of which nothing is known any more. -/
theorem MSim.kill (hm : MSim N w0 ro0 γ w B L) {id b : Nat} (hb : γ.β id = some b) : MSim N w0 ro0 γ w (fun i => if i = id then some [] else B i) L where
  bs := hm.bs
  hN := hm.hN
  ro0 := hm.ro0
  robd := hm.robd
  box i cells b' hbi h1 := by
    by_cases hi : i = id
    · subst hi
      simp at hbi
      subst hbi
      obtain ⟨_, _, _, _, c, hc⟩ := hm.β i b' h1
      obtain ⟨arr, e, h2, _, h4⟩ := hm.box i c b' hc h1
      exact ⟨arr, e, h2, RepP.nil, h4⟩
    · simp [hi] at hbi; exact hm.box i cells b' hbi h1
  β i b' hbi := by
    obtain ⟨h1, h2, h3, h4, c, hc⟩ := hm.β i b' hbi
    refine ⟨h1, h2, h3, h4, ?_⟩
    by_cases hi : i = id
    · exact ⟨[], by simp [hi]⟩
    · exact ⟨c, by simp [hi, hc]⟩
  inj i i' b' h h' := by
    rcases hm.inj i i' b' h h' with k | k | k
    · refine .inl ?_
      by_cases hi : i = id
      · simp [hi]
      · simp only [if_neg hi]; exact k
    · refine .inr (.inl ?_)
      by_cases hi : i' = id
      · simp [hi]
      · simp only [if_neg hi]; exact k
    · exact .inr (.inr k)
  own := hm.own
  oinj := hm.oinj
  sp := hm.sp
  mm i' b' hb' := by
    obtain ⟨h1, h2, h3, h4, h5, h6, h8, h7⟩ := hm.mm i' b' hb'
    have hne : i' ≠ id := by rintro rfl; rw [hb] at h8; cases h8
    exact ⟨h1, h2, h3, h4, h5, h6, h8, by simp only [hne, if_false]; exact h7⟩
  minj := hm.minj
  len := hm.len
  cur0 := hm.cur0

/-- A box grows in its block: it is known by a new number from now on. -/
theorem MSim.share (hm : MSim N w0 ro0 γ w B L) {id b id' : Nat} {cells new : List AV} (hb : γ.β id = some b) (hB : B id = some cells) (hne0 : cells ≠ []) (hid' : B id' = none) {arr : Array Value} {e : TypeId}
    (hh : w.heap[b]? = some (.cells arr e (0, 0))) {p : Nat} {vs : List Value} (hr : RepP w γ new (setL arr p vs).toList) (h1c : ∀ v ∈ arr.toList, v.oneCell' = true) (h1v : ∀ v ∈ vs, v.oneCell' = true) :
    Ev w γ (w.setCells b p vs) (γ.box id' b) ∧ MSim N w0 ro0 (γ.box id' b) (w.setCells b p vs) (fun i => if i = id' then some new else if i = id then some [] else B i) L := by
  have hneid : id' ≠ id := by rintro rfl; rw [hid'] at hB; cases hB
  have hfresh : ∀ i b', γ.β i = some b' → i ≠ id' := fun i b' h => by
    rintro rfl; obtain ⟨_, _, _, _, c, hc⟩ := hm.β i b' h; rw [hid'] at hc; cases hc
  have hst := hm.ev_store hb p vs
  have hev : Ev w γ (w.setCells b p vs) (γ.box id' b) :=
    ⟨hst.size, hst.ro, fun i b' h => by simp [G.box, hfresh i b' h, h], hst.cur, hst.mm, hst.lp, hst.own, hst.sp, hst.ss⟩
  refine ⟨hev, ?_⟩
  exact {
    bs := w0.st _ _ _ _ hm.bs ⟨(setCells_below b (Nat.le_refl b) vs p w).os, (setCells_below b (Nat.le_refl b) vs p w).tape, (setCells_below b (Nat.le_refl b) vs p w).output, by rw [setCells_size]; exact Nat.le_refl _,
      fun b' _ hno => setCells_other b vs p w b' (by rintro rfl; exact hno (.inl ⟨id, hb⟩)), hev.ro, fun b' hb' => by
        rcases hb' with ⟨i, hi⟩ | hb' | hb'
        · by_cases h : i = id'
          · simp [G.box, h] at hi; subst hi; exact .inl (.inl ⟨id, hb⟩)
          · simp [G.box, h] at hi; exact .inl (.inl ⟨i, hi⟩)
        · exact .inl (.inr (.inl hb'))
        · exact .inl (.inr (.inr hb')), fun _ _ h => .inl h⟩
    hN := by rw [setCells_size]; exact hm.hN
    ro0 := hm.ro0
    robd := fun b' o' h => by rw [setCells_size]; exact hm.robd b' o' h
    box := fun i cs b' hbi h1 => by
      by_cases hi : i = id'
      · subst hi
        simp at hbi
        subst hbi
        simp [G.box] at h1
        subst h1
        exact ⟨_, e, setCells_same b vs p w arr e _ hh, hr.mono hev, one_setL vs p arr h1c h1v⟩
      · simp [G.box, hi] at h1
        simp only [if_neg hi] at hbi
        by_cases hii : i = id
        · subst hii
          simp at hbi
          subst hbi
          obtain rfl : b' = b := Option.some.inj (h1.symm.trans hb)
          exact ⟨_, e, setCells_same b' vs p w arr e _ hh, RepP.nil, one_setL vs p arr h1c h1v⟩
        · simp only [if_neg hii] at hbi
          obtain ⟨arr', e', h2, h3, h4⟩ := hm.box i cs b' hbi h1
          by_cases hne : b' = b
          · subst hne
            rcases hm.inj _ _ _ h1 hb with h | h | h
            · rw [h] at hbi; cases hbi
              exact ⟨_, e, setCells_same b' vs p w arr e _ hh, RepP.nil, one_setL vs p arr h1c h1v⟩
            · rw [h] at hB; cases hB; exact absurd rfl hne0
            · exact absurd h hii
          · exact ⟨arr', e', by rw [setCells_other b vs p w b' hne]; exact h2, h3.mono hev, h4⟩
    β := fun i b' hbi => by
      by_cases hi : i = id'
      · subst hi
        simp [G.box] at hbi
        subst hbi
        obtain ⟨h1, h2, h3, h4, _⟩ := hm.β id b hb
        exact ⟨h1, by rw [setCells_size]; exact h2, h3, h4, new, by simp⟩
      · simp [G.box, hi] at hbi
        obtain ⟨h1, h2, h3, h4, c, hc⟩ := hm.β i b' hbi
        refine ⟨h1, by rw [setCells_size]; exact h2, h3, h4, ?_⟩
        by_cases hii : i = id
        · exact ⟨[], by simp [hi, hii, Ne.symm hneid]⟩
        · exact ⟨c, by simp [hi, hii, hc]⟩
    inj := fun i i' b' h h' => by
      have key : ∀ j, j ≠ id' → γ.β j = some b → (if j = id' then some new else if j = id then some [] else B j) = some [] := fun j hj hβ => by
        rw [if_neg hj]
        by_cases hji : j = id
        · rw [if_pos hji]
        · rw [if_neg hji]
          rcases hm.inj _ _ _ hβ hb with h | h | h
          · exact h
          · rw [h] at hB; cases hB; exact absurd rfl hne0
          · exact absurd h hji
      by_cases hi : i = id' <;> by_cases hi' : i' = id'
      · exact .inr (.inr (by rw [hi, hi']))
      · simp [G.box, hi] at h
        simp [G.box, hi'] at h'
        subst h
        exact .inr (.inl (key i' hi' h'))
      · simp [G.box, hi] at h
        simp [G.box, hi'] at h'
        subst h'
        exact .inl (key i hi h)
      · simp [G.box, hi] at h
        simp [G.box, hi'] at h'
        simp only [if_neg hi, if_neg hi']
        rcases hm.inj i i' b' h h' with k | k | k
        · refine .inl ?_
          by_cases hii : i = id
          · rw [if_pos hii]
          · rw [if_neg hii]; exact k
        · refine .inr (.inl ?_)
          by_cases hii : i' = id
          · rw [if_pos hii]
          · rw [if_neg hii]; exact k
        · exact .inr (.inr k)
    own := fun i b' hbi => by
      obtain ⟨h1, h2, h3⟩ := hm.own i b' hbi
      exact ⟨h1, by rw [setCells_size]; exact h2, h3⟩
    oinj := hm.oinj
    sp := fun b' hb' => by
      obtain ⟨h1, h2, h3, h4, h5⟩ := hm.sp b' hb'
      refine ⟨h1, by rw [setCells_size]; exact h2, h3, fun i hi => ?_, h5⟩
      by_cases hid : i = id'
      · simp [G.box, hid] at hi; subst hi; exact h4 id hb
      · simp [G.box, hid] at hi; exact h4 i hi
    mm := fun i' b' hb' => by
      obtain ⟨h1, h2, h3, h4, h5, h6, h8, h7⟩ := hm.mm i' b' hb'
      have hne : i' ≠ id := by rintro rfl; rw [hb] at h8; cases h8
      have hne' : i' ≠ id' := by
        rintro rfl
        obtain ⟨_, _, _, hx, _⟩ := h7
        rw [hid'] at hx; cases hx
      refine ⟨h1, by rw [setCells_size]; exact h2, h3, fun i hi => ?_, h5, h6, by simp [G.box, hne', h8], ?_⟩
      · by_cases hid : i = id'
        · simp [G.box, hid] at hi; subst hi; exact h4 id hb
        · simp [G.box, hid] at hi; exact h4 i hi
      · simp only [hne, hne', if_false]
        exact h7.mono hev.toR.toV (setCells_other b vs p w b' (by rintro rfl; exact h4 id hb))
    minj := hm.minj
    len := hm.len
    cur0 := hm.cur0 }

end Go.Abs
