/-
  OWN WORK. A walk over plain data: the abstract values, what it means that a value of the model stands for one of them, and that this is kept while memory grows.
-/
import Derived.WalkKit
import Derived.WalkLawsBesides
import Derived.WalkSpells
import Derived.OrdersIn
import Derived.RangeFuncRecord
namespace Go.Abs
open Go Go.RowKit

/-- What is known of a slice beside its contents: nothing ('ro'), it has no spare place ('full'), it is nil, it is not nil; it is the newest slice of right 'id' with elements of 'sz' cells. -/
inductive Rt where
  | ro
  | full
  | nil
  | nn
  | own (id sz : Nat)

/-- Abstract values: slices by their contents. -/
inductive AV where
  | junk
  | bool (b : Bool)
  | int (k : IntKind) (n : Int)
  | str (s : ByteArray)
  | agg (cs : List AV)
  | tup (vs : List AV)
  | sl (rt : Rt) (rows : List (List AV))
  | ep (row : List AV) (o : Nat)
  | ptr (id o : Nat)
  | fn (f : FuncId) (first cap : List AV)
  | nilfn
  | yld (l : Nat)
  | mp (id : Nat)
  | nilv (p : Bool)
  | mobj (kvs : List (Int × AV))
  | bs (id off len sz : Nat)
  | gd (g : Bool) (a : AV)

/-- Ghost: where the boxes lie; where the owned rows lie and how long their newest slice is; which cells do not change any more. -/
structure G where
  β : Nat → Option Nat
  own : Nat → Option Nat
  cur : Nat → Nat
  ro : Nat → Nat → Prop
  sp : Nat → Prop
  mm : Nat → Option Nat
  lp : Nat → Option Nat

def G.imm (γ : G) : G := { β := fun _ => none, own := fun _ => none, cur := fun _ => 0, ro := γ.ro, sp := fun _ => False, mm := fun _ => none, lp := fun _ => none }
def G0 (ro : Nat → Nat → Prop) : G := { β := fun _ => none, own := fun _ => none, cur := fun _ => 0, ro := ro, sp := fun _ => False, mm := fun _ => none, lp := fun _ => none }
theorem G.imm_imm (γ : G) : γ.imm.imm = γ.imm := rfl
theorem G.imm_eq (γ : G) : γ.imm = G0 γ.ro := rfl
theorem G0_imm (ro : Nat → Nat → Prop) : (G0 ro).imm = G0 ro := rfl

/-- The cell of an element. -/
def rowCell (rows : List (List AV)) (i j : Nat) : Option AV := (rows[i]?).bind (·[j]?)

/-- Spare places that nobody relies on. -/
def Spare (w : World) (γ : G) (a : Option Addr) (id len cap sz : Nat) : Prop :=
  ∃ b off arr e, a = some ⟨b, off, none⟩ ∧ γ.own id = some b ∧ w.heap[b]? = some (.cells arr e (0, 0)) ∧ off + cap * sz ≤ arr.size ∧
    ∀ o, off + len * sz ≤ o → ¬ γ.ro b o

def RtOK (w : World) (γ : G) (a : Option Addr) (len cap sz : Nat) : Rt → Prop
  | .ro => True
  | .full => cap = len
  | .nil => a = none
  | .nn => a ≠ none
  | .own id sz' => sz' = sz ∧ len ≤ γ.cur id ∧ (len = γ.cur id → cap = len ∨ Spare w γ a id len cap sz)

inductive Rep (w : World) : G → AV → Value → Prop
  | junk {γ : G} (v : Value) : Rep w γ .junk v
  | gd {γ : G} {g : Bool} {a : AV} {v : Value} (h : g = true → Rep w γ a v) (h' : g = false → v = undef) : Rep w γ (.gd g a) v
  | bool {γ : G} (b : Bool) : Rep w γ (.bool b) (.bool b)
  | int {γ : G} (k : IntKind) (n : Int) : Rep w γ (.int k n) (.int k n)
  | str {γ : G} (s : ByteArray) : Rep w γ (.str s) (.string s)
  | nilfn {γ : G} : Rep w γ .nilfn .nilFunc
  | nilv {γ : G} (p : Bool) : Rep w γ (.nilv p) (bif p then .pointer none else .map none)
  | yld {γ : G} {i l : Nat} (h : γ.lp i = some l) : Rep w γ (.yld i) (.func (.yield l) #[] #[])
  | mp {γ : G} {id b : Nat} (h : γ.mm id = some b) : Rep w γ (.mp id) (.map (some b))
  | agg {γ : G} {cs : List AV} {arr : Array Value} (hl : cs.length = arr.size) (h : ∀ (i : Nat) (c : AV) (v : Value), cs[i]? = some c → arr[i]? = some v → Rep w γ c v) : Rep w γ (.agg cs) (.agg arr)
  | tup {γ : G} {cs : List AV} {arr : Array Value} (hl : cs.length = arr.size) (h : ∀ (i : Nat) (c : AV) (v : Value), cs[i]? = some c → arr[i]? = some v → Rep w γ c v) : Rep w γ (.tup cs) (.tuple arr)
  | fn {γ : G} {f : FuncId} {first cap : List AV} {fa ca : Array Value} (hl : first.length = fa.size) (h : ∀ (i : Nat) (c : AV) (v : Value), first[i]? = some c → fa[i]? = some v → Rep w γ c v)
      (hl' : cap.length = ca.size) (h' : ∀ (i : Nat) (c : AV) (v : Value), cap[i]? = some c → ca[i]? = some v → Rep w γ c v) : Rep w γ (.fn f first cap) (.func (.func f) fa ca)
  | ptr {γ : G} {id o b : Nat} (h : γ.β id = some b) : Rep w γ (.ptr id o) (.pointer (some ⟨b, o, none⟩))
  | ep {γ : G} {row : List AV} {o b off : Nat} (cv : Nat → Value) (hb : b < w.heap.size)
      (hc : ∀ (j : Nat) (c : AV), row[j]? = some c → w.cell? ⟨b, off + j, none⟩ = some (cv j) ∧ γ.ro b (off + j) ∧ (cv j).oneCell' = true)
      (h : ∀ (j : Nat) (c : AV), row[j]? = some c → Rep w γ.imm c (cv j)) : Rep w γ (.ep row o) (.pointer (some ⟨b, off + o, none⟩))
  | bs {γ : G} {id off len sz cap b : Nat} {arr : Array Value} {e : TypeId} (h : γ.β id = some b) (hl : len ≤ cap) (hh : w.heap[b]? = some (.cells arr e (0, 0))) (hs : off + cap * sz ≤ arr.size) :
      Rep w γ (.bs id off len sz) (.slice (some ⟨b, off, none⟩) len cap)
  | sl {γ : G} {rt : Rt} {rows : List (List AV)} {a : Option Addr} {cap : Nat} (b off sz : Nat) (cv : Nat → Nat → Value)
      (hcap : rows.length ≤ cap) (hnil : a = none → cap = 0) (ha : rows ≠ [] → a = some ⟨b, off, none⟩ ∧ b < w.heap.size)
      (hsz : ∀ row ∈ rows, row.length = sz)
      (hc : ∀ (i j : Nat) (c : AV), rowCell rows i j = some c → w.cell? ⟨b, off + i * sz + j, none⟩ = some (cv i j) ∧ γ.ro b (off + i * sz + j) ∧ (cv i j).oneCell' = true)
      (h : ∀ (i j : Nat) (c : AV), rowCell rows i j = some c → Rep w γ.imm c (cv i j))
      (hrt : RtOK w γ a rows.length cap sz rt) : Rep w γ (.sl rt rows) (.slice a rows.length cap)

/-- The special blocks are kept; of a loop's record, what does not tell its state. -/
def SameSp (o o' : Option Obj) : Prop := o' = o ∨ ∃ r s p, o = some (.loop r) ∧ o' = some (.loop { r with state := s, pending := p })

theorem SameSp.trans {o o' o'' : Option Obj} (h : SameSp o o') (k : SameSp o' o'') : SameSp o o'' := by
  rcases h with rfl | ⟨r, s, p, rfl, rfl⟩
  · exact k
  · rcases k with rfl | ⟨r', s', p', e, rfl⟩
    · exact .inr ⟨r, s, p, rfl, rfl⟩
    · simp at e; subst e; exact .inr ⟨r, s', p', rfl, rfl⟩

/-- Blocks of cells keep their size. -/
def Sz (w w' : World) : Prop := ∀ (b : Nat) (arr : Array Value) (e : TypeId) (f : Nat × Nat), w.heap[b]? = some (.cells arr e f) → ∃ arr' : Array Value, w'.heap[b]? = some (.cells arr' e f) ∧ arr'.size = arr.size
theorem Sz.refl (w : World) : Sz w w := fun _ arr _ _ h => ⟨arr, h, rfl⟩
theorem Sz.trans {w w' w'' : World} (h : Sz w w') (k : Sz w' w'') : Sz w w'' := fun b arr e f hb => by
  obtain ⟨arr', h1, h2⟩ := h b arr e f hb
  obtain ⟨arr'', h3, h4⟩ := k b arr' e f h1
  exact ⟨arr'', h3, h4.trans h2⟩
theorem Sz.of_same {w w' : World} (h : ∀ b, b < w.heap.size → w'.heap[b]? = w.heap[b]?) : Sz w w' := fun b arr e f hb => by
  have hlt : b < w.heap.size := by
    rcases Nat.lt_or_ge b w.heap.size with h' | h'
    · exact h'
    · simp [Array.getElem?_eq_none h'] at hb
  exact ⟨arr, (h b hlt).trans hb, rfl⟩

/-- What is kept from one world to a later one, as far as values go. -/
structure EvV (w : World) (γ : G) (w' : World) (γ' : G) : Prop where
  size : w.heap.size ≤ w'.heap.size
  ro : ∀ b o, b < w.heap.size → γ.ro b o → γ'.ro b o ∧ w'.cell? ⟨b, o, none⟩ = w.cell? ⟨b, o, none⟩
  β : ∀ id b, γ.β id = some b → γ'.β id = some b
  cur : ∀ id, γ.cur id ≤ γ'.cur id
  mm : ∀ b F, γ.mm b = some F → γ'.mm b = some F
  lp : ∀ i l, γ.lp i = some l → γ'.lp i = some l
  own : ∀ id b, γ'.cur id = γ.cur id → γ.own id = some b → γ'.own id = some b ∧
    (∀ arr e, w.heap[b]? = some (.cells arr e (0, 0)) → ∃ arr', w'.heap[b]? = some (.cells arr' e (0, 0)) ∧ arr.size ≤ arr'.size) ∧ ∀ o, γ'.ro b o → γ.ro b o
  ss : Sz w w'

/-- What is kept from one world to a later one, if loops over functions go on meanwhile. -/
structure EvR (w : World) (γ : G) (w' : World) (γ' : G) : Prop where
  size : w.heap.size ≤ w'.heap.size
  ro : ∀ b o, b < w.heap.size → γ.ro b o → γ'.ro b o ∧ w'.cell? ⟨b, o, none⟩ = w.cell? ⟨b, o, none⟩
  β : ∀ id b, γ.β id = some b → γ'.β id = some b
  cur : ∀ id, γ.cur id ≤ γ'.cur id
  mm : ∀ b F, γ.mm b = some F → γ'.mm b = some F
  lp : ∀ i l, γ.lp i = some l → γ'.lp i = some l
  own : ∀ id b, γ'.cur id = γ.cur id → γ.own id = some b → γ'.own id = some b ∧
    (∀ arr e, w.heap[b]? = some (.cells arr e (0, 0)) → ∃ arr', w'.heap[b]? = some (.cells arr' e (0, 0)) ∧ arr.size ≤ arr'.size) ∧ ∀ o, γ'.ro b o → γ.ro b o
  sp : ∀ b, γ.sp b → γ'.sp b ∧ SameSp w.heap[b]? w'.heap[b]?
  ss : Sz w w'

/-- What is kept from one world to a later one: the blocks of loops over functions, too. -/
structure Ev (w : World) (γ : G) (w' : World) (γ' : G) : Prop where
  size : w.heap.size ≤ w'.heap.size
  ro : ∀ b o, b < w.heap.size → γ.ro b o → γ'.ro b o ∧ w'.cell? ⟨b, o, none⟩ = w.cell? ⟨b, o, none⟩
  β : ∀ id b, γ.β id = some b → γ'.β id = some b
  cur : ∀ id, γ.cur id ≤ γ'.cur id
  mm : ∀ b F, γ.mm b = some F → γ'.mm b = some F
  lp : γ'.lp = γ.lp
  own : ∀ id b, γ'.cur id = γ.cur id → γ.own id = some b → γ'.own id = some b ∧
    (∀ arr e, w.heap[b]? = some (.cells arr e (0, 0)) → ∃ arr', w'.heap[b]? = some (.cells arr' e (0, 0)) ∧ arr.size ≤ arr'.size) ∧ ∀ o, γ'.ro b o → γ.ro b o
  sp : ∀ b, γ.sp b → γ'.sp b ∧ w'.heap[b]? = w.heap[b]?
  ss : Sz w w'

theorem EvR.toV {w : World} {γ : G} {w' : World} {γ' : G} (h : EvR w γ w' γ') : EvV w γ w' γ' := ⟨h.size, h.ro, h.β, h.cur, h.mm, h.lp, h.own, h.ss⟩
theorem Ev.toR {w : World} {γ : G} {w' : World} {γ' : G} (h : Ev w γ w' γ') : EvR w γ w' γ' := ⟨h.size, h.ro, h.β, h.cur, h.mm, fun i l hl => by rw [h.lp]; exact hl, h.own, fun b hb => ⟨(h.sp b hb).1, .inl (h.sp b hb).2⟩, h.ss⟩

theorem Ev.refl (w : World) (γ : G) : Ev w γ w γ :=
  ⟨Nat.le_refl _, fun _ _ _ h => ⟨h, rfl⟩, fun _ _ h => h, fun _ => Nat.le_refl _, fun _ _ h => h, rfl, fun _ _ _ h => ⟨h, fun arr _ h => ⟨arr, h, Nat.le_refl _⟩, fun _ h => h⟩, fun _ h => ⟨h, rfl⟩, Sz.refl w⟩

theorem Ev.trans {w : World} {γ : G} {w' : World} {γ' : G} {w'' : World} {γ'' : G} (h : Ev w γ w' γ') (k : Ev w' γ' w'' γ'') : Ev w γ w'' γ'' where
  size := Nat.le_trans h.size k.size
  ro b o hb hr := by
    obtain ⟨h1, h2⟩ := h.ro b o hb hr
    obtain ⟨h3, h4⟩ := k.ro b o (Nat.lt_of_lt_of_le hb h.size) h1
    exact ⟨h3, h4.trans h2⟩
  β id b hb := k.β id b (h.β id b hb)
  cur id := Nat.le_trans (h.cur id) (k.cur id)
  mm b F hb := k.mm b F (h.mm b F hb)
  lp := k.lp.trans h.lp
  own id b hc ho := by
    have h1 := h.cur id
    have h2 := k.cur id
    have e1 : γ'.cur id = γ.cur id := by omega
    have e2 : γ''.cur id = γ'.cur id := by omega
    obtain ⟨a1, a2, a3⟩ := h.own id b e1 ho
    obtain ⟨b1, b2, b3⟩ := k.own id b e2 a1
    refine ⟨b1, fun arr e hh => ?_, fun o ho => a3 o (b3 o ho)⟩
    obtain ⟨arr', h3, h4⟩ := a2 arr e hh
    obtain ⟨arr'', h5, h6⟩ := b2 arr' e h3
    exact ⟨arr'', h5, Nat.le_trans h4 h6⟩
  sp b hb := by
    obtain ⟨h1, h2⟩ := h.sp b hb
    obtain ⟨h3, h4⟩ := k.sp b h1
    exact ⟨h3, h4.trans h2⟩
  ss := h.ss.trans k.ss

theorem EvR.trans {w : World} {γ : G} {w' : World} {γ' : G} {w'' : World} {γ'' : G} (h : EvR w γ w' γ') (k : EvR w' γ' w'' γ'') : EvR w γ w'' γ'' where
  size := Nat.le_trans h.size k.size
  ro b o hb hr := by
    obtain ⟨h1, h2⟩ := h.ro b o hb hr
    obtain ⟨h3, h4⟩ := k.ro b o (Nat.lt_of_lt_of_le hb h.size) h1
    exact ⟨h3, h4.trans h2⟩
  β id b hb := k.β id b (h.β id b hb)
  cur id := Nat.le_trans (h.cur id) (k.cur id)
  mm b F hb := k.mm b F (h.mm b F hb)
  lp i l hl := k.lp i l (h.lp i l hl)
  own id b hc ho := by
    have h1 := h.cur id
    have h2 := k.cur id
    have e1 : γ'.cur id = γ.cur id := by omega
    have e2 : γ''.cur id = γ'.cur id := by omega
    obtain ⟨a1, a2, a3⟩ := h.own id b e1 ho
    obtain ⟨b1, b2, b3⟩ := k.own id b e2 a1
    refine ⟨b1, fun arr e hh => ?_, fun o ho => a3 o (b3 o ho)⟩
    obtain ⟨arr', h3, h4⟩ := a2 arr e hh
    obtain ⟨arr'', h5, h6⟩ := b2 arr' e h3
    exact ⟨arr'', h5, Nat.le_trans h4 h6⟩
  sp b hb := by
    obtain ⟨h1, h2⟩ := h.sp b hb
    obtain ⟨h3, h4⟩ := k.sp b h1
    exact ⟨h3, h2.trans h4⟩
  ss := h.ss.trans k.ss

theorem EvV.imm {w : World} {γ : G} {w' : World} {γ' : G} (h : EvV w γ w' γ') : EvV w γ.imm w' γ'.imm :=
  ⟨h.size, h.ro, fun _ _ h => (by cases h), fun _ => Nat.le_refl _, fun _ _ h => (by cases h), fun _ _ h => (by cases h), fun _ _ _ h => (by cases h), h.ss⟩
theorem EvR.imm {w : World} {γ : G} {w' : World} {γ' : G} (h : EvR w γ w' γ') : EvR w γ.imm w' γ'.imm :=
  ⟨h.size, h.ro, fun _ _ h => (by cases h), fun _ => Nat.le_refl _, fun _ _ h => (by cases h), fun _ _ h => (by cases h), fun _ _ _ h => (by cases h), fun _ h => h.elim, h.ss⟩
theorem EvR.immE {w : World} {γ : G} {w' : World} {γ' : G} (h : EvR w γ w' γ') : Ev w γ.imm w' γ'.imm :=
  ⟨h.size, h.ro, fun _ _ h => (by cases h), fun _ => Nat.le_refl _, fun _ _ h => (by cases h), rfl, fun _ _ _ h => (by cases h), fun _ h => h.elim, h.ss⟩
theorem Ev.imm {w : World} {γ : G} {w' : World} {γ' : G} (h : Ev w γ w' γ') : Ev w γ.imm w' γ'.imm := h.toR.immE

theorem Spare.monoR {w : World} {γ : G} {w' : World} {γ' : G} (h : EvV w γ w' γ') {a : Option Addr} {id len cap sz : Nat} (hc : γ'.cur id = γ.cur id) (hs : Spare w γ a id len cap sz) :
    Spare w' γ' a id len cap sz := by
  obtain ⟨b, off, arr, e, ha, ho, hh, hsz, hro⟩ := hs
  obtain ⟨h1, h2, h3⟩ := h.own id b hc ho
  obtain ⟨arr', h4, h5⟩ := h2 arr e hh
  exact ⟨b, off, arr', e, ha, h1, h4, Nat.le_trans hsz h5, fun o ho hr => hro o ho (h3 o hr)⟩
theorem Spare.mono {w : World} {γ : G} {w' : World} {γ' : G} (h : Ev w γ w' γ') {a : Option Addr} {id len cap sz : Nat} (hc : γ'.cur id = γ.cur id) (hs : Spare w γ a id len cap sz) :
    Spare w' γ' a id len cap sz := Spare.monoR h.toR.toV hc hs

theorem RtOK.mono {w : World} {γ : G} {w' : World} {γ' : G} (h : EvV w γ w' γ') {a : Option Addr} {len cap sz : Nat} {rt : Rt} (hr : RtOK w γ a len cap sz rt) : RtOK w' γ' a len cap sz rt := by
  cases rt with
  | ro => trivial
  | full => exact hr
  | nil => exact hr
  | nn => exact hr
  | own id sz' =>
    obtain ⟨h1, h2, h3⟩ := hr
    have hcu := h.cur id
    refine ⟨h1, Nat.le_trans h2 hcu, fun he => ?_⟩
    have e1 : γ'.cur id = γ.cur id := by omega
    exact (h3 (by omega)).imp_right (Spare.monoR h e1)

theorem Rep.monoV {w : World} {γ : G} {a : AV} {v : Value} (h : Rep w γ a v) : ∀ {w' : World} {γ' : G}, EvV w γ w' γ' → Rep w' γ' a v := by
  induction h with
  | junk v => exact fun _ => .junk v
  | gd _ h' ih => exact fun e => .gd (fun hg => ih hg e) h'
  | bool b => exact fun _ => .bool b
  | int k n => exact fun _ => .int k n
  | str s => exact fun _ => .str s
  | nilfn => exact fun _ => .nilfn
  | nilv p => exact fun _ => .nilv p
  | yld h => exact fun e => .yld (e.lp _ _ h)
  | mp h => exact fun e => .mp (e.mm _ _ h)
  | agg hl _ ih => exact fun e => .agg hl fun i c v h1 h2 => ih i c v h1 h2 e
  | tup hl _ ih => exact fun e => .tup hl fun i c v h1 h2 => ih i c v h1 h2 e
  | fn hl _ hl' _ ih ih' => exact fun e => .fn hl (fun i c v h1 h2 => ih i c v h1 h2 e) hl' fun i c v h1 h2 => ih' i c v h1 h2 e
  | ptr h => exact fun e => .ptr (e.β _ _ h)
  | bs h hl hh hs =>
    intro w' γ' e
    obtain ⟨arr', h1, h2⟩ := e.ss _ _ _ _ hh
    exact .bs (e.β _ _ h) hl h1 (by omega)
  | ep cv hb hc _ ih =>
    exact fun e => .ep cv (Nat.lt_of_lt_of_le hb e.size) (fun j c hj => ⟨(e.ro _ _ hb (hc j c hj).2.1).2.trans (hc j c hj).1, (e.ro _ _ hb (hc j c hj).2.1).1, (hc j c hj).2.2⟩) fun j c hj => ih j c hj e.imm
  | @sl γ rt rows a cap b off sz cv hcap hnil ha hsz hc _ hrt ih =>
    intro w' γ' e
    have hb : ∀ i j c, rowCell rows i j = some c → b < w.heap.size := fun i j c hij => (ha (by rintro rfl; simp [rowCell] at hij)).2
    exact .sl b off sz cv hcap hnil (fun hn => ⟨(ha hn).1, Nat.lt_of_lt_of_le (ha hn).2 e.size⟩) hsz
      (fun i j c hij => ⟨(e.ro _ _ (hb i j c hij) (hc i j c hij).2.1).2.trans (hc i j c hij).1, (e.ro _ _ (hb i j c hij) (hc i j c hij).2.1).1, (hc i j c hij).2.2⟩)
      (fun i j c hij => ih i j c hij e.imm) (hrt.mono e)

theorem Rep.monoR {w : World} {γ : G} {a : AV} {v : Value} (h : Rep w γ a v) {w' : World} {γ' : G} (e : EvR w γ w' γ') : Rep w' γ' a v := h.monoV e.toV
theorem Rep.mono {w : World} {γ : G} {a : AV} {v : Value} (h : Rep w γ a v) {w' : World} {γ' : G} (e : Ev w γ w' γ') : Rep w' γ' a v := h.monoR e.toR

/-- Lists of values. -/
def RepL (w : World) (γ : G) (as : List AV) (vs : List Value) : Prop := as.length = vs.length ∧ ∀ (i : Nat) (a : AV) (v : Value), as[i]? = some a → vs[i]? = some v → Rep w γ a v

theorem RepL.mono {w : World} {γ : G} {as : List AV} {vs : List Value} (h : RepL w γ as vs) {w' : World} {γ' : G} (e : Ev w γ w' γ') : RepL w' γ' as vs :=
  ⟨h.1, fun i a v h1 h2 => (h.2 i a v h1 h2).mono e⟩

theorem RepL.monoV {w : World} {γ : G} {as : List AV} {vs : List Value} (h : RepL w γ as vs) {w' : World} {γ' : G} (e : EvV w γ w' γ') : RepL w' γ' as vs :=
  ⟨h.1, fun i a v h1 h2 => (h.2 i a v h1 h2).monoV e⟩

theorem RepL.monoR {w : World} {γ : G} {as : List AV} {vs : List Value} (h : RepL w γ as vs) {w' : World} {γ' : G} (e : EvR w γ w' γ') : RepL w' γ' as vs :=
  ⟨h.1, fun i a v h1 h2 => (h.2 i a v h1 h2).monoR e⟩

theorem RepL.nil {w : World} {γ : G} : RepL w γ [] [] := ⟨rfl, fun i a v h => (by simp at h)⟩

theorem RepL.cons {w : World} {γ : G} {a : AV} {v : Value} {as : List AV} {vs : List Value} (h : Rep w γ a v) (hs : RepL w γ as vs) : RepL w γ (a :: as) (v :: vs) :=
  ⟨by simp [hs.1], fun i x y h1 h2 => by
    cases i with
    | zero => simp at h1 h2; subst h1; subst h2; exact h
    | succ i => simp at h1 h2; exact hs.2 i x y h1 h2⟩

theorem RepL.get {w : World} {γ : G} {as : List AV} {vs : List Value} (h : RepL w γ as vs) (i : Nat) : Rep w γ (as.getD i .junk) (vs.getD i undef) := by
  rcases Nat.lt_or_ge i as.length with hi | hi
  · have hi' : i < vs.length := h.1 ▸ hi
    refine h.2 i _ _ (?_ : as[i]? = some _) (?_ : vs[i]? = some _)
    · simp [List.getD, hi]
    · simp [List.getD, hi']
  · simp [List.getD, List.getElem?_eq_none hi]; exact .junk _

theorem RepL.set {w : World} {γ : G} {as : List AV} {vs : List Value} (h : RepL w γ as vs) (i : Nat) {a : AV} {v : Value} (ha : Rep w γ a v) : RepL w γ (as.set i a) (vs.set i v) := by
  refine ⟨by simp [h.1], fun j x y h1 h2 => ?_⟩
  by_cases hij : i = j
  · subst hij
    rw [List.getElem?_set] at h1 h2
    simp only [if_true] at h1 h2
    split at h1 <;> split at h2 <;> simp_all
  · rw [List.getElem?_set_ne hij] at h1 h2
    exact h.2 j x y h1 h2

theorem RepL.append {w : World} {γ : G} {as bs : List AV} {vs us : List Value} (h : RepL w γ as vs) (k : RepL w γ bs us) : RepL w γ (as ++ bs) (vs ++ us) := by
  refine ⟨by simp [h.1, k.1], fun i x y h1 h2 => ?_⟩
  rcases Nat.lt_or_ge i as.length with hi | hi
  · rw [List.getElem?_append_left hi] at h1
    rw [List.getElem?_append_left (h.1 ▸ hi)] at h2
    exact h.2 i x y h1 h2
  · rw [List.getElem?_append_right hi] at h1
    rw [List.getElem?_append_right (h.1 ▸ hi), ← h.1] at h2
    exact k.2 _ x y h1 h2

/-- Lists of which the first values are known. -/
def RepP (w : World) (γ : G) (as : List AV) (vs : List Value) : Prop := as.length ≤ vs.length ∧ ∀ (i : Nat) (a : AV) (v : Value), as[i]? = some a → vs[i]? = some v → Rep w γ a v

theorem RepL.toP {w : World} {γ : G} {as : List AV} {vs : List Value} (h : RepL w γ as vs) : RepP w γ as vs := ⟨Nat.le_of_eq h.1, h.2⟩
theorem RepP.nil {w : World} {γ : G} {vs : List Value} : RepP w γ [] vs := ⟨Nat.zero_le _, fun i a v h => (by simp at h)⟩
theorem RepP.monoV {w : World} {γ : G} {as : List AV} {vs : List Value} (h : RepP w γ as vs) {w' : World} {γ' : G} (e : EvV w γ w' γ') : RepP w' γ' as vs :=
  ⟨h.1, fun i a v h1 h2 => (h.2 i a v h1 h2).monoV e⟩
theorem RepP.monoR {w : World} {γ : G} {as : List AV} {vs : List Value} (h : RepP w γ as vs) {w' : World} {γ' : G} (e : EvR w γ w' γ') : RepP w' γ' as vs := h.monoV e.toV
theorem RepP.mono {w : World} {γ : G} {as : List AV} {vs : List Value} (h : RepP w γ as vs) {w' : World} {γ' : G} (e : Ev w γ w' γ') : RepP w' γ' as vs := h.monoR e.toR
theorem RepP.set {w : World} {γ : G} {as : List AV} {vs : List Value} (h : RepP w γ as vs) (i : Nat) {a : AV} {v : Value} (ha : Rep w γ a v) : RepP w γ (as.set i a) (vs.set i v) := by
  refine ⟨by simpa using h.1, fun j x y h1 h2 => ?_⟩
  by_cases hij : i = j
  · subst hij
    rw [List.getElem?_set] at h1 h2
    simp only [if_true] at h1 h2
    split at h1 <;> split at h2 <;> simp_all
  · rw [List.getElem?_set_ne hij] at h1 h2
    exact h.2 j x y h1 h2

end Go.Abs
