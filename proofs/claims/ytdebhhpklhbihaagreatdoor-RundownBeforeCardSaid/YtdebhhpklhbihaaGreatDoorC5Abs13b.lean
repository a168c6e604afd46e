/-
  OWN WORK. Regions whose order is drawn: all orders come to the text's order.
-/
import Derived.Test.YtdebhhpklhbihaaGreatDoorC5Abs13a
namespace Go.Abs
open Go Go.RowKit

def afters (o : Oper) : List Nat := (o.after.toList.filter fun e => Region.binds .any e).map (·.on)

/-- Does operation number i wait for number j? -/
def waitsB (ops : Array Oper) (i j : Nat) : Bool :=
  match ops[i]? with
  | some o => (afters o).contains j
  | none => false

/-- Operation number i waits for all before it, in one step or in many. -/
def tailOK (ops : Array Oper) (i : Nat) : Bool := (List.range i).all fun j => (List.range (i - j)).any fun d => waitsB ops (i - d) j

def dsplitFrom (ops : Array Oper) : Nat → Nat
  | 0 => 0
  | k + 1 => if tailOK ops k then dsplitFrom ops k else k + 1

def dsplit (ops : Array Oper) : Nat := dsplitFrom ops ops.size

def dstOf (ops : Array Oper) (i : Nat) : Option Nat := (ops[i]?).bind (·.dst)

/-- The looks on a region whose order is drawn: 'p' operations in any order, then the others in the text's order. -/
def dchk (ops : Array Oper) (p : Nat) : Bool :=
  decide (p ≤ ops.size) && (List.range ops.size).all fun i =>
    match ops[i]? with
    | none => false
    | some o => (afters o).all (fun j => decide (j < i)) &&
      (if i < p then
        ((o.looksAt ops).all fun t => (List.range p).all fun j => !(dstOf ops j == some t) || j == i || (decide (j < i) && (afters o).contains j)) &&
        ((List.range i).all fun j => (dstOf ops j).isNone || !(dstOf ops j == o.dst))
      else tailOK ops i)

section
variable (P : Program) (gl : Nat → AV) (orc : Nat → FuncId → List AV → AV)

/-- One of the operations that come in any order. -/
def dop (o : SO) (T : List AV) (m : AM) (nb : List (List AV)) : Prop × AV × List (List AV) :=
  match o.guard with
  | none => match o.op with
    | .alloc zs => (zs.all isCell = true, .ptr (m.boxes.length + nb.length) 0, nb ++ [zs])
    | .box x => (bare (ev gl T x) = true ∧ (cellsOf (ev gl T x)).all isCell = true, .ptr (m.boxes.length + nb.length) 0, nb ++ [cellsOf (ev gl T x)])
    | op => ((rop P gl orc (ev gl T) m o.dst op).1, (rop P gl orc (ev gl T) m o.dst op).2, nb)
  | some (some t, want) => match gvw want (T.getD t .junk) with
    | some gw => (gok gl T gw (gxs o.op o.xs) ∧ (gw = true → (rop P gl orc (evG gl T o.op) m o.dst o.op).1), .gd gw (rop P gl orc (evG gl T o.op) m o.dst o.op).2, nb)
    | none => (False, .junk, nb)
  | some (none, _) => (False, .junk, nb)

def vcD (Y : YT) (l2 : List SO) (K : AS → Prop) : List SO → List AV → AM → List (List AV) → Prop
  | [], T, m, nb => vcOps P gl orc Y l2 ⟨T, { m with boxes := m.boxes ++ nb }⟩ K
  | o :: r, T, m, nb => (dop P gl orc o T m nb).1 ∧ vcD Y l2 K r (put T o.dst (dop P gl orc o T m nb).2.1) m (dop P gl orc o T m nb).2.2

/-- The states in the text's order. -/
def dsts (ops : Array Oper) (T0 : List AV) (m : AM) : Nat → List AV × List (List AV)
  | 0 => (T0, [])
  | k + 1 => match ops[k]? with
    | some o => (put (dsts ops T0 m k).1 o.dst (dop P gl orc (soOf P ops o) (dsts ops T0 m k).1 m (dsts ops T0 m k).2).2.1, (dop P gl orc (soOf P ops o) (dsts ops T0 m k).1 m (dsts ops T0 m k).2).2.2)
    | none => dsts ops T0 m k
end

section
variable {N : Nat} {w0 : Bas} {r : Option Nat} {ro0 : Nat → Nat → Prop} {S : G × World} {Y : YT} {P : Program} {gl : Nat → AV} {orc : Nat → FuncId → List AV → AV} {ops : Array Oper} {T0 : List AV} {m : AM} {p : Nat}

theorem dsts_succ {k : Nat} {o : Oper} (h : ops[k]? = some o) : dsts P gl orc ops T0 m (k + 1) =
    (put (dsts P gl orc ops T0 m k).1 o.dst (dop P gl orc (soOf P ops o) (dsts P gl orc ops T0 m k).1 m (dsts P gl orc ops T0 m k).2).2.1, (dop P gl orc (soOf P ops o) (dsts P gl orc ops T0 m k).1 m (dsts P gl orc ops T0 m k).2).2.2) := by
  simp only [dsts, h]

theorem vcD_all (l2 : List SO) (K : AS → Prop) (hp : p ≤ ops.size) : ∀ (n k : Nat), k + n = p → vcD P gl orc Y l2 K (((ops.toList.take p).drop k).map (soOf P ops)) (dsts P gl orc ops T0 m k).1 m (dsts P gl orc ops T0 m k).2 →
    (∀ i o, k ≤ i → i < p → ops[i]? = some o → (dop P gl orc (soOf P ops o) (dsts P gl orc ops T0 m i).1 m (dsts P gl orc ops T0 m i).2).1) ∧
    vcOps P gl orc Y l2 ⟨(dsts P gl orc ops T0 m p).1, { m with boxes := m.boxes ++ (dsts P gl orc ops T0 m p).2 }⟩ K
  | 0, k, hk, h => by
    obtain rfl : k = p := by omega
    have : (ops.toList.take k).drop k = [] := List.drop_eq_nil_of_le (by simp; omega)
    rw [this] at h
    exact ⟨fun i o h1 h2 => by omega, h⟩
  | n + 1, k, hk, h => by
    have hlt : k < ops.size := by omega
    have ho : ops[k]? = some ops[k] := Array.getElem?_eq_getElem hlt
    have hd : (ops.toList.take p).drop k = ops[k] :: (ops.toList.take p).drop (k + 1) := by
      rw [List.drop_eq_getElem_cons (by simp; omega)]; simp
    rw [hd, List.map_cons] at h
    obtain ⟨h1, h2⟩ := h
    have hsu := dsts_succ (P := P) (gl := gl) (orc := orc) (T0 := T0) (m := m) ho
    have := vcD_all l2 K hp n (k + 1) (by omega) (by rw [hsu]; exact h2)
    refine ⟨fun i o hi hip hio => ?_, this.2⟩
    rcases Nat.lt_or_ge k i with hki | hki
    · exact this.1 i o hki hip hio
    · obtain rfl : i = k := by omega
      rw [ho] at hio
      cases hio
      exact h1

theorem length_put (T : List AV) (d : Option Nat) (x : AV) : (put T d x).length = T.length := by cases d <;> simp [put]

theorem dsts_len : ∀ k, (dsts P gl orc ops T0 m k).1.length = T0.length
  | 0 => rfl
  | k + 1 => by
    cases h : ops[k]? with
    | none => simp only [dsts, h]; exact dsts_len k
    | some o => rw [dsts_succ h, length_put]; exact dsts_len k

theorem getD_put_ne {T : List AV} {d : Option Nat} {x : AV} {t : Nat} (h : d ≠ some t) : (put T d x).getD t .junk = T.getD t .junk := by
  cases d with
  | none => rfl
  | some d => simp only [put, List.getD]; rw [List.getElem?_set_ne (by rintro rfl; exact h rfl)]

theorem getD_put_same {T : List AV} {t : Nat} {x : AV} (h : t < T.length) : (put T (some t) x).getD t .junk = x := by
  simp [put, List.getD, h]

/-- A slot that none of the first k writes. -/
theorem dsts_first {t : Nat} : ∀ k, (∀ j, j < k → dstOf ops j ≠ some t) → (dsts P gl orc ops T0 m k).1.getD t .junk = T0.getD t .junk
  | 0, _ => rfl
  | k + 1, h => by
    cases ho : ops[k]? with
    | none => simp only [dsts, ho]; exact dsts_first k fun j hj => h j (by omega)
    | some o =>
      rw [dsts_succ ho, getD_put_ne (by have := h k (by omega); simpa [dstOf, ho] using this)]
      exact dsts_first k fun j hj => h j (by omega)

/-- A slot that none from k on writes. -/
theorem dsts_last {t k : Nat} : ∀ n, (∀ j, k ≤ j → j < k + n → dstOf ops j ≠ some t) → (dsts P gl orc ops T0 m (k + n)).1.getD t .junk = (dsts P gl orc ops T0 m k).1.getD t .junk
  | 0, _ => rfl
  | n + 1, h => by
    rw [← Nat.add_assoc]
    cases ho : ops[k + n]? with
    | none => simp only [dsts, ho]; exact dsts_last n fun j h1 h2 => h j h1 (by omega)
    | some o =>
      rw [dsts_succ ho, getD_put_ne (by have := h (k + n) (by omega) (by omega); simpa [dstOf, ho] using this)]
      exact dsts_last n fun j h1 h2 => h j h1 (by omega)

def Alloc (o : Oper) (so : SOp) : Prop := o.guard = none ∧ ((∃ zs, so = .alloc zs) ∨ ∃ x, so = .box x)

theorem dop_nb {o : Oper} {T : List AV} {nb : List (List AV)} :
    ((dop P gl orc (soOf P ops o) T m nb).2.2 = nb) ∨ (∃ cells, (dop P gl orc (soOf P ops o) T m nb).2.2 = nb ++ [cells]) := by
  unfold dop
  split
  · split
    · exact .inr ⟨_, rfl⟩
    · exact .inr ⟨_, rfl⟩
    · exact .inl rfl
  · split
    · exact .inl rfl
    · exact .inl rfl
  · exact .inl rfl

def nbl (P : Program) (gl : Nat → AV) (orc : Nat → FuncId → List AV → AV) (ops : Array Oper) (T0 : List AV) (m : AM) (k : Nat) : Nat := (dsts P gl orc ops T0 m k).2.length

theorem dsts_nb (k : Nat) : (dsts P gl orc ops T0 m (k + 1)).2 = (dsts P gl orc ops T0 m k).2 ∨ ∃ cells, (dsts P gl orc ops T0 m (k + 1)).2 = (dsts P gl orc ops T0 m k).2 ++ [cells] := by
  cases ho : ops[k]? with
  | none => exact .inl (by simp only [dsts, ho])
  | some o => rw [dsts_succ ho]; exact dop_nb

theorem nbl_step (k : Nat) : nbl P gl orc ops T0 m (k + 1) = nbl P gl orc ops T0 m k ∨ nbl P gl orc ops T0 m (k + 1) = nbl P gl orc ops T0 m k + 1 := by
  unfold nbl
  rcases dsts_nb (P := P) (gl := gl) (orc := orc) (ops := ops) (T0 := T0) (m := m) k with h | ⟨c, h⟩
  · rw [h]; exact .inl rfl
  · rw [h]; exact .inr (by simp)

theorem nbl_mono {j : Nat} : ∀ n, nbl P gl orc ops T0 m j ≤ nbl P gl orc ops T0 m (j + n)
  | 0 => Nat.le_refl _
  | n + 1 => by
    have := nbl_mono (j := j) n
    rcases nbl_step (P := P) (gl := gl) (orc := orc) (ops := ops) (T0 := T0) (m := m) (j + n) with h | h <;> rw [← Nat.add_assoc] <;> omega

theorem nbl_le {i j : Nat} (h : i ≤ j) : nbl P gl orc ops T0 m i ≤ nbl P gl orc ops T0 m j := by
  have := nbl_mono (P := P) (gl := gl) (orc := orc) (ops := ops) (T0 := T0) (m := m) (j := i) (j - i)
  rwa [show i + (j - i) = j by omega] at this

theorem nb_get {i : Nat} : ∀ n {q : Nat} {c : List AV}, (dsts P gl orc ops T0 m i).2[q]? = some c → (dsts P gl orc ops T0 m (i + n)).2[q]? = some c
  | 0, _, _, h => h
  | n + 1, q, c, h => by
    have ih := nb_get n h
    rw [← Nat.add_assoc]
    rcases dsts_nb (P := P) (gl := gl) (orc := orc) (ops := ops) (T0 := T0) (m := m) (i + n) with e | ⟨c', e⟩
    · rw [e]; exact ih
    · rw [e, List.getElem?_append_left (List.getElem?_eq_some_iff.1 ih).1]; exact ih

/-- Is number i one that makes a box? -/
def isNew (P : Program) (gl : Nat → AV) (orc : Nat → FuncId → List AV → AV) (ops : Array Oper) (T0 : List AV) (m : AM) (i : Nat) : Bool := nbl P gl orc ops T0 m (i + 1) == nbl P gl orc ops T0 m i + 1

theorem nbl_find {q : Nat} : ∀ k, q < nbl P gl orc ops T0 m k → ∃ i, i < k ∧ isNew P gl orc ops T0 m i = true ∧ nbl P gl orc ops T0 m i = q
  | 0, h => by simp [nbl, dsts] at h
  | k + 1, h => by
    rcases Nat.lt_or_ge q (nbl P gl orc ops T0 m k) with h' | h'
    · obtain ⟨i, h1, h2, h3⟩ := nbl_find k h'
      exact ⟨i, by omega, h2, h3⟩
    · rcases nbl_step (P := P) (gl := gl) (orc := orc) (ops := ops) (T0 := T0) (m := m) k with e | e
      · omega
      · exact ⟨k, by omega, by simp [isNew, e], by omega⟩

def Bof (P : Program) (gl : Nat → AV) (orc : Nat → FuncId → List AV → AV) (ops : Array Oper) (T0 : List AV) (m : AM) (p : Nat) (listed : Array Bool) (id : Nat) : Option (List AV) :=
  if id < m.boxes.length then m.boxes[id]?
  else if (List.range p).any fun i => listed.getD i false && (isNew P gl orc ops T0 m i && decide (m.boxes.length + nbl P gl orc ops T0 m i = id)) then (dsts P gl orc ops T0 m p).2[id - m.boxes.length]? else none

def wr (ops : Array Oper) (p : Nat) (listed : Array Bool) (t : Nat) : Bool := (List.range p).any fun i => listed.getD i false && (dstOf ops i == some t)

def At (P : Program) (gl : Nat → AV) (orc : Nat → FuncId → List AV → AV) (ops : Array Oper) (T0 : List AV) (m : AM) (p : Nat) (listed : Array Bool) (t : Nat) : AV :=
  if wr ops p listed t then (dsts P gl orc ops T0 m p).1.getD t .junk else T0.getD t .junk

structure InvA (N : Nat) (w0 : Bas) (r : Option Nat) (ro0 : Nat → Nat → Prop) (S : G × World) (Y : YT) (P : Program) (gl : Nat → AV) (orc : Nat → FuncId → List AV → AV) (ops : Array Oper) (T0 : List AV) (m : AM) (p : Nat) (listed : Array Bool) (γ : G) (w : World) (a : Act) : Prop where
  size : listed.size = ops.size
  tail : ∀ i, p ≤ i → i < ops.size → listed.getD i true = false
  clo : ∀ i o, listed.getD i false = true → ops[i]? = some o → ∀ j ∈ afters o, listed.getD j false = true
  mm : MSim N w0 ro0 γ w (Bof P gl orc ops T0 m p listed) m.L
  ls : LSim γ w m
  rd : Rdr r γ w
  tl : a.tmps.size = T0.length
  tt : ∀ t, Rep w γ (At P gl orc ops T0 m p listed t) (a.tmps.getD t undef)
  d : Dfr S.2.heap.size γ w a.defers
  g : ∀ g, Rep w γ.imm (gl g) (.pointer (some ⟨g, 0, none⟩))
  y : YOK N w0 ro0 P Y γ w
  e : EvR S.2 S.1 w γ

theorem getD_set_same {listed : Array Bool} {i : Nat} {b : Bool} (h : i < listed.size) : (listed.setIfInBounds i true).getD i b = true := by
  simp [h]
theorem getD_set_other {listed : Array Bool} {i j : Nat} {b : Bool} (h : j ≠ i) : (listed.setIfInBounds i true).getD j b = listed.getD j b := by
  simp [Array.getElem?_setIfInBounds_ne (Ne.symm h)]

theorem Bof_old {listed : Array Bool} {id : Nat} {cells : List AV} (h : m.boxes[id]? = some cells) : Bof P gl orc ops T0 m p listed id = some cells := by
  unfold Bof
  rw [if_pos (List.getElem?_eq_some_iff.1 h).1]
  exact h

theorem Bof_same {listed : Array Bool} {i : Nat} (hn : isNew P gl orc ops T0 m i = false) : Bof P gl orc ops T0 m p (listed.setIfInBounds i true) = Bof P gl orc ops T0 m p listed := by
  funext id
  unfold Bof
  congr 1
  have : ((List.range p).any fun j => (listed.setIfInBounds i true).getD j false && (isNew P gl orc ops T0 m j && decide (m.boxes.length + nbl P gl orc ops T0 m j = id))) =
      ((List.range p).any fun j => listed.getD j false && (isNew P gl orc ops T0 m j && decide (m.boxes.length + nbl P gl orc ops T0 m j = id))) := by
    congr 1
    funext j
    by_cases hj : j = i
    · subst hj; simp [hn]
    · rw [getD_set_other hj]
  rw [this]

theorem new_inj {i j : Nat} (hi : isNew P gl orc ops T0 m i = true) (hj : isNew P gl orc ops T0 m j = true) (h : nbl P gl orc ops T0 m i = nbl P gl orc ops T0 m j) : i = j := by
  simp only [isNew, beq_iff_eq] at hi hj
  rcases Nat.lt_trichotomy i j with h' | h' | h'
  · have := nbl_le (P := P) (gl := gl) (orc := orc) (ops := ops) (T0 := T0) (m := m) (i := i + 1) (j := j) h'; omega
  · exact h'
  · have := nbl_le (P := P) (gl := gl) (orc := orc) (ops := ops) (T0 := T0) (m := m) (i := j + 1) (j := i) h'; omega

theorem Bof_fresh {listed : Array Bool} {i : Nat} (hn : isNew P gl orc ops T0 m i = true) (hl : listed.getD i false = false) : Bof P gl orc ops T0 m p listed (m.boxes.length + nbl P gl orc ops T0 m i) = none := by
  unfold Bof
  rw [if_neg (by omega), if_neg]
  intro h
  obtain ⟨j, _, h⟩ := List.any_eq_true.1 h
  simp only [Bool.and_eq_true, decide_eq_true_eq] at h
  obtain ⟨h1, h2, h3⟩ := h
  have := new_inj h2 hn (by omega)
  subst this
  rw [hl] at h1; cases h1

theorem Bof_new {listed : Array Bool} {i : Nat} {cells : List AV} (hip : i < p) (hsz : i < listed.size) (hn : isNew P gl orc ops T0 m i = true) (hc : (dsts P gl orc ops T0 m p).2[nbl P gl orc ops T0 m i]? = some cells) :
    Bof P gl orc ops T0 m p (listed.setIfInBounds i true) = fun id => if id = m.boxes.length + nbl P gl orc ops T0 m i then some cells else Bof P gl orc ops T0 m p listed id := by
  funext id
  by_cases hid : id = m.boxes.length + nbl P gl orc ops T0 m i
  · rw [if_pos hid]
    unfold Bof
    rw [if_neg (by omega), if_pos]
    · rw [hid, Nat.add_sub_cancel_left]; exact hc
    · rw [List.any_eq_true]
      exact ⟨i, List.mem_range.2 hip, by rw [getD_set_same hsz, hn]; simp [hid]⟩
  · rw [if_neg hid]
    unfold Bof
    congr 1
    have : ((List.range p).any fun j => (listed.setIfInBounds i true).getD j false && (isNew P gl orc ops T0 m j && decide (m.boxes.length + nbl P gl orc ops T0 m j = id))) =
        ((List.range p).any fun j => listed.getD j false && (isNew P gl orc ops T0 m j && decide (m.boxes.length + nbl P gl orc ops T0 m j = id))) := by
      congr 1
      funext j
      by_cases hj : j = i
      · subst hj
        have : decide (m.boxes.length + nbl P gl orc ops T0 m j = id) = false := by simp; omega
        simp [this]
      · rw [getD_set_other hj]
    rw [this]

theorem Bof_all {listed : Array Bool} (hall : ∀ i, i < p → listed.getD i false = true) : Bof P gl orc ops T0 m p listed = ({ m with boxes := m.boxes ++ (dsts P gl orc ops T0 m p).2 } : AM).B := by
  funext id
  unfold Bof
  simp only [AM.B]
  split
  · rename_i h; rw [List.getElem?_append_left h]
  · rename_i h
    rw [List.getElem?_append_right (by omega)]
    split
    · rfl
    · rename_i hn
      rcases Nat.lt_or_ge (id - m.boxes.length) (dsts P gl orc ops T0 m p).2.length with hq | hq
      · obtain ⟨i, h1, h2, h3⟩ := nbl_find (P := P) (gl := gl) (orc := orc) (ops := ops) (T0 := T0) (m := m) (q := id - m.boxes.length) p hq
        exfalso
        apply hn
        rw [List.any_eq_true]
        exact ⟨i, List.mem_range.2 h1, by rw [hall i h1, h2]; simp; omega⟩
      · rw [List.getElem?_eq_none hq]

theorem countP_lt {α : Type} {f g : α → Bool} : ∀ {l : List α} {x : α}, (∀ y, f y = true → g y = true) → x ∈ l → g x = true → f x = false → l.countP f < l.countP g
  | y :: l, x, hfg, hx, hg, hf => by
    have hle : l.countP f ≤ l.countP g := List.countP_mono_left fun y _ => hfg y
    rw [List.countP_cons, List.countP_cons]
    rcases List.mem_cons.1 hx with rfl | hx
    · rw [hg, hf]; simp; omega
    · have := countP_lt hfg hx hg hf
      by_cases h1 : f y = true
      · rw [h1, hfg y h1]; simp; omega
      · have h1' : f y = false := by simpa using h1
        rw [h1']
        simp only [Bool.false_eq_true, if_false, Nat.add_zero]
        exact Nat.lt_of_lt_of_le this (Nat.le_add_right _ _)

/-- How many have not come up. -/
def uc (ops : Array Oper) (listed : Array Bool) : Nat := (List.range ops.size).countP fun i => !listed.getD i true

theorem uc_set {listed : Array Bool} {i : Nat} (hsz : listed.size = ops.size) (hi : i < ops.size) (hl : listed.getD i true = false) : uc ops (listed.setIfInBounds i true) < uc ops listed := by
  unfold uc
  refine countP_lt (x := i) (fun j hj => ?_) (List.mem_range.2 hi) (by rw [hl]; rfl) (by rw [getD_set_same (by omega)]; rfl)
  by_cases hji : j = i
  · subst hji; rw [hl]; rfl
  · rw [getD_set_other hji] at hj; exact hj

theorem uc_zero {listed : Array Bool} (h : uc ops listed = 0) {i : Nat} (hi : i < ops.size) : listed.getD i true = true := by
  unfold uc at h
  have := List.countP_eq_zero.1 h i (List.mem_range.2 hi)
  simpa using this

theorem listed_iff {listed : Array Bool} {i : Nat} (hi : i < listed.size) (b b' : Bool) : listed.getD i b = listed.getD i b' := by simp [hi]

/-- What the looks give. -/
theorem dchk_spec (h : dchk ops p = true) : p ≤ ops.size ∧ ∀ i o, ops[i]? = some o → (∀ j ∈ afters o, j < i) ∧
    (i < p → (∀ t ∈ o.looksAt ops, ∀ j, j < p → dstOf ops j = some t → j ≠ i → j < i ∧ j ∈ afters o) ∧ (∀ j, j < i → ∀ t, dstOf ops j = some t → o.dst ≠ some t)) ∧
    (p ≤ i → tailOK ops i = true) := by
  unfold dchk at h
  simp only [Bool.and_eq_true, decide_eq_true_eq, List.all_eq_true] at h
  obtain ⟨hp, h⟩ := h
  refine ⟨hp, fun i o ho => ?_⟩
  have hi : i < ops.size := (Array.getElem?_eq_some_iff.1 ho).1
  have := h i (List.mem_range.2 hi)
  simp only [ho, Bool.and_eq_true, List.all_eq_true, decide_eq_true_eq] at this
  obtain ⟨h1, h2⟩ := this
  refine ⟨h1, fun hip => ?_, fun hip => ?_⟩
  · rw [if_pos hip] at h2
    simp only [Bool.and_eq_true, List.all_eq_true] at h2
    obtain ⟨h3, h4⟩ := h2
    refine ⟨fun t ht j hj hd hne => ?_, fun j hj t hd ho' => ?_⟩
    · have := h3 t ht j (List.mem_range.2 hj)
      simp [hd, hne] at this
      exact ⟨this.1, this.2⟩
    · have := h4 j (List.mem_range.2 hj)
      simp [hd, ho'] at this
  · rw [if_neg (by omega)] at h2
    exact h2

/-- What has come up has all that it waits for behind it. -/
def Clo (ops : Array Oper) (listed : Array Bool) : Prop := ∀ i o, listed.getD i false = true → ops[i]? = some o → ∀ j ∈ afters o, listed.getD j false = true

theorem Clo.set {listed : Array Bool} (h : Clo ops listed) {i : Nat} {o : Oper} (ho : ops[i]? = some o) (hsz : i < listed.size) (haft : ∀ j ∈ afters o, listed.getD j false = true) : Clo ops (listed.setIfInBounds i true) := by
  have hmono : ∀ k, listed.getD k false = true → (listed.setIfInBounds i true).getD k false = true := fun k hk => by
    by_cases hik : i = k
    · subst hik; exact getD_set_same hsz
    · rw [getD_set_other (Ne.symm hik)]; exact hk
  intro k o' hk ho' j hj
  by_cases hik : i = k
  · subst hik
    rw [ho] at ho'
    cases ho'
    exact hmono j (haft j hj)
  · rw [getD_set_other (Ne.symm hik)] at hk
    exact hmono j (h k o' hk ho' j hj)

theorem tail_all {listed : Array Bool} (hclo : Clo ops listed) {i : Nat} {o : Oper} (ho : ops[i]? = some o) (ht : tailOK ops i = true) (haft : ∀ j ∈ afters o, listed.getD j false = true) : ∀ (n j : Nat), j < i → i - j ≤ n → listed.getD j false = true
  | 0, j, h1, h2 => by omega
  | n + 1, j, h1, h2 => by
    obtain ⟨d, hd, hw⟩ := List.any_eq_true.1 (List.all_eq_true.1 ht j (List.mem_range.2 h1))
    have hdl := List.mem_range.1 hd
    unfold waitsB at hw
    split at hw
    · rename_i o' ho'
      have hm : j ∈ afters o' := by simpa using hw
      by_cases h0 : d = 0
      · subst h0
        rw [Nat.sub_zero, ho] at ho'
        cases ho'
        exact haft j hm
      · exact hclo (i - d) o' (tail_all hclo ho ht haft n (i - d) (by omega) (by omega)) ho' j hm
    · cases hw

theorem mem_afters {o : Oper} {j : Nat} : j ∈ afters o ↔ ∃ e ∈ o.after, Region.binds .any e = true ∧ e.on = j := by
  simp [afters]
  constructor
  · rintro ⟨e, ⟨h1, h2⟩, rfl⟩; exact ⟨e, h1, h2, rfl⟩
  · rintro ⟨e, h1, h2, rfl⟩; exact ⟨e, ⟨h1, h2⟩, rfl⟩

/-- The least that has not come up may come up. -/
theorem ready_least (hc : dchk ops p = true) {listed : Array Bool} (hsz : listed.size = ops.size) : ∀ (n i : Nat), i ≤ n → i < ops.size → listed.getD i true = false → ∃ j, j ∈ Region.ready .any ops listed
  | 0, i, hin, hi, hl => by
    obtain rfl : i = 0 := by omega
    have ho : ops[0]? = some ops[0] := Array.getElem?_eq_getElem hi
    refine ⟨0, mem_ready.2 ⟨hl, ops[0], ho, fun e he hb => ?_⟩⟩
    have := ((dchk_spec hc).2 0 _ ho).1 e.on (mem_afters.2 ⟨e, he, hb, rfl⟩)
    omega
  | n + 1, i, hin, hi, hl => by
    by_cases hex : ∃ j, j < i ∧ listed.getD j true = false
    · obtain ⟨j, hj, hlj⟩ := hex
      exact ready_least hc hsz n j (by omega) (by omega) hlj
    · have ho : ops[i]? = some ops[i] := Array.getElem?_eq_getElem hi
      refine ⟨i, mem_ready.2 ⟨hl, ops[i], ho, fun e he hb => ?_⟩⟩
      have hlt := ((dchk_spec hc).2 i _ ho).1 e.on (mem_afters.2 ⟨e, he, hb, rfl⟩)
      have : listed.getD e.on true = true := by
        cases h : listed.getD e.on true with
        | true => rfl
        | false => exact absurd ⟨e.on, hlt, h⟩ hex
      rw [listed_iff (by omega) false true]; exact this

theorem ready_after (hc : dchk ops p = true) {listed : Array Bool} {i : Nat} (hr : i ∈ Region.ready .any ops listed) : i < ops.size ∧ listed.getD i true = false ∧ ∃ o, ops[i]? = some o ∧ ∀ j ∈ afters o, listed.getD j false = true := by
  obtain ⟨h1, o, ho, h2⟩ := mem_ready.1 hr
  refine ⟨(Array.getElem?_eq_some_iff.1 ho).1, h1, o, ho, fun j hj => ?_⟩
  obtain ⟨e, he, hb, rfl⟩ := mem_afters.1 hj
  exact h2 e he hb

/-- Behind the operations that come in any order. -/
theorem tail_sound {Q : Exit → Act → World → Prop} {K : AS → Prop} (hQ : ∀ γ w s a, K s → Sim N w0 r ro0 S P gl Y γ w s a → Q .normal a w) (hc : dchk ops p = true) :
    ∀ (fuel k : Nat) (listed : Array Bool) (γ : G) (w : World) (s : AS) (a : Act), p ≤ k → k ≤ ops.size → listed.size = ops.size → (∀ j, j < k → listed.getD j false = true) → (∀ j, k ≤ j → j < ops.size → listed.getD j true = false) →
      uc ops listed ≤ fuel → vcOps P gl orc Y ((ops.toList.drop k).map (soOf P ops)) s K → Sim N w0 r ro0 S P gl Y γ w s a → wpAnyIn (FW r) 0 P .any ops Q fuel listed a w := by
  intro fuel
  induction fuel with
  | zero =>
    intro k listed γ w s a hpk hk hsz hlo hhi huc h hs
    have hkn : k = ops.size := by
      rcases Nat.lt_or_ge k ops.size with h' | h'
      · have := uc_zero (Nat.le_zero.1 huc) h'
        rw [hhi k (Nat.le_refl _) h'] at this; cases this
      · omega
    have hd : ops.toList.drop k = [] := List.drop_eq_nil_of_le (by simp; omega)
    rw [hd] at h
    refine ⟨?_, hQ γ w s a h hs⟩
    rw [List.eq_nil_iff_forall_not_mem]
    intro i hi
    obtain ⟨hlt, hu, _⟩ := ready_after hc hi
    have := uc_zero (Nat.le_zero.1 huc) hlt
    rw [hu] at this; cases this
  | succ fuel ih =>
    intro k listed γ w s a hpk hk hsz hlo hhi huc h hs
    refine ⟨fun hr => ?_, fun i hi => ?_⟩
    · have hkn : k = ops.size := by
        rcases Nat.lt_or_ge k ops.size with h' | h'
        · obtain ⟨j, hj⟩ := ready_least hc hsz k k (Nat.le_refl _) h' (hhi k (Nat.le_refl _) h')
          rw [hr] at hj; cases hj
        · omega
      have hd : ops.toList.drop k = [] := List.drop_eq_nil_of_le (by simp; omega)
      rw [hd] at h
      exact hQ γ w s a h hs
    · obtain ⟨hlt, hu, o, ho, haft⟩ := ready_after hc hi
      have hki : k ≤ i := by
        rcases Nat.lt_or_ge i k with h' | h'
        · have := hlo i h'
          rw [listed_iff (by omega) false true, hu] at this; cases this
        · exact h'
      have hik : i = k := by
        rcases Nat.lt_or_ge k i with h' | h'
        · have hclo : Clo ops listed := fun x ox hx hox j hj => by
            have hxk : x < k := by
              rcases Nat.lt_or_ge x k with h1 | h1
              · exact h1
              · have hxs : x < ops.size := (Array.getElem?_eq_some_iff.1 hox).1
                rw [listed_iff (by omega) false true, hhi x h1 hxs] at hx; cases hx
            have := ((dchk_spec hc).2 x ox hox).1 j hj
            exact hlo j (by omega)
          have := tail_all hclo ho (((dchk_spec hc).2 i o ho).2.2 (by omega)) haft i k h' (by omega)
          rw [listed_iff (by omega) false true, hhi k (Nat.le_refl _) (by omega)] at this; cases this
        · omega
      subst hik
      refine wpOpIn_mono ?_ (vcOps_step hlt hs h)
      rintro a' w' ⟨γ', s', hs', h'⟩
      refine ih (i + 1) _ γ' w' s' a' (by omega) hlt (by simp [hsz]) (fun j hj => ?_) (fun j hj1 hj2 => ?_) ?_ h' hs'
      · rcases Nat.lt_or_ge j i with h' | h'
        · rw [getD_set_other (by omega)]; exact hlo j h'
        · obtain rfl : j = i := by omega
          exact getD_set_same (by omega)
      · rw [getD_set_other (by omega)]; exact hhi j (by omega) hj2
      · have := uc_set hsz hlt hu; omega


theorem trCall_noalloc (c : Call) (zs : List AV) : trCall P c ≠ .alloc zs := by
  intro h
  obtain ⟨callee, args, ts⟩ := c
  cases callee with
  | builtin b => cases b <;> simp only [trCall] at h <;> (repeat' split at h) <;> cases h
  | _ => cases h

theorem trCall_nobox (c : Call) (x : Opd) : trCall P c ≠ .box x := by
  intro h
  obtain ⟨callee, args, ts⟩ := c
  cases callee with
  | builtin b => cases b <;> simp only [trCall] at h <;> (repeat' split at h) <;> cases h
  | _ => cases h

theorem tr_alloc {o : Oper} {zs : List AV} (h : tr P o = .alloc zs) : ∃ t, o.op = .alloc t ∧ zc P t = some zs := by
  obtain ⟨dst, op, ty, pos, after, guard⟩ := o
  cases op
  case alloc t =>
    simp only [tr] at h
    split at h
    · rename_i zs' hz; cases h; exact ⟨t, rfl, hz⟩
    · cases h
  case call c => exact absurd h (trCall_noalloc c zs)
  case build t parts => simp only [tr, trBuild] at h; repeat' split at h
                        all_goals cases h
  case slice t x lo hi mx => cases mx <;> simp only [tr] at h <;> (repeat' split at h) <;> cases h
  case makeFunc fn a b => cases fn <;> cases h
  case makeMap t r => cases r <;> simp only [tr] at h <;> (repeat' split at h) <;> cases h
  case binOp op t x y t' => simp only [tr, trNil, trEq] at h; repeat' split at h
                            all_goals cases h
  all_goals first | (cases h; done) | (simp only [tr] at h; repeat' split at h
                                       all_goals cases h)

theorem tr_box {o : Oper} {x : Opd} (h : tr P o = .box x) : ∃ t y, o.op = .box t y ∧ x = opd y := by
  obtain ⟨dst, op, ty, pos, after, guard⟩ := o
  cases op
  case box t y => cases h; exact ⟨t, y, rfl, rfl⟩
  case call c => exact absurd h (trCall_nobox c x)
  case build t parts => simp only [tr, trBuild] at h; repeat' split at h
                        all_goals cases h
  case slice t x lo hi mx => cases mx <;> simp only [tr] at h <;> (repeat' split at h) <;> cases h
  case makeFunc fn a b => cases fn <;> cases h
  case makeMap t r => cases r <;> simp only [tr] at h <;> (repeat' split at h) <;> cases h
  case binOp op t x y t' => simp only [tr, trNil, trEq] at h; repeat' split at h
                            all_goals cases h
  all_goals first | (cases h; done) | (simp only [tr] at h; repeat' split at h
                                       all_goals cases h)

/-- What an operation that comes early sees. -/
theorem sees (hc : dchk ops p = true) {listed : Array Bool} (hsz : listed.size = ops.size) {i : Nat} {o : Oper} (ho : ops[i]? = some o) (hip : i < p) (hu : listed.getD i true = false) (haft : ∀ j ∈ afters o, listed.getD j false = true)
    {t : Nat} (ht : t ∈ o.looksAt ops) : (dsts P gl orc ops T0 m i).1.getD t .junk = At P gl orc ops T0 m p listed t := by
  have hi : i < ops.size := (Array.getElem?_eq_some_iff.1 ho).1
  obtain ⟨hp, hsp⟩ := dchk_spec hc
  unfold At
  by_cases hex : ∃ j, j < p ∧ dstOf ops j = some t ∧ j ≠ i
  · obtain ⟨j, hj, hd, hne⟩ := hex
    obtain ⟨hji, hja⟩ := ((hsp i o ho).2.1 hip).1 t ht j hj hd hne
    have hw : wr ops p listed t = true := by
      unfold wr
      rw [List.any_eq_true]
      exact ⟨j, List.mem_range.2 hj, by rw [haft j hja, hd]; simp⟩
    rw [if_pos hw]
    have := dsts_last (P := P) (gl := gl) (orc := orc) (ops := ops) (T0 := T0) (m := m) (t := t) (k := i) (p - i) fun k hk1 hk2 hdk => by
      have hk : k < ops.size := by omega
      have hko : ops[k]? = some ops[k] := Array.getElem?_eq_getElem hk
      have := ((hsp k _ hko).2.1 (by omega)).2 j (by omega) t hd
      simp [dstOf, hko] at hdk
      exact this hdk
    rw [show i + (p - i) = p by omega] at this
    exact this.symm
  · have hw : wr ops p listed t = false := by
      unfold wr
      rw [List.any_eq_false]
      intro j hj
      simp only [Bool.and_eq_true, beq_iff_eq, not_and]
      intro hl hd
      by_cases hji : j = i
      · subst hji
        rw [listed_iff (by omega) false true, hu] at hl; cases hl
      · exact hex ⟨j, List.mem_range.1 hj, hd, hji⟩
    rw [hw]
    simp only [Bool.false_eq_true, if_false]
    exact dsts_first i fun j hj hd => hex ⟨j, by omega, hd, by omega⟩

theorem At_set (hc : dchk ops p = true) {listed : Array Bool} (hsz : listed.size = ops.size) {i : Nat} {o : Oper} (ho : ops[i]? = some o) (hip : i < p) {t : Nat} :
    At P gl orc ops T0 m p (listed.setIfInBounds i true) t = if o.dst = some t ∧ t < T0.length then (dop P gl orc (soOf P ops o) (dsts P gl orc ops T0 m i).1 m (dsts P gl orc ops T0 m i).2).2.1 else At P gl orc ops T0 m p listed t := by
  have hi : i < ops.size := (Array.getElem?_eq_some_iff.1 ho).1
  obtain ⟨hp, hsp⟩ := dchk_spec hc
  by_cases hd : o.dst = some t
  · have hw : wr ops p (listed.setIfInBounds i true) t = true := by
      unfold wr
      rw [List.any_eq_true]
      exact ⟨i, List.mem_range.2 hip, by rw [getD_set_same (by omega)]; simp [dstOf, ho, hd]⟩
    have hl := dsts_last (P := P) (gl := gl) (orc := orc) (ops := ops) (T0 := T0) (m := m) (t := t) (k := i + 1) (p - (i + 1)) fun k hk1 hk2 hdk => by
      have hk : k < ops.size := by omega
      have hko : ops[k]? = some ops[k] := Array.getElem?_eq_getElem hk
      have := ((hsp k _ hko).2.1 (by omega)).2 i (by omega) t (by simp [dstOf, ho, hd])
      simp [dstOf, hko] at hdk
      exact this hdk
    rw [show i + 1 + (p - (i + 1)) = p by omega] at hl
    by_cases ht : t < T0.length
    · rw [if_pos ⟨hd, ht⟩]
      unfold At
      rw [if_pos hw, hl, dsts_succ ho, hd]
      exact getD_put_same (by rw [dsts_len]; exact ht)
    · rw [if_neg (by simp [ht])]
      have h1 : ∀ k, (dsts P gl orc ops T0 m k).1.getD t .junk = .junk := fun k => by
        have := dsts_len (P := P) (gl := gl) (orc := orc) (ops := ops) (T0 := T0) (m := m) k
        simp only [List.getD]
        rw [List.getElem?_eq_none (by omega)]; rfl
      have h2 : T0.getD t .junk = .junk := h1 0
      unfold At
      rw [h1 p, h2]
      simp
  · rw [if_neg (by simp [hd])]
    have hw : wr ops p (listed.setIfInBounds i true) t = wr ops p listed t := by
      unfold wr
      congr 1
      funext j
      by_cases hj : j = i
      · subst hj
        have hb : (o.dst == some t) = false := by simpa using hd
        simp [dstOf, ho, hb]
      · rw [getD_set_other hj]
    unfold At
    rw [hw]


/-- An operation that comes early, whenever it comes. -/
theorem early_step (hc : dchk ops p = true) {Q : Exit → Act → World → Prop} {listed : Array Bool} {γ : G} {w : World} {a : Act} (hI : InvA N w0 r ro0 S Y P gl orc ops T0 m p listed γ w a) {i : Nat} {o : Oper} (ho : ops[i]? = some o) (hip : i < p)
    (hu : listed.getD i true = false) (haft : ∀ j ∈ afters o, listed.getD j false = true) (hcond : (dop P gl orc (soOf P ops o) (dsts P gl orc ops T0 m i).1 m (dsts P gl orc ops T0 m i).2).1) :
    wpOpIn (FW r) 0 P ops Q i (fun a' w' => ∃ γ', InvA N w0 r ro0 S Y P gl orc ops T0 m p (listed.setIfInBounds i true) γ' w' a') a w := by
  have hi : i < ops.size := (Array.getElem?_eq_some_iff.1 ho).1
  have hsee : ∀ t ∈ o.looksAt ops, Rep w γ ((dsts P gl orc ops T0 m i).1.getD t .junk) (a.tmps.getD t undef) := fun t ht => by
    rw [sees (P := P) (gl := gl) (orc := orc) (T0 := T0) (m := m) hc hI.size ho hip hu haft ht]; exact hI.tt t
  have hop : ∀ x ∈ o.op.operands, Rep w γ (ev gl (dsts P gl orc ops T0 m i).1 (opd x)) (a.eval x) := fun x hx => by
    cases x with
    | tmp t => exact hsee t (by simp only [Oper.looksAt, List.mem_append, List.mem_filterMap]; exact .inl ⟨.tmp t, by simpa using hx, rfl⟩)
    | const v => exact rep_ofVal w γ v
    | func f => exact .fn rfl (fun i c v h => by simp at h) rfl fun i c v h => by simp at h
    | global g => exact (hI.g g).of_imm
  have hB : ∀ id cells, m.boxes[id]? = some cells → Bof P gl orc ops T0 m p listed id = some cells := fun id cells h => Bof_old h
  -- what is left to show behind it
  have fin : ∀ {v : Value} {w' : World} {γ' : G}, Ev w γ w' γ' → MSim N w0 ro0 γ' w' (Bof P gl orc ops T0 m p (listed.setIfInBounds i true)) m.L →
      Rep w' γ' (dop P gl orc (soOf P ops o) (dsts P gl orc ops T0 m i).1 m (dsts P gl orc ops T0 m i).2).2.1 v → ∃ γ', InvA N w0 r ro0 S Y P gl orc ops T0 m p (listed.setIfInBounds i true) γ' w' (a.put o.dst v) := fun {v w' γ'} he hm hr => by
    refine ⟨γ', by simp [hI.size], fun j hj1 hj2 => by rw [getD_set_other (by omega)]; exact hI.tail j hj1 hj2, Clo.set hI.clo ho (by rw [hI.size]; exact hi) haft, hm, hI.ls.mono he, hI.rd.monoR he.toR, ?_, fun t => ?_, ?_, fun g => (hI.g g).mono he.imm, hI.y.mono he.toR, hI.e.trans he.toR⟩
    · cases hd : o.dst <;> simp [Act.put, hI.tl]
    · rw [At_set hc hI.size ho hip]
      by_cases hd : o.dst = some t
      · by_cases ht : t < T0.length
        · rw [if_pos ⟨hd, ht⟩, hd]
          have : (a.put (some t) v).tmps.getD t undef = v := by simp [Act.put, hI.tl, ht]
          rw [this]; exact hr
        · rw [if_neg (by simp [ht]), hd]
          have : (a.put (some t) v).tmps.getD t undef = a.tmps.getD t undef := by simp [Act.put, hI.tl, ht]
          rw [this]; exact (hI.tt t).mono he
      · rw [if_neg (by simp [hd])]
        have : (a.put o.dst v).tmps.getD t undef = a.tmps.getD t undef := by
          cases hd' : o.dst with
          | none => rfl
          | some d => simp only [Act.put]; simp; rw [Array.getElem?_setIfInBounds_ne (by rintro rfl; exact hd hd')]
        rw [this]; exact (hI.tt t).mono he
    · cases hd : o.dst <;> exact hI.d.monoR he.toR
  have hsucc := dsts_succ (P := P) (gl := gl) (orc := orc) (T0 := T0) (m := m) ho
  have hnew : ∀ cells, (dop P gl orc (soOf P ops o) (dsts P gl orc ops T0 m i).1 m (dsts P gl orc ops T0 m i).2).2.2 = (dsts P gl orc ops T0 m i).2 ++ [cells] → isNew P gl orc ops T0 m i = true ∧ (dsts P gl orc ops T0 m p).2[nbl P gl orc ops T0 m i]? = some cells := fun cells h => by
    refine ⟨by simp only [isNew, nbl, hsucc, h]; simp, ?_⟩
    have := nb_get (P := P) (gl := gl) (orc := orc) (ops := ops) (T0 := T0) (m := m) (i := i + 1) (p - (i + 1)) (q := nbl P gl orc ops T0 m i) (c := cells) (by rw [hsucc]; simp only [h, nbl]; simp)
    rwa [show i + 1 + (p - (i + 1)) = p by omega] at this
  have hold : (dop P gl orc (soOf P ops o) (dsts P gl orc ops T0 m i).1 m (dsts P gl orc ops T0 m i).2).2.2 = (dsts P gl orc ops T0 m i).2 → Bof P gl orc ops T0 m p (listed.setIfInBounds i true) = Bof P gl orc ops T0 m p listed := fun h =>
    Bof_same (by simp only [isNew, nbl, hsucc, h]; simp)
  have hlf : listed.getD i false = false := by rw [listed_iff (by rw [hI.size]; exact hi) false true]; exact hu
  -- a new box
  have box : ∀ {cells : List AV} {arr : Array Value} {te : TypeId}, RepL w γ cells arr.toList → cells.all isCell = true →
      (dop P gl orc (soOf P ops o) (dsts P gl orc ops T0 m i).1 m (dsts P gl orc ops T0 m i).2).2 = (.ptr (m.boxes.length + (dsts P gl orc ops T0 m i).2.length) 0, (dsts P gl orc ops T0 m i).2 ++ [cells]) →
      (execOp a.eval o).run P w = .ok (.value (.pointer (some ⟨w.heap.size, 0, none⟩))) (w.alloc (.cells arr te)) →
      o.wpIn (FW r) 0 P a w (fun a' w' => ∃ γ', InvA N w0 r ro0 S Y P gl orc ops T0 m p (listed.setIfInBounds i true) γ' w' a') Q := fun {cells arr te} hr hcell hd hrun => by
    obtain ⟨hn1, hn2⟩ := hnew cells (by rw [hd])
    have hid := Bof_fresh (p := p) hn1 hlf
    refine wp_val hrun (fin (hI.mm.ev_box _ hid _) ?_ ?_)
    · rw [Bof_new hip (by rw [hI.size]; exact hi) hn1 hn2]
      exact hI.mm.newBox _ hid hr.toP (repL_one hr hcell)
    · rw [hd]
      exact .ptr (by simp [G.box, nbl])
  simp only [wpOpIn, ho]
  cases hg : o.guard with
  | none =>
    have hw : Region.wanted o (yielded ops a.tmps) = true := by simp [Region.wanted, hg]
    rw [if_pos hw]
    have e1 : (soOf P ops o).guard = none := by simp [soOf, hg]
    cases hso : tr P o with
    | alloc zs =>
      have hd : dop P gl orc (soOf P ops o) (dsts P gl orc ops T0 m i).1 m (dsts P gl orc ops T0 m i).2 = (zs.all isCell = true, .ptr (m.boxes.length + (dsts P gl orc ops T0 m i).2.length) 0, (dsts P gl orc ops T0 m i).2 ++ [zs]) := by
        have e2 : (soOf P ops o).op = .alloc zs := hso
        simp only [dop, e1, e2]
      rw [hd] at hcond
      obtain ⟨t, hot, hz⟩ := tr_alloc hso
      obtain ⟨i', z, hi', hzz, hr⟩ := zc_rep (w := w) (γ := γ) hz
      refine box (te := t) hr hcond (by rw [hd]) ?_
      obtain ⟨d', op', ty', pos', af', gu'⟩ := o
      simp only at hot
      subst hot
      simp [execOp, Instr.alloc, zeroValue, typeInfo, hi', hzz, newVar, newRow]
    | box x =>
      have hd : dop P gl orc (soOf P ops o) (dsts P gl orc ops T0 m i).1 m (dsts P gl orc ops T0 m i).2 = (bare (ev gl (dsts P gl orc ops T0 m i).1 x) = true ∧ (cellsOf (ev gl (dsts P gl orc ops T0 m i).1 x)).all isCell = true,
          .ptr (m.boxes.length + (dsts P gl orc ops T0 m i).2.length) 0, (dsts P gl orc ops T0 m i).2 ++ [cellsOf (ev gl (dsts P gl orc ops T0 m i).1 x)]) := by
        have e2 : (soOf P ops o).op = .box x := hso
        simp only [dop, e1, e2]
      rw [hd] at hcond
      obtain ⟨t, y, hot, rfl⟩ := tr_box hso
      have hry := hop y (by rw [hot]; simp [Op.operands])
      refine box (te := t) (rep_cells hry hcond.1) hcond.2 (by rw [hd]) ?_
      obtain ⟨d', op', ty', pos', af', gu'⟩ := o
      simp only at hot
      subst hot
      simp [execOp, Instr.box, newVar, newRow]
    | _ =>
      have hd : dop P gl orc (soOf P ops o) (dsts P gl orc ops T0 m i).1 m (dsts P gl orc ops T0 m i).2 = ((rop P gl orc (ev gl (dsts P gl orc ops T0 m i).1) m o.dst (tr P o)).1, (rop P gl orc (ev gl (dsts P gl orc ops T0 m i).1) m o.dst (tr P o)).2, (dsts P gl orc ops T0 m i).2) := by
        have e2 : (soOf P ops o).op = tr P o := rfl
        rw [hso] at e2
        simp only [dop, e1, e2, hso]
        rfl
      rw [hd] at hcond
      have hB' := hold (by rw [hd])
      rw [hd, hB'] at fin
      exact rop_sound hI.mm hB hI.g hop hcond r _ Q fun v w' γ' h1 h2 h3 => fin h1 h2 h3
  | some q =>
    obtain ⟨j, want⟩ := q
    have e1 : (soOf P ops o).guard = some ((ops[j]?).bind (·.dst), want) := by simp [soOf, hg]
    cases hj : (ops[j]?).bind (·.dst) with
    | none =>
      rw [hj] at e1
      simp only [dop, e1] at hcond
    | some t =>
      rw [hj] at e1
      have htl : t ∈ o.looksAt ops := by simp [Oper.looksAt, hg, hj]
      have hrt := hsee t htl
      cases hgt : gvw want ((dsts P gl orc ops T0 m i).1.getD t .junk) with
      | none => simp only [dop, e1, hgt] at hcond
      | some gw =>
        have hd : dop P gl orc (soOf P ops o) (dsts P gl orc ops T0 m i).1 m (dsts P gl orc ops T0 m i).2 = (gok gl (dsts P gl orc ops T0 m i).1 gw (gxs (tr P o) (soOf P ops o).xs) ∧ (gw = true → (rop P gl orc (evG gl (dsts P gl orc ops T0 m i).1 (tr P o)) m o.dst (tr P o)).1),
            .gd gw (rop P gl orc (evG gl (dsts P gl orc ops T0 m i).1 (tr P o)) m o.dst (tr P o)).2, (dsts P gl orc ops T0 m i).2) := by
          simp only [dop, e1, hgt]
          rfl
        rw [hd] at hcond
        have hB' := hold (by rw [hd])
        rw [hd, hB'] at fin
        have hwant : Region.wanted o (yielded ops a.tmps) = gw := by
          have hyv : ∀ b, a.tmps.getD t undef = .bool b → yielded ops a.tmps j = some b := fun b hb => by
            have hlt' : t < a.tmps.size := by
              rcases Nat.lt_or_ge t a.tmps.size with h | h
              · exact h
              · simp [Array.getElem?_eq_none h, undef] at hb
            simp [hlt'] at hb
            simp only [yielded, hj, Option.bind_some, Array.getElem?_eq_getElem hlt', hb]
          have hyu : a.tmps.getD t undef = undef → yielded ops a.tmps j = none := fun hb => by
            rcases Nat.lt_or_ge t a.tmps.size with hlt' | h
            · simp [hlt'] at hb
              simp only [yielded, hj, Option.bind_some, Array.getElem?_eq_getElem hlt', hb]; rfl
            · simp only [yielded, hj, Option.bind_some, Array.getElem?_eq_none h]
          generalize (dsts P gl orc ops T0 m i).1.getD t .junk = gv at hgt hrt
          cases gv with
          | bool g =>
            simp only [gvw, Option.some.injEq] at hgt
            subst hgt
            simp only [Region.wanted, hg, hyv g hrt.inv_bool]
            cases g <;> cases want <;> rfl
          | gd d x =>
            cases d with
            | false =>
              simp only [Region.wanted, hg, hyu hrt.inv_gdF]
              cases x <;> simp [gvw] at hgt <;> subst hgt <;> cases want <;> rfl
            | true =>
              cases x <;> simp [gvw] at hgt
              rename_i b
              subst hgt
              simp only [Region.wanted, hg, hyv b (hrt.inv_gd rfl).inv_bool]
              cases b <;> cases want <;> rfl
          | _ => simp [gvw] at hgt
        rw [hwant]
        obtain ⟨h1, h2⟩ := hcond
        cases hgw : gw with
        | true =>
          rw [hgw] at h1 h2 fin
          simp only [if_true]
          refine rop_sound (e := evG gl (dsts P gl orc ops T0 m i).1 (tr P o)) hI.mm hB hI.g (fun x hx => ?_) (h2 rfl) r _ Q fun v w' γ' q1 q2 q3 => fin q1 q2 (.gd (fun _ => q3) (fun h => by cases h))
          unfold evG
          cases hra : rawOp (tr P o) with
          | true => exact hop x hx
          | false =>
            refine strip_rep (hop x hx) fun g' b hgb => gok_mem h1 (opd x) ?_ g' b hgb rfl
            simp only [gxs, hra, cond_false]
            simp [soOf, hg]; exact ⟨x, by simpa using hx, rfl⟩
        | false =>
          rw [hgw] at fin
          simp only [Bool.false_eq_true, if_false]
          exact ⟨fun _ _ => trivial, fin (Ev.refl _ _) hI.mm (.gd (fun h => by cases h) (fun _ => rfl))⟩

/-- ALL ORDERS. -/
theorem early_sound {Q : Exit → Act → World → Prop} {K : AS → Prop} (hQ : ∀ γ w s a, K s → Sim N w0 r ro0 S P gl Y γ w s a → Q .normal a w) (hc : dchk ops p = true)
    (hconds : ∀ i o, i < p → ops[i]? = some o → (dop P gl orc (soOf P ops o) (dsts P gl orc ops T0 m i).1 m (dsts P gl orc ops T0 m i).2).1)
    (hrest : vcOps P gl orc Y ((ops.toList.drop p).map (soOf P ops)) ⟨(dsts P gl orc ops T0 m p).1, { m with boxes := m.boxes ++ (dsts P gl orc ops T0 m p).2 }⟩ K) :
    ∀ (fuel : Nat) (listed : Array Bool) (γ : G) (w : World) (a : Act), InvA N w0 r ro0 S Y P gl orc ops T0 m p listed γ w a → uc ops listed ≤ fuel → wpAnyIn (FW r) 0 P .any ops Q fuel listed a w := by
  obtain ⟨hp, hsp⟩ := dchk_spec hc
  have full : ∀ (fuel : Nat) (listed : Array Bool) (γ : G) (w : World) (a : Act), InvA N w0 r ro0 S Y P gl orc ops T0 m p listed γ w a → uc ops listed ≤ fuel → (∀ i, i < p → listed.getD i false = true) → wpAnyIn (FW r) 0 P .any ops Q fuel listed a w := by
    intro fuel listed γ w a hI huc hall
    refine tail_sound hQ hc fuel p listed γ w _ a (Nat.le_refl _) hp hI.size hall hI.tail huc hrest ⟨?_, hI.ls, hI.rd, ⟨?_, fun t x v hx hv => ?_⟩, hI.d, hI.g, hI.y, hI.e⟩
    · have := hI.mm
      rw [Bof_all hall] at this
      exact this
    · simp [dsts_len, hI.tl]
    · have h1 := hI.tt t
      have hAt : At P gl orc ops T0 m p listed t = x := by
        have hx' : (dsts P gl orc ops T0 m p).1.getD t .junk = x := by simp only at hx; simp [List.getD, hx]
        unfold At
        split
        · exact hx'
        · rename_i hw
          rw [← hx']
          refine (dsts_first p fun j hj hd => hw ?_).symm
          unfold wr
          rw [List.any_eq_true]
          exact ⟨j, List.mem_range.2 hj, by rw [hall j hj, hd]; simp⟩
      rw [hAt] at h1
      have : a.tmps.getD t undef = v := by simp at hv; simp [hv]
      rwa [this] at h1
  intro fuel
  induction fuel with
  | zero =>
    intro listed γ w a hI huc
    exact full 0 listed γ w a hI huc fun i hi => by
      rw [listed_iff (by rw [hI.size]; omega) false true]
      exact uc_zero (Nat.le_zero.1 huc) (by omega)
  | succ fuel ih =>
    intro listed γ w a hI huc
    by_cases hall : ∀ i, i < p → listed.getD i false = true
    · exact full (fuel + 1) listed γ w a hI huc hall
    · have hex : ∃ k, k < p ∧ listed.getD k true = false := by
        refine Classical.byContradiction fun hn => hall fun i hi => ?_
        rw [listed_iff (by rw [hI.size]; omega) false true]
        cases hl : listed.getD i true with
        | true => rfl
        | false => exact absurd ⟨i, hi, hl⟩ hn
      obtain ⟨k, hk, hlk⟩ := hex
      refine ⟨fun hr => ?_, fun i hi => ?_⟩
      · obtain ⟨j, hj⟩ := ready_least hc hI.size k k (Nat.le_refl _) (by omega) hlk
        rw [hr] at hj; cases hj
      · obtain ⟨hlt, hu, o, ho, haft⟩ := ready_after hc hi
        have hip : i < p := by
          rcases Nat.lt_or_ge i p with h | h
          · exact h
          · have := tail_all hI.clo ho ((hsp i o ho).2.2 h) haft i k (by omega) (by omega)
            rw [listed_iff (by rw [hI.size]; omega) false true, hlk] at this; cases this
        refine wpOpIn_mono ?_ (early_step hc hI ho hip hu haft (hconds i o hip ho))
        rintro a' w' ⟨γ', hI'⟩
        refine ih _ γ' w' a' hI' ?_
        have := uc_set hI.size hlt hu
        omega

theorem draw_sound {Q : Exit → Act → World → Prop} {K : AS → Prop} {γ : G} {w : World} {s : AS} {a : Act} (hQ : ∀ γ w s a, K s → Sim N w0 r ro0 S P gl Y γ w s a → Q .normal a w) (hc : dchk ops p = true)
    (h : vcD P gl orc Y ((ops.toList.drop p).map (soOf P ops)) K ((ops.toList.take p).map (soOf P ops)) s.T s.m []) (hs : Sim N w0 r ro0 S P gl Y γ w s a) :
    wpAnyIn (FW r) 0 P .any ops Q ops.size (Array.replicate ops.size false) a { w with drawn := w.drawn + 1 } := by
  have hp := (dchk_spec hc).1
  obtain ⟨h1, h2⟩ := vcD_all (P := P) (gl := gl) (orc := orc) (T0 := s.T) (m := s.m) ((ops.toList.drop p).map (soOf P ops)) K hp p 0 (by simp) (by rw [List.drop_zero]; exact h)
  refine early_sound (T0 := s.T) (m := s.m) hQ hc (fun i o hi ho => h1 i o (Nat.zero_le _) hi ho) h2 ops.size _ γ w.drew a ⟨by simp, fun i _ hi => by simp [hi], fun i o h => (by rcases Nat.lt_or_ge i ops.size with h' | h' <;> simp [h'] at h), ?_, hs.ls.mono (Ev.drew w γ), hs.rd.monoR (Ev.drew w γ).toR, ?_, fun t => ?_, hs.d.monoR (Ev.drew w γ).toR, fun g => (hs.g g).mono (Ev.drew w γ).imm, hs.y.mono (Ev.drew w γ).toR, hs.e.trans (Ev.drew w γ).toR⟩ ?_
  · have hB : Bof P gl orc ops s.T s.m p (Array.replicate ops.size false) = s.m.B := by
      funext id
      unfold Bof
      simp only [AM.B]
      split
      · rfl
      · rename_i hid
        rw [if_neg, List.getElem?_eq_none (by omega)]
        rw [List.any_eq_true]
        rintro ⟨j, _, hj⟩
        have : (Array.replicate ops.size false).getD j false = false := by
          rcases Nat.lt_or_ge j ops.size with h | h <;> simp [h]
        rw [this] at hj; cases hj
    rw [hB]; exact hs.m.drew
  · have := hs.t.1; simp at this; omega
  · have hw : wr ops p (Array.replicate ops.size false) t = false := by
      unfold wr
      rw [List.any_eq_false]
      intro j _
      have : (Array.replicate ops.size false).getD j false = false := by
        rcases Nat.lt_or_ge j ops.size with h | h <;> simp [h]
      rw [this]; simp
    unfold At
    rw [hw]
    simp only [Bool.false_eq_true, if_false]
    have := (hs.t.mono (Ev.drew w γ)).get t
    simpa [List.getD] using this
  · unfold uc
    exact Nat.le_trans (List.countP_le_length) (by simp)

end
end Go.Abs
