/-
  OWN WORK. The simplified operations, their meaning on abstract values, and how the model's operations are read as such.
-/
import Derived.Test.YtdebhhpklhbihaaGreatDoorC5Abs2
namespace Go.Abs
open Go Go.RowKit

inductive Opd where
  | tmp (t : Nat)
  | const (a : AV)
  | func (f : FuncId)
  | glob (g : Nat)

def ofVal1 : Value → AV
  | .bool b => .bool b
  | .int k n => .int k n
  | .string s => .str s
  | .slice none 0 0 => .sl .nil []
  | .nilFunc => .nilfn
  | .pointer none => .nilv true
  | .map none => .nilv false
  | _ => .junk

def ofVal : Value → AV
  | .agg cs => .agg (cs.toList.map ofVal1)
  | v => ofVal1 v

theorem rep_nil {w : World} {γ : G} : Rep w γ (.sl .nil []) (.slice none 0 0) :=
  .sl (rows := []) 0 0 0 (fun _ _ => undef) (Nat.le_refl _) (fun _ => rfl) (fun h => absurd rfl h) (fun _ h => by cases h) (fun i j c h => by simp [rowCell] at h) (fun i j c h => by simp [rowCell] at h) rfl

theorem rep_ofVal1 (w : World) (γ : G) (v : Value) : Rep w γ (ofVal1 v) v := by
  unfold ofVal1
  split
  · exact .bool _
  · exact .int _ _
  · exact .str _
  · exact rep_nil
  · exact .nilfn
  · exact .nilv true
  · exact .nilv false
  · exact .junk _

theorem rep_ofVal (w : World) (γ : G) (v : Value) : Rep w γ (ofVal v) v := by
  unfold ofVal
  split
  · refine .agg (by simp) fun i c u h1 h2 => ?_
    simp at h1
    obtain ⟨u', h3, h4⟩ := h1
    rw [h2] at h3
    cases h3
    subst h4
    exact rep_ofVal1 w γ u
  · exact rep_ofVal1 w γ _

def opd : Operand → Opd
  | .tmp t => .tmp t
  | .const v => .const (ofVal v)
  | .func f => .func f
  | .global g => .glob g

def ev (gl : Nat → AV) (T : List AV) : Opd → AV
  | .tmp t => T.getD t .junk
  | .const a => a
  | .func f => .fn f [] []
  | .glob g => gl g

inductive SOp where
  | mv (x : Opd)
  | pick (c a b : Opd)
  | alloc (zs : List AV)
  | box (x : Opd)
  | build (zs : List AV) (parts : List (Nat × Nat × Opd))
  | bsl (sz len : Nat) (parts : List (Nat × Opd))
  | load (agg : Bool) (n : Nat) (x : Opd)
  | store (n : Nat) (x v : Opd)
  | faddr (off : Nat) (x : Opd)
  | fld (agg : Bool) (off n : Nat) (x : Opd)
  | iaddr (sz : Nat) (x i : Opd)
  | iaddrA (len sz : Nat) (x i : Opd)
  | idxS (x i : Opd)
  | idxA (agg : Bool) (n sz : Nat) (x i : Opd)
  | bin (op : BinOp) (x y : Opd)
  | binB (op : BinOp) (x y : Opd)
  | un (op : UnOp) (x : Opd)
  | conv (k : IntKind) (x : Opd)
  | len (x : Opd)
  | lenS (x : Opd)
  | mn (x y : Opd)
  | mx (x y : Opd)
  | mkfn (f : FuncId) (first cap : List Opd)
  | ext (x : Opd) (i : Nat)
  | call (f : Opd) (args : List Opd)
  | app (sz bytes : Nat) (s x : Opd)
  | slS (x : Opd) (lo hi : Option Opd)
  | nilc (x : Opd)
  | nilS (neg : Bool) (x : Opd)
  | b2s (x : Opd)
  | look (ok : Bool) (z : AV) (x k : Opd)
  | mupd (x k v : Opd)
  | mkmap
  | mks0 (sz bytes : Nat) (c : Opd)
  | slL (sz : Nat) (x : Opd) (lo hi : Option Opd)
  | slA (n sz : Nat) (x : Opd) (lo hi : Option Opd)
  | eqA (neg : Bool) (ks : List Nat) (x y : Opd)
  | mks (sz bytes : Nat) (zs : List AV) (l c : Opd)
  | cpy (sz : Nat) (x y : Opd)
  | clr (zs : List AV) (x : Opd)
  | bad

def zc (P : Program) (t : TypeId) : Option (List AV) := do
  let i ← P.info? t
  let z ← i.zero
  pure (z.cells.toList.map ofVal1)

def aggT (P : Program) (t : TypeId) : Bool :=
  match P.underlying t with
  | some (.struct _) | some (.array _ _) => true
  | _ => false

def trBuild (P : Program) (t : TypeId) (parts : Array (Nat × Operand)) : SOp :=
  match P.underlying t, zc P t with
  | some (.struct fields), some zs =>
    match parts.toList.mapM (fun p : Nat × Operand => (fields[p.1]?).bind fun f => (P.info? f.type).map fun i => (f.offset, i.size, opd p.2)) with
    | some ps => if fields.toList.all (fun f => (P.info? f.type).isSome) then .build zs ps else .bad
    | none => .bad
  | _, _ => .bad

/-- A type of one cell that is compared by its contents: what it holds. -/
def kindT (P : Program) (t : TypeId) : Option Nat :=
  match P.underlying t with
  | some .bool => some 0
  | some (.int _) => some 1
  | some .string => some 2
  | _ => none

/-- A struct of such fields, each in its cell. -/
def kindsT (P : Program) : List Field → Nat → Option (List Nat)
  | [], _ => some []
  | f :: r, i => (match (f.offset == i) && (f.name != "_"), kindT P f.type, kindsT P r (i + 1) with
    | true, some k, some ks => some (k :: ks)
    | _, _, _ => none)

def trEq (P : Program) (t : TypeId) (fs : List Field) (op : BinOp) (x y : Operand) : SOp :=
  match kindsT P fs 0, (P.stoodInHeld t || P.eqGuardType P.depth t), op with
  | some ks, false, .eql => .eqA false ks (opd x) (opd y)
  | some ks, false, .neq => .eqA true ks (opd x) (opd y)
  | _, _, _ => .bad

def trCall (P : Program) (c : Call) : SOp :=
  match c.callee with
  | .value f => .call (opd f) (c.args.toList.map opd)
  | .builtin .len =>
    match c.args.toList, c.argTypes.toList with
    | [x], [t] => (match P.underlying t with | some .string => .lenS (opd x) | some (.slice _) => .len (opd x) | _ => .bad)
    | _, _ => .bad
  | .builtin .min => (match c.args.toList with | [x, y] => .mn (opd x) (opd y) | _ => .bad)
  | .builtin .max => (match c.args.toList with | [x, y] => .mx (opd x) (opd y) | _ => .bad)
  | .builtin .append =>
    match c.args.toList, c.argTypes.toList with
    | [s, x], [t, t'] =>
      (match P.underlying t, P.underlying t' with
      | some (.slice e), some (.slice e') =>
        (match P.info? e with
        | some i => if t == t' && ((i.zero.map fun z => (z.cells.size, z.cells.toList.all (·.oneCell'))) == some (i.size, true)) && (i.size != 0) && (i.bytes != 0) then .app i.size i.bytes (opd s) (opd x) else .bad
        | none => .bad)
      | _, _ => .bad)
    | _, _ => .bad
  | .builtin .copy =>
    match c.args.toList, c.argTypes.toList with
    | [x, y], t :: _ => (match P.underlying t with
      | some (.slice e) => (match P.info? e with | some i => .cpy i.size (opd x) (opd y) | none => .bad)
      | _ => .bad)
    | _, _ => .bad
  | .builtin .clear =>
    match c.args.toList, c.argTypes.toList with
    | [x], [t] => (match P.underlying t with
      | some (.slice e) => (match zc P e with | some zs => .clr zs (opd x) | none => .bad)
      | _ => .bad)
    | _, _ => .bad
  | _ => .bad

def trNil (op : BinOp) (x y : Operand) : SOp :=
  match op, y with
  | .eql, .const (.slice none 0 0) => .nilS false (opd x)
  | .neq, .const (.slice none 0 0) => .nilS true (opd x)
  | _, _ => .bad

/-- A map from int. -/
def mapT (P : Program) (t : TypeId) : Option (TypeId × AV) :=
  match P.underlying t with
  | some (.map k v) => (match P.underlying k, P.info? v with
    | some (.int .i64), some i => i.zero.map fun z => (v, ofVal z)
    | _, _ => none)
  | _ => none

def tr (P : Program) (o : Oper) : SOp :=
  match o.op with
  | .move x | .assign x => .mv (opd x)
  | .pick c a b => .pick (opd c) (opd a) (opd b)
  | .alloc t => (match zc P t with | some zs => .alloc zs | none => .bad)
  | .box _ x => .box (opd x)
  | .build t parts => trBuild P t parts
  | .buildSlice t len parts =>
    (match P.underlying t with
    | some (.slice e) =>
      (match P.info? e with
      | some i => if ((i.zero.map fun z => z.cells.size) == some i.size) && (i.size != 0) && decide (len * i.size ≤ 16777216) then .bsl i.size len (parts.toList.map fun p => (p.1, opd p.2)) else .bad
      | none => .bad)
    | _ => .bad)
  | .load t a => (match P.info? t, P.underlying t with | some i, some _ => if aggT P t then .load true i.size (opd a) else .load false 1 (opd a) | _, _ => .bad)
  | .store t a v => (match P.info? t with | some i => .store i.size (opd a) (opd v) | none => .bad)
  | .fieldAddr s x f =>
    (match P.underlying s with
    | some (.struct fields) =>
      (match fields[f]? with
      | some fl => (match P.info? fl.type with | some i => if i.size == 0 then .bad else .faddr fl.offset (opd x) | none => .bad)
      | none => .bad)
    | _ => .bad)
  | .field t x f =>
    (match P.underlying t with
    | some (.struct fields) =>
      (match fields[f]? with
      | some fl => (match P.info? fl.type, P.underlying fl.type with | some i, some _ => if aggT P fl.type then .fld true fl.offset i.size (opd x) else .fld false fl.offset 1 (opd x) | _, _ => .bad)
      | none => .bad)
    | _ => .bad)
  | .indexAddr t x i =>
    (match P.underlying t with
    | some (.slice e) => (match P.info? e with | some j => .iaddr j.size (opd x) (opd i) | none => .bad)
    | some (.array n e) => (match P.info? e with | some j => .iaddrA n j.size (opd x) (opd i) | none => .bad)
    | _ => .bad)
  | .index t x i => (match P.underlying t with
    | some .string => .idxS (opd x) (opd i)
    | some (.array n e) => (match P.info? e, P.underlying e with | some j, some _ => if aggT P e then .idxA true n j.size (opd x) (opd i) else (if j.size == 1 then .idxA false n 1 (opd x) (opd i) else .bad) | _, _ => .bad)
    | _ => .bad)
  | .binOp op t x y _ =>
    (match P.underlying t with
    | some .bool => .binB op (opd x) (opd y)
    | some (.int _) => .bin op (opd x) (opd y)
    | some .string => .bin op (opd x) (opd y)
    | some (.slice _) => trNil op x y
    | some (.struct fs) => trEq P t fs.toList op x y
    | _ => .bad)
  | .unOp op _ x => .un op (opd x)
  | .convert s d x =>
    (match P.underlying s, P.underlying d with
    | some (.int _), some (.int k) => .conv k (opd x)
    | some (.slice e), some .string => (match P.underlying e with | some (.int .u8) => .b2s (opd x) | _ => .bad)
    | _, _ => .bad)
  | .makeFunc (.func f) first cap => .mkfn f (first.toList.map opd) (cap.toList.map opd)
  | .extract x i => .ext (opd x) i
  | .nilCheck x => .nilc (opd x)
  | .slice t x lo hi none => (match P.underlying t with
    | some .string => .slS (opd x) (lo.map opd) (hi.map opd)
    | some (.slice e) => (match P.info? e with | some i => .slL i.size (opd x) (lo.map opd) (hi.map opd) | none => .bad)
    | some (.array n e) => (match P.info? e with | some i => .slA n i.size (opd x) (lo.map opd) (hi.map opd) | none => .bad)
    | _ => .bad)
  | .lookup t x k ok => (match mapT P t with | some (_, z) => .look ok z (opd x) (opd k) | none => .bad)
  | .mapUpdate t x k v => (match mapT P t with | some _ => .mupd (opd x) (opd k) (opd v) | none => .bad)
  | .makeMap t none => (match mapT P t with | some _ => .mkmap | none => .bad)
  | .makeSlice t l c =>
    (match P.underlying t with
    | some (.slice e) => (match P.info? e, l with
      | some i, .const (.int .i64 0) => (if ((i.zero.map fun z => (z.cells.size, z.cells.toList.all (·.oneCell'))) == some (i.size, true)) && (i.size != 0) then .mks0 i.size i.bytes (opd c) else .bad)
      | some i, l => (match zc P e with | some zs => .mks i.size i.bytes zs (opd l) (opd c) | none => .bad)
      | _, _ => .bad)
    | _ => .bad)
  | .call c => trCall P c
  | _ => .bad

/-- Values of one cell, seen to be such. -/
def isCell : AV → Bool
  | .bool _ | .int _ _ | .str _ | .sl _ _ | .ep _ _ | .ptr _ _ | .fn _ _ _ | .nilfn | .yld _ | .mp _ | .nilv _ | .bs _ _ _ _ => true
  | _ => false

/-- Values that are seen to be made of cells. -/
def bare : AV → Bool
  | .junk | .gd _ _ | .tup _ | .mobj _ => false
  | _ => true

def cellsOf : AV → List AV
  | .agg cs => cs
  | a => [a]

/-- A list cut into rows. -/
def chunk (sz : Nat) : Nat → List AV → List (List AV)
  | 0, _ => []
  | n + 1, l => l.take sz :: chunk sz n (l.drop sz)
theorem chunk_eq (sz : Nat) : ∀ (n : Nat) (l : List AV), chunk sz n l = (List.range n).map fun i => (l.drop (i * sz)).take sz
  | 0, _ => rfl
  | n + 1, l => by
    rw [chunk, chunk_eq sz n, List.range_succ_eq_map, List.map_cons, List.map_map]
    simp only [Nat.zero_mul, List.drop_zero, List.cons.injEq, true_and]
    refine List.map_congr_left fun i _ => ?_
    simp only [Function.comp, List.drop_drop, Nat.succ_mul]
    rw [Nat.add_comm]

/-- What a callee sees of a value: boxes as rows that it only reads, no right to append. -/
def cvn (m : AM) : Nat → AV → AV
  | 0, _ => .junk
  | d + 1, a => match a with
    | .agg cs => .agg (cs.map (cvn m d))
    | .tup cs => .tup (cs.map (cvn m d))
    | .fn f first cap => .fn f (first.map (cvn m d)) (cap.map (cvn m d))
    | .sl (.own _ _) rows => .sl .ro rows
    | .ptr id o => .ep ((m.boxes.getD id []).map (cvn m d)) o
    | .gd _ _ => .junk
    | .yld _ => .junk
    | .mp _ => .junk
    | .mobj _ => .junk
    | .bs id off len sz => bif Nat.ble (off + len * sz) (m.boxes.getD id []).length then .sl .ro (chunk sz len (((m.boxes.getD id []).map (cvn m d)).drop off)) else .junk
    | a => a

/-- Does the value hold a pointer to a box? -/
def hasP : Nat → AV → Bool
  | 0, _ => true
  | d + 1, a => match a with
    | .agg cs => cs.any (hasP d)
    | .tup cs => cs.any (hasP d)
    | .fn _ first cap => first.any (hasP d) || cap.any (hasP d)
    | .ptr _ _ => true
    | .bs _ _ _ _ => true
    | _ => false

def flat1 : AV → Bool
  | .bool _ | .int _ _ | .str _ => true
  | _ => false
def flat : AV → Bool
  | .tup cs => cs.all flat1
  | a => flat1 a

def callable (P : Program) (f : FuncId) : Prop := ∃ fn, P.funcs[f]? = some fn ∧ fn.body.isNone = false ∧ (fn.name == "runtime.NumGoroutine") = false

/-- THE CONTRACT of a function that only computes: at these abstract arguments it returns this abstract result, makes memory, and changes nothing that was there. -/
def Pure (P : Program) (gl : Nat → AV) (f : FuncId) (as : List AV) (r : AV) : Prop :=
  callable P f ∧ ∀ (ro : Nat → Nat → Prop) (w : World) (vs : List Value), (∀ g, Rep w (G0 ro) (gl g) (.pointer (some ⟨g, 0, none⟩))) → RepL w (G0 ro) as vs →
    Calls P f vs.toArray w fun e w' => ∃ v, e = .returned v ∧ Below w.heap.size w w' ∧ Rep w' (G0 fun b o => ro b o ∨ w.heap.size ≤ b) r v

/-- A function that computes and leaves the abstract memory as it was, though it may change what hides behind it. -/
def Quiet (P : Program) (gl : Nat → AV) (f : FuncId) (as : List AV) (m : AM) (r : AV) : Prop :=
  callable P f ∧ ∀ (N : Nat) (w0 : Bas) (ro0 : Nat → Nat → Prop) (γ : G) (w : World) (B : Nat → Option (List AV)) (L : Nat → Option Nat) (vs : List Value), MSim N w0 ro0 γ w B L →
    (∀ id cells, m.boxes[id]? = some cells → B id = some cells) → (∀ g, Rep w γ.imm (gl g) (.pointer (some ⟨g, 0, none⟩))) → RepL w γ as vs →
    Calls P f vs.toArray w fun e w' => ∃ v γ', e = .returned v ∧ Ev w γ w' γ' ∧ MSim N w0 ro0 γ' w' B L ∧ Rep w' γ' r v

/-- A call: by its contract; the oracle's mark '.gd' asks for a quiet one. -/
def callV (P : Program) (gl : Nat → AV) (f : FuncId) (as : List AV) (m : AM) : AV → Prop × AV
  | .gd _ r => (Quiet P gl f as m r, r)
  | r => (Pure P gl f (as.map (cvn m 6)) r ∧ (as.any (hasP 6) = true → flat r = true), r)

def binI (op : BinOp) (k : IntKind) (a b : Int) : Prop × AV :=
  match op with
  | .add => (True, .int k (k.wrap (a + b)))
  | .sub => (True, .int k (k.wrap (a - b)))
  | .mul => (True, .int k (k.wrap (a * b)))
  | .quo => (b ≠ 0, .int k (k.wrap (a.tdiv b)))
  | .rem => (b ≠ 0, .int k (a.tmod b))
  | .eql => (True, .bool (a == b))
  | .neq => (True, .bool (a != b))
  | .lss => (True, .bool (decide (a < b)))
  | .leq => (True, .bool (decide (a ≤ b)))
  | .gtr => (True, .bool (decide (b < a)))
  | .geq => (True, .bool (decide (b ≤ a)))
  | .and => (True, .int k (k.wrap (BitVec.ofInt k.bits a &&& BitVec.ofInt k.bits b).toNat))
  | .or => (True, .int k (k.wrap (BitVec.ofInt k.bits a ||| BitVec.ofInt k.bits b).toNat))
  | .xor => (True, .int k (k.wrap (BitVec.ofInt k.bits a ^^^ BitVec.ofInt k.bits b).toNat))
  | .andNot => (True, .int k (k.wrap (BitVec.ofInt k.bits a &&& ~~~ BitVec.ofInt k.bits b).toNat))
  | _ => (False, .junk)

def binS (op : BinOp) (a b : ByteArray) : Prop × AV :=
  match op with
  | .add => (a.size + b.size ≤ 9223372036854775807, .str (a ++ b))
  | .eql => (True, .bool (a.toList == b.toList))
  | .neq => (True, .bool (!(a.toList == b.toList)))
  | _ => (False, .junk)

def binV (op : BinOp) (x y : AV) : Prop × AV :=
  match op with
  | .shl => (match x, y with | .int k a, .int _ b => (0 ≤ b, .int k (k.wrap (a * 2 ^ (min b.toNat k.bits)))) | _, _ => (False, .junk))
  | .shr => (match x, y with | .int k a, .int _ b => (0 ≤ b, .int k (a.fdiv (2 ^ (min b.toNat k.bits)))) | _, _ => (False, .junk))
  | op => match x, y with
    | .int k a, .int k' b => (k = k' ∧ (binI op k a b).1, (binI op k a b).2)
    | .str a, .str b => binS op a b
    | _, _ => (False, .junk)

def binBool (op : BinOp) (x y : AV) : Prop × AV :=
  match op, x, y with
  | .eql, .bool a, .bool b => (True, .bool (a == b))
  | .neq, .bool a, .bool b => (True, .bool (!(a == b)))
  | _, _, _ => (False, .junk)

def isB : AV → Bool
  | .bool _ => true
  | _ => false
def bOf : AV → Bool
  | .bool b => b
  | _ => false
def asB : AV → Option (Bool × Bool)
  | .bool b => some (true, b)
  | .gd g a => some (bif g then isB a else false, bOf a)
  | _ => none

def fillA (cs : List AV) : List (Nat × Nat × AV) → Prop × List AV
  | [] => (True, cs)
  | (off, size, a) :: r => let q := fillA (setA cs off (cellsOf a)) r; (bare a = true ∧ (cellsOf a).length = size ∧ off + size ≤ cs.length ∧ q.1, q.2)

def cutCells (agg : Bool) (n : Nat) (cs : List AV) : Prop × AV := ((cs.take n).length = n ∧ (agg = false → n = 1), if agg then .agg (cs.take n) else cs.getD 0 .junk)

/-- The first entry with a key, and its place. -/
def kfind (n : Int) : List (Int × AV) → Nat → Option (Nat × AV)
  | [], _ => none
  | (k, a) :: r, i => if n = k then some (i, a) else kfind n r (i + 1)

def byteOf : List AV → Option UInt8
  | [.int .u8 n] => some (UInt8.ofNat n.toNat)
  | _ => none

def bytesL : List (List AV) → Option (List UInt8)
  | [] => some []
  | r :: rs => (match byteOf r, bytesL rs with | some b, some l => some (b :: l) | _, _ => none)

/-- Cells that are compared by their contents. -/
def kindF : Nat → AV → AV → Bool
  | 0, .bool _, .bool _ => true
  | 1, .int k _, .int k' _ => decide (k = k')
  | 2, .str _, .str _ => true
  | _, _, _ => false
def eqF : AV → AV → Bool
  | .bool a, .bool b => a == b
  | .int _ a, .int _ b => a == b
  | .str a, .str b => a.toList == b.toList
  | _, _ => false
def kindFs : List Nat → List AV → List AV → Bool
  | [], [], [] => true
  | k :: ks, a :: as, b :: bs => kindF k a b && kindFs ks as bs
  | _, _, _ => false
def eqFs : List AV → List AV → Bool
  | a :: as, b :: bs => eqF a b && eqFs as bs
  | _, _ => true

/-- The bounds of a part. -/
def loOf : Option AV → Option Int
  | none => some 0
  | some (.int _ l) => some l
  | _ => none
def hiOf (n : Nat) : Option AV → Option Int
  | none => some n
  | some (.int _ h) => some h
  | _ => none

/-- The same cells again and again. -/
def fills : Nat → List AV → List AV
  | 0, _ => []
  | n + 1, zs => zs ++ fills n zs

/-- The cells of a slice, its elements one after the other. -/
def cellsS (m : AM) (sz : Nat) : AV → Prop × List AV
  | .sl _ rows => ((∀ row ∈ rows, row.length = sz), rows.flatten)
  | .bs id off len sz' => (sz' = sz ∧ off + len * sz ≤ (m.boxes.getD id []).length ∧ id < m.boxes.length, ((m.boxes.getD id []).drop off).take (len * sz))
  | _ => (False, [])
def lenS : AV → Nat
  | .sl _ rows => rows.length
  | .bs _ _ len _ => len
  | _ => 0

/-- The oracle's word on a slice that is made: shall its cells be a box? -/
def mutO (orc : Nat → FuncId → List AV → AV) (dst : Option Nat) : Bool := match orc (dst.getD 0) 999999 [] with
  | .mobj [] => true
  | _ => false

def fullOf : Rt → Bool
  | .full | .nil => true
  | _ => false

/-- Operations that leave the abstract memory: a condition and a value. -/
def rop (P : Program) (gl : Nat → AV) (orc : Nat → FuncId → List AV → AV) (e : Opd → AV) (m : AM) (dst : Option Nat) : SOp → Prop × AV
  | .mv x => (True, e x)
  | .pick c a b => (match asB (e c), asB (e a), asB (e b) with
    | some (g0, c), some (g1, x), some (g2, y) => (g0 = true ∧ (c = true → g1 = true) ∧ (c = false → g2 = true), .bool (bif c then x else y))
    | _, _, _ => (False, .junk))
  | .build zs parts => let q := fillA zs (parts.map fun p => (p.1, p.2.1, e p.2.2)); (q.1, .agg q.2)
  | .bsl sz len parts => let q := fillA (List.replicate (len * sz) .junk) (parts.map fun p => (p.1 * sz, sz, e p.2));
    (q.1 ∧ q.2.all isCell = true ∧ q.2.any (hasP 6) = false, .sl .full (chunk sz len (q.2.map (cvn m 6))))
  | .load agg n x => (match e x with
    | .ptr id o => cutCells agg n ((m.boxes.getD id []).drop o)
    | .ep row o => cutCells agg n (row.drop o)
    | _ => (False, .junk))
  | .faddr off x => (match e x with
    | .ptr id o => (True, .ptr id (o + off))
    | .ep row o => (True, .ep row (o + off))
    | _ => (False, .junk))
  | .fld agg off n x => (match e x with
    | .agg cs => cutCells agg n (cs.drop off)
    | _ => (False, .junk))
  | .iaddr sz x i => (match e x, e i with
    | .sl _ rows, .int _ i => ((0 ≤ i ∧ i < rows.length) ∧ (rows.getD i.toNat []).length = sz, .ep (rows.getD i.toNat []) 0)
    | .bs id off len sz', .int _ i => ((0 ≤ i ∧ i < len) ∧ sz' = sz, .ptr id (off + i.toNat * sz))
    | _, _ => (False, .junk))
  | .iaddrA len sz x i => (match e x, e i with
    | .ptr id o, .int _ i => (0 ≤ i ∧ i < len, .ptr id (o + i.toNat * sz))
    | .ep row o, .int _ i => (0 ≤ i ∧ i < len, .ep row (o + i.toNat * sz))
    | _, _ => (False, .junk))
  | .idxS x i => (match e x, e i with
    | .str s, .int _ i => (0 ≤ i ∧ i < s.size, .int .u8 (s.data.toList.getD i.toNat 0).toNat)
    | _, _ => (False, .junk))
  | .idxA agg n sz x i => (match e x, e i with
    | .agg cs, .int _ i => ((0 ≤ i ∧ i < n) ∧ (cutCells agg sz (cs.drop (i.toNat * sz))).1, (cutCells agg sz (cs.drop (i.toNat * sz))).2)
    | _, _ => (False, .junk))
  | .bin op x y => binV op (e x) (e y)
  | .binB op x y => binBool op (e x) (e y)
  | .un op x => (match op, e x with
    | .not, .bool b => (True, .bool (!b))
    | .neg, .int k n => (True, .int k (k.wrap (0 - n)))
    | .xor, .int k n => (True, .int k (k.wrap (BitVec.ofInt k.bits (if k.signed then -1 else k.max) ^^^ BitVec.ofInt k.bits n).toNat))
    | _, _ => (False, .junk))
  | .conv k x => (match e x with
    | .int _ n => (True, .int k (k.wrap n))
    | _ => (False, .junk))
  | .len x => (match e x with
    | .sl _ rows => (True, .int .i64 rows.length)
    | .bs _ _ len _ => (True, .int .i64 len)
    | _ => (False, .junk))
  | .lenS x => (match e x with
    | .str s => (True, .int .i64 s.size)
    | _ => (False, .junk))
  | .mn x y => (match e x, e y with
    | .int k a, .int _ b => (True, .int k (if b < a then b else a))
    | _, _ => (False, .junk))
  | .mx x y => (match e x, e y with
    | .int k a, .int _ b => (True, .int k (if a < b then b else a))
    | _, _ => (False, .junk))
  | .mkfn f first cap => (True, .fn f (first.map e) (cap.map e))
  | .ext x i => (match e x with
    | .tup vs => (i < vs.length, vs.getD i .junk)
    | _ => (False, .junk))
  | .call f args => (match e f with
    | .fn f first cap => callV P gl f (first ++ args.map e ++ cap) m (orc (dst.getD 0) f ((first ++ args.map e ++ cap).map (cvn m 6)))
    | _ => (False, .junk))
  | .app sz bytes s x => (match e s, e x with
    | .sl rt rows, .sl _ rows2 => (fullOf rt = true ∧ (∀ row ∈ rows ++ rows2, row.length = sz) ∧ (2 * (rows.length + rows2.length) + 2000) * bytes ≤ 281474976710656, .sl .ro (rows ++ rows2))
    | _, _ => (False, .junk))
  | .slS x lo hi => (match e x, lo.map e, hi.map e with
    | .str s, some (.int _ l), some (.int _ h) => (0 ≤ l ∧ l ≤ h ∧ h ≤ s.size, .str (s.extract l.toNat h.toNat))
    | .str s, none, some (.int _ h) => (0 ≤ h ∧ h ≤ s.size, .str (s.extract 0 h.toNat))
    | .str s, some (.int _ l), none => (0 ≤ l ∧ l ≤ s.size, .str (s.extract l.toNat s.size))
    | _, _, _ => (False, .junk))
  | .nilc x => (match e x with
    | .ptr id o => (True, .ptr id o)
    | .ep row o => (True, .ep row o)
    | .fn f first cap => (True, .fn f first cap)
    | _ => (False, .junk))
  | .nilS neg x => (match e x with
    | .sl .nil _ => (True, .bool (!neg))
    | .sl .nn _ => (True, .bool neg)
    | .sl _ (_ :: _) => (True, .bool neg)
    | .bs _ _ _ _ => (True, .bool neg)
    | _ => (False, .junk))
  | .b2s x => (match e x with
    | .sl _ rows => (match bytesL rows with
      | some l => (True, .str ⟨l.toArray⟩)
      | none => (False, .junk))
    | .bs id off len sz => (match bytesL (chunk 1 len ((m.boxes.getD id []).drop off)) with
      | some l => (sz = 1 ∧ off + len ≤ (m.boxes.getD id []).length, .str ⟨l.toArray⟩)
      | none => (False, .junk))
    | _ => (False, .junk))
  | .eqA neg ks x y => (match e x, e y with
    | .agg xs, .agg ys => (kindFs ks xs ys = true, .bool (if neg then !(eqFs xs ys) else eqFs xs ys))
    | _, _ => (False, .junk))
  | .slL sz x lo hi => (match e x with
    | .sl _ rows => (match loOf (lo.map e), hiOf rows.length (hi.map e) with
      | some l, some h => ((0 ≤ l ∧ l ≤ h ∧ h ≤ rows.length) ∧ ∀ row ∈ rows, row.length = sz, .sl .ro ((rows.drop l.toNat).take (h.toNat - l.toNat)))
      | _, _ => (False, .junk))
    | .bs id off len sz' => (match loOf (lo.map e), hiOf len (hi.map e) with
      | some l, some h => ((0 ≤ l ∧ l ≤ h ∧ h ≤ len) ∧ sz' = sz, if l < h ∨ l = 0 then .bs id (off + l.toNat * sz) (h.toNat - l.toNat) sz else .sl .nn [])
      | _, _ => (False, .junk))
    | _ => (False, .junk))
  | .slA n sz x lo hi => (match e x with
    | .ptr id o => (match loOf (lo.map e), hiOf n (hi.map e) with
      | some l, some h => ((0 ≤ l ∧ l ≤ h ∧ h ≤ n) ∧ o + n * sz ≤ (m.boxes.getD id []).length ∧ id < m.boxes.length, if l < h ∨ l = 0 then .bs id (o + l.toNat * sz) (h.toNat - l.toNat) sz else .sl .nn [])
      | _, _ => (False, .junk))
    | _ => (False, .junk))
  | .look ok z x k => (match e x, e k with
    | .mp id, .int .i64 n => (match m.boxes.getD id [] with
      | [.mobj kvs] => (True, (match kfind n kvs 0 with
        | some (_, a) => (if ok then .tup [a, .bool true] else a)
        | none => (if ok then .tup [z, .bool false] else z)))
      | _ => (False, .junk))
    | _, _ => (False, .junk))
  | _ => (False, .junk)

/-- All operations: a condition, a value, the memory behind it. -/
def sop (P : Program) (gl : Nat → AV) (orc : Nat → FuncId → List AV → AV) (e : Opd → AV) (m : AM) (dst : Option Nat) (so : SOp) : Prop × AV × AM :=
  match so with
  | .alloc zs => (zs.all isCell = true, .ptr m.boxes.length 0, { m with boxes := m.boxes ++ [zs] })
  | .box x => (bare (e x) = true ∧ (cellsOf (e x)).all isCell = true, .ptr m.boxes.length 0, { m with boxes := m.boxes ++ [cellsOf (e x)] })
  | .store n x v => (match e x with
    | .ptr id o => (bare (e v) = true ∧ (cellsOf (e v)).all isCell = true ∧ (cellsOf (e v)).length = n ∧ o + n ≤ (m.boxes.getD id []).length ∧ id < m.boxes.length,
        .junk, { m with boxes := m.boxes.set id (setA (m.boxes.getD id []) o (cellsOf (e v))) })
    | _ => (False, .junk, m))
  | .app sz bytes s x => (match e s, e x with
    | .sl (.own id sz') rows, .sl _ rows2 => (sz' = sz ∧ m.lens[id]? = some rows.length ∧ (∀ row ∈ rows ++ rows2, row.length = sz) ∧ (2 * (rows.length + rows2.length) + 2000) * bytes ≤ 281474976710656,
        .sl (.own id sz) (rows ++ rows2), { m with lens := m.lens.set id (rows.length + rows2.length) })
    | .bs id off len sz', y => (((sz' = sz ∧ off = 0 ∧ id < m.boxes.length ∧ m.boxes.getD id [] ≠ [] ∧ len * sz ≤ (m.boxes.getD id []).length) ∧ (2 * (len + lenS y) + 2000) * bytes ≤ 281474976710656) ∧ (cellsS m sz y).1,
        .bs m.boxes.length 0 (len + lenS y) sz, { m with boxes := m.boxes.set id [] ++ [(m.boxes.getD id []).take (len * sz) ++ (cellsS m sz y).2] })
    | .sl (.own id sz') rows, .bs id2 off2 len2 sz2 => ((sz' = sz ∧ sz2 = sz) ∧ m.lens[id]? = some rows.length ∧ (∀ row ∈ rows, row.length = sz) ∧ (2 * (rows.length + len2) + 2000) * bytes ≤ 281474976710656 ∧ off2 + len2 * sz ≤ (m.boxes.getD id2 []).length ∧ id2 < m.boxes.length ∧ (m.boxes.getD id2 []).all isCell = true ∧ (m.boxes.getD id2 []).any (hasP 6) = false,
        .sl (.own id sz) (rows ++ chunk sz len2 (((m.boxes.getD id2 []).map (cvn m 6)).drop off2)), { m with lens := m.lens.set id (rows.length + len2) })
    | .sl rt rows, y => if mutO orc dst = true then ((fullOf rt = true ∧ lenS y ≠ 0 ∧ (∀ row ∈ rows, row.length = sz) ∧ (2 * (rows.length + lenS y) + 2000) * bytes ≤ 281474976710656) ∧ (cellsS m sz y).1,
        .bs m.boxes.length 0 (rows.length + lenS y) sz, { m with boxes := m.boxes ++ [rows.flatten ++ (cellsS m sz y).2] })
      else (match y with
      | .sl _ rows2 => (fullOf rt = true ∧ (∀ row ∈ rows ++ rows2, row.length = sz) ∧ (2 * (rows.length + rows2.length) + 2000) * bytes ≤ 281474976710656,
        .sl (.own m.lens.length sz) (rows ++ rows2), { m with lens := m.lens ++ [rows.length + rows2.length] })
      | .bs id2 off2 len2 sz2 => ((fullOf rt = true ∧ sz2 = sz) ∧ (∀ row ∈ rows, row.length = sz) ∧ (2 * (rows.length + len2) + 2000) * bytes ≤ 281474976710656 ∧ off2 + len2 * sz ≤ (m.boxes.getD id2 []).length ∧ id2 < m.boxes.length ∧ (m.boxes.getD id2 []).all isCell = true ∧ (m.boxes.getD id2 []).any (hasP 6) = false,
        .sl (.own m.lens.length sz) (rows ++ chunk sz len2 (((m.boxes.getD id2 []).map (cvn m 6)).drop off2)), { m with lens := m.lens ++ [rows.length + len2] })
      | _ => (False, .junk, m))
    | _, _ => (False, .junk, m))
  | .bsl sz len parts => if mutO orc dst = true then let q := fillA (List.replicate (len * sz) .junk) (parts.map fun p => (p.1 * sz, sz, e p.2));
      (q.1 ∧ q.2.all isCell = true, .bs m.boxes.length 0 len sz, { m with boxes := m.boxes ++ [q.2] })
    else ((rop P gl orc e m dst (.bsl sz len parts)).1, (rop P gl orc e m dst (.bsl sz len parts)).2, m)
  | .mks sz bytes zs l c => (match e l, e c with
    | .int _ l, .int _ c => ((0 ≤ l ∧ l ≤ c ∧ bytes * c ≤ 281474976710656 ∧ c ≤ 9223372036854775807) ∧ zs.length = sz ∧ zs.all isCell = true, .bs m.boxes.length 0 l.toNat sz, { m with boxes := m.boxes ++ [fills c.toNat zs] })
    | _, _ => (False, .junk, m))
  | .cpy sz x y => (match e x with
    | .bs id off len sz' => (match e y with
      | .str s => ((sz' = 1 ∧ sz = 1) ∧ id < m.boxes.length ∧ off + len ≤ (m.boxes.getD id []).length ∧ m.boxes.getD id [] ≠ [], .int .i64 (min s.size len : Nat), { m with boxes := m.boxes.set id (setA (m.boxes.getD id []) off ((s.data.toList.take len).map fun b => .int .u8 b.toNat)) })
      | y => (sz' = sz ∧ (cellsS m sz y).1 ∧ id < m.boxes.length ∧ off + len * sz ≤ (m.boxes.getD id []).length ∧ m.boxes.getD id [] ≠ [], .int .i64 (min (lenS y) len : Nat), { m with boxes := m.boxes.set id (setA (m.boxes.getD id []) off ((cellsS m sz y).2.take (len * sz))) }))
    | _ => (False, .junk, m))
  | .clr zs x => (match e x with
    | .bs id off len sz' => ((sz' = zs.length ∧ zs.all isCell = true) ∧ id < m.boxes.length ∧ off + len * zs.length ≤ (m.boxes.getD id []).length ∧ m.boxes.getD id [] ≠ [], .tup [], { m with boxes := m.boxes.set id (setA (m.boxes.getD id []) off (fills len zs)) })
    | .sl _ [] => (True, .tup [], m)
    | _ => (False, .junk, m))
  | .mkmap => (True, .mp m.boxes.length, { m with boxes := m.boxes ++ [[.mobj []]] })
  | .mupd x k v => (match e x, e k with
    | .mp id, .int .i64 n => (match m.boxes.getD id [] with
      | [.mobj kvs] => (bare (e v) = true, .junk, { m with boxes := m.boxes.set id [.mobj (match kfind n kvs 0 with
        | some (i, _) => kvs.set i (n, e v)
        | none => kvs ++ [(n, e v)])] })
      | _ => (False, .junk, m))
    | _, _ => (False, .junk, m))
  | .mks0 sz bytes c => (match e c with
    | .int _ c => if mutO orc dst = true then (if c.toNat = 0 then (0 ≤ c ∧ bytes * c ≤ 281474976710656 ∧ c ≤ 9223372036854775807, .sl .full [], { m with boxes := m.boxes ++ [[]] })
        else (0 ≤ c ∧ bytes * c ≤ 281474976710656 ∧ c ≤ 9223372036854775807, .bs m.boxes.length 0 0 sz, { m with boxes := m.boxes ++ [List.replicate (c.toNat * sz) .junk] }))
      else (0 ≤ c ∧ bytes * c ≤ 281474976710656 ∧ c ≤ 9223372036854775807, .sl (.own m.lens.length sz) [], { m with lens := m.lens ++ [0] })
    | _ => (False, .junk, m))
  | so => ((rop P gl orc e m dst so).1, (rop P gl orc e m dst so).2, m)

end Go.Abs
