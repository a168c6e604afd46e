/-
  OWN WORK. A run of a function on known values, by computation: what it returns is what the function returns.
-/
import Derived.Test.YtdebhhpklhbihaaGreatDoorC5Abs14
namespace Go.Abs
open Go Go.RowKit

def okIf {α : Type} (b : Bool) (x : α) : Option α := bif b then some x else none
theorem okIf_some {α : Type} {b : Bool} {x y : α} (h : okIf b x = some y) : b = true ∧ x = y := by
  cases b
  · cases h
  · exact ⟨rfl, Option.some.inj h⟩

def eqS (a b : ByteArray) : Bool := a.data.toList == b.data.toList

def binIB (op : BinOp) (k : IntKind) (a b : Int) : Option AV :=
  match op with
  | .add => some (.int k (k.wrap (a + b)))
  | .sub => some (.int k (k.wrap (a - b)))
  | .mul => some (.int k (k.wrap (a * b)))
  | .quo => okIf (!(decide (b = 0))) (.int k (k.wrap (a.tdiv b)))
  | .rem => okIf (!(decide (b = 0))) (.int k (a.tmod b))
  | .eql => some (.bool (a == b))
  | .neq => some (.bool (a != b))
  | .lss => some (.bool (decide (a < b)))
  | .leq => some (.bool (decide (a ≤ b)))
  | .gtr => some (.bool (decide (b < a)))
  | .geq => some (.bool (decide (b ≤ a)))
  | .and => some (.int k (k.wrap (BitVec.ofInt k.bits a &&& BitVec.ofInt k.bits b).toNat))
  | .or => some (.int k (k.wrap (BitVec.ofInt k.bits a ||| BitVec.ofInt k.bits b).toNat))
  | .xor => some (.int k (k.wrap (BitVec.ofInt k.bits a ^^^ BitVec.ofInt k.bits b).toNat))
  | .andNot => some (.int k (k.wrap (BitVec.ofInt k.bits a &&& ~~~ BitVec.ofInt k.bits b).toNat))
  | _ => none

def binSB (op : BinOp) (a b : ByteArray) : Option AV :=
  match op with
  | .add => okIf (decide (a.size + b.size ≤ 9223372036854775807)) (.str ⟨a.data ++ b.data⟩)
  | .eql => some (.bool (eqS a b))
  | .neq => some (.bool (!(eqS a b)))
  | _ => none

def binVx (op : BinOp) (x y : AV) : Prop × AV := match x, y with
  | .int k a, .int k' b => (k = k' ∧ (binI op k a b).1, (binI op k a b).2)
  | .str a, .str b => binS op a b
  | _, _ => (False, .junk)

def binVBx (op : BinOp) (x y : AV) : Option AV := match x, y with
  | .int k a, .int k' b => bif decide (k = k') then binIB op k a b else none
  | .str a, .str b => binSB op a b
  | _, _ => none

def binVB (op : BinOp) (x y : AV) : Option AV :=
  match op with
  | .shl => (match x, y with | .int k a, .int _ b => okIf (decide (0 ≤ b)) (.int k (k.wrap (a * 2 ^ (min b.toNat k.bits)))) | _, _ => none)
  | .shr => (match x, y with | .int k a, .int _ b => okIf (decide (0 ≤ b)) (.int k (a.fdiv (2 ^ (min b.toNat k.bits)))) | _, _ => none)
  | op => binVBx op x y

theorem binV_x {op : BinOp} {x y : AV} (hop : op ≠ .shl ∧ op ≠ .shr) : binV op x y = binVx op x y := by
  cases op <;> first | rfl | simp at hop
theorem binVB_x {op : BinOp} {x y : AV} (hop : op ≠ .shl ∧ op ≠ .shr) : binVB op x y = binVBx op x y := by
  cases op <;> first | rfl | simp at hop

theorem binIB_ok {op : BinOp} {k : IntKind} {a b : Int} {v : AV} (h : binIB op k a b = some v) : (binI op k a b).1 ∧ (binI op k a b).2 = v := by
  cases op <;> simp only [binIB, binI] at h ⊢ <;> first
    | (cases h; exact ⟨trivial, rfl⟩)
    | (obtain ⟨h1, h2⟩ := okIf_some h; exact ⟨by simpa using h1, h2⟩)
    | cases h

theorem eqS_eq (a b : ByteArray) : eqS a b = (a.toList == b.toList) := by
  simp [eqS, ByteArray.toList_eq]

theorem append_eq (a b : ByteArray) : a ++ b = ⟨a.data ++ b.data⟩ := by
  cases a; cases b; apply ByteArray.ext; simp

theorem binSB_ok {op : BinOp} {a b : ByteArray} {v : AV} (h : binSB op a b = some v) : (binS op a b).1 ∧ (binS op a b).2 = v := by
  cases op <;> simp only [binSB, binS] at h ⊢ <;> first
    | (cases h; done)
    | (cases h; refine ⟨trivial, ?_⟩; rw [eqS_eq]; done)
    | (obtain ⟨h1, h2⟩ := okIf_some h; exact ⟨by simpa using h1, by rw [append_eq]; exact h2⟩)

theorem binVB_ok {op : BinOp} {x y : AV} {v : AV} (h : binVB op x y = some v) : (binV op x y).1 ∧ (binV op x y).2 = v := by
  have gen : (op ≠ .shl ∧ op ≠ .shr) → (binV op x y).1 ∧ (binV op x y).2 = v := fun hop => by
    rw [binV_x hop]
    rw [binVB_x hop] at h
    unfold binVBx at h
    split at h
    · rename_i k a k' b
      by_cases hk : k = k'
      · simp [hk] at h
        have := binIB_ok h
        exact ⟨⟨hk, by rw [hk]; exact this.1⟩, by simp only [binVx, hk]; exact this.2⟩
      · simp [hk] at h
    · exact binSB_ok h
    · cases h
  cases op
  case shl =>
    simp only [binVB, binV] at h ⊢
    split at h
    · obtain ⟨h1, h2⟩ := okIf_some h
      exact ⟨by simpa using h1, h2⟩
    · cases h
  case shr =>
    simp only [binVB, binV] at h ⊢
    split at h
    · obtain ⟨h1, h2⟩ := okIf_some h
      exact ⟨by simpa using h1, h2⟩
    · cases h
  all_goals exact gen (by simp)

def fillB (cs : List AV) : List (Nat × Nat × AV) → Option (List AV)
  | [] => some cs
  | (off, size, a) :: r => bif bare a && ((cellsOf a).length == size) && Nat.ble (off + size) cs.length then fillB (setA cs off (cellsOf a)) r else none

theorem fillB_ok : ∀ {l : List (Nat × Nat × AV)} {cs ds : List AV}, fillB cs l = some ds → (fillA cs l).1 ∧ (fillA cs l).2 = ds
  | [], _, _, h => ⟨trivial, by cases h; rfl⟩
  | (off, size, a) :: r, cs, ds, h => by
    simp only [fillB] at h
    cases hb : (bare a && ((cellsOf a).length == size) && Nat.ble (off + size) cs.length) with
    | false => simp [hb] at h
    | true =>
      simp [hb] at h
      have ih := fillB_ok h
      simp only [Bool.and_eq_true, beq_iff_eq] at hb
      exact ⟨⟨hb.1.1, hb.1.2, Nat.le_of_ble_eq_true hb.2, ih.1⟩, ih.2⟩

def cutB (agg : Bool) (n : Nat) (cs : List AV) : Option AV := okIf (((cs.take n).length == n) && (agg || n == 1)) (bif agg then .agg (cs.take n) else cs.getD 0 .junk)

theorem cutB_ok {agg : Bool} {n : Nat} {cs : List AV} {v : AV} (h : cutB agg n cs = some v) : (cutCells agg n cs).1 ∧ (cutCells agg n cs).2 = v := by
  obtain ⟨h1, h2⟩ := okIf_some h
  simp only [Bool.and_eq_true, beq_iff_eq, Bool.or_eq_true] at h1
  refine ⟨⟨h1.1, fun h => ?_⟩, ?_⟩
  · rcases h1.2 with h2 | h2
    · rw [h] at h2; cases h2
    · exact h2
  · cases agg <;> exact h2

def appB (sz bytes : Nat) (rows rows2 : List (List AV)) : Bool := (rows ++ rows2).all (fun row => row.length == sz) && Nat.ble ((2 * (rows.length + rows2.length) + 2000) * bytes) 281474976710656

theorem appB_ok {sz bytes : Nat} {rows rows2 : List (List AV)} (h : appB sz bytes rows rows2 = true) : (∀ row ∈ rows ++ rows2, row.length = sz) ∧ (2 * (rows.length + rows2.length) + 2000) * bytes ≤ 281474976710656 := by
  simp only [appB, Bool.and_eq_true, List.all_eq_true, beq_iff_eq] at h
  exact ⟨h.1, Nat.le_of_ble_eq_true h.2⟩

def eqFB : AV → AV → Bool
  | .bool a, .bool b => a == b
  | .int _ a, .int _ b => a == b
  | .str a, .str b => eqS a b
  | _, _ => false
def eqFsB : List AV → List AV → Bool
  | a :: as, b :: bs => eqFB a b && eqFsB as bs
  | _, _ => true
theorem eqFB_eq (a b : AV) : eqFB a b = eqF a b := by
  cases a <;> cases b <;> first | rfl | exact eqS_eq _ _
theorem eqFsB_eq : ∀ (as bs : List AV), eqFsB as bs = eqFs as bs
  | [], _ => by cases ‹List AV› <;> rfl
  | _ :: _, [] => rfl
  | a :: as, b :: bs => by simp only [eqFsB, eqFs, eqFB_eq, eqFsB_eq as bs]

/-- Operations that leave the memory, other than calls. -/
def ropB (e : Opd → AV) (m : AM) : SOp → Option AV
  | .mv x => some (e x)
  | .pick c a b => (match asB (e c), asB (e a), asB (e b) with
    | some (g0, c), some (g1, x), some (g2, y) => okIf (g0 && (bif c then g1 else g2)) (.bool (bif c then x else y))
    | _, _, _ => none)
  | .build zs parts => (match fillB zs (parts.map fun p => (p.1, p.2.1, e p.2.2)) with | some cs => some (.agg cs) | none => none)
  | .bsl sz len parts => (match fillB (List.replicate (len * sz) .junk) (parts.map fun p => (p.1 * sz, sz, e p.2)) with
    | some q => okIf (q.all isCell && !(q.any (hasP 6))) (.sl .full (chunk sz len (q.map (cvn m 6))))
    | none => none)
  | .load agg n x => (match e x with
    | .ptr id o => cutB agg n ((m.boxes.getD id []).drop o)
    | .ep row o => cutB agg n (row.drop o)
    | _ => none)
  | .faddr off x => (match e x with
    | .ptr id o => some (.ptr id (o + off))
    | .ep row o => some (.ep row (o + off))
    | _ => none)
  | .fld agg off n x => (match e x with
    | .agg cs => cutB agg n (cs.drop off)
    | _ => none)
  | .iaddr sz x i => (match e x, e i with
    | .sl _ rows, .int _ i => okIf (decide (0 ≤ i) && decide (i < rows.length) && ((rows.getD i.toNat []).length == sz)) (.ep (rows.getD i.toNat []) 0)
    | .bs id off len sz', .int _ i => okIf (decide (0 ≤ i) && decide (i < len) && (sz' == sz)) (.ptr id (off + i.toNat * sz))
    | _, _ => none)
  | .iaddrA len sz x i => (match e x, e i with
    | .ptr id o, .int _ i => okIf (decide (0 ≤ i) && decide (i < len)) (.ptr id (o + i.toNat * sz))
    | .ep row o, .int _ i => okIf (decide (0 ≤ i) && decide (i < len)) (.ep row (o + i.toNat * sz))
    | _, _ => none)
  | .idxS x i => (match e x, e i with
    | .str s, .int _ i => okIf (decide (0 ≤ i) && decide (i < s.size)) (.int .u8 (s.data.toList.getD i.toNat 0).toNat)
    | _, _ => none)
  | .idxA agg n sz x i => (match e x, e i with
    | .agg cs, .int _ i => bif decide (0 ≤ i) && decide (i < n) then cutB agg sz (cs.drop (i.toNat * sz)) else none
    | _, _ => none)
  | .bin op x y => binVB op (e x) (e y)
  | .binB op x y => (match op, e x, e y with
    | .eql, .bool a, .bool b => some (.bool (a == b))
    | .neq, .bool a, .bool b => some (.bool (!(a == b)))
    | _, _, _ => none)
  | .un op x => (match op, e x with
    | .not, .bool b => some (.bool (!b))
    | .neg, .int k n => some (.int k (k.wrap (0 - n)))
    | .xor, .int k n => some (.int k (k.wrap (BitVec.ofInt k.bits (if k.signed then -1 else k.max) ^^^ BitVec.ofInt k.bits n).toNat))
    | _, _ => none)
  | .conv k x => (match e x with
    | .int _ n => some (.int k (k.wrap n))
    | _ => none)
  | .len x => (match e x with
    | .sl _ rows => some (.int .i64 rows.length)
    | .bs _ _ len _ => some (.int .i64 len)
    | _ => none)
  | .lenS x => (match e x with
    | .str s => some (.int .i64 s.size)
    | _ => none)
  | .mn x y => (match e x, e y with
    | .int k a, .int _ b => some (.int k (if b < a then b else a))
    | _, _ => none)
  | .mx x y => (match e x, e y with
    | .int k a, .int _ b => some (.int k (if a < b then b else a))
    | _, _ => none)
  | .mkfn f first cap => some (.fn f (first.map e) (cap.map e))
  | .ext x i => (match e x with
    | .tup vs => okIf (Nat.ble (i + 1) vs.length) (vs.getD i .junk)
    | _ => none)
  | .app sz bytes s x => (match e s, e x with
    | .sl rt rows, .sl _ rows2 => okIf (fullOf rt && appB sz bytes rows rows2) (.sl .ro (rows ++ rows2))
    | _, _ => none)
  | .slS x lo hi => (match e x, lo.map e, hi.map e with
    | .str s, some (.int _ l), some (.int _ h) => okIf (decide (0 ≤ l) && decide (l ≤ h) && decide (h ≤ s.size)) (.str (s.extract l.toNat h.toNat))
    | .str s, none, some (.int _ h) => okIf (decide (0 ≤ h) && decide (h ≤ s.size)) (.str (s.extract 0 h.toNat))
    | .str s, some (.int _ l), none => okIf (decide (0 ≤ l) && decide (l ≤ s.size)) (.str (s.extract l.toNat s.size))
    | _, _, _ => none)
  | .nilc x => (match e x with
    | .ptr id o => some (.ptr id o)
    | .ep row o => some (.ep row o)
    | .fn f first cap => some (.fn f first cap)
    | _ => none)
  | .nilS neg x => (match e x with
    | .sl .nil _ => some (.bool (!neg))
    | .sl .nn _ => some (.bool neg)
    | .sl _ (_ :: _) => some (.bool neg)
    | .bs _ _ _ _ => some (.bool neg)
    | _ => none)
  | .b2s x => (match e x with
    | .sl _ rows => (match bytesL rows with
      | some l => some (.str ⟨l.toArray⟩)
      | none => none)
    | .bs id off len sz => (match bytesL (chunk 1 len ((m.boxes.getD id []).drop off)) with
      | some l => okIf ((sz == 1) && Nat.ble (off + len) (m.boxes.getD id []).length) (.str ⟨l.toArray⟩)
      | none => none)
    | _ => none)
  | .eqA neg ks x y => (match e x, e y with
    | .agg xs, .agg ys => okIf (kindFs ks xs ys) (.bool (bif neg then !(eqFsB xs ys) else eqFsB xs ys))
    | _, _ => none)
  | .slL sz x lo hi => (match e x with
    | .sl _ rows => (match loOf (lo.map e), hiOf rows.length (hi.map e) with
      | some l, some h => okIf (decide (0 ≤ l) && decide (l ≤ h) && decide (h ≤ rows.length) && rows.all (fun row => row.length == sz)) (.sl .ro ((rows.drop l.toNat).take (h.toNat - l.toNat)))
      | _, _ => none)
    | .bs id off len sz' => (match loOf (lo.map e), hiOf len (hi.map e) with
      | some l, some h => okIf (decide (0 ≤ l) && decide (l ≤ h) && decide (h ≤ len) && (sz' == sz)) (bif decide (l < h) || decide (l = 0) then .bs id (off + l.toNat * sz) (h.toNat - l.toNat) sz else .sl .nn [])
      | _, _ => none)
    | _ => none)
  | .slA n sz x lo hi => (match e x with
    | .ptr id o => (match loOf (lo.map e), hiOf n (hi.map e) with
      | some l, some h => okIf (decide (0 ≤ l) && decide (l ≤ h) && decide (h ≤ n) && Nat.ble (o + n * sz) (m.boxes.getD id []).length && Nat.ble (id + 1) m.boxes.length) (bif decide (l < h) || decide (l = 0) then .bs id (o + l.toNat * sz) (h.toNat - l.toNat) sz else .sl .nn [])
      | _, _ => none)
    | _ => none)
  | .look ok z x k => (match e x, e k with
    | .mp id, .int .i64 n => (match m.boxes.getD id [] with
      | [.mobj kvs] => some (match kfind n kvs 0 with
        | some (_, a) => (if ok then .tup [a, .bool true] else a)
        | none => (if ok then .tup [z, .bool false] else z))
      | _ => none)
    | _, _ => none)
  | _ => none

theorem ropB_ok {P : Program} {gl : Nat → AV} {orc : Nat → FuncId → List AV → AV} {dst : Option Nat} {e : Opd → AV} {m : AM} {so : SOp} {v : AV} (h : ropB e m so = some v) : (rop P gl orc e m dst so).1 ∧ (rop P gl orc e m dst so).2 = v := by
  cases so with
  | pick c a b =>
    simp only [ropB, rop] at h ⊢
    generalize asB (e c) = X0 at h ⊢
    generalize asB (e a) = X1 at h ⊢
    generalize asB (e b) = X2 at h ⊢
    split at h
    · obtain ⟨h1, h2⟩ := okIf_some h
      rename_i g0 c g1 x g2 y
      rw [Bool.and_eq_true] at h1
      refine ⟨⟨h1.1, fun hc => ?_, fun hc => ?_⟩, h2⟩ <;> simpa [hc] using h1.2
    · cases h
  | build zs parts =>
    simp only [ropB, rop] at h ⊢
    split at h
    · rename_i cs hf
      cases h
      have := fillB_ok hf
      exact ⟨this.1, by rw [this.2]⟩
    · cases h
  | bsl sz len parts =>
    simp only [ropB, rop] at h ⊢
    split at h
    · rename_i cs hf
      obtain ⟨h1, h2⟩ := okIf_some h
      have := fillB_ok hf
      simp only [Bool.and_eq_true, Bool.not_eq_true'] at h1
      rw [this.2]
      exact ⟨⟨this.1, h1.1, h1.2⟩, h2⟩
    · cases h
  | idxA agg n sz x i =>
    simp only [ropB, rop] at h ⊢
    generalize e x = X0 at h ⊢
    generalize e i = X1 at h ⊢
    split at h
    · rename_i cs k i
      cases hb : (decide (0 ≤ i) && decide (i < (n : Int))) with
      | false => simp [hb] at h
      | true =>
        simp only [hb, cond_true] at h
        simp only [Bool.and_eq_true, decide_eq_true_eq] at hb
        have := cutB_ok h
        exact ⟨⟨hb, this.1⟩, this.2⟩
    · cases h
  | bin op x y => exact binVB_ok h
  | load agg n x =>
    simp only [ropB, rop] at h ⊢
    generalize e x = X0 at h ⊢
    split at h
    · exact cutB_ok h
    · exact cutB_ok h
    · cases h
  | fld agg off n x =>
    simp only [ropB, rop] at h ⊢
    generalize e x = X0 at h ⊢
    split at h
    · exact cutB_ok h
    · cases h
  | binB op x y =>
    simp only [ropB, rop, binBool] at h ⊢
    generalize e x = X0 at h ⊢
    generalize e y = X1 at h ⊢
    split at h
    · cases h; exact ⟨trivial, rfl⟩
    · cases h; exact ⟨trivial, rfl⟩
    · cases h
  | app sz bytes s x =>
    simp only [ropB, rop] at h ⊢
    generalize e s = X0 at h ⊢
    generalize e x = X1 at h ⊢
    split at h
    · obtain ⟨h1, h2⟩ := okIf_some h
      simp only [Bool.and_eq_true] at h1
      exact ⟨⟨h1.1, appB_ok h1.2⟩, h2⟩
    · cases h
  | b2s x =>
    simp only [ropB, rop] at h ⊢
    generalize e x = X0 at h ⊢
    split at h
    · split at h
      · rename_i l hl
        cases h
        simp [hl]
      · cases h
    · split at h
      · rename_i l hl
        obtain ⟨h1, h2⟩ := okIf_some h
        simp only [Bool.and_eq_true, beq_iff_eq] at h1
        simp only [hl]
        exact ⟨⟨h1.1, Nat.le_of_ble_eq_true h1.2⟩, h2⟩
      · cases h
    · cases h
  | look ok z x k =>
    simp only [ropB, rop] at h ⊢
    generalize e x = X0 at h ⊢
    generalize e k = X1 at h ⊢
    split at h
    · split at h
      · rename_i kvs hb
        cases h
        simp only [hb]
        exact ⟨trivial, rfl⟩
      · cases h
    · cases h
  | eqA neg ks x y =>
    simp only [ropB, rop] at h ⊢
    generalize e x = X0 at h ⊢
    generalize e y = X1 at h ⊢
    split at h
    · obtain ⟨h1, h2⟩ := okIf_some h
      refine ⟨h1, ?_⟩
      rw [← h2, eqFsB_eq]
      cases neg <;> rfl
    · cases h
  | slL sz x lo hi =>
    simp only [ropB, rop] at h ⊢
    generalize e x = X0 at h ⊢
    generalize lo.map e = X1 at h ⊢
    generalize hi.map e = X2 at h ⊢
    split at h
    · split at h
      · rename_i l h' e1 e2
        obtain ⟨h1, h2⟩ := okIf_some h
        simp only [Bool.and_eq_true, decide_eq_true_eq, List.all_eq_true, beq_iff_eq] at h1
        simp only [e1, e2]
        exact ⟨⟨⟨h1.1.1.1, h1.1.1.2, h1.1.2⟩, h1.2⟩, h2⟩
      · cases h
    · split at h
      · rename_i l h' e1 e2
        obtain ⟨h1, h2⟩ := okIf_some h
        simp only [Bool.and_eq_true, decide_eq_true_eq, beq_iff_eq] at h1
        simp only [e1, e2]
        refine ⟨⟨⟨h1.1.1.1, h1.1.1.2, h1.1.2⟩, h1.2⟩, ?_⟩
        rw [← h2]
        by_cases hc : l < h' ∨ l = 0
        · have hd : (decide (l < h') || decide (l = 0)) = true := by simpa using hc
          rw [if_pos hc, hd]; rfl
        · have hd : (decide (l < h') || decide (l = 0)) = false := by simpa using hc
          rw [if_neg hc, hd]; rfl
      · cases h
    · cases h
  | slA n sz x lo hi =>
    simp only [ropB, rop] at h ⊢
    generalize e x = X0 at h ⊢
    generalize lo.map e = X1 at h ⊢
    generalize hi.map e = X2 at h ⊢
    split at h
    · split at h
      · rename_i l h' e1 e2
        obtain ⟨h1, h2⟩ := okIf_some h
        simp only [Bool.and_eq_true, decide_eq_true_eq] at h1
        simp only [e1, e2]
        refine ⟨⟨⟨h1.1.1.1.1, h1.1.1.1.2, h1.1.1.2⟩, Nat.le_of_ble_eq_true h1.1.2, Nat.le_of_ble_eq_true h1.2⟩, ?_⟩
        rw [← h2]
        by_cases hc : l < h' ∨ l = 0
        · have hd : (decide (l < h') || decide (l = 0)) = true := by simpa using hc
          rw [if_pos hc, hd]; rfl
        · have hd : (decide (l < h') || decide (l = 0)) = false := by simpa using hc
          rw [if_neg hc, hd]; rfl
      · cases h
    · cases h
  | ext x i =>
    simp only [ropB, rop] at h ⊢
    generalize e x = X0 at h ⊢
    split at h
    · obtain ⟨h1, h2⟩ := okIf_some h
      exact ⟨Nat.le_of_ble_eq_true h1, h2⟩
    · cases h
  | mv x => cases h; exact ⟨trivial, rfl⟩
  | mkfn f a b => cases h; exact ⟨trivial, rfl⟩
  | iaddr sz x i =>
    simp only [ropB, rop] at h ⊢
    generalize e x = X0 at h ⊢
    generalize e i = X1 at h ⊢
    split at h
    · obtain ⟨h1, h2⟩ := okIf_some h
      simp only [Bool.and_eq_true, decide_eq_true_eq, beq_iff_eq] at h1
      exact ⟨h1, h2⟩
    · obtain ⟨h1, h2⟩ := okIf_some h
      simp only [Bool.and_eq_true, decide_eq_true_eq, beq_iff_eq] at h1
      exact ⟨h1, h2⟩
    · cases h
  | slS x lo hi =>
    simp only [ropB, rop] at h ⊢
    generalize e x = X0 at h ⊢
    generalize lo.map e = X1 at h ⊢
    generalize hi.map e = X2 at h ⊢
    split at h
    · obtain ⟨h1, h2⟩ := okIf_some h
      simp only [Bool.and_eq_true, decide_eq_true_eq] at h1
      exact ⟨⟨h1.1.1, h1.1.2, h1.2⟩, h2⟩
    · obtain ⟨h1, h2⟩ := okIf_some h
      simp only [Bool.and_eq_true, decide_eq_true_eq] at h1
      exact ⟨h1, h2⟩
    · obtain ⟨h1, h2⟩ := okIf_some h
      simp only [Bool.and_eq_true, decide_eq_true_eq] at h1
      exact ⟨h1, h2⟩
    · cases h
  | nilS neg x =>
    simp only [ropB, rop] at h ⊢
    generalize e x = X0 at h ⊢
    split at h
    · cases h; exact ⟨trivial, rfl⟩
    · cases h; exact ⟨trivial, rfl⟩
    · rename_i rt _ _ h1 h2
      cases h
      cases rt <;> first | exact ⟨trivial, rfl⟩ | exact (h1 _ rfl).elim | exact (h1 rfl).elim | exact (h2 rfl).elim
    · cases h; exact ⟨trivial, rfl⟩
    · cases h
  | faddr off x =>
    simp only [ropB, rop] at h ⊢
    generalize e x = X0 at h ⊢
    first
      | (cases h; done)
      | (split at h <;> first
        | (cases h; done)
        | (cases h; exact ⟨trivial, rfl⟩)
        | (obtain ⟨h1, h2⟩ := okIf_some h; simp only [Bool.and_eq_true, decide_eq_true_eq] at h1; exact ⟨h1, h2⟩))
  | iaddrA len sz x i =>
    simp only [ropB, rop] at h ⊢
    generalize e x = X0 at h ⊢
    generalize e i = X1 at h ⊢
    first
      | (cases h; done)
      | (split at h <;> first
        | (cases h; done)
        | (cases h; exact ⟨trivial, rfl⟩)
        | (obtain ⟨h1, h2⟩ := okIf_some h; simp only [Bool.and_eq_true, decide_eq_true_eq] at h1; exact ⟨h1, h2⟩))
  | idxS x i =>
    simp only [ropB, rop] at h ⊢
    generalize e x = X0 at h ⊢
    generalize e i = X1 at h ⊢
    first
      | (cases h; done)
      | (split at h <;> first
        | (cases h; done)
        | (cases h; exact ⟨trivial, rfl⟩)
        | (obtain ⟨h1, h2⟩ := okIf_some h; simp only [Bool.and_eq_true, decide_eq_true_eq] at h1; exact ⟨h1, h2⟩))
  | un op x =>
    simp only [ropB, rop] at h ⊢
    generalize e x = X0 at h ⊢
    first
      | (cases h; done)
      | (split at h <;> first
        | (cases h; done)
        | (cases h; exact ⟨trivial, rfl⟩)
        | (obtain ⟨h1, h2⟩ := okIf_some h; simp only [Bool.and_eq_true, decide_eq_true_eq] at h1; exact ⟨h1, h2⟩))
  | conv k x =>
    simp only [ropB, rop] at h ⊢
    generalize e x = X0 at h ⊢
    first
      | (cases h; done)
      | (split at h <;> first
        | (cases h; done)
        | (cases h; exact ⟨trivial, rfl⟩)
        | (obtain ⟨h1, h2⟩ := okIf_some h; simp only [Bool.and_eq_true, decide_eq_true_eq] at h1; exact ⟨h1, h2⟩))
  | len x =>
    simp only [ropB, rop] at h ⊢
    generalize e x = X0 at h ⊢
    first
      | (cases h; done)
      | (split at h <;> first
        | (cases h; done)
        | (cases h; exact ⟨trivial, rfl⟩)
        | (obtain ⟨h1, h2⟩ := okIf_some h; simp only [Bool.and_eq_true, decide_eq_true_eq] at h1; exact ⟨h1, h2⟩))
  | lenS x =>
    simp only [ropB, rop] at h ⊢
    generalize e x = X0 at h ⊢
    first
      | (cases h; done)
      | (split at h <;> first
        | (cases h; done)
        | (cases h; exact ⟨trivial, rfl⟩)
        | (obtain ⟨h1, h2⟩ := okIf_some h; simp only [Bool.and_eq_true, decide_eq_true_eq] at h1; exact ⟨h1, h2⟩))
  | mn x y =>
    simp only [ropB, rop] at h ⊢
    generalize e x = X0 at h ⊢
    generalize e y = X1 at h ⊢
    first
      | (cases h; done)
      | (split at h <;> first
        | (cases h; done)
        | (cases h; exact ⟨trivial, rfl⟩)
        | (obtain ⟨h1, h2⟩ := okIf_some h; simp only [Bool.and_eq_true, decide_eq_true_eq] at h1; exact ⟨h1, h2⟩))
  | mx x y =>
    simp only [ropB, rop] at h ⊢
    generalize e x = X0 at h ⊢
    generalize e y = X1 at h ⊢
    first
      | (cases h; done)
      | (split at h <;> first
        | (cases h; done)
        | (cases h; exact ⟨trivial, rfl⟩)
        | (obtain ⟨h1, h2⟩ := okIf_some h; simp only [Bool.and_eq_true, decide_eq_true_eq] at h1; exact ⟨h1, h2⟩))
  | nilc x =>
    simp only [ropB, rop] at h ⊢
    generalize e x = X0 at h ⊢
    first
      | (cases h; done)
      | (split at h <;> first
        | (cases h; done)
        | (cases h; exact ⟨trivial, rfl⟩)
        | (obtain ⟨h1, h2⟩ := okIf_some h; simp only [Bool.and_eq_true, decide_eq_true_eq] at h1; exact ⟨h1, h2⟩))
  | _ => cases h

/-- All operations other than calls. -/
def cellsB (m : AM) (sz : Nat) : AV → Option (List AV)
  | .sl _ rows => okIf (rows.all (fun row => row.length == sz)) rows.flatten
  | .bs id off len sz' => okIf ((sz' == sz) && Nat.ble (off + len * sz) (m.boxes.getD id []).length && Nat.ble (id + 1) m.boxes.length) (((m.boxes.getD id []).drop off).take (len * sz))
  | _ => none
theorem cellsB_ok {m : AM} {sz : Nat} {y : AV} {l : List AV} (h : cellsB m sz y = some l) : (cellsS m sz y).1 ∧ (cellsS m sz y).2 = l := by
  cases y <;> simp only [cellsB] at h <;> first | (cases h; done) | skip
  · obtain ⟨h1, h2⟩ := okIf_some h
    exact ⟨by simpa [cellsS] using h1, h2⟩
  · obtain ⟨h1, h2⟩ := okIf_some h
    simp only [Bool.and_eq_true, beq_iff_eq] at h1
    exact ⟨⟨h1.1.1, Nat.le_of_ble_eq_true h1.1.2, Nat.le_of_ble_eq_true h1.2⟩, h2⟩
def neB : List AV → Bool
  | [] => false
  | _ => true
theorem neB_ok {l : List AV} (h : neB l = true) : l ≠ [] := by rintro rfl; cases h

def sopB (mu : Bool) (e : Opd → AV) (m : AM) : SOp → Option (AV × AM)
  | .alloc zs => okIf (zs.all isCell) (.ptr m.boxes.length 0, { m with boxes := m.boxes ++ [zs] })
  | .box x => okIf (bare (e x) && (cellsOf (e x)).all isCell) (.ptr m.boxes.length 0, { m with boxes := m.boxes ++ [cellsOf (e x)] })
  | .store n x v => (match e x with
    | .ptr id o => okIf (bare (e v) && (cellsOf (e v)).all isCell && ((cellsOf (e v)).length == n) && Nat.ble (o + n) (m.boxes.getD id []).length && Nat.ble (id + 1) m.boxes.length)
        (.junk, { m with boxes := m.boxes.set id (setA (m.boxes.getD id []) o (cellsOf (e v))) })
    | _ => none)
  | .app sz bytes s x => (match e s, e x with
    | .sl (.own id sz') rows, .sl _ rows2 => okIf ((sz' == sz) && (match m.lens[id]? with | some n => n == rows.length | none => false) && appB sz bytes rows rows2) (.sl (.own id sz) (rows ++ rows2), { m with lens := m.lens.set id (rows.length + rows2.length) })
    | .bs id off len sz', y => (match cellsB m sz y with
      | some cs => okIf ((sz' == sz) && (off == 0) && Nat.ble (id + 1) m.boxes.length && neB (m.boxes.getD id []) && Nat.ble (len * sz) (m.boxes.getD id []).length && Nat.ble ((2 * (len + lenS y) + 2000) * bytes) 281474976710656)
        (.bs m.boxes.length 0 (len + lenS y) sz, { m with boxes := m.boxes.set id [] ++ [(m.boxes.getD id []).take (len * sz) ++ cs] })
      | none => none)
    | .sl rt rows, y => (bif mu then (match cellsB m sz y with
        | some cs => okIf (fullOf rt && !(Nat.beq (lenS y) 0) && rows.all (fun row => row.length == sz) && Nat.ble ((2 * (rows.length + lenS y) + 2000) * bytes) 281474976710656)
          (.bs m.boxes.length 0 (rows.length + lenS y) sz, { m with boxes := m.boxes ++ [rows.flatten ++ cs] })
        | none => none)
      else (match y with
        | .sl _ rows2 => okIf (fullOf rt && appB sz bytes rows rows2) (.sl (.own m.lens.length sz) (rows ++ rows2), { m with lens := m.lens ++ [rows.length + rows2.length] })
        | _ => none))
    | _, _ => none)
  | .bsl sz len parts => (bif mu then (match fillB (List.replicate (len * sz) .junk) (parts.map fun p => (p.1 * sz, sz, e p.2)) with
      | some q => okIf (q.all isCell) (.bs m.boxes.length 0 len sz, { m with boxes := m.boxes ++ [q] })
      | none => none)
    else (match ropB e m (.bsl sz len parts) with | some v => some (v, m) | none => none))
  | .mks sz bytes zs l c => (match e l, e c with
    | .int _ l, .int _ c => okIf (decide (0 ≤ l) && decide (l ≤ c) && decide (bytes * c ≤ 281474976710656) && decide (c ≤ 9223372036854775807) && (zs.length == sz) && zs.all isCell) (.bs m.boxes.length 0 l.toNat sz, { m with boxes := m.boxes ++ [fills c.toNat zs] })
    | _, _ => none)
  | .cpy sz x y => (match e x with
    | .bs id off len sz' => (match e y with
      | .str s => okIf ((sz' == 1) && (sz == 1) && Nat.ble (id + 1) m.boxes.length && Nat.ble (off + len) (m.boxes.getD id []).length && neB (m.boxes.getD id [])) (.int .i64 (min s.size len : Nat), { m with boxes := m.boxes.set id (setA (m.boxes.getD id []) off ((s.data.toList.take len).map fun b => .int .u8 b.toNat)) })
      | y => (match cellsB m sz y with
        | some cs => okIf ((sz' == sz) && Nat.ble (id + 1) m.boxes.length && Nat.ble (off + len * sz) (m.boxes.getD id []).length && neB (m.boxes.getD id [])) (.int .i64 (min (lenS y) len : Nat), { m with boxes := m.boxes.set id (setA (m.boxes.getD id []) off (cs.take (len * sz))) })
        | none => none))
    | _ => none)
  | .clr zs x => (match e x with
    | .bs id off len sz' => okIf ((sz' == zs.length) && zs.all isCell && Nat.ble (id + 1) m.boxes.length && Nat.ble (off + len * zs.length) (m.boxes.getD id []).length && neB (m.boxes.getD id [])) (.tup [], { m with boxes := m.boxes.set id (setA (m.boxes.getD id []) off (fills len zs)) })
    | .sl _ [] => some (.tup [], m)
    | _ => none)
  | .mkmap => some (.mp m.boxes.length, { m with boxes := m.boxes ++ [[.mobj []]] })
  | .mupd x k v => (match e x, e k with
    | .mp id, .int .i64 n => (match m.boxes.getD id [] with
      | [.mobj kvs] => okIf (bare (e v)) (.junk, { m with boxes := m.boxes.set id [.mobj (match kfind n kvs 0 with
        | some (i, _) => kvs.set i (n, e v)
        | none => kvs ++ [(n, e v)])] })
      | _ => none)
    | _, _ => none)
  | .mks0 sz bytes c => (match e c with
    | .int _ c => okIf (decide (0 ≤ c) && decide (bytes * c ≤ 281474976710656) && decide (c ≤ 9223372036854775807))
        (if mu = true then (if c.toNat = 0 then (.sl .full [], { m with boxes := m.boxes ++ [[]] }) else (.bs m.boxes.length 0 0 sz, { m with boxes := m.boxes ++ [List.replicate (c.toNat * sz) .junk] }))
          else (.sl (.own m.lens.length sz) [], { m with lens := m.lens ++ [0] }))
    | _ => none)
  | so => (match ropB e m so with | some v => some (v, m) | none => none)

theorem sopB_ok {P : Program} {gl : Nat → AV} {orc : Nat → FuncId → List AV → AV} {dst : Option Nat} {e : Opd → AV} {m : AM} {so : SOp} {p : AV × AM} {mu : Bool} (hmu : mutO orc dst = mu) (h : sopB mu e m so = some p) : (sop P gl orc e m dst so).1 ∧ (sop P gl orc e m dst so).2 = p := by
  have gen : (match ropB e m so with | some v => some (v, m) | none => none) = some p → sop P gl orc e m dst so = ((rop P gl orc e m dst so).1, (rop P gl orc e m dst so).2, m) → (sop P gl orc e m dst so).1 ∧ (sop P gl orc e m dst so).2 = p := fun h1 h2 => by
    rw [h2]
    split at h1
    · rename_i v hv
      cases h1
      have := ropB_ok (P := P) (gl := gl) (orc := orc) (dst := dst) hv
      exact ⟨this.1, by simp only [this.2]⟩
    · cases h1
  cases so with
  | alloc zs => obtain ⟨h1, h2⟩ := okIf_some h; exact ⟨h1, h2⟩
  | box x => obtain ⟨h1, h2⟩ := okIf_some h; simp only [Bool.and_eq_true] at h1; exact ⟨h1, h2⟩
  | store n x v =>
    simp only [sopB, sop] at h ⊢
    generalize e x = X0 at h ⊢
    split at h
    · obtain ⟨h1, h2⟩ := okIf_some h
      simp only [Bool.and_eq_true, beq_iff_eq] at h1
      exact ⟨⟨h1.1.1.1.1, h1.1.1.1.2, h1.1.1.2, Nat.le_of_ble_eq_true h1.1.2, Nat.le_of_ble_eq_true h1.2⟩, h2⟩
    · cases h
  | app sz bytes s x =>
    simp only [sopB, sop] at h ⊢
    generalize e s = X0 at h ⊢
    generalize e x = X1 at h ⊢
    split at h
    · obtain ⟨h1, h2⟩ := okIf_some h
      simp only [Bool.and_eq_true, beq_iff_eq] at h1
      obtain ⟨⟨h3, h4⟩, h5⟩ := h1
      split at h4
      · rename_i n hn
        rw [eq_of_beq h4] at hn
        exact ⟨⟨h3, hn, appB_ok h5⟩, h2⟩
      · cases h4
    · rename_i id off len sz' y
      split at h
      · rename_i cs hcs
        obtain ⟨h1, h2⟩ := okIf_some h
        simp only [Bool.and_eq_true, beq_iff_eq] at h1
        obtain ⟨k1, k2⟩ := cellsB_ok hcs
        refine ⟨⟨⟨⟨h1.1.1.1.1.1, h1.1.1.1.1.2, Nat.le_of_ble_eq_true h1.1.1.1.2, neB_ok h1.1.1.2, Nat.le_of_ble_eq_true h1.1.2⟩, Nat.le_of_ble_eq_true h1.2⟩, k1⟩, ?_⟩
        simp only [k2]; exact h2
      · cases h
    · rename_i y rt rows hno
      cases mu with
      | true =>
        simp only [cond_true] at h
        have hgoal : ∀ (q : Prop × AV × AM), (q.1 ∧ q.2 = p) → (q.1 ∧ q.2 = p) := fun _ h => h
        split at h
        · rename_i cs hcs
          obtain ⟨h1, h2⟩ := okIf_some h
          simp only [Bool.and_eq_true, Bool.not_eq_true', List.all_eq_true, beq_iff_eq] at h1
          obtain ⟨k1, k2⟩ := cellsB_ok hcs
          have hne : lenS X1 ≠ 0 := by rintro h0; rw [h0] at h1; simp at h1
          have hfull := h1.1.1.1
          cases rt with
          | own id sz' => simp [fullOf] at hfull
          | _ =>
            simp only [hmu, if_true]
            exact ⟨⟨⟨hfull, hne, h1.1.2, Nat.le_of_ble_eq_true h1.2⟩, k1⟩, by rw [k2]; exact h2⟩
        · cases h
      | false =>
        simp only [cond_false] at h
        split at h
        · rename_i rt2 rows2
          obtain ⟨h1, h2⟩ := okIf_some h
          simp only [Bool.and_eq_true] at h1
          cases rt with
          | own id sz' => simp [fullOf] at h1
          | _ =>
            simp only [hmu, Bool.false_eq_true, if_false]
            exact ⟨⟨h1.1, appB_ok h1.2⟩, h2⟩
        · cases h
    · cases h
  | bsl sz len parts =>
    simp only [sopB, sop] at h ⊢
    cases mu with
    | true =>
      simp only [cond_true] at h
      rw [if_pos hmu]
      split at h
      · rename_i q hf
        obtain ⟨h1, h2⟩ := okIf_some h
        have := fillB_ok hf
        exact ⟨⟨this.1, by rw [this.2]; exact h1⟩, by rw [this.2]; exact h2⟩
      · cases h
    | false =>
      simp only [cond_false] at h
      rw [if_neg (by rw [hmu]; simp)]
      split at h
      · rename_i v hv
        cases h
        have := ropB_ok (P := P) (gl := gl) (orc := orc) (dst := dst) hv
        exact ⟨this.1, by rw [this.2]⟩
      · cases h
  | mks sz bytes zs l c =>
    simp only [sopB, sop] at h ⊢
    generalize e l = X0 at h ⊢
    generalize e c = X1 at h ⊢
    split at h
    · obtain ⟨h1, h2⟩ := okIf_some h
      simp only [Bool.and_eq_true, decide_eq_true_eq, beq_iff_eq] at h1
      exact ⟨⟨⟨h1.1.1.1.1.1, h1.1.1.1.1.2, h1.1.1.1.2, h1.1.1.2⟩, h1.1.2, h1.2⟩, h2⟩
    · cases h
  | cpy sz x y =>
    simp only [sopB, sop] at h ⊢
    generalize e x = X0 at h ⊢
    generalize e y = X1 at h ⊢
    split at h
    · cases X1 with
      | str s =>
        obtain ⟨h1, h2⟩ := okIf_some h
        simp only [Bool.and_eq_true, beq_iff_eq] at h1
        exact ⟨⟨⟨h1.1.1.1.1, h1.1.1.1.2⟩, Nat.le_of_ble_eq_true h1.1.1.2, Nat.le_of_ble_eq_true h1.1.2, neB_ok h1.2⟩, h2⟩
      | _ =>
        simp only at h ⊢
        split at h
        · rename_i cs hcs
          obtain ⟨h1, h2⟩ := okIf_some h
          simp only [Bool.and_eq_true, beq_iff_eq] at h1
          obtain ⟨k1, k2⟩ := cellsB_ok hcs
          exact ⟨⟨h1.1.1.1, k1, Nat.le_of_ble_eq_true h1.1.1.2, Nat.le_of_ble_eq_true h1.1.2, neB_ok h1.2⟩, by rw [k2]; exact h2⟩
        · cases h
    · cases h
  | clr zs x =>
    simp only [sopB, sop] at h ⊢
    generalize e x = X0 at h ⊢
    split at h
    · obtain ⟨h1, h2⟩ := okIf_some h
      simp only [Bool.and_eq_true, beq_iff_eq] at h1
      exact ⟨⟨⟨h1.1.1.1.1, h1.1.1.1.2⟩, Nat.le_of_ble_eq_true h1.1.1.2, Nat.le_of_ble_eq_true h1.1.2, neB_ok h1.2⟩, h2⟩
    · cases h; exact ⟨trivial, rfl⟩
    · cases h
  | mkmap => cases h; exact ⟨trivial, rfl⟩
  | mupd x k v =>
    simp only [sopB, sop] at h ⊢
    generalize e x = X0 at h ⊢
    generalize e k = X1 at h ⊢
    split at h
    · split at h
      · rename_i kvs hb
        obtain ⟨h1, h2⟩ := okIf_some h
        simp only [hb]
        exact ⟨h1, h2⟩
      · cases h
    · cases h
  | mks0 sz bytes c =>
    simp only [sopB, sop] at h ⊢
    generalize e c = X0 at h ⊢
    split at h
    · obtain ⟨h1, h2⟩ := okIf_some h
      simp only [Bool.and_eq_true, decide_eq_true_eq] at h1
      simp only [hmu]
      cases mu with
      | true =>
        simp only [if_true] at h2 ⊢
        split at h2
        · rename_i hc; rw [if_pos hc]; exact ⟨⟨h1.1.1, h1.1.2, h1.2⟩, h2⟩
        · rename_i hc; rw [if_neg hc]; exact ⟨⟨h1.1.1, h1.1.2, h1.2⟩, h2⟩
      | false =>
        simp only [Bool.false_eq_true, if_false] at h2 ⊢
        exact ⟨⟨h1.1.1, h1.1.2, h1.2⟩, h2⟩
    · cases h
  | _ => exact gen h rfl

end Go.Abs
