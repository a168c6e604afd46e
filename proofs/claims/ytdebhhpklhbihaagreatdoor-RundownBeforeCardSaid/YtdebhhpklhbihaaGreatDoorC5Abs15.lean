/-
  OWN WORK. The rules by which the conditions are computed.
-/
import Derived.Test.YtdebhhpklhbihaaGreatDoorC5Abs14
namespace Go.Abs
open Go Go.RowKit

/-- An equation that is taken as a proof, not by computation. -/
theorem nd {α : Type} {a b : α} (h : a = b) : a = b := h

section
variable (P : Program) (gl : Nat → AV) (orc : Nat → FuncId → List AV → AV) (Y : YT) (s : AS) (Q : Exit → AS → Prop)
@[simp] theorem vc_skip : vc P gl orc Y .skip s Q = Q .normal s := nd rfl
@[simp] theorem vc_ops (l : List SO) : vc P gl orc Y (.ops l) s Q = vcOps P gl orc Y l s (Q .normal) := nd rfl
@[simp] theorem vc_seq (a b : SC) : vc P gl orc Y (.seq a b) s Q = vc P gl orc Y a s (Qseq (vc P gl orc Y b) Q) := nd rfl
@[simp] theorem vc_cond (x : Opd) (a b : SC) : vc P gl orc Y (.cond x a b) s Q = match ev gl s.T x with | .bool t => (t = true → vc P gl orc Y a s Q) ∧ (t = false → vc P gl orc Y b s Q) | _ => False := nd rfl
@[simp] theorem vc_block (id : Nat) (c : SC) : vc P gl orc Y (.block id c) s Q = vc P gl orc Y c s (Qblock id Q) := nd rfl
@[simp] theorem vc_exit (id : Nat) : vc P gl orc Y (.exit id) s Q = Q (.exit id) s := nd rfl
@[simp] theorem vc_scope (c : SC) : vc P gl orc Y (.scope c) s Q = vc P gl orc Y c s (Qscope Q) := nd rfl
@[simp] theorem vc_ret : vc P gl orc Y .ret s Q = Q .ret s := nd rfl
@[simp] theorem vc_bad : vc P gl orc Y .bad s Q = False := nd rfl
theorem vc_loop {c : SC} (I : AS → Prop) (μ : AS → Nat) (h0 : I s) (hr : ∀ s', I s' → vc P gl orc Y c s' (Qround I μ s' Q)) : vc P gl orc Y (.loop c) s Q := ⟨I, μ, h0, hr⟩

variable (k : AS → (Exit → AS → Prop) → Prop) (id id' : Nat) (I : AS → Prop) (μ : AS → Nat) (s0 : AS)
@[simp] theorem Qseq_normal : Qseq k Q .normal s = k s Q := nd rfl
@[simp] theorem Qseq_exit : Qseq k Q (.exit id) s = Q (.exit id) s := nd rfl
@[simp] theorem Qseq_ret : Qseq k Q .ret s = Q .ret s := nd rfl
@[simp] theorem Qblock_normal : Qblock id Q .normal s = Q .normal s := nd rfl
@[simp] theorem Qblock_exit : Qblock id Q (.exit id') s = if id' = id then Q .normal s else Q (.exit id') s := nd rfl
@[simp] theorem Qblock_ret : Qblock id Q .ret s = Q .ret s := nd rfl
@[simp] theorem Qscope_normal : Qscope Q .normal s = Q .normal s := nd rfl
@[simp] theorem Qscope_exit : Qscope Q (.exit id) s = Q (.exit id) s := nd rfl
@[simp] theorem Qscope_ret : Qscope Q .ret s = Q .ret s := nd rfl
@[simp] theorem Qround_normal : Qround I μ s0 Q .normal s = (I s ∧ μ s < μ s0) := nd rfl
@[simp] theorem Qround_exit : Qround I μ s0 Q (.exit id) s = Q (.exit id) s := nd rfl
@[simp] theorem Qround_ret : Qround I μ s0 Q .ret s = Q .ret s := nd rfl
end

@[simp] theorem vc_draw (P : Program) (gl : Nat → AV) (orc : Nat → FuncId → List AV → AV) (Y : YT) (s : AS) (Q : Exit → AS → Prop) (l l2 : List SO) : vc P gl orc Y (.draw l l2) s Q = vcD P gl orc Y l2 (Q .normal) l s.T s.m [] := nd rfl

/-- A loop that writes the slots W: what holds of what they hold. -/
def setW (T : List AV) (f : Nat → AV) : List Nat → List AV
  | [] => T
  | i :: W => setW (T.set i (f i)) f W

theorem set_getD (T : List AV) (i : Nat) : T.set i (T.getD i .junk) = T := by
  rcases Nat.lt_or_ge i T.length with h | h
  · apply List.ext_getElem (by simp)
    intro n h1 h2
    rw [List.getElem_set]
    split
    · rename_i e; subst e; simp [List.getD, h]
    · rfl
  · rw [List.set_eq_of_length_le h]

theorem setW_id (T : List AV) : ∀ W, setW T (fun i => T.getD i .junk) W = T
  | [] => rfl
  | i :: W => by rw [setW, set_getD]; exact setW_id T W

def QroundW (T : List AV) (W : List Nat) (R : (Nat → AV) → AM → Prop) (μ : (Nat → AV) → AM → Nat) (f : Nat → AV) (m : AM) (Q : Exit → AS → Prop) : Exit → AS → Prop
  | .normal, s' => s'.T = setW T (fun i => s'.T.getD i .junk) W ∧ R (fun i => s'.T.getD i .junk) s'.m ∧ μ (fun i => s'.T.getD i .junk) s'.m < μ f m
  | ex, s' => Q ex s'

theorem vc_loopW {P : Program} {gl : Nat → AV} {orc : Nat → FuncId → List AV → AV} {Y : YT} {s : AS} {Q : Exit → AS → Prop} {c : SC} (W : List Nat) (R : (Nat → AV) → AM → Prop) (μ : (Nat → AV) → AM → Nat) (h0 : R (fun i => s.T.getD i .junk) s.m)
    (hr : ∀ f m, R f m → vc P gl orc Y c ⟨setW s.T f W, m⟩ (QroundW s.T W R μ f m Q)) : vc P gl orc Y (.loop c) s Q := by
  refine vc_loop P gl orc Y s Q (fun s' => s'.T = setW s.T (fun i => s'.T.getD i .junk) W ∧ R (fun i => s'.T.getD i .junk) s'.m) (fun s' => μ (fun i => s'.T.getD i .junk) s'.m) ⟨(setW_id s.T W).symm, h0⟩ ?_
  rintro ⟨T', m'⟩ ⟨h1, h2⟩
  have := hr _ m' h2
  rw [← h1] at this
  have e : QroundW s.T W R μ (fun i => T'.getD i .junk) m' Q = Qround (fun s' => s'.T = setW s.T (fun i => s'.T.getD i .junk) W ∧ R (fun i => s'.T.getD i .junk) s'.m) (fun s' => μ (fun i => s'.T.getD i .junk) s'.m) ⟨T', m'⟩ Q := by
    funext ex s'
    cases ex <;> simp [QroundW, Qround, and_assoc]
  rwa [e] at this

section
variable (T : List AV) (W : List Nat) (R : (Nat → AV) → AM → Prop) (μ : (Nat → AV) → AM → Nat) (f : Nat → AV) (m : AM) (Q : Exit → AS → Prop) (s : AS) (id : Nat)
@[simp] theorem QroundW_normal : QroundW T W R μ f m Q .normal s = (s.T = setW T (fun i => s.T.getD i .junk) W ∧ R (fun i => s.T.getD i .junk) s.m ∧ μ (fun i => s.T.getD i .junk) s.m < μ f m) := nd rfl
@[simp] theorem QroundW_exit : QroundW T W R μ f m Q (.exit id) s = Q (.exit id) s := nd rfl
@[simp] theorem QroundW_ret : QroundW T W R μ f m Q .ret s = Q .ret s := nd rfl
end

/-- Own readers of lists, so that evaluation stays plain. -/
def nth (l : List AV) (n : Nat) : AV := l.getD n .junk
def rowN (l : List (List AV)) (n : Nat) : List AV := l.getD n []
@[simp high] theorem getD_nth (l : List AV) (n : Nat) : l.getD n .junk = nth l n := rfl
@[simp high] theorem getD_rowN (l : List (List AV)) (n : Nat) : l.getD n [] = rowN l n := rfl
@[simp] theorem nth_nil (n : Nat) : nth [] n = .junk := rfl
@[simp] theorem nth_zero (a : AV) (l : List AV) : nth (a :: l) 0 = a := rfl
@[simp] theorem nth_succ (a : AV) (l : List AV) (n : Nat) : nth (a :: l) (n + 1) = nth l n := rfl
@[simp] theorem rowN_nil (n : Nat) : rowN [] n = [] := rfl
@[simp] theorem rowN_zero (a : List AV) (l : List (List AV)) : rowN (a :: l) 0 = a := rfl
@[simp] theorem rowN_succ (a : List AV) (l : List (List AV)) (n : Nat) : rowN (a :: l) (n + 1) = rowN l n := rfl
@[simp] theorem rowN_len (l l' : List (List AV)) : rowN (l ++ l') l.length = rowN l' 0 := by simp [rowN, List.getD_eq_getElem?_getD, -getD_rowN, List.getElem?_append_right]
@[simp] theorem rowN_len_add (l l' : List (List AV)) (k : Nat) : rowN (l ++ l') (l.length + k) = rowN l' k := by simp [rowN, List.getD_eq_getElem?_getD, -getD_rowN, List.getElem?_append_right]
@[simp] theorem set_len (l l' : List (List AV)) (x : List AV) : (l ++ l').set l.length x = l ++ l'.set 0 x := by simp [List.set_append_right]
@[simp] theorem set_len_add (l l' : List (List AV)) (k : Nat) (x : List AV) : (l ++ l').set (l.length + k) x = l ++ l'.set k x := by simp [List.set_append_right]
theorem rowN_eq {l : List (List AV)} {n : Nat} {x : List AV} (h : l[n]? = some x) : rowN l n = x := by simp [rowN, List.getD_eq_getElem?_getD, -getD_rowN, h]
theorem nth_eq {l : List AV} {n : Nat} {x : AV} (h : l[n]? = some x) : nth l n = x := by simp [nth, List.getD_eq_getElem?_getD, -getD_nth, h]

/-- The number in a slot. -/
def numOf : AV → Int
  | .int _ n => n
  | _ => 0
@[simp] theorem numOf_int (k : IntKind) (n : Int) : numOf (.int k n) = n := rfl

@[simp] theorem fullOf_full : fullOf .full = true := rfl
@[simp] theorem fullOf_nil : fullOf .nil = true := rfl
@[simp] theorem fullOf_ro : fullOf .ro = false := rfl
@[simp] theorem fullOf_nn : fullOf .nn = false := rfl
@[simp] theorem fullOf_own (i s : Nat) : fullOf (.own i s) = false := rfl

@[simp] theorem chunk_zero (sz : Nat) (l : List AV) : chunk sz 0 l = [] := rfl
@[simp] theorem chunk_succ (sz n : Nat) (l : List AV) : chunk sz (n + 1) l = l.take sz :: chunk sz n (l.drop sz) := rfl
@[simp] theorem bytesL_nil : bytesL [] = some [] := rfl
@[simp] theorem bytesL_cons (n : Int) (r : List (List AV)) : bytesL ([.int .u8 n] :: r) = (match bytesL r with | some l => some (UInt8.ofNat n.toNat :: l) | _ => none) := by
  simp only [bytesL, byteOf]
  cases bytesL r <;> rfl
@[simp] theorem asB_bool (b : Bool) : asB (.bool b) = some (true, b) := rfl
@[simp] theorem isB_bool (b : Bool) : isB (.bool b) = true := rfl
@[simp] theorem bOf_bool (b : Bool) : bOf (.bool b) = b := rfl
@[simp] theorem asB_gdF (a : AV) : asB (.gd false a) = some (false, bOf a) := rfl
@[simp] theorem asB_gdT (a : AV) : asB (.gd true a) = some (isB a, bOf a) := rfl
@[simp] theorem asB_gd (g b : Bool) : asB (.gd g (.bool b)) = some (g, b) := by cases g <;> rfl

@[simp] theorem gvw_bool (want g : Bool) : gvw want (.bool g) = some (g == want) := rfl
@[simp] theorem gvw_gd (want d b : Bool) : gvw want (.gd d (.bool b)) = some (d && (b == want)) := rfl
@[simp] theorem gvw_gdF (want : Bool) (a : AV) : gvw want (.gd false a) = some false := by cases a <;> rfl

@[simp] theorem evS_tmp (gl : Nat → AV) (T : List AV) (t : Nat) : evS gl T (.tmp t) = strip (nth T t) := rfl
@[simp] theorem evS_const (gl : Nat → AV) (T : List AV) (a : AV) : evS gl T (.const a) = strip a := rfl
@[simp] theorem evS_func (gl : Nat → AV) (T : List AV) (f : FuncId) : evS gl T (.func f) = .fn f [] [] := rfl
@[simp] theorem evS_glob (gl : Nat → AV) (T : List AV) (g : Nat) : evS gl T (.glob g) = strip (gl g) := rfl

section
variable (P : Program) (gl : Nat → AV) (orc : Nat → FuncId → List AV → AV) (Y : YT) (K : AS → Prop) (r : List SO) (T : List AV) (m : AM) (d : Option Nat) (op : SOp) (xs : List Opd) (s : AS)
@[simp] theorem vcOps_nil : vcOps P gl orc Y [] s K = K s := nd rfl
@[simp] theorem vcOps_none : vcOps P gl orc Y (⟨d, op, none, xs⟩ :: r) s K = (if effy orc (ev gl s.T) s.m d op = true then vcEff P gl Y (ev gl s.T) s.m (fun av m' => vcOps P gl orc Y r ⟨put s.T d av, m'⟩ K) op
      else (sop P gl orc (ev gl s.T) s.m d op).1 ∧ vcOps P gl orc Y r ⟨put s.T d (sop P gl orc (ev gl s.T) s.m d op).2.1, (sop P gl orc (ev gl s.T) s.m d op).2.2⟩ K) := nd rfl
@[simp] theorem vcOps_some (t : Nat) (want : Bool) : vcOps P gl orc Y (⟨d, op, some (some t, want), xs⟩ :: r) s K = (match gvw want (s.T.getD t .junk) with
      | some gw => gok gl s.T gw (gxs op xs) ∧
          if effy orc (evG gl s.T op) s.m d op = true then
            (gw = true → vcEff P gl Y (evG gl s.T op) s.m (fun av m' => vcOps P gl orc Y r ⟨put s.T d (.gd true av), m'⟩ K) op) ∧ (gw = false → vcOps P gl orc Y r ⟨put s.T d (.gd false (.bool false)), s.m⟩ K)
          else (gw = true → (rop P gl orc (evG gl s.T op) s.m d op).1) ∧
            vcOps P gl orc Y r ⟨put s.T d (.gd gw (rop P gl orc (evG gl s.T op) s.m d op).2), s.m⟩ K
      | none => False) := nd rfl
variable (l2 : List SO) (nb : List (List AV)) (o : SO)
@[simp] theorem vcD_nil : vcD P gl orc Y l2 K [] T m nb = vcOps P gl orc Y l2 ⟨T, { m with boxes := m.boxes ++ nb }⟩ K := nd rfl
@[simp] theorem vcD_cons : vcD P gl orc Y l2 K (o :: r) T m nb = ((dop P gl orc o T m nb).1 ∧ vcD P gl orc Y l2 K r (put T o.dst (dop P gl orc o T m nb).2.1) m (dop P gl orc o T m nb).2.2) := nd rfl
end

attribute [simp] rawOp evG gxs effy vcEff callV dop ev retL oneOf strip gok setA fillA sop rop binV binI binS binBool cutCells kindF eqF kindFs eqFs loOf hiOf lenS cellsS mutO

theorem fills_one (n : Nat) (a : AV) : fills n [a] = List.replicate n a := by
  induction n with
  | zero => rfl
  | succ n ih => rw [fills, ih]; rfl

@[simp] theorem post_normal (P : Program) (gl : Nat → AV) (orc : Nat → FuncId → List AV → AV) (rs : List SOp) (r : AV) (s : AS) : post P gl orc rs r .normal s = ((retL P gl orc s rs).1 ∧ cvn s.m 6 (oneOf (retL P gl orc s rs).2) = r) := rfl
@[simp] theorem post_ret (P : Program) (gl : Nat → AV) (orc : Nat → FuncId → List AV → AV) (rs : List SOp) (r : AV) (s : AS) : post P gl orc rs r .ret s = ((retL P gl orc s rs).1 ∧ cvn s.m 6 (oneOf (retL P gl orc s rs).2) = r) := rfl

@[simp] theorem postE_normal (P : Program) (gl : Nat → AV) (orc : Nat → FuncId → List AV → AV) (rs : List SOp) (K : AV → AM → Prop) (s : AS) : postE P gl orc rs K .normal s = ((retL P gl orc s rs).1 ∧ K (oneOf (retL P gl orc s rs).2) s.m) := rfl
@[simp] theorem postE_ret (P : Program) (gl : Nat → AV) (orc : Nat → FuncId → List AV → AV) (rs : List SOp) (K : AV → AM → Prop) (s : AS) : postE P gl orc rs K .ret s = ((retL P gl orc s rs).1 ∧ K (oneOf (retL P gl orc s rs).2) s.m) := rfl

section
variable (m : AM) (d : Nat)
@[simp] theorem isCell_bool (b : Bool) : isCell (.bool b) = true := rfl
@[simp] theorem isCell_int (k : IntKind) (n : Int) : isCell (.int k n) = true := rfl
@[simp] theorem isCell_str (s : ByteArray) : isCell (.str s) = true := rfl
@[simp] theorem isCell_sl (rt : Rt) (r : List (List AV)) : isCell (.sl rt r) = true := rfl
@[simp] theorem isCell_ep (r : List AV) (o : Nat) : isCell (.ep r o) = true := rfl
@[simp] theorem isCell_ptr (i o : Nat) : isCell (.ptr i o) = true := rfl
@[simp] theorem isCell_bs (i o n z : Nat) : isCell (.bs i o n z) = true := rfl
@[simp] theorem isCell_fn (f : FuncId) (a b : List AV) : isCell (.fn f a b) = true := rfl
@[simp] theorem isCell_nilv (p : Bool) : isCell (.nilv p) = true := rfl
@[simp] theorem isCell_nilfn : isCell .nilfn = true := rfl
@[simp] theorem isCell_yld (l : Nat) : isCell (.yld l) = true := rfl
@[simp] theorem isCell_mp (i : Nat) : isCell (.mp i) = true := rfl
@[simp] theorem isCell_mobj (l : List (Int × AV)) : isCell (.mobj l) = false := rfl
@[simp] theorem isCell_junk : isCell .junk = false := rfl
@[simp] theorem isCell_agg (cs : List AV) : isCell (.agg cs) = false := rfl
@[simp] theorem isCell_tup (cs : List AV) : isCell (.tup cs) = false := rfl
@[simp] theorem isCell_gd (g : Bool) (a : AV) : isCell (.gd g a) = false := rfl

@[simp] theorem bare_bool (b : Bool) : bare (.bool b) = true := rfl
@[simp] theorem bare_int (k : IntKind) (n : Int) : bare (.int k n) = true := rfl
@[simp] theorem bare_str (s : ByteArray) : bare (.str s) = true := rfl
@[simp] theorem bare_sl (rt : Rt) (r : List (List AV)) : bare (.sl rt r) = true := rfl
@[simp] theorem bare_ep (r : List AV) (o : Nat) : bare (.ep r o) = true := rfl
@[simp] theorem bare_ptr (i o : Nat) : bare (.ptr i o) = true := rfl
@[simp] theorem bare_bs (i o n z : Nat) : bare (.bs i o n z) = true := rfl
@[simp] theorem bare_fn (f : FuncId) (a b : List AV) : bare (.fn f a b) = true := rfl
@[simp] theorem bare_nilv (p : Bool) : bare (.nilv p) = true := rfl
@[simp] theorem bare_nilfn : bare .nilfn = true := rfl
@[simp] theorem bare_yld (l : Nat) : bare (.yld l) = true := rfl
@[simp] theorem bare_mp (i : Nat) : bare (.mp i) = true := rfl
@[simp] theorem bare_mobj (l : List (Int × AV)) : bare (.mobj l) = false := rfl
@[simp] theorem bare_agg (cs : List AV) : bare (.agg cs) = true := rfl
@[simp] theorem bare_junk : bare .junk = false := rfl
@[simp] theorem bare_tup (cs : List AV) : bare (.tup cs) = false := rfl
@[simp] theorem bare_gd (g : Bool) (a : AV) : bare (.gd g a) = false := rfl
theorem bare_of_isCell {a : AV} (h : isCell a = true) : bare a = true := by cases a <;> simp at h ⊢

@[simp] theorem cellsOf_bool (b : Bool) : cellsOf (.bool b) = [.bool b] := rfl
@[simp] theorem cellsOf_int (k : IntKind) (n : Int) : cellsOf (.int k n) = [.int k n] := rfl
@[simp] theorem cellsOf_str (s : ByteArray) : cellsOf (.str s) = [.str s] := rfl
@[simp] theorem cellsOf_sl (rt : Rt) (r : List (List AV)) : cellsOf (.sl rt r) = [.sl rt r] := rfl
@[simp] theorem cellsOf_ep (r : List AV) (o : Nat) : cellsOf (.ep r o) = [.ep r o] := rfl
@[simp] theorem cellsOf_ptr (i o : Nat) : cellsOf (.ptr i o) = [.ptr i o] := rfl
@[simp] theorem cellsOf_bs (i o n z : Nat) : cellsOf (.bs i o n z) = [.bs i o n z] := rfl
@[simp] theorem cellsOf_fn (f : FuncId) (a b : List AV) : cellsOf (.fn f a b) = [.fn f a b] := rfl
@[simp] theorem cellsOf_nilv (p : Bool) : cellsOf (.nilv p) = [.nilv p] := rfl
@[simp] theorem cellsOf_nilfn : cellsOf .nilfn = [.nilfn] := rfl
@[simp] theorem cellsOf_yld (l : Nat) : cellsOf (.yld l) = [.yld l] := rfl
@[simp] theorem cellsOf_mp (i : Nat) : cellsOf (.mp i) = [.mp i] := rfl
@[simp] theorem cellsOf_agg (cs : List AV) : cellsOf (.agg cs) = cs := rfl
theorem cellsOf_cell {a : AV} (h : isCell a = true) : cellsOf a = [a] := by cases a <;> simp at h ⊢

@[simp] theorem cvn_bool (b : Bool) : cvn m (d + 1) (.bool b) = .bool b := rfl
@[simp] theorem cvn_int (k : IntKind) (n : Int) : cvn m (d + 1) (.int k n) = .int k n := rfl
@[simp] theorem cvn_str (s : ByteArray) : cvn m (d + 1) (.str s) = .str s := rfl
@[simp] theorem cvn_nilv (p : Bool) : cvn m (d + 1) (.nilv p) = .nilv p := rfl
@[simp] theorem cvn_nilfn : cvn m (d + 1) .nilfn = .nilfn := rfl
@[simp] theorem cvn_yld (l : Nat) : cvn m (d + 1) (.yld l) = .junk := rfl
@[simp] theorem cvn_mp (i : Nat) : cvn m (d + 1) (.mp i) = .junk := rfl
@[simp] theorem cvn_junk : cvn m (d + 1) .junk = .junk := rfl
@[simp] theorem cvn_agg (cs : List AV) : cvn m (d + 1) (.agg cs) = .agg (cs.map (cvn m d)) := rfl
@[simp] theorem cvn_tup (cs : List AV) : cvn m (d + 1) (.tup cs) = .tup (cs.map (cvn m d)) := rfl
@[simp] theorem cvn_fn (f : FuncId) (a b : List AV) : cvn m (d + 1) (.fn f a b) = .fn f (a.map (cvn m d)) (b.map (cvn m d)) := rfl
@[simp] theorem cvn_ro (r : List (List AV)) : cvn m (d + 1) (.sl .ro r) = .sl .ro r := rfl
@[simp] theorem cvn_full (r : List (List AV)) : cvn m (d + 1) (.sl .full r) = .sl .full r := rfl
@[simp] theorem cvn_nil (r : List (List AV)) : cvn m (d + 1) (.sl .nil r) = .sl .nil r := rfl
@[simp] theorem cvn_nn (r : List (List AV)) : cvn m (d + 1) (.sl .nn r) = .sl .nn r := rfl
@[simp] theorem cvn_own (i s : Nat) (r : List (List AV)) : cvn m (d + 1) (.sl (.own i s) r) = .sl .ro r := rfl
@[simp] theorem cvn_ep (r : List AV) (o : Nat) : cvn m (d + 1) (.ep r o) = .ep r o := rfl
@[simp] theorem cvn_bs (i o n z : Nat) : cvn m (d + 1) (.bs i o n z) = if o + n * z ≤ (m.boxes.getD i []).length then .sl .ro (chunk z n (((m.boxes.getD i []).map (cvn m d)).drop o)) else .junk := by
  simp only [cvn]
  cases h : Nat.ble (o + n * z) (m.boxes.getD i []).length with
  | true => rw [if_pos (Nat.le_of_ble_eq_true h)]; rfl
  | false => rw [if_neg (fun h' => by rw [Nat.ble_eq_true_of_le h'] at h; cases h)]; rfl
@[simp] theorem cvn_ptr (i o : Nat) : cvn m (d + 1) (.ptr i o) = .ep ((m.boxes.getD i []).map (cvn m d)) o := rfl

@[simp] theorem hasP_bool (b : Bool) : hasP (d + 1) (.bool b) = false := rfl
@[simp] theorem hasP_int (k : IntKind) (n : Int) : hasP (d + 1) (.int k n) = false := rfl
@[simp] theorem hasP_str (s : ByteArray) : hasP (d + 1) (.str s) = false := rfl
@[simp] theorem hasP_nilv (p : Bool) : hasP (d + 1) (.nilv p) = false := rfl
@[simp] theorem hasP_nilfn : hasP (d + 1) .nilfn = false := rfl
@[simp] theorem hasP_yld (l : Nat) : hasP (d + 1) (.yld l) = false := rfl
@[simp] theorem hasP_mp (i : Nat) : hasP (d + 1) (.mp i) = false := rfl
@[simp] theorem hasP_junk : hasP (d + 1) .junk = false := rfl
@[simp] theorem hasP_agg (cs : List AV) : hasP (d + 1) (.agg cs) = cs.any (hasP d) := rfl
@[simp] theorem hasP_tup (cs : List AV) : hasP (d + 1) (.tup cs) = cs.any (hasP d) := rfl
@[simp] theorem hasP_fn (f : FuncId) (a b : List AV) : hasP (d + 1) (.fn f a b) = (a.any (hasP d) || b.any (hasP d)) := rfl
@[simp] theorem hasP_sl (rt : Rt) (r : List (List AV)) : hasP (d + 1) (.sl rt r) = false := rfl
@[simp] theorem hasP_ep (r : List AV) (o : Nat) : hasP (d + 1) (.ep r o) = false := rfl
@[simp] theorem hasP_bs (i o n z : Nat) : hasP (d + 1) (.bs i o n z) = true := rfl
@[simp] theorem hasP_ptr (i o : Nat) : hasP (d + 1) (.ptr i o) = true := rfl

@[simp] theorem flat_bool (b : Bool) : flat (.bool b) = true := rfl
@[simp] theorem flat_int (k : IntKind) (n : Int) : flat (.int k n) = true := rfl
@[simp] theorem flat_str (s : ByteArray) : flat (.str s) = true := rfl
@[simp] theorem flat1_bool (b : Bool) : flat1 (.bool b) = true := rfl
@[simp] theorem flat1_int (k : IntKind) (n : Int) : flat1 (.int k n) = true := rfl
@[simp] theorem flat1_str (s : ByteArray) : flat1 (.str s) = true := rfl
@[simp] theorem flat_tup (cs : List AV) : flat (.tup cs) = cs.all flat1 := rfl
end

/-- Cells of rows that are read only: nothing of the caller's own memory. -/
def ok1 : AV → Bool
  | .bool _ | .int _ _ | .str _ | .sl .ro _ | .sl .full _ | .sl .nil _ | .sl .nn _ | .nilfn | .ep _ _ => true
  | _ => false
@[simp] theorem ok1_bool (b : Bool) : ok1 (.bool b) = true := rfl
@[simp] theorem ok1_int (k : IntKind) (n : Int) : ok1 (.int k n) = true := rfl
@[simp] theorem ok1_str (s : ByteArray) : ok1 (.str s) = true := rfl
@[simp] theorem ok1_sl (r : List (List AV)) : ok1 (.sl .ro r) = true := rfl
@[simp] theorem ok1_full (r : List (List AV)) : ok1 (.sl .full r) = true := rfl
@[simp] theorem ok1_nil (r : List (List AV)) : ok1 (.sl .nil r) = true := rfl
@[simp] theorem ok1_nn (r : List (List AV)) : ok1 (.sl .nn r) = true := rfl
@[simp] theorem ok1_ep (r : List AV) (o : Nat) : ok1 (.ep r o) = true := rfl
theorem cvn_ok1 (m : AM) (d : Nat) {a : AV} (h : ok1 a = true) : cvn m (d + 1) a = a := by
  cases a <;> simp [ok1] at h ⊢
  rename_i rt rows
  cases rt <;> simp at h ⊢
theorem hasP_ok1 (d : Nat) {a : AV} (h : ok1 a = true) : hasP (d + 1) a = false := by
  cases a <;> simp [ok1] at h ⊢
theorem isCell_ok1 {a : AV} (h : ok1 a = true) : isCell a = true := by
  cases a <;> simp [ok1] at h ⊢

/-- A row of cells that are read only. -/
def okRow (row : List AV) : Bool := row.all ok1
theorem map_okRow (m : AM) (d : Nat) {row : List AV} (h : okRow row = true) : row.map (cvn m (d + 1)) = row := by
  have : row.map (cvn m (d + 1)) = row.map id := List.map_congr_left fun a ha => cvn_ok1 m d (List.all_eq_true.1 h a ha)
  rw [this, List.map_id]
theorem any_okRow (d : Nat) {row : List AV} (h : okRow row = true) : row.any (hasP (d + 1)) = false := by
  rw [List.any_eq_false]; intro a ha; rw [hasP_ok1 d (List.all_eq_true.1 h a ha)]; simp
theorem all_okRow {row : List AV} (h : okRow row = true) : row.all isCell = true := by
  rw [List.all_eq_true]; intro a ha; exact isCell_ok1 (List.all_eq_true.1 h a ha)

/-- int's sums that fit. -/
theorem wrap_in {n : Int} (h1 : -9223372036854775808 ≤ n) (h2 : n ≤ 9223372036854775807) : IntKind.i64.wrap n = n := by
  rw [IntKind.wrap_i64]; omega

/-! ### Loops over functions -/
@[simp] theorem at_boxes (m : AM) (l : Nat) (x : LS) : (m.at_ l x).boxes = m.boxes := rfl
@[simp] theorem at_lens (m : AM) (l : Nat) (x : LS) : (m.at_ l x).lens = m.lens := rfl
@[simp] theorem at_st (m : AM) (l : Nat) (x : LS) : (m.at_ l x).st = upd m.st l x := rfl
@[simp] theorem at_at (m : AM) (l : Nat) (x y : LS) : (m.at_ l x).at_ l y = m.at_ l y := by
  simp only [AM.at_]; congr 1; funext i; simp only [upd]; split <;> rfl
theorem at_gone (m : AM) (l : Nat) (h : m.st l = .gone) : m.at_ l .gone = m := by
  cases m; simp only [AM.at_]; congr 1; funext i; simp only [upd]; split
  · rename_i e; subst e; exact h.symm
  · rfl
@[simp] theorem upd_same (st : Nat → LS) (l : Nat) (x : LS) : upd st l x l = x := by simp [upd]
@[simp] theorem upd_upd (st : Nat → LS) (l : Nat) (x y : LS) : upd (upd st l x) l y = upd st l y := by funext i; simp only [upd]; split <;> rfl
theorem upd_gone (st : Nat → LS) (l : Nat) (h : st l = .gone) : upd st l .gone = st := by
  funext i; simp only [upd]; split
  · rename_i e; subst e; exact h.symm
  · rfl
theorem upd_ne (st : Nat → LS) {l l' : Nat} (x : LS) (h : l' ≠ l) : upd st l x l' = st l' := by simp [upd, h]

/-- Memory that has only become more. -/
def Ext (m m' : AM) : Prop := (∃ bx, m'.boxes = m.boxes ++ bx) ∧ (∃ lx, m'.lens = m.lens ++ lx) ∧ ∀ l, m.st l ≠ .gone → m'.st l = m.st l

theorem Ext.refl (m : AM) : Ext m m := ⟨⟨[], by simp⟩, ⟨[], by simp⟩, fun _ _ => rfl⟩
theorem Ext.trans {m m' m'' : AM} (h : Ext m m') (k : Ext m' m'') : Ext m m'' := by
  obtain ⟨⟨b, h1⟩, ⟨c, h2⟩, h3⟩ := h
  obtain ⟨⟨b', k1⟩, ⟨c', k2⟩, k3⟩ := k
  exact ⟨⟨b ++ b', by rw [k1, h1, List.append_assoc]⟩, ⟨c ++ c', by rw [k2, h2, List.append_assoc]⟩, fun l hl => by rw [k3 l (by rw [h3 l hl]; exact hl), h3 l hl]⟩
theorem Ext.box (m : AM) (b : List (List AV)) : Ext m { m with boxes := m.boxes ++ b } := ⟨⟨b, rfl⟩, ⟨[], by simp⟩, fun _ _ => rfl⟩
theorem Ext.gone {m m' : AM} (h : Ext m m') (l : Nat) : Ext (m.at_ l .gone) (m'.at_ l .gone) :=
  ⟨h.1, h.2.1, fun l' hl' => by
    by_cases e : l' = l
    · subst e; simp at hl'
    · simp only [at_st, upd, e, if_false] at hl' ⊢; exact h.2.2 l' hl'⟩

/-- yield is called with these values, one after the other, until a call says no; in memory that may have become more meanwhile. -/
def Fold (y : List AV → AM → (Bool → AM → Prop) → Prop) (K : AM → Prop) : List (List AV) → AM → Prop
  | [], m => ∀ m', Ext m m' → K m'
  | x :: xs, m => ∀ m', Ext m m' → ∀ K' : Bool → AM → Prop, (∀ m'', Fold y K xs m'' → K' true m'') → (∀ m'', (∀ m3, Ext m'' m3 → K m3) → K' false m'') → y x m' K'

theorem Fold.ext {y : List AV → AM → (Bool → AM → Prop) → Prop} {K : AM → Prop} {xs : List (List AV)} {m m' : AM} (h : Fold y K xs m) (e : Ext m m') : Fold y K xs m' := by
  cases xs with
  | nil => exact fun m2 e2 => h m2 (e.trans e2)
  | cons x xs => exact fun m2 e2 => h m2 (e.trans e2)

/-- THE CONTRACT of an iterator: it yields these values. -/
def Iter (P : Program) (gl : Nat → AV) (f : FuncId) (first cap : List AV) (xs : List (List AV)) : Prop :=
  ∀ (Y : YT) (l : Nat) (m : AM) (K : AM → Prop), Fold (Y l) K xs m → EffY P gl Y f (first ++ [.yld l] ++ cap) m fun _ m' => K m'

/-- The rule of a loop over an iterator. -/
theorem vc_rfunc {P : Program} {gl : Nat → AV} {orc : Nat → FuncId → List AV → AV} {Y : YT} {s : AS} {Q : Exit → AS → Prop} {g : Opd} {ps : List Nat} {asg body : SC} {f : FuncId} {first cap : List AV} {xs : List (List AV)}
    (hg : ev gl s.T g = .fn f first cap) (hit : Iter P gl f first cap xs) (hlen : ∀ x ∈ xs, x.length = ps.length) (I : Nat → AM → Prop) (X : Exit → AM → Prop) (h0 : I 0 s.m)
    (hI : ∀ i m m', I i m → Ext m m' → I i m') (hX : ∀ ex m m', X ex m → Ext m m' → X ex m')
    (hb : ∀ (l i : Nat) (m : AM) (x : List AV), s.m.st l = .gone → m.st l = .ready → I i (m.at_ l .gone) → xs[i]? = some x → ∀ K' : Exit → AS → Prop,
      (∀ s', I (i + 1) (s'.m.at_ l .gone) → K' .normal s') → (∀ s', X .ret (s'.m.at_ l .gone) → K' .ret s') → (∀ id s', X (.exit id) (s'.m.at_ l .gone) → K' (.exit id) s') →
      vc P gl orc Y asg ⟨setPs s.T ps x, m⟩ (Qasg l fun s' => vc P gl orc Y body s' K'))
    (hend : ∀ m, I xs.length m → Q .normal ⟨s.T, m⟩) (hex : ∀ ex m, X ex m → Q ex ⟨s.T, m⟩) : vc P gl orc Y (.rfunc g ps asg body) s Q := by
  simp only [vc, hg]
  intro hl
  generalize hln : s.m.ln = l at hl
  refine hit _ l s.m.begin_ (fun m' => Qend l s.T m' Q (m'.st l)) ?_
  have hrd : ∀ {m m' : AM}, m.st l = .ready → Ext m m' → m'.st l = .ready := fun h e => by rw [e.2.2 l (by rw [h]; simp), h]
  have key : ∀ (n i : Nat) (m : AM), i + n = xs.length → I i (m.at_ l .gone) → m.st l = .ready → Fold (Yin Y l ps.length (fun args m K => vc P gl orc Y asg ⟨setPs s.T ps args, m⟩ (Qasg l fun s' => vc P gl orc Y body s' (Qrnd l K))) l) (fun m' => Qend l s.T m' Q (m'.st l)) (xs.drop i) m := by
    intro n
    induction n with
    | zero =>
      intro i m hi hIm hm
      rw [List.drop_eq_nil_of_le (by omega)]
      intro m' e
      simp only [hrd hm e, Qend]
      obtain rfl : i = xs.length := by omega
      exact hend _ (hI _ _ _ hIm (e.gone l))
    | succ n ih =>
      intro i m hi hIm hm
      have hlt : i < xs.length := by omega
      rw [List.drop_eq_getElem_cons hlt]
      intro m' e K' hT hF
      simp only [Yin, if_true]
      refine ⟨hrd hm e, hlen _ (List.getElem_mem hlt), ?_⟩
      refine hb l i m' xs[i] hl (hrd hm e) (hI _ _ _ hIm (e.gone l)) (List.getElem?_eq_getElem hlt) (Qrnd l K') (fun s' hI' => ?_) (fun s' hQ => ?_) fun id s' hQ => ?_
      · refine hT _ (ih (i + 1) _ (by omega) ?_ (by simp))
        simpa using hI'
      · refine hF _ fun m3 e3 => ?_
        have h3 : m3.st l = .done .ret := by have := e3.2.2 l (by simp); simpa using this
        simp only [h3]
        exact hex _ _ (hX _ _ _ hQ (by have := e3.gone l; simpa using this))
      · refine hF _ fun m3 e3 => ?_
        have h3 : m3.st l = .done (.exit id) := by have := e3.2.2 l (by simp); simpa using this
        simp only [h3]
        exact hex _ _ (hX _ _ _ hQ (by have := e3.gone l; simpa using this))
  have := key xs.length 0 s.m.begin_ (by simp) (hI 0 s.m _ h0 ⟨⟨[], by simp [AM.begin_]⟩, ⟨[], by simp [AM.begin_]⟩, fun l' hl' => by
    have : l' ≠ l := by rintro rfl; exact hl' hl
    simp [AM.begin_, hln, upd, this]⟩) (by simp [AM.begin_, hln])
  simpa using this

attribute [simp] setPs
section
variable (l : Nat) (k : AS → Prop) (s : AS) (id : Nat)
@[simp] theorem Qasg_normal : Qasg l k .normal s = (s.m.st l = .ready ∧ k ⟨s.T, s.m.at_ l .busy⟩) := nd rfl
end

end Go.Abs
