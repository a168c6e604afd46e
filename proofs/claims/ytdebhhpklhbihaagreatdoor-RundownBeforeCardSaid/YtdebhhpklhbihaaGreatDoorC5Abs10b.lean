/-
  OWN WORK. Slices held against nil; bytes made a string; maps; slices that are made empty.
-/
import Derived.Test.YtdebhhpklhbihaaGreatDoorC5Abs10
import Derived.Laws.MakeOwn
import Derived.Laws.BytesString
import Derived.MapKept
namespace Go.Abs
open Go Go.RowKit

section
variable {N : Nat} {w0 : Bas} {ro0 : Nat → Nat → Prop} {γ : G} {w : World} {B : Nat → Option (List AV)} {L : Nat → Option Nat} {P : Program} {o : Oper} {a : Act} {r : AV}
variable {dst : Option Tmp} {ty : TypeId} {pos : String} {after : Array Edge} {guard : Option (Nat × Bool)} {gl : Nat → AV} {orc : Nat → FuncId → List AV → AV} {e : Opd → AV} {m : AM}

theorem RepL.tup' {cs : List AV} {vs : List Value} (h : RepL w γ cs vs) : Rep w γ (.tup cs) (.tuple vs.toArray) := .tup (by simpa using h.1) fun i c v h1 h2 => h.2 i c v h1 (by simpa using h2)

theorem Rep.full_of {rt : Rt} {rows : List (List AV)} {v : Value} (h : Rep w γ (.sl rt rows) v) (hf : fullOf rt = true) : Rep w γ (.sl .full rows) v := by
  cases h with
  | sl b off sz cv hcap hnil ha hsz hc hr hrt =>
    refine .sl b off sz cv hcap hnil ha hsz hc hr ?_
    cases rt with
    | full => exact hrt
    | nil =>
      show _ = _
      have := hnil hrt
      omega
    | _ => simp [fullOf] at hf

theorem run_eqNil {t te : TypeId} {op : BinOp} (hu : P.underlying t = some (.slice te)) {p : Option Addr} {n c : Nat} (hop : op = .eql ∨ op = .neq) : (binOp op t (.slice p n c) (.slice none 0 0)).run P w = .ok (.bool (if op = .eql then p.isNone else !p.isNone)) w := by
  have h : ∀ d, (Op.equalIn (d + 1) t (.slice p n c) (.slice none 0 0)).run P w = .ok p.isNone w := fun d => by
    unfold Op.equalIn
    cases p <;> simp [run_underlying hu]
  have h' : (Op.equal t (.slice p n c) (.slice none 0 0)).run P w = .ok p.isNone w := h 9999
  rcases hop with rfl | rfl <;> simp [binOp, h']

theorem step_nilS (hm : MSim N w0 ro0 γ w B L) {op : BinOp} {t te t' : TypeId} {x y : Operand} (hu : P.underlying t = some (.slice te)) (h1 : Rep w γ (e (opd x)) (a.eval x)) (hc : (rop P gl orc e m dst (trNil op x y)).1) :
    Step N w0 ro0 P ⟨dst, .binOp op t x y t', ty, pos, after, guard⟩ a γ w B L (rop P gl orc e m dst (trNil op x y)).2 := by
  have key : ∀ neg : Bool, (op = .eql ∧ neg = false ∨ op = .neq ∧ neg = true) → y = .const (.slice none 0 0) → (rop P gl orc e m dst (.nilS neg (opd x))).1 → Step N w0 ro0 P ⟨dst, .binOp op t x y t', ty, pos, after, guard⟩ a γ w B L (rop P gl orc e m dst (.nilS neg (opd x))).2 := by
    clear hc
    intro neg hop hy hc
    subst hy
    have hop' : op = .eql ∨ op = .neq := hop.imp And.left And.left
    have run : ∀ p n c, a.eval x = .slice p n c → (execOp a.eval ⟨dst, .binOp op t x (.const (.slice none 0 0)) t', ty, pos, after, guard⟩).run P w = .ok (.value (.bool (if neg then !p.isNone else p.isNone))) w := fun p n c hv => by
      have := run_eqNil (P := P) (w := w) (op := op) hu (p := p) (n := n) (c := c) hop'
      have hcst : a.eval (.const (.slice none 0 0)) = .slice none 0 0 := rfl
      rcases hop with ⟨rfl, rfl⟩ | ⟨rfl, rfl⟩ <;> simp at this <;> simp [execOp, hv, hcst, eqGuard, this]
    simp only [rop] at hc ⊢
    split at hc
    · rename_i rows e1
      rw [e1] at h1
      obtain ⟨a', cap, b, off, sz, cv, hv, _, hrt⟩ := h1.sl_inv
      have : a' = none := hrt
      subst this
      refine step_val hm (run _ _ _ hv) ?_
      cases neg <;> exact .bool _
    · rename_i rows e1
      rw [e1] at h1
      obtain ⟨a', cap, b, off, sz, cv, hv, _, hrt⟩ := h1.sl_inv
      have : a' ≠ none := hrt
      refine step_val hm (run _ _ _ hv) ?_
      cases a' with
      | none => exact absurd rfl this
      | some a' => cases neg <;> exact .bool _
    · rename_i rt row rows hn1 hn2 e1
      rw [e1] at h1
      obtain ⟨a', cap, b, off, sz, cv, hv, s1, hrt⟩ := h1.sl_inv
      have := (s1.at_ (by simp)).1
      subst this
      refine step_val hm (run _ _ _ hv) ?_
      cases neg <;> exact .bool _
    · rename_i id off len sz e1
      rw [e1] at h1
      obtain ⟨b, cap, arr, te', hb, hv, _⟩ := h1.inv_bs
      refine step_val hm (run _ _ _ hv) ?_
      cases neg <;> exact .bool _
    · exact hc.elim
  unfold trNil at hc ⊢
  split at hc
  · exact key false (.inl ⟨rfl, rfl⟩) rfl hc
  · exact key true (.inr ⟨rfl, rfl⟩) rfl hc
  · exact hc.elim

theorem bytes_of : ∀ {rows : List (List AV)} {l : List UInt8}, bytesL rows = some l → ∃ ns : List Int, rows = ns.map (fun n => [.int .u8 n]) ∧ l = ns.map fun n => UInt8.ofNat n.toNat
  | [], l, h => ⟨[], rfl, by simpa [bytesL] using h.symm⟩
  | row :: rows, l, h => by
    simp only [bytesL] at h
    cases hb : byteOf row with
    | none => simp [hb] at h
    | some x =>
      cases hr : bytesL rows with
      | none => simp [hb, hr] at h
      | some l' =>
        simp [hb, hr] at h
        obtain ⟨ns, h1, h2⟩ := bytes_of hr
        unfold byteOf at hb
        split at hb
        · rename_i n
          simp at hb
          exact ⟨n :: ns, by simp [h1], by simp [← h, h2, hb]⟩
        · cases hb

theorem foldl_push (ns : List Int) : ∀ s : ByteArray, ns.foldl (fun r n => r.push (UInt8.ofNat n.toNat)) s = ⟨s.data ++ (ns.map fun n => UInt8.ofNat n.toNat).toArray⟩ := by
  induction ns with
  | nil => intro s; simp
  | cons n ns ih => intro s; rw [List.foldl_cons, ih]; simp [ByteArray.push]

theorem step_b2s (hm : MSim N w0 ro0 γ w B L) {s d te : TypeId} {x : Operand} (hs : P.underlying s = some (.slice te)) (hd : P.underlying d = some .string) (ht : P.underlying te = some (.int .u8)) (h1 : Rep w γ (e (opd x)) (a.eval x)) (hsl : ∃ rt rows, e (opd x) = .sl rt rows) (hc : (rop P gl orc e m dst (.b2s (opd x))).1) :
    Step N w0 ro0 P ⟨dst, .convert s d x, ty, pos, after, guard⟩ a γ w B L (rop P gl orc e m dst (.b2s (opd x))).2 := by
  simp only [rop] at hc ⊢
  split at hc
  case h_3 => exact hc.elim
  case h_2 =>
    rename_i e1
    obtain ⟨rt, rows, e2⟩ := hsl
    rw [e2] at e1; cases e1
  rename_i rt rows e1
  rw [e1] at h1
  try simp only [e1]
  split at hc
  case h_2 => exact hc.elim
  rename_i l hl
  try simp only [hl]
  obtain ⟨ns, rfl, rfl⟩ := bytes_of hl
  obtain ⟨p, cap, b, off, sz, cv, hv, s1, _⟩ := h1.sl_inv
  cases p with
  | none =>
    have h0 : ns = [] := by
      have := s1.hnil rfl
      have h2 := s1.hcap
      simp at h2
      exact List.eq_nil_of_length_eq_zero (by omega)
    subst h0
    refine step_val hm (v := .string ⟨#[]⟩) ?_ (.str _)
    simp [execOp, hv, convert, run_underlying hs, run_underlying hd, run_underlying ht, Conv.bytesToString]
    rfl
  | some p =>
    have hload : (loadCells p ns.length).run P w = .ok (ns.map (Value.int .u8)).toArray w := by
      have := run_loadCells_list (P := P) (w := w) p (ns.map (Value.int .u8)) fun j v hj => ?_
      · simpa using this
      · simp at hj
        obtain ⟨n, hn, rfl⟩ := hj
        have hne : ns.map (fun n => [AV.int .u8 n]) ≠ [] := by rintro h; simp at h; subst h; simp at hn
        obtain ⟨e2, _⟩ := s1.at_ hne
        cases e2
        have hsz1 : sz = 1 := by
          cases ns with
          | nil => simp at hn
          | cons n' ns => have := s1.hsz [.int .u8 n'] (by simp); simpa using this.symm
        subst hsz1
        have hrc : rowCell (ns.map fun n => [AV.int .u8 n]) j 0 = some (.int .u8 n) := by simp [rowCell, hn]
        have c1 := (s1.cell j 0 _ hrc).1
        have c2 := (s1.rep j 0 _ hrc).inv_int
        rw [addr_add]
        rw [c2] at c1
        simpa using c1
    refine step_val hm (v := .string ⟨(ns.map fun n => UInt8.ofNat n.toNat).toArray⟩) ?_ (.str _)
    have hrun := run_bytesToString w p ns.length cap ns hload
    rw [foldl_push] at hrun
    have : (⟨ByteArray.empty.data ++ (ns.map fun n => UInt8.ofNat n.toNat).toArray⟩ : ByteArray) = ⟨(ns.map fun n => UInt8.ofNat n.toNat).toArray⟩ := by
      have : ByteArray.empty.data = #[] := rfl
      rw [this]; simp
    rw [this] at hrun
    simp [execOp, hv, convert, run_underlying hs, run_underlying hd, run_underlying ht, hrun]

/-- How the model finds a key. -/
theorem find_ok {n : Int} : ∀ {kvs : List (Int × AV)} {es : List MapEntry} (i : Nat), kvs.length = es.length → (∀ (j : Nat) (k : Int) (c : AV) (x : MapEntry), kvs[j]? = some (k, c) → es[j]? = some x → x.key = .int .i64 k ∧ Rep w γ c x.val) →
    (kfind n kvs i = none → Instr.findNow (.int .i64) (.int .i64 n) es i = some none) ∧
    (∀ j c, kfind n kvs i = some (j, c) → ∃ v, Instr.findNow (.int .i64) (.int .i64 n) es i = some (some (j, v)) ∧ Rep w γ c v ∧ i ≤ j ∧ j < i + kvs.length ∧ kvs[j - i]? = some (n, c))
  | [], [], i, _, _ => ⟨fun _ => rfl, fun j c h => by cases h⟩
  | [], _ :: _, _, h, _ => by simp at h
  | _ :: _, [], _, h, _ => by simp at h
  | (k, c) :: kvs, x :: es, i, hl, hk => by
    obtain ⟨g1, g2⟩ := hk 0 k c x rfl rfl
    obtain ⟨ih1, ih2⟩ := find_ok (n := n) (kvs := kvs) (es := es) (i + 1) (by simpa using hl) fun j k' c' x' q1 q2 => hk (j + 1) k' c' x' (by simpa using q1) (by simpa using q2)
    by_cases hnk : n = k
    · subst hnk
      have hf : Instr.findNow (.int .i64) (.int .i64 n) (x :: es) i = some (some (i, x.val)) := by simp [Instr.findNow, Instr.sameNow, g1]
      refine ⟨fun h => by simp [kfind] at h, fun j c' h => ?_⟩
      simp [kfind] at h
      obtain ⟨rfl, rfl⟩ := h
      exact ⟨x.val, hf, g2, Nat.le_refl _, by simp, by simp⟩
    · have hnk' : (n == k) = false := by simpa using hnk
      have hf : Instr.findNow (.int .i64) (.int .i64 n) (x :: es) i = Instr.findNow (.int .i64) (.int .i64 n) es (i + 1) := by simp [Instr.findNow, Instr.sameNow, g1, hnk']
      rw [hf]
      simp only [kfind, if_neg hnk]
      refine ⟨ih1, fun j c' h => ?_⟩
      obtain ⟨v, q1, q2, q3, q4, q5⟩ := ih2 j c' h
      refine ⟨v, q1, q2, by omega, by simp; omega, ?_⟩
      rw [show j - i = (j - (i + 1)) + 1 by omega]
      simpa using q5

theorem mapT_spec {t v : TypeId} {z : AV} (h : mapT P t = some (v, z)) : ∃ k i zv, P.underlying t = some (.map k v) ∧ P.underlying k = some (.int .i64) ∧ P.info? v = some i ∧ i.zero = some zv ∧ z = ofVal zv := by
  unfold mapT at h
  split at h
  case h_2 => cases h
  rename_i k v' hu
  split at h
  case h_2 => cases h
  rename_i i hk hi
  cases hz : i.zero with
  | none => simp [hz] at h
  | some zv =>
    simp [hz] at h
    obtain ⟨rfl, rfl⟩ := h
    exact ⟨k, i, zv, hu, hk, hi, hz, rfl⟩

theorem run_checkKey {b : Bool} {k : TypeId} {n : Int} (hk : P.underlying k = some (.int .i64)) : (Instr.checkKey b 10000 k (.int .i64 n)).run P w = .ok () w := by
  have h : ∀ d, (Instr.checkKey b (d + 1) k (.int .i64 n)).run P w = .ok () w := fun d => by
    unfold Instr.checkKey
    simp [run_underlying hk]
  exact h 9999

theorem step_look (hm : MSim N w0 ro0 γ w B L) (hB : ∀ id cells, m.boxes[id]? = some cells → B id = some cells) {t v : TypeId} {z : AV} {x k : Operand} {ok : Bool} (ht : mapT P t = some (v, z)) (h1 : Rep w γ (e (opd x)) (a.eval x)) (h2 : Rep w γ (e (opd k)) (a.eval k))
    (hc : (rop P gl orc e m dst (.look ok z (opd x) (opd k))).1) :
    Step N w0 ro0 P ⟨dst, .lookup t x k ok, ty, pos, after, guard⟩ a γ w B L (rop P gl orc e m dst (.look ok z (opd x) (opd k))).2 := by
  simp only [rop] at hc ⊢
  split at hc
  case h_2 => exact hc.elim
  rename_i id n e1 e2
  rw [e1] at h1
  rw [e2] at h2
  try simp only [e1, e2]
  split at hc
  case h_2 => exact hc.elim
  rename_i kvs hbox
  try simp only [hbox]
  obtain ⟨kt, i, zv, hu, hk, hi, hz, rfl⟩ := mapT_spec ht
  obtain ⟨b, hb, hv⟩ : ∃ b, γ.mm id = some b ∧ a.eval x = .map (some b) := by
    generalize a.eval x = vx at h1
    cases h1 with
    | mp h => exact ⟨_, h, rfl⟩
  obtain ⟨_, _, _, _, _, _, _, kvs', es, clock, q1, q2, q3, q4⟩ := hm.mm id b hb
  have hBid : B id = some [.mobj kvs] := hB id _ (by
    cases hh : m.boxes[id]? with
    | none => simp [List.getD, hh] at hbox
    | some c => simp [List.getD, hh] at hbox; rw [hbox])
  rw [hBid] at q1
  cases q1
  obtain ⟨f1, f2⟩ := find_ok (w := w) (γ := γ) (n := n) (kvs := kvs) (es := es.toList) 0 (by simpa using q3) fun j k' c x' g1 g2 => q4 j k' c x' g1 (by simpa using g2)
  have hget := MapKept.run_getObj_map (P := P) q2
  have hck : ∀ b, (Instr.checkKey b 10000 kt (.int .i64 n)).run P w = .ok () w := fun b => run_checkKey hk
  cases hf : kfind n kvs 0 with
  | none =>
    have hfk := MapKept.run_findKey (P := P) (w := w) hk (f1 hf)
    have hrun : (execOp a.eval ⟨dst, .lookup t x k ok, ty, pos, after, guard⟩).run P w = .ok (.value (if ok then .tuple #[zv, .bool false] else zv)) w := by
      simp [execOp, Instr.lookup, run_underlying hu, hv, h2.inv_int, hget, hck, hfk, zeroValue, typeInfo, hi, hz]
    refine step_val hm hrun ?_
    cases ok
    · exact rep_ofVal w γ zv
    · exact (RepL.cons (rep_ofVal w γ zv) (RepL.cons (.bool false) RepL.nil)).tup'
  | some p =>
    obtain ⟨j, c⟩ := p
    obtain ⟨vv, g1, g2, _⟩ := f2 j c hf
    have hfk := MapKept.run_findKey (P := P) (w := w) hk g1
    have hrun : (execOp a.eval ⟨dst, .lookup t x k ok, ty, pos, after, guard⟩).run P w = .ok (.value (if ok then .tuple #[vv, .bool true] else vv)) w := by
      simp [execOp, Instr.lookup, run_underlying hu, hv, h2.inv_int, hget, hck, hfk]
    refine step_val hm hrun ?_
    cases ok
    · exact g2
    · exact (RepL.cons g2 (RepL.cons (.bool true) RepL.nil)).tup'
end
end Go.Abs
