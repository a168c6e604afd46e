/-
  OWN WORK. Structs held against each other; parts of slices and arrays; slices of boxes.
-/
import Derived.Test.YtdebhhpklhbihaaGreatDoorC5Abs10b
import Derived.Laws.StructEq
namespace Go.Abs
open Go Go.RowKit

section
variable {N : Nat} {w0 : Bas} {ro0 : Nat → Nat → Prop} {γ : G} {w : World} {B : Nat → Option (List AV)} {L : Nat → Option Nat} {P : Program} {o : Oper} {a : Act} {r : AV}
variable {dst : Option Tmp} {ty : TypeId} {pos : String} {after : Array Edge} {guard : Option (Nat × Bool)} {gl : Nat → AV} {orc : Nat → FuncId → List AV → AV} {e : Opd → AV} {m : AM}

theorem kindT_spec {t : TypeId} {k : Nat} (h : kindT P t = some k) : (P.underlying t = some .bool ∧ k = 0) ∨ (∃ i, P.underlying t = some (.int i) ∧ k = 1) ∨ (P.underlying t = some .string ∧ k = 2) := by
  unfold kindT at h
  split at h
  · cases h; exact .inl ⟨by assumption, rfl⟩
  · cases h; exact .inr (.inl ⟨_, by assumption, rfl⟩)
  · cases h; exact .inr (.inr ⟨by assumption, rfl⟩)
  · cases h

theorem eqF_run {t : TypeId} {k d : Nat} (hk : kindT P t = some k) {x y : AV} {u v : Value} (hx : Rep w γ x u) (hy : Rep w γ y v) (hf : kindF k x y = true) : (Op.equalIn (d + 1) t u v).run P w = .ok (eqF x y) w := by
  rcases kindT_spec hk with ⟨hu, rfl⟩ | ⟨i, hu, rfl⟩ | ⟨hu, rfl⟩
  · cases x <;> cases y <;> simp [kindF] at hf
    rw [hx.inv_bool, hy.inv_bool]; exact run_equalIn_bool' w d t _ _ hu
  · cases x <;> cases y <;> simp [kindF] at hf
    subst hf
    rw [hx.inv_int, hy.inv_int]; exact run_equalIn_int w d t _ _ _ _ hu
  · cases x <;> cases y <;> simp [kindF] at hf
    rw [hx.inv_str, hy.inv_str]; exact run_equalIn_string w d t _ _ hu

theorem part_run {t : TypeId} {k i : Nat} (hk : kindT P t = some k) {xs : Array Value} {v : Value} (h : xs[i]? = some v) : (part t xs i).run P w = .ok v w := by
  rcases kindT_spec hk with ⟨hu, _⟩ | ⟨_, hu, _⟩ | ⟨hu, _⟩ <;> simp [part, isAgg, run_underlying hu, h]

theorem eqFs_run {d : Nat} {xs ys : Array Value} : ∀ (fs : List Field) (i : Nat) (ks : List Nat) (as bs : List AV), kindsT P fs i = some ks → kindFs ks as bs = true →
    (∀ (j : Nat) (c : AV), as[j]? = some c → ∃ v, xs[i + j]? = some v ∧ Rep w γ c v) → (∀ (j : Nat) (c : AV), bs[j]? = some c → ∃ v, ys[i + j]? = some v ∧ Rep w γ c v) →
    (Op.eqFields (d + 1) xs ys fs).run P w = .ok (eqFs as bs) w
  | [], i, ks, as, bs, hk, hf, _, _ => by
    cases hk
    cases as <;> cases bs <;> simp [kindFs] at hf
    simp [Op.eqFields, eqFs]
  | f :: fs, i, ks, as, bs, hk, hf, hx, hy => by
    simp only [kindsT] at hk
    split at hk
    case h_2 => cases hk
    rename_i k ks' h0 h1 h2
    cases hk
    simp only [Bool.and_eq_true, beq_iff_eq, bne_iff_ne] at h0
    cases as with
    | nil => cases bs <;> simp [kindFs] at hf
    | cons c as =>
      cases bs with
      | nil => simp [kindFs] at hf
      | cons c' bs =>
        simp only [kindFs, Bool.and_eq_true] at hf
        obtain ⟨u, hu1, hu2⟩ := hx 0 c rfl
        obtain ⟨v, hv1, hv2⟩ := hy 0 c' rfl
        have ih := eqFs_run (d := d) (xs := xs) (ys := ys) fs (i + 1) ks' as bs h2 hf.2 (fun j c hj => by have := hx (j + 1) c (by simpa using hj); rwa [show i + 1 + j = i + (j + 1) by omega]) (fun j c hj => by have := hy (j + 1) c (by simpa using hj); rwa [show i + 1 + j = i + (j + 1) by omega])
        have p1 := part_run (w := w) h1 hu1
        have p2 := part_run (w := w) h1 hv1
        have p3 := eqF_run (d := d) h1 hu2 hv2 hf.1
        simp only [Nat.add_zero] at p1 p2
        simp only [Op.eqFields, ne_eq, h0.2, not_false_eq_true, if_true, Sem.run_bind, h0.1, p1, p2, p3, Result.andThen_ok, Sem.run_ite]
        cases hc : eqF c c' <;> simp [eqFs, hc, ih]

theorem step_eqA (hm : MSim N w0 ro0 γ w B L) {op : BinOp} {t t' : TypeId} {fs : Array Field} {x y : Operand} (hu : P.underlying t = some (.struct fs)) (h1 : Rep w γ (e (opd x)) (a.eval x)) (h2 : Rep w γ (e (opd y)) (a.eval y))
    (hc : (rop P gl orc e m dst (trEq P t fs.toList op x y)).1) :
    Step N w0 ro0 P ⟨dst, .binOp op t x y t', ty, pos, after, guard⟩ a γ w B L (rop P gl orc e m dst (trEq P t fs.toList op x y)).2 := by
  have main : ∀ (neg : Bool) (ks : List Nat), kindsT P fs.toList 0 = some ks → (P.stoodInHeld t || P.eqGuardType P.depth t) = false → (op = if neg then .neq else .eql) → (rop P gl orc e m dst (.eqA neg ks (opd x) (opd y))).1 →
      Step N w0 ro0 P ⟨dst, .binOp op t x y t', ty, pos, after, guard⟩ a γ w B L (rop P gl orc e m dst (.eqA neg ks (opd x) (opd y))).2 := by
    clear hc
    intro neg ks hk hg hop hc
    simp only [rop] at hc ⊢
    split at hc
    case h_2 => exact hc.elim
    rename_i xs ys e1 e2
    rw [e1] at h1
    rw [e2] at h2
    try simp only [e1, e2]
    obtain ⟨ax, hv1, r1⟩ := h1.inv_agg
    obtain ⟨ay, hv2, r2⟩ := h2.inv_agg
    simp only [Bool.or_eq_false_iff] at hg
    have hf : P.fieldsOf t = fs := by simp [Program.fieldsOf, hu]
    have hget : ∀ {cs : List AV} {arr : Array Value}, RepL w γ cs arr.toList → ∀ (j : Nat) (c : AV), cs[j]? = some c → ∃ v, arr[0 + j]? = some v ∧ Rep w γ c v := fun {cs arr} hr j c hj => by
      have h0 := (List.getElem?_eq_some_iff.1 hj).1
      have h3 := hr.1
      have hlt : j < arr.size := by simp at h3; omega
      exact ⟨arr[j], by simp [hlt], hr.2 j c _ hj (by simp [hlt])⟩
    have hrun : (Op.equalIn 10000 t (.agg ax) (.agg ay)).run P w = .ok (eqFs xs ys) w := by
      rw [run_equalIn_struct w 9999 t ax ay (by rw [hf]; exact hu) hg.1, hf]
      exact eqFs_run (d := 9998) fs.toList 0 ks xs ys hk hc (hget r1) (hget r2)
    have hgd := run_eqGuard_agg (P := P) w op t x y ax ay hg.2
    cases neg with
    | false =>
      simp at hop
      subst hop
      refine step_val hm (v := .bool (eqFs xs ys)) ?_ (.bool _)
      simp [execOp, hv1, hv2, hgd, run_eql_struct, hrun]
    | true =>
      simp at hop
      subst hop
      refine step_val hm (v := .bool (!(eqFs xs ys))) ?_ (.bool _)
      simp [execOp, hv1, hv2, hgd, run_neq_struct, hrun]
  unfold trEq at hc ⊢
  split at hc
  · rename_i ks h3 h4; exact main false ks h3 h4 rfl hc
  · rename_i ks h3 h4; exact main true ks h3 h4 rfl hc
  · exact hc.elim

theorem run_bounds {isS : Bool} {len cap : Nat} {lo hi : Option Operand} {l h : Int} (hl : loOf ((lo.map opd).map e) = some l) (hh : hiOf len ((hi.map opd).map e) = some h) (h2 : ∀ y ∈ lo, Rep w γ (e (opd y)) (a.eval y)) (h3 : ∀ y ∈ hi, Rep w γ (e (opd y)) (a.eval y))
    (c0 : 0 ≤ l) (c1 : l ≤ h) (c2 : h ≤ len) (c3 : len ≤ cap) : (Instr.sliceBounds isS len cap (lo.map a.eval) (hi.map a.eval) none).run P w = .ok (l.toNat, h.toNat, cap) w := by
  have k1 : lo = none ∧ l = 0 ∨ ∃ y k, lo = some y ∧ a.eval y = .int k l := by
    cases lo with
    | none => simp [loOf] at hl; exact .inl ⟨rfl, hl.symm⟩
    | some y =>
      have := h2 y (by simp)
      simp only [Option.map_some] at hl
      cases he : e (opd y) <;> rw [he] at hl <;> simp [loOf] at hl
      subst hl
      rw [he] at this
      exact .inr ⟨y, _, rfl, this.inv_int⟩
  have k2 : hi = none ∧ h = len ∨ ∃ y k, hi = some y ∧ a.eval y = .int k h := by
    cases hi with
    | none => simp [hiOf] at hh; exact .inl ⟨rfl, hh.symm⟩
    | some y =>
      have := h3 y (by simp)
      simp only [Option.map_some] at hh
      cases he : e (opd y) <;> rw [he] at hh <;> simp [hiOf] at hh
      subst hh
      rw [he] at this
      exact .inr ⟨y, _, rfl, this.inv_int⟩
  have c4 : 0 ≤ h := by omega
  have c5 : h ≤ (cap : Int) := by omega
  have c6 : l ≤ (h.toNat : Int) := by omega
  rcases k1 with ⟨rfl, rfl⟩ | ⟨y, k, rfl, hy⟩ <;> rcases k2 with ⟨rfl, rfl⟩ | ⟨y', k', rfl, hy'⟩
  · simp [Instr.sliceBounds]
  · simp [Instr.sliceBounds, Instr.sliceBound, asIntOf, hy', c4, c5]
  · simp [Instr.sliceBounds, Instr.sliceBound, asIntOf, hy, c0, c1]
  · have c7 : ¬ (max h 0 < l) := by omega
    have c8 : l ≤ max h 0 := by omega
    simp [Instr.sliceBounds, Instr.sliceBound, asIntOf, hy, hy', c0, c4, c5, c8]

theorem rowCell_part {rows : List (List AV)} {l k i j : Nat} {c : AV} (h : rowCell ((rows.drop l).take k) i j = some c) : rowCell rows (l + i) j = some c ∧ i < k := by
  unfold rowCell at *
  rw [List.getElem?_take] at h
  split at h
  · rename_i hi
    rw [List.getElem?_drop] at h
    exact ⟨h, hi⟩
  · simp at h

theorem step_slL (hm : MSim N w0 ro0 γ w B L) {t te : TypeId} {i : TypeInfo} {x : Operand} {lo hi : Option Operand} (hu : P.underlying t = some (.slice te)) (hi' : P.info? te = some i)
    (h1 : Rep w γ (e (opd x)) (a.eval x)) (h2 : ∀ y ∈ lo, Rep w γ (e (opd y)) (a.eval y)) (h3 : ∀ y ∈ hi, Rep w γ (e (opd y)) (a.eval y))
    (hc : (rop P gl orc e m dst (.slL i.size (opd x) (lo.map opd) (hi.map opd))).1) :
    Step N w0 ro0 P ⟨dst, .slice t x lo hi none, ty, pos, after, guard⟩ a γ w B L (rop P gl orc e m dst (.slL i.size (opd x) (lo.map opd) (hi.map opd))).2 := by
  simp only [rop] at hc ⊢
  split at hc
  · rename_i rt rows e1
    rw [e1] at h1
    try simp only [e1]
    split at hc
    case h_2 => exact hc.elim
    rename_i l h hl hh
    try simp only [hl, hh]
    obtain ⟨⟨c0, c1, c2⟩, hsz⟩ := hc
    obtain ⟨p, cap, b, off, sz, cv, hv, s1, _⟩ := h1.sl_inv
    replace s1 := s1.fix (sz := i.size) hsz
    have hb := run_bounds (P := P) (w := w) (a := a) (isS := true) (cap := cap) hl hh h2 h3 c0 c1 c2 s1.hcap
    have hlen : ((rows.drop l.toNat).take (h.toNat - l.toNat)).length = h.toNat - l.toNat := by simp; omega
    have hcap := s1.hcap
    refine step_val hm (v := .slice (if cap = l.toNat then p else p.map (·.add (l.toNat * i.size))) (h.toNat - l.toNat) (cap - l.toNat)) ?_ ?_
    · simp [execOp, Instr.sliceAt, Instr.slice, run_underlying hu, hv, hb, sizeOf, typeInfo, hi']
    · have main : Rep w γ (.sl .ro ((rows.drop l.toNat).take (h.toNat - l.toNat))) (.slice (if cap = l.toNat then p else p.map (·.add (l.toNat * i.size))) ((rows.drop l.toNat).take (h.toNat - l.toNat)).length (cap - l.toNat)) := ?_
      · rw [hlen] at main; exact main
      refine .sl b (off + l.toNat * i.size) i.size (fun k j => cv (l.toNat + k) j) (by rw [hlen]; omega) (fun hn => ?_) (fun hn => ?_) (fun row hr => hsz row (List.mem_of_mem_drop (List.mem_of_mem_take hr))) (fun k j c hk => ?_) (fun k j c hk => ?_) trivial
      · have : p = none := by
          split at hn
          · exact hn
          · simpa using hn
        have := s1.hnil this
        omega
      · have hne : rows ≠ [] := by rintro rfl; simp at hn
        obtain ⟨hp, hlt⟩ := s1.at_ hne
        have hlh : l.toNat < h.toNat := by
          rcases Nat.lt_or_ge l.toNat h.toNat with h' | h'
          · exact h'
          · exact absurd (List.eq_nil_of_length_eq_zero (by rw [hlen]; omega)) hn
        refine ⟨?_, hlt⟩
        rw [if_neg (by omega), hp]
        simp [addr_add]
      · obtain ⟨g1, _⟩ := rowCell_part hk
        obtain ⟨g2, g3, g4⟩ := s1.cell _ j c g1
        rw [Nat.add_mul, ← Nat.add_assoc] at g2 g3
        exact ⟨g2, g3, g4⟩
      · obtain ⟨g1, _⟩ := rowCell_part hk
        exact s1.rep _ j c g1
  · rename_i id off len sz' e1
    rw [e1] at h1
    try simp only [e1]
    split at hc
    case h_2 => exact hc.elim
    rename_i l h hl hh
    try simp only [hl, hh]
    obtain ⟨⟨c0, c1, c2⟩, rfl⟩ := hc
    obtain ⟨b, cap, arr, te', hβ, hv, hle, hblk, hs⟩ := h1.inv_bs
    have hb := run_bounds (P := P) (w := w) (a := a) (isS := true) (cap := cap) hl hh h2 h3 c0 c1 c2 hle
    refine step_val hm (v := .slice (if cap = l.toNat then some ⟨b, off, none⟩ else (some ⟨b, off, none⟩ : Option Addr).map (·.add (l.toNat * i.size))) (h.toNat - l.toNat) (cap - l.toNat)) ?_ ?_
    · simp [execOp, Instr.sliceAt, Instr.slice, run_underlying hu, hv, hb, sizeOf, typeInfo, hi']
    · split
      · rename_i hor
        have ha : (if cap = l.toNat then some (⟨b, off, none⟩ : Addr) else (some ⟨b, off, none⟩ : Option Addr).map (·.add (l.toNat * i.size))) = some ⟨b, off + l.toNat * i.size, none⟩ := by
          rcases hor with h' | h'
          · rw [if_neg (by omega)]; simp [addr_add]
          · subst h'; split <;> simp [addr_add]
        rw [ha]
        refine .bs hβ (by omega) hblk ?_
        have : (l.toNat + (cap - l.toNat)) * i.size = cap * i.size := by congr 1; omega
        rw [Nat.add_mul] at this
        omega
      · have hz : h.toNat - l.toNat = 0 := by omega
        rw [hz]
        have : Rep w γ (.sl .nn []) (.slice (if cap = l.toNat then some (⟨b, off, none⟩ : Addr) else (some ⟨b, off, none⟩ : Option Addr).map (·.add (l.toNat * i.size))) ([] : List (List AV)).length (cap - l.toNat)) :=
          .sl b off i.size (fun _ _ => undef) (Nat.zero_le _) (fun hn => by split at hn <;> simp at hn) (fun hn => absurd rfl hn) (fun _ h => by cases h) (fun i j c h => by simp [rowCell] at h) (fun i j c h => by simp [rowCell] at h) (by
            show _ ≠ none
            split <;> simp)
        exact this
  · exact hc.elim

/-- What a box holds, in its block. -/
theorem box_cell (hm : MSim N w0 ro0 γ w B L) (hB : ∀ id cells, m.boxes[id]? = some cells → B id = some cells) {id b : Nat} (hb : γ.β id = some b) {arr : Array Value} {te : TypeId} (hh : w.heap[b]? = some (.cells arr te (0, 0))) {k : Nat} {c : AV}
    (hk : (m.boxes.getD id [])[k]? = some c) : ∃ u, arr[k]? = some u ∧ Rep w γ c u ∧ u.oneCell' = true := by
  cases hmb : m.boxes[id]? with
  | none => simp [List.getD, hmb] at hk
  | some cells =>
    have : m.boxes.getD id [] = cells := by simp [List.getD, hmb]
    rw [this] at hk
    obtain ⟨arr', e', g2, g3, g4⟩ := hm.box id cells b (hB id cells hmb) hb
    rw [hh] at g2
    cases g2
    have h1 := (List.getElem?_eq_some_iff.1 hk).1
    have h2 := g3.1
    have hlt' : k < arr.size := by simp at h2; omega
    exact ⟨arr[k], Array.getElem?_eq_getElem hlt', g3.2 _ c _ hk (by simp [hlt']), g4 _ (by simp)⟩

theorem box_size (hm : MSim N w0 ro0 γ w B L) (hB : ∀ id cells, m.boxes[id]? = some cells → B id = some cells) {id b : Nat} (hb : γ.β id = some b) {arr : Array Value} {te : TypeId} (hh : w.heap[b]? = some (.cells arr te (0, 0))) :
    (m.boxes.getD id []).length ≤ arr.size := by
  rcases Nat.eq_zero_or_pos (m.boxes.getD id []).length with h | h
  · omega
  · obtain ⟨u, h1, _⟩ := box_cell hm hB hb hh (k := (m.boxes.getD id []).length - 1) (List.getElem?_eq_getElem (by omega))
    have := (Array.getElem?_eq_some_iff.1 h1).1
    omega

theorem step_slA (hm : MSim N w0 ro0 γ w B L) (hB : ∀ id cells, m.boxes[id]? = some cells → B id = some cells) {t te : TypeId} {n : Nat} {i : TypeInfo} {x : Operand} {lo hi : Option Operand} (hu : P.underlying t = some (.array n te)) (hi' : P.info? te = some i)
    (h1 : Rep w γ (e (opd x)) (a.eval x)) (h2 : ∀ y ∈ lo, Rep w γ (e (opd y)) (a.eval y)) (h3 : ∀ y ∈ hi, Rep w γ (e (opd y)) (a.eval y))
    (hc : (rop P gl orc e m dst (.slA n i.size (opd x) (lo.map opd) (hi.map opd))).1) :
    Step N w0 ro0 P ⟨dst, .slice t x lo hi none, ty, pos, after, guard⟩ a γ w B L (rop P gl orc e m dst (.slA n i.size (opd x) (lo.map opd) (hi.map opd))).2 := by
  simp only [rop] at hc ⊢
  split at hc
  case h_2 => exact hc.elim
  rename_i id o' e1
  rw [e1] at h1
  try simp only [e1]
  split at hc
  case h_2 => exact hc.elim
  rename_i l h hl hh
  try simp only [hl, hh]
  obtain ⟨⟨c0, c1, c2⟩, hfit, hid⟩ := hc
  obtain ⟨b, hβ, hv⟩ := h1.inv_ptr
  have hmb : m.boxes[id]? = some (m.boxes.getD id []) := by simp [hid]
  obtain ⟨arr, te', hblk, g3, g4⟩ := hm.box id _ b (hB id _ hmb) hβ
  have hle := g3.1
  simp only [Array.length_toList] at hle
  have hb := run_bounds (P := P) (w := w) (a := a) (isS := false) (cap := n) hl hh h2 h3 c0 c1 c2 (Nat.le_refl n)
  refine step_val hm (v := .slice (some (if n = l.toNat then ⟨b, o', none⟩ else ⟨b, o' + l.toNat * i.size, none⟩)) (h.toNat - l.toNat) (n - l.toNat)) ?_ ?_
  · simp [execOp, Instr.sliceAt, Instr.sureAddr, run_underlying hu, hv, hb, sizeOf, typeInfo, hi', addr_add]
  · split
    · rename_i hor
      have ha : (if n = l.toNat then (⟨b, o', none⟩ : Addr) else ⟨b, o' + l.toNat * i.size, none⟩) = ⟨b, o' + l.toNat * i.size, none⟩ := by
        rcases hor with h' | h'
        · rw [if_neg (by omega)]
        · subst h'; split <;> simp
      rw [ha]
      refine .bs hβ (by omega) hblk ?_
      have : (l.toNat + (n - l.toNat)) * i.size = n * i.size := by congr 1; omega
      rw [Nat.add_mul] at this
      omega
    · have hz : h.toNat - l.toNat = 0 := by omega
      rw [hz]
      have : Rep w γ (.sl .nn []) (.slice (some (if n = l.toNat then ⟨b, o', none⟩ else ⟨b, o' + l.toNat * i.size, none⟩)) ([] : List (List AV)).length (n - l.toNat)) :=
        .sl b 0 i.size (fun _ _ => undef) (Nat.zero_le _) (fun hn => by cases hn) (fun hn => absurd rfl hn) (fun _ h => by cases h) (fun i j c h => by simp [rowCell] at h) (fun i j c h => by simp [rowCell] at h) (by
          show _ ≠ none; simp)
      exact this

theorem step_b2sB (hm : MSim N w0 ro0 γ w B L) (hB : ∀ id cells, m.boxes[id]? = some cells → B id = some cells) {s d te : TypeId} {x : Operand} (hs : P.underlying s = some (.slice te)) (hd : P.underlying d = some .string) (ht : P.underlying te = some (.int .u8))
    (h1 : Rep w γ (e (opd x)) (a.eval x)) {id off len sz : Nat} (e1 : e (opd x) = .bs id off len sz) {l : List UInt8} (hl : bytesL (chunk 1 len ((m.boxes.getD id []).drop off)) = some l) :
    Step N w0 ro0 P ⟨dst, .convert s d x, ty, pos, after, guard⟩ a γ w B L (.str ⟨l.toArray⟩) := by
  rw [e1] at h1
  obtain ⟨b, cap, arr, te', hβ, hv, hle, hblk, _⟩ := h1.inv_bs
  obtain ⟨ns, hrows, rfl⟩ := bytes_of hl
  have hlen : len = ns.length := by have := congrArg List.length hrows; simpa [length_chunk] using this
  have hload : (loadCells ⟨b, off, none⟩ ns.length).run P w = .ok (ns.map (Value.int .u8)).toArray w := by
    have := run_loadCells_list (P := P) (w := w) ⟨b, off, none⟩ (ns.map (Value.int .u8)) fun j v hj => ?_
    · simpa using this
    · simp at hj
      obtain ⟨n, hn, rfl⟩ := hj
      have hrc : rowCell (chunk 1 len ((m.boxes.getD id []).drop off)) j 0 = some (.int .u8 n) := by rw [hrows]; simp [rowCell, hn]
      obtain ⟨_, _, h3⟩ := rowCell_chunk hrc
      rw [List.getElem?_drop] at h3
      obtain ⟨u, h4, h5, _⟩ := box_cell hm hB hβ hblk h3
      rw [h5.inv_int] at h4
      rw [addr_add, cell_of_block hblk]
      simpa using h4
  refine step_val hm (v := .string ⟨(ns.map fun n => UInt8.ofNat n.toNat).toArray⟩) ?_ (.str _)
  have hrun := run_bytesToString w ⟨b, off, none⟩ ns.length cap ns hload
  rw [foldl_push] at hrun
  have : (⟨ByteArray.empty.data ++ (ns.map fun n => UInt8.ofNat n.toNat).toArray⟩ : ByteArray) = ⟨(ns.map fun n => UInt8.ofNat n.toNat).toArray⟩ := by
    have : ByteArray.empty.data = #[] := rfl
    rw [this]; simp
  rw [this] at hrun
  rw [hlen] at hv
  simp [execOp, hv, convert, run_underlying hs, run_underlying hd, run_underlying ht, hrun]

end
end Go.Abs
