/-
  OWN WORK. append, on the abstract memory.
-/
import Derived.Test.YtdebhhpklhbihaaGreatDoorC5Abs6
namespace Go.Abs
open Go Go.RowKit
variable {N : Nat} {w0 : Bas} {ro0 : Nat → Nat → Prop} {γ : G} {w : World} {B : Nat → Option (List AV)} {L : Nat → Option Nat}

theorem SlV.fix {rows : List (List AV)} {a : Option Addr} {cap b off sz sz' : Nat} {cv : Nat → Nat → Value} (h : SlV w γ rows a cap b off sz' cv) (hr : ∀ row ∈ rows, row.length = sz) : SlV w γ rows a cap b off sz cv := by
  cases hrows : rows with
  | nil =>
    subst hrows
    exact ⟨h.hcap, h.hnil, h.at_, hr, fun i j c hc => by simp [rowCell] at hc, fun i j c hc => by simp [rowCell] at hc⟩
  | cons r rs =>
    have e : sz' = sz := (h.hsz r (by simp [hrows])).symm.trans (hr r (by simp [hrows]))
    rw [← hrows]; subst e; exact h

theorem SlV.mono {rows : List (List AV)} {a : Option Addr} {cap b off sz : Nat} {cv : Nat → Nat → Value} (h : SlV w γ rows a cap b off sz cv) {w' : World} {γ' : G} (e : Ev w γ w' γ') : SlV w' γ' rows a cap b off sz cv := by
  obtain ⟨a', cap', b', off', sz', cv', e0, h1, h2⟩ := ((h.mk' (rt := .ro) trivial).mono e).sl_inv
  refine ⟨h.hcap, h.hnil, fun hn => ⟨(h.at_ hn).1, Nat.lt_of_lt_of_le (h.at_ hn).2 e.size⟩, h.hsz, fun i j c hc => ?_, fun i j c hc => (h.rep i j c hc).mono e.imm⟩
  have hb := (h.at_ (by rintro rfl; simp [rowCell] at hc)).2
  obtain ⟨g1, g2, g3⟩ := h.cell i j c hc
  exact ⟨(e.ro _ _ hb g2).2.trans g1, (e.ro _ _ hb g2).1, g3⟩

/-- A new block that holds both, one behind the other. -/
theorem SlV.join_new {rows rows2 : List (List AV)} {a a2 : Option Addr} {cap b off cap2 b2 off2 sz : Nat} {cv cv2 : Nat → Nat → Value} (h : SlV w γ rows a cap b off sz cv) {γ2 : G} (h2 : SlV w γ2 rows2 a2 cap2 b2 off2 sz cv2) (hr2 : ∀ i j c, rowCell rows2 i j = some c → Rep w γ.imm c (cv2 i j))
    {w' : World} {γ' : G} (e : Ev w γ w' γ') {nb : Nat} {rest : Array Value} {te : TypeId}
    (hh : w'.heap[nb]? = some (.cells ((flatV rows.length sz cv).toArray ++ (flatV rows2.length sz cv2).toArray ++ rest) te (0, 0)))
    (hro : ∀ o, o < (rows.length + rows2.length) * sz → γ'.ro nb o) {newcap : Nat} (hcap : rows.length + rows2.length ≤ newcap) :
    SlV w' γ' (rows ++ rows2) (some ⟨nb, 0, none⟩) newcap nb 0 sz (joinCv rows.length cv cv2) := by
  refine ⟨by simpa using hcap, fun hn => (by cases hn), fun _ => ⟨rfl, lt_of_heap hh⟩, fun row hr => ?_, fun i j c hc => ?_, fun i j c hc => ?_⟩
  · rcases List.mem_append.1 hr with hr | hr
    · exact h.hsz row hr
    · exact h2.hsz row hr
  · obtain ⟨hi, hj⟩ := rowCell_lt hc
    have hj' : j < sz := by
      rcases List.mem_append.1 (List.getElem_mem hi) with hr | hr
      · rw [h.hsz _ hr] at hj; exact hj
      · rw [h2.hsz _ hr] at hj; exact hj
    have hlt : i * sz + j < (rows.length + rows2.length) * sz := by
      have : (i + 1) * sz ≤ (rows.length + rows2.length) * sz := Nat.mul_le_mul_right _ (by simp at hi; omega)
      rw [Nat.add_mul, Nat.one_mul] at this
      omega
    rw [Nat.zero_add]
    refine ⟨?_, hro _ hlt, ?_⟩
    · rw [cell_of_block hh]
      rcases rowCell_append hc with ⟨h1, h3⟩ | ⟨h1, h3⟩
      · have := flatV_at rows.length sz cv h1 hj'
        have hl : i * sz + j < (flatV rows.length sz cv).length := (List.getElem?_eq_some_iff.1 this).1
        rw [Array.append_assoc, Array.getElem?_append_left (by simpa using hl)]
        simp [joinCv, h1, this]
      · have h4 : i - rows.length < rows2.length := (rowCell_lt h3).1
        have := flatV_at rows2.length sz cv2 h4 hj'
        have e1 : i * sz + j = rows.length * sz + ((i - rows.length) * sz + j) := by
          rw [Nat.sub_mul]
          have : rows.length * sz ≤ i * sz := Nat.mul_le_mul_right _ h1
          omega
        have hl : (i - rows.length) * sz + j < (flatV rows2.length sz cv2).length := (List.getElem?_eq_some_iff.1 this).1
        rw [Array.append_assoc, Array.getElem?_append_right (by simp [length_flatV]; omega)]
        rw [Array.getElem?_append_left (by simp [length_flatV] at hl ⊢; omega)]
        have e2 : i * sz + j - rows.length * sz = (i - rows.length) * sz + j := by omega
        simp only [List.size_toArray, length_flatV, e2, List.getElem?_toArray, this, joinCv, if_neg (Nat.not_lt.2 h1)]
    · unfold joinCv
      rcases rowCell_append hc with ⟨h1, h3⟩ | ⟨h1, h3⟩
      · rw [if_pos h1]; exact (h.cell i j c h3).2.2
      · rw [if_neg (Nat.not_lt.2 h1)]; exact (h2.cell _ j c h3).2.2
  · unfold joinCv
    rcases rowCell_append hc with ⟨h1, h3⟩ | ⟨h1, h3⟩
    · rw [if_pos h1]; exact (h.rep i j c h3).mono e.imm
    · rw [if_neg (Nat.not_lt.2 h1)]; exact (hr2 _ j c h3).mono e.imm

theorem heap_push_new (w : World) (o : Obj) : (w.drew.alloc o).heap[w.heap.size]? = some o := by
  show (w.heap.push o)[w.heap.size]? = some o
  simp

theorem size_drew_alloc (w : World) (o : Obj) : w.heap.size < (w.drew.alloc o).heap.size := by
  show _ < (w.heap.push o).size
  simp

theorem below_drew_alloc (w : World) (o : Obj) : Below w.heap.size w (w.drew.alloc o) :=
  ((Below.refl w.heap.size w).drew).alloc (Nat.le_refl _) o

section
variable {P : Program} {t ty e : TypeId} {i : TypeInfo} {z : Value} {rows rows2 : List (List AV)} {rt rt2 : Rt} {v1 v2 : Value}

/-- append to a slice without a spare place: read by its contents alone. -/
theorem app_ro (hm : MSim N w0 ro0 γ w B L) (ht : P.underlying t = some (.slice e)) (hi : P.info? e = some i) (hz : i.zero = some z) (h1 : Rep w γ (.sl .full rows) v1) (h2 : Rep w γ (.sl rt2 rows2) v2)
    (hr : ∀ row ∈ rows ++ rows2, row.length = i.size) (hfit : (2 * (rows.length + rows2.length) + 2000) * i.bytes ≤ 281474976710656) (hbig : rows.length + rows2.length ≤ 9223372036854775807) :
    ∃ v w' γ', (Builtin.append_ #[t, t] ty #[v1, v2]).run P w = .ok v w' ∧ Ev w γ w' γ' ∧ MSim N w0 ro0 γ' w' B L ∧ Rep w' γ' (.sl .ro (rows ++ rows2)) v := by
  obtain ⟨a, cap, b, off, sz, cv, rfl, s1, r1⟩ := h1.sl_inv
  obtain ⟨a2, cap2, b2, off2, sz2, cv2, rfl, s2, r2⟩ := h2.sl_inv
  replace s1 := s1.fix (sz := i.size) fun row h => hr row (by simp [h])
  replace s2 := s2.fix (sz := i.size) fun row h => hr row (by simp [h])
  by_cases hn : rows2 = []
  · subst hn
    refine ⟨_, w, γ, run_app_none ht hi _ _ _ s1.hcap, Ev.refl _ _, hm, ?_⟩
    rw [List.append_nil]
    exact s1.mk' trivial
  · have hpos : 0 < rows2.length := List.length_pos_iff.2 hn
    have hcap : cap = rows.length := r1
    obtain ⟨newcap, hle, hrun⟩ := run_app_grow (P := P) (ty := ty) ht hi hz s1 s2 (by omega) hfit hbig
    have hb := below_drew_alloc w (.cells ((flatV rows.length i.size cv).toArray ++ (flatV rows2.length i.size cv2).toArray ++ Builtin.zeroCells z.cells (newcap - (rows.length + rows2.length))) e)
    refine ⟨_, _, _, hrun, hm.ev_below hb, hm.grow hb, ?_⟩
    have hj := s1.join_new s2 s2.rep (hm.ev_below hb) (nb := w.heap.size) (te := e) (heap_push_new w _) (fun o _ => .inr ⟨Nat.le_refl _, size_drew_alloc w _⟩) hle
    have := hj.mk' (rt := .ro) trivial
    rwa [List.length_append] at this

/-- A right that gets a length. -/
def G.mark (γ : G) (id n : Nat) : G := { γ with cur := fun i => if i = id then n else γ.cur i }

theorem MSim.ev_mark (hm : MSim N w0 ro0 γ w B L) {id n : Nat} (hn : γ.cur id ≤ n) (h0 : γ.cur id = n ∨ γ.own id = none) : Ev w γ w (γ.mark id n) where
  size := Nat.le_refl _
  ro _ _ _ h := ⟨h, rfl⟩
  β _ _ h := h
  cur j := by simp only [G.mark]; split <;> simp_all
  mm _ _ h := h
  lp := rfl
  own j b _ ho := ⟨ho, fun arr _ h => ⟨arr, h, Nat.le_refl _⟩, fun _ h => h⟩
  sp _ h := ⟨h, rfl⟩
  ss := Sz.refl w

theorem MSim.mark (hm : MSim N w0 ro0 γ w B L) {id n : Nat} (hn : γ.cur id ≤ n) (h0 : γ.cur id = n ∨ γ.own id = none) : MSim N w0 ro0 (γ.mark id n) w B (fun i => if i = id then some n else L i) where
  bs := w0.st _ _ _ _ hm.bs ⟨rfl, rfl, rfl, Nat.le_refl _, fun _ _ _ => rfl, fun _ _ _ h => ⟨h, rfl⟩, fun _ hb => .inl hb, fun _ _ h => .inl h⟩
  hN := hm.hN
  ro0 := hm.ro0
  robd := hm.robd
  box j cs b hb h1 := by
    obtain ⟨arr, e, h2, h3, h4⟩ := hm.box j cs b hb h1
    exact ⟨arr, e, h2, h3.mono (hm.ev_mark hn h0), h4⟩
  β := hm.β
  inj := hm.inj
  own j b hb := by
    obtain ⟨h1, h2, k, hk⟩ := hm.own j b hb
    refine ⟨h1, h2, ?_⟩
    by_cases hj : j = id
    · exact ⟨n, by simp [hj]⟩
    · exact ⟨k, by simp [hj, hk]⟩
  oinj := hm.oinj
  sp := hm.sp
  mm i b hb := by
    obtain ⟨h1, h2, h3, h4, h5, h6, h8, h7⟩ := hm.mm i b hb
    exact ⟨h1, h2, h3, h4, h5, h6, h8, h7.mono (hm.ev_mark hn h0).toR.toV rfl⟩
  minj := hm.minj
  len j k hj := by
    by_cases h : j = id
    · simp [h] at hj; simp [G.mark, h, hj]
    · simp [h] at hj; simp [G.mark, h, hm.len j k hj]
  cur0 j hj := by
    by_cases h : j = id
    · simp [h] at hj
    · simp [h] at hj; simp [G.mark, h, hm.cur0 j hj]

/-- append to the newest slice of a right (or to a slice without a spare place, under a right that nobody has yet); what is appended may lie in memory that changes later. -/
theorem app_ownG (hm : MSim N w0 ro0 γ w B L) (ht : P.underlying t = some (.slice e)) (hi : P.info? e = some i) (hz : i.zero = some z) (hzs : z.cells.size = i.size) {id : Nat}
    (h1 : (Rep w γ (.sl .full rows) v1 ∧ L id = none) ∨ (Rep w γ (.sl (.own id i.size) rows) v1 ∧ L id = some rows.length)) {γ2 : G} {a2 : Option Addr} {cap2 b2 off2 : Nat} {cv2 : Nat → Nat → Value} (s2 : SlV w γ2 rows2 a2 cap2 b2 off2 i.size cv2) (hr2 : ∀ i j c, rowCell rows2 i j = some c → Rep w γ.imm c (cv2 i j))
    (hr : ∀ row ∈ rows ++ rows2, row.length = i.size) (hfit : (2 * (rows.length + rows2.length) + 2000) * i.bytes ≤ 281474976710656) (hbig : rows.length + rows2.length ≤ 9223372036854775807) :
    ∃ v w' γ', (Builtin.append_ #[t, t] ty #[v1, .slice a2 rows2.length cap2]).run P w = .ok v w' ∧ Ev w γ w' γ' ∧ MSim N w0 ro0 γ' w' B (fun j => if j = id then some (rows.length + rows2.length) else L j) ∧ Rep w' γ' (.sl (.own id i.size) (rows ++ rows2)) v := by
  have key : ∃ a cap b off cv, v1 = .slice a rows.length cap ∧ SlV w γ rows a cap b off i.size cv ∧ γ.cur id ≤ rows.length ∧ (γ.cur id = rows.length ∨ γ.own id = none) ∧ (cap = rows.length ∨ (Spare w γ a id rows.length cap i.size ∧ γ.cur id = rows.length)) := by
    rcases h1 with ⟨h1, hL⟩ | ⟨h1, hL⟩
    · obtain ⟨a, cap, b, off, sz, cv, rfl, s1, r1⟩ := h1.sl_inv
      have hown : γ.own id = none := by
        cases ho : γ.own id with
        | none => rfl
        | some b => obtain ⟨_, _, n, hn⟩ := hm.own id b ho; rw [hL] at hn; cases hn
      exact ⟨a, cap, b, off, cv, rfl, s1.fix fun row h => hr row (by simp [h]), by rw [hm.cur0 id hL]; exact Nat.zero_le _, .inr hown, .inl r1⟩
    · obtain ⟨a, cap, b, off, sz, cv, rfl, s1, r1, r2, r3⟩ := h1.sl_inv
      subst r1
      have hc := hm.len id _ hL
      exact ⟨a, cap, b, off, cv, rfl, s1, by omega, .inl hc, (r3 hc.symm).imp_right fun h => ⟨h, hc⟩⟩
  obtain ⟨a, cap, b, off, cv, rfl, s1, hcle, hcur, hsp⟩ := key
  by_cases hn : rows2 = []
  · subst hn
    refine ⟨_, w, γ.mark id rows.length, run_app_none ht hi _ _ _ s1.hcap, hm.ev_mark hcle hcur, by simpa using hm.mark hcle hcur, ?_⟩
    rw [List.append_nil]
    refine (s1.mono (hm.ev_mark hcle hcur)).mk' ⟨rfl, by simp [G.mark], fun _ => ?_⟩
    rcases hsp with h | ⟨h, hc⟩
    · exact .inl h
    · refine .inr (h.mono (hm.ev_mark hcle hcur) ?_)
      simp [G.mark, hc]
  · have hpos : 0 < rows2.length := List.length_pos_iff.2 hn
    by_cases hroom : rows.length + rows2.length ≤ cap
    · -- in place
      rcases hsp with h | ⟨⟨b', off', arr, te, ha, ho, hh, hsz, hfree⟩, hc⟩
      · omega
      · subst ha
        have hrun := run_app_room (P := P) (ty := ty) (off := off') ht hi s2 hroom hh hsz
        have hq : off' + (rows.length + rows2.length) * i.size = off' + rows.length * i.size + (flatV rows2.length i.size cv2).length := by rw [length_flatV, Nat.add_mul]; omega
        have hev := hm.ev_extend (vs := flatV rows2.length i.size cv2) (n := rows.length + rows2.length) ho (by omega) (fun h => by omega) hq hfree
        refine ⟨_, _, _, hrun, hev, hm.extend ho (by omega) (fun h => by omega) hq hfree, ?_⟩
        have hb : b' < w.heap.size := lt_of_heap hh
        have hle : (rows.length + rows2.length) * i.size ≤ cap * i.size := Nat.mul_le_mul_right _ hroom
        have hat : rows ≠ [] → b = b' ∧ off = off' := fun h => by
          obtain ⟨h1, _⟩ := s1.at_ h
          injection h1 with h1
          injection h1 with h1 h2
          exact ⟨h1.symm, h2.symm⟩
        have hin : ∀ j (hj : j < (flatV rows2.length i.size cv2).length), (w.setCells b' (off' + rows.length * i.size) (flatV rows2.length i.size cv2)).cell? ⟨b', off' + rows.length * i.size + j, none⟩ = some (flatV rows2.length i.size cv2)[j] :=
          World.cell?_setCells_in b' _ _ w fun j hj => by
            rw [length_flatV] at hj
            rw [cell_of_block hh, Array.getElem?_eq_getElem (by rw [Nat.add_mul] at hle; omega)]; rfl
        have hj : SlV (w.setCells b' (off' + rows.length * i.size) (flatV rows2.length i.size cv2)) (γ.extend id b' (off' + rows.length * i.size) (off' + (rows.length + rows2.length) * i.size) (rows.length + rows2.length))
            (rows ++ rows2) (some ⟨b', off', none⟩) cap b' off' i.size (joinCv rows.length cv cv2) := by
          refine ⟨by simpa using hroom, fun hn => (by cases hn), fun _ => ⟨rfl, by rw [setCells_size]; exact hb⟩, hr, fun j k c hc => ?_, fun j k c hc => ?_⟩
          · rcases rowCell_append hc with ⟨hx1, h3⟩ | ⟨h1, h3⟩
            · obtain ⟨rfl, rfl⟩ := hat (by rintro rfl; simp at hx1)
              obtain ⟨g1, g2, g3⟩ := (s1.mono hev).cell j k c h3
              have ej : joinCv rows.length cv cv2 j k = cv j k := by unfold joinCv; rw [if_pos hx1]
              rw [ej]
              exact ⟨g1, g2, g3⟩
            · obtain ⟨hi4, hj4⟩ := rowCell_lt h3
              have hk : k < i.size := by rw [s2.hsz _ (List.getElem_mem hi4)] at hj4; exact hj4
              have hf := flatV_at rows2.length i.size cv2 hi4 hk
              obtain ⟨hlt, hval⟩ := List.getElem?_eq_some_iff.1 hf
              have e1 : off' + j * i.size + k = off' + rows.length * i.size + ((j - rows.length) * i.size + k) := by
                rw [Nat.sub_mul]
                have : rows.length * i.size ≤ j * i.size := Nat.mul_le_mul_right _ h1
                omega
              simp only [joinCv, if_neg (Nat.not_lt.2 h1)]
              refine ⟨?_, ?_, (s2.cell _ _ c h3).2.2⟩
              · rw [e1, hin _ hlt, hval]
              · rw [length_flatV] at hlt
                exact .inr ⟨rfl, by rw [e1]; omega, by rw [e1, Nat.add_mul]; omega⟩
          · unfold joinCv
            rcases rowCell_append hc with ⟨h1, h3⟩ | ⟨h1, h3⟩
            · rw [if_pos h1]; exact (s1.rep j k c h3).mono hev.imm
            · rw [if_neg (Nat.not_lt.2 h1)]; exact (hr2 _ k c h3).mono hev.imm
        have := hj.mk' (rt := .own id i.size) ⟨rfl, by simp [G.extend], fun _ => .inr ⟨b', off', _, te, rfl, ho, setCells_same b' _ _ w arr te _ hh, by rw [size_setL]; exact hsz, fun o ho' hro => ?_⟩⟩
        · rwa [List.length_append] at this
        · rw [List.length_append] at ho'
          rcases hro with hro | ⟨_, _, h4⟩
          · refine hfree o ?_ hro
            have : rows.length * i.size ≤ (rows.length + rows2.length) * i.size := Nat.mul_le_mul_right _ (by omega)
            omega
          · omega
    · -- a new block
      obtain ⟨newcap, hle, hrun⟩ := run_app_grow (P := P) (ty := ty) ht hi hz s1 s2 (by omega) hfit hbig
      have hmd := hm.drew
      have hne : γ.cur id = rows.length + rows2.length → γ.own id = none := fun h => by omega
      have hcn : γ.cur id ≤ rows.length + rows2.length := by omega
      have hev : Ev w γ _ _ := (Ev.drew w γ).trans (hmd.ev_renew (q := (rows.length + rows2.length) * i.size) hcn hne (.cells ((flatV rows.length i.size cv).toArray ++ (flatV rows2.length i.size cv2).toArray ++ Builtin.zeroCells z.cells (newcap - (rows.length + rows2.length))) e))
      refine ⟨_, _, _, hrun, hev, hmd.renew hcn hne _, ?_⟩
      have hh : (w.drew.alloc (.cells ((flatV rows.length i.size cv).toArray ++ (flatV rows2.length i.size cv2).toArray ++ Builtin.zeroCells z.cells (newcap - (rows.length + rows2.length))) e)).heap[w.heap.size]? = some (.cells ((flatV rows.length i.size cv).toArray ++ (flatV rows2.length i.size cv2).toArray ++ Builtin.zeroCells z.cells (newcap - (rows.length + rows2.length))) e (0, 0)) := by
        exact heap_push_new w _
      have hj := s1.join_new s2 hr2 hev (nb := w.heap.size) hh (fun o ho => .inr ⟨rfl, ho⟩) hle
      have := hj.mk' (rt := .own id i.size) ⟨rfl, by simp [G.renew], fun _ => ?_⟩
      · rwa [List.length_append] at this
      · by_cases hz0 : newcap = rows.length + rows2.length
        · exact .inl (by simp [hz0])
        · refine .inr ⟨w.heap.size, 0, _, e, rfl, by simp [G.renew], hh, ?_, fun o ho hro => ?_⟩
          · simp only [Array.size_append, List.size_toArray, length_flatV, size_zeroCells]
            have hmul : newcap * i.size = rows.length * i.size + rows2.length * i.size + (newcap - (rows.length + rows2.length)) * i.size := by
              rw [← Nat.add_mul, ← Nat.add_mul]
              congr 1
              omega
            rw [hzs, hmul]
            omega
          · simp only [List.length_append, Nat.zero_add] at ho
            rcases hro with hro | ⟨_, hro⟩
            · have := hm.robd _ _ hro; omega
            · omega

/-- append to the newest slice of a right (or to a slice without a spare place, under a right that nobody has yet). -/
theorem app_own (hm : MSim N w0 ro0 γ w B L) (ht : P.underlying t = some (.slice e)) (hi : P.info? e = some i) (hz : i.zero = some z) (hzs : z.cells.size = i.size) {id : Nat}
    (h1 : (Rep w γ (.sl .full rows) v1 ∧ L id = none) ∨ (Rep w γ (.sl (.own id i.size) rows) v1 ∧ L id = some rows.length)) (h2 : Rep w γ (.sl rt2 rows2) v2)
    (hr : ∀ row ∈ rows ++ rows2, row.length = i.size) (hfit : (2 * (rows.length + rows2.length) + 2000) * i.bytes ≤ 281474976710656) (hbig : rows.length + rows2.length ≤ 9223372036854775807) :
    ∃ v w' γ', (Builtin.append_ #[t, t] ty #[v1, v2]).run P w = .ok v w' ∧ Ev w γ w' γ' ∧ MSim N w0 ro0 γ' w' B (fun j => if j = id then some (rows.length + rows2.length) else L j) ∧ Rep w' γ' (.sl (.own id i.size) (rows ++ rows2)) v := by
  obtain ⟨a2, cap2, b2, off2, sz2, cv2, rfl, s2, r2⟩ := h2.sl_inv
  exact app_ownG hm ht hi hz hzs h1 (s2.fix (sz := i.size) fun row h => hr row (by simp [h])) s2.rep hr hfit hbig

end

end Go.Abs
