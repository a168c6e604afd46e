/-
  OWN WORK. What a callee sees; calls of functions that only compute; appends.
-/
import Derived.Test.YtdebhhpklhbihaaGreatDoorC5Abs4
namespace Go.Abs
open Go Go.RowKit
variable {N : Nat} {w0 : Bas} {ro0 : Nat → Nat → Prop} {γ : G} {w : World} {B : Nat → Option (List AV)} {L : Nat → Option Nat}

theorem rep_one {a : AV} {v : Value} (h : Rep w γ a v) (hc : isCell a = true) : v.oneCell' = true := by
  cases a <;> simp [isCell] at hc <;> cases h <;> first | rfl | (rename_i p; cases p <;> rfl)

theorem RepL.map {ro' : Nat → Nat → Prop} {as : List AV} {vs : List Value} {f : AV → AV} (h : RepL w γ as vs) (hf : ∀ a ∈ as, ∀ v, Rep w γ a v → Rep w (G0 ro') (f a) v) : RepL w (G0 ro') (as.map f) vs :=
  ⟨by simpa using h.1, fun i a v h1 h2 => by
    simp at h1
    obtain ⟨a', h3, rfl⟩ := h1
    exact hf a' (List.mem_of_getElem? h3) v (h.2 i a' v h3 h2)⟩

theorem RepL.any_of {as : List AV} {p : AV → Bool} {a : AV} (ha : a ∈ as) (hp : p a = true) : as.any p = true := List.any_eq_true.2 ⟨a, ha, hp⟩

theorem length_chunk (sz : Nat) : ∀ (n : Nat) (l : List AV), (chunk sz n l).length = n
  | 0, _ => rfl
  | n + 1, l => by simp [chunk, length_chunk sz n]

theorem chunk_row {sz : Nat} : ∀ {n : Nat} {l : List AV} {row : List AV}, n * sz ≤ l.length → row ∈ chunk sz n l → row.length = sz
  | 0, _, _, _, h => by cases h
  | n + 1, l, row, hl, h => by
    rw [Nat.add_mul, Nat.one_mul] at hl
    rcases List.mem_cons.1 h with rfl | h
    · simp; omega
    · exact chunk_row (by simp; omega) h

theorem rowCell_chunk {sz : Nat} {c : AV} : ∀ {n : Nat} {l : List AV} {i j : Nat}, rowCell (chunk sz n l) i j = some c → i < n ∧ j < sz ∧ l[i * sz + j]? = some c
  | 0, _, i, j, h => by simp [rowCell, chunk] at h
  | n + 1, l, 0, j, h => by
    simp only [rowCell, chunk, List.getElem?_cons_zero, Option.bind_some] at h
    rw [List.getElem?_take] at h
    split at h
    · rename_i hj; exact ⟨by omega, hj, by simpa using h⟩
    · cases h
  | n + 1, l, i + 1, j, h => by
    have h' : rowCell (chunk sz n (l.drop sz)) i j = some c := by simpa [rowCell, chunk] using h
    obtain ⟨h1, h2, h3⟩ := rowCell_chunk h'
    rw [List.getElem?_drop] at h3
    refine ⟨by omega, h2, ?_⟩
    rw [Nat.add_mul, Nat.one_mul, Nat.add_comm (i * sz) sz, Nat.add_assoc]; exact h3

theorem cvn_rep (hm : MSim N w0 ro0 γ w B L) {m : AM} (hB : ∀ id cells, m.boxes[id]? = some cells → B id = some cells) {ro' : Nat → Nat → Prop} (hro : ∀ b o, γ.ro b o → ro' b o) :
    ∀ (d : Nat) (a : AV) (v : Value), Rep w γ a v → (hasP d a = true → ∀ id b, γ.β id = some b → ∀ o, ro' b o) → Rep w (G0 ro') (cvn m d a) v := by
  have himm : ∀ (a : AV) (v : Value), Rep w γ.imm a v → Rep w (G0 ro') a v := fun a v h =>
    h.mono ⟨Nat.le_refl _, fun b o _ h => ⟨hro b o h, rfl⟩, fun _ _ h => (by cases h), fun _ => Nat.le_refl _, fun _ _ h => (by cases h), rfl, fun _ _ _ h => (by cases h), fun _ h => h.elim, Sz.refl w⟩
  intro d
  induction d with
  | zero => exact fun _ _ _ _ => .junk _
  | succ d ih =>
    intro a v h hp
    cases a with
    | junk => exact .junk _
    | bool b => rw [h.inv_bool]; exact .bool b
    | int k n => rw [h.inv_int]; exact .int k n
    | str s => rw [h.inv_str]; exact .str s
    | nilfn => rw [h.inv_nilfn]; exact .nilfn
    | gd g a => exact .junk _
    | yld l => exact .junk _
    | mp id => exact .junk _
    | nilv p => cases h; exact .nilv p
    | mobj kvs => exact .junk _
    | agg cs =>
      obtain ⟨arr, rfl, hr⟩ := h.inv_agg
      refine RepL.agg' (hr.map fun a ha v hv => ih a v hv fun hpa => hp ?_)
      simp only [hasP]; exact RepL.any_of ha hpa
    | tup cs =>
      obtain ⟨arr, rfl, hr⟩ := h.inv_tup
      have := hr.map (ro' := ro') (f := cvn m d) fun a ha v hv => ih a v hv fun hpa => hp (by simp only [hasP]; exact RepL.any_of ha hpa)
      exact .tup (by simpa using this.1) fun i c v h1 h2 => this.2 i c v h1 (by simpa using h2)
    | fn f first cap =>
      obtain ⟨fa, ca, rfl, h1, h2⟩ := h.inv_fn
      have t1 := h1.map (ro' := ro') (f := cvn m d) fun a ha v hv => ih a v hv fun hpa => hp (by simp only [hasP]; rw [RepL.any_of ha hpa]; rfl)
      have t2 := h2.map (ro' := ro') (f := cvn m d) fun a ha v hv => ih a v hv fun hpa => hp (by simp only [hasP]; rw [RepL.any_of ha hpa]; simp)
      exact .fn (by simpa using t1.1) (fun i c v h1 h2 => t1.2 i c v h1 (by simpa using h2)) (by simpa using t2.1) fun i c v h1 h2 => t2.2 i c v h1 (by simpa using h2)
    | ep row o =>
      obtain ⟨b, off, cv, rfl, hb, hc, hr⟩ := h.inv_ep
      exact .ep cv hb (fun j c hj => ⟨(hc j c hj).1, hro _ _ (hc j c hj).2.1, (hc j c hj).2.2⟩) fun j c hj => himm _ _ (hr j c hj)
    | sl rt rows =>
      obtain ⟨a, cap, b, off, sz, cv, rfl, h1, h2, h3, h4, h5, h6, h7⟩ := h.inv_sl
      have key : ∀ rt', RtOK w (G0 ro') a rows.length cap sz rt' → Rep w (G0 ro') (.sl rt' rows) (.slice a rows.length cap) := fun rt' hrt =>
        .sl b off sz cv h1 h2 h3 h4 (fun i j c hj => ⟨(h5 i j c hj).1, hro _ _ (h5 i j c hj).2.1, (h5 i j c hj).2.2⟩) (fun i j c hj => himm _ _ (h6 i j c hj)) hrt
      cases rt with
      | ro => exact key .ro trivial
      | full => exact key .full h7
      | nil => exact key .nil h7
      | nn => exact key .nn h7
      | own id sz' => exact key .ro trivial
    | bs id off len sz =>
      obtain ⟨b, cap, arr, te, hb, rfl, hl, hh, hs⟩ := h.inv_bs
      have hbox := hp rfl
      obtain ⟨_, hlt, _⟩ := hm.β id b hb
      simp only [cvn]
      cases hble : Nat.ble (off + len * sz) (m.boxes.getD id []).length with
      | false => exact .junk _
      | true =>
        have hle := Nat.le_of_ble_eq_true hble
        have hget : ∀ (k : Nat) (c : AV), (((m.boxes.getD id []).map (cvn m d)).drop off)[k]? = some c → ∃ c' u, c = cvn m d c' ∧ arr[off + k]? = some u ∧ arr.getD (off + k) undef = u ∧ Rep w γ c' u ∧ u.oneCell' = true := fun k c hk => by
          rw [List.getElem?_drop, List.getElem?_map] at hk
          cases hmb : m.boxes[id]? with
          | none => simp [List.getD, hmb] at hk
          | some cells =>
            have : m.boxes.getD id [] = cells := by simp [List.getD, hmb]
            rw [this] at hk
            obtain ⟨arr', e', g2, g3, g4⟩ := hm.box id cells b (hB id cells hmb) hb
            rw [hh] at g2
            cases g2
            cases hc : cells[off + k]? with
            | none => simp [hc] at hk
            | some c' =>
              simp [hc] at hk
              have h1 := (List.getElem?_eq_some_iff.1 hc).1
              have h2 := g3.1
              have hlt' : off + k < arr.size := by simp at h2; omega
              have hu : arr[off + k]? = some arr[off + k] := Array.getElem?_eq_getElem hlt'
              exact ⟨c', arr[off + k], hk.symm, hu, by simp [hlt'], g3.2 _ c' _ hc (by simp [hlt']), g4 _ (by simp)⟩
        have hlen := length_chunk sz len (((m.boxes.getD id []).map (cvn m d)).drop off)
        have hr : Rep w (G0 ro') (.sl .ro (chunk sz len (((m.boxes.getD id []).map (cvn m d)).drop off))) (.slice (some ⟨b, off, none⟩) (chunk sz len (((m.boxes.getD id []).map (cvn m d)).drop off)).length cap) := by
          refine .sl b off sz (fun i j => arr.getD (off + (i * sz + j)) undef) (by rw [hlen]; exact hl) (fun h => by cases h) (fun _ => ⟨rfl, hlt⟩) (fun row hrow => ?_) (fun i j c hc => ?_) (fun i j c hc => ?_) trivial
          · exact chunk_row (by rw [List.length_drop, List.length_map]; omega) hrow
          · obtain ⟨_, _, h3⟩ := rowCell_chunk hc
            obtain ⟨c', u, rfl, h4, h5, h6, h7⟩ := hget _ _ h3
            rw [cell_of_block hh, Nat.add_assoc, h5]
            exact ⟨h4, hbox id b hb _, h7⟩
          · obtain ⟨_, _, h3⟩ := rowCell_chunk hc
            obtain ⟨c', u, rfl, h4, h5, h6, h7⟩ := hget _ _ h3
            rw [G0_imm, h5]
            exact ih c' u h6 fun _ => hbox
        rw [hlen] at hr
        exact hr
    | ptr id o =>
      obtain ⟨b, hb, rfl⟩ := h.inv_ptr
      have hbox := hp rfl
      obtain ⟨_, hlt, _⟩ := hm.β id b hb
      simp only [cvn]
      have hz : (.pointer (some ⟨b, o, none⟩) : Value) = .pointer (some ⟨b, 0 + o, none⟩) := by rw [Nat.zero_add]
      rw [hz]
      cases hmb : m.boxes[id]? with
      | none =>
        have : m.boxes.getD id [] = [] := by simp [List.getD, hmb]
        rw [this]
        exact .ep (fun _ => undef) hlt (fun j c hj => by simp at hj) fun j c hj => by simp at hj
      | some cells =>
        have : m.boxes.getD id [] = cells := by simp [List.getD, hmb]
        rw [this]
        obtain ⟨arr, e, g2, g3, g4⟩ := hm.box id cells b (hB id cells hmb) hb
        have hget : ∀ (j : Nat) (c : AV), (cells.map (cvn m d))[j]? = some c → ∃ c' u, cells[j]? = some c' ∧ c = cvn m d c' ∧ arr[j]? = some u ∧ arr.getD j undef = u ∧ Rep w γ c' u := fun j c hj => by
          simp at hj
          obtain ⟨c', h1, rfl⟩ := hj
          have hlt' : j < arr.size := by
            have := g3.1
            rcases Nat.lt_or_ge j cells.length with h | h
            · simp at this; omega
            · rw [List.getElem?_eq_none h] at h1; cases h1
          have hu : arr[j]? = some arr[j] := Array.getElem?_eq_getElem hlt'
          exact ⟨c', arr[j], h1, rfl, hu, by simp [hlt'], g3.2 j c' _ h1 (by simp [hlt'])⟩
        refine .ep (fun j => arr.getD j undef) hlt (fun j c hj => ?_) fun j c hj => ?_
        · obtain ⟨c', u, h1, h2, h3, h4, h5⟩ := hget j c hj
          rw [Nat.zero_add, cell_of_block g2, h4]
          exact ⟨h3, hbox id b hb j, g4 u (by simpa using Array.mem_of_getElem? h3)⟩
        · obtain ⟨c', u, h1, rfl, h3, h4, h5⟩ := hget j c hj
          rw [G0_imm, h4]
          exact ih c' u h5 fun _ => hbox

theorem flat_rep {w' : World} {γ' : G} {r : AV} {v : Value} (hf : flat r = true) (h : Rep w γ r v) : Rep w' γ' r v := by
  have one : ∀ (a : AV) (v : Value), flat1 a = true → Rep w γ a v → Rep w' γ' a v := fun a v hf h => by
    cases a <;> simp [flat1] at hf
    · rw [h.inv_bool]; exact .bool _
    · rw [h.inv_int]; exact .int _ _
    · rw [h.inv_str]; exact .str _
  cases r with
  | tup cs =>
    obtain ⟨arr, rfl, hr⟩ := h.inv_tup
    simp only [flat] at hf
    exact .tup (by simpa using hr.1) fun i c v h1 h2 => one c v (List.all_eq_true.1 hf c (List.mem_of_getElem? h1)) (hr.2 i c v h1 (by simpa using h2))
  | _ => exact one _ _ hf h

/-- A call of a function that only computes. -/
theorem call_sound {P : Program} {gl : Nat → AV} (hm : MSim N w0 ro0 γ w B L) {m : AM} (hB : ∀ id cells, m.boxes[id]? = some cells → B id = some cells) (hgl : ∀ g, Rep w γ.imm (gl g) (.pointer (some ⟨g, 0, none⟩)))
    {f : FuncId} {as : List AV} {vs : List Value} {r : AV} (hr : RepL w γ as vs) (hp : Pure P gl f (as.map (cvn m 6)) r) (hfl : as.any (hasP 6) = true → flat r = true)
    {R : Ending → World → Prop} (hk : ∀ v w' γ', Ev w γ w' γ' → MSim N w0 ro0 γ' w' B L → Rep w' γ' r v → R (.returned v) w') : Calls P f vs.toArray w R := by
  let ro' : Nat → Nat → Prop := fun b o => γ.ro b o ∨ (as.any (hasP 6) = true ∧ ∃ id, γ.β id = some b)
  have hargs : RepL w (G0 ro') (as.map (cvn m 6)) vs := hr.map fun a ha v hv => cvn_rep hm hB (fun b o h => .inl h) 6 a v hv fun hpa id b hb o => .inr ⟨RepL.any_of ha hpa, id, hb⟩
  have hgl' : ∀ g, Rep w (G0 ro') (gl g) (.pointer (some ⟨g, 0, none⟩)) := fun g =>
    (hgl g).mono ⟨Nat.le_refl _, fun b o _ h => ⟨.inl h, rfl⟩, fun _ _ h => (by cases h), fun _ => Nat.le_refl _, fun _ _ h => (by cases h), rfl, fun _ _ _ h => (by cases h), fun _ h => h.elim, Sz.refl w⟩
  refine (hp.2 ro' w vs hgl' hargs).mono ?_
  rintro e w' ⟨v, rfl, hb, hv⟩
  refine hk v w' _ (hm.ev_below hb) (hm.grow hb) ?_
  cases hany : as.any (hasP 6) with
  | true => exact flat_rep (hfl hany) hv
  | false =>
    refine hv.monoV ⟨Nat.le_refl _, fun b o hlt h => ⟨?_, rfl⟩, fun _ _ h => (by cases h), fun _ => Nat.zero_le _, fun _ _ h => (by cases h), fun _ _ h => (by cases h), fun _ _ _ h => (by cases h), Sz.refl w'⟩
    rcases h with (h | ⟨h, _⟩) | h
    · exact .inl h
    · rw [hany] at h; cases h
    · exact .inr ⟨h, hlt⟩

end Go.Abs
