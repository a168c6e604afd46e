/-
  OWN WORK. append on slices that are read by their contents.
-/
import Derived.Test.YtdebhhpklhbihaaGreatDoorC5Abs5
namespace Go.Abs
open Go Go.RowKit

def flatV (n sz : Nat) (cv : Nat → Nat → Value) : List Value := (List.range (n * sz)).map fun k => cv (k / sz) (k % sz)

theorem length_flatV (n sz : Nat) (cv : Nat → Nat → Value) : (flatV n sz cv).length = n * sz := by simp [flatV]

theorem flatV_get {n sz : Nat} {cv : Nat → Nat → Value} {k : Nat} {u : Value} (h : (flatV n sz cv)[k]? = some u) : k < n * sz ∧ u = cv (k / sz) (k % sz) := by
  simp only [flatV, List.getElem?_map] at h
  rcases Nat.lt_or_ge k (n * sz) with hk | hk
  · rw [List.getElem?_range hk] at h
    simp at h
    exact ⟨hk, h.symm⟩
  · rw [List.getElem?_eq_none (by simpa using hk)] at h
    simp at h

theorem flatV_at (n sz : Nat) (cv : Nat → Nat → Value) {i j : Nat} (hi : i < n) (hj : j < sz) : (flatV n sz cv)[i * sz + j]? = some (cv i j) := by
  have hk : i * sz + j < n * sz := by
    have : (i + 1) * sz ≤ n * sz := Nat.mul_le_mul_right _ hi
    rw [Nat.add_mul, Nat.one_mul] at this
    omega
  have h1 : (i * sz + j) / sz = i := by
    rw [Nat.mul_comm, Nat.mul_add_div (by omega), Nat.div_eq_of_lt hj]; rfl
  have h2 : (i * sz + j) % sz = j := by
    rw [Nat.mul_comm, Nat.mul_add_mod, Nat.mod_eq_of_lt hj]
  simp [flatV, List.getElem?_range hk, h1, h2]

theorem rowCell_at {rows : List (List AV)} {sz k : Nat} (hsz : ∀ row ∈ rows, row.length = sz) (hk : k < rows.length * sz) : ∃ c, rowCell rows (k / sz) (k % sz) = some c := by
  have h0 : 0 < sz := by rcases Nat.eq_zero_or_pos sz with h | h; · subst h; simp at hk
                         · exact h
  have h1 : k / sz < rows.length := by rw [Nat.div_lt_iff_lt_mul h0]; exact hk
  have h2 : k % sz < (rows[k / sz]).length := by rw [hsz _ (List.getElem_mem h1)]; exact Nat.mod_lt _ h0
  exact ⟨rows[k / sz][k % sz], by simp [rowCell, h1, h2]⟩

/-- A slice as it stands in memory. -/
structure SlV (w : World) (γ : G) (rows : List (List AV)) (a : Option Addr) (cap b off sz : Nat) (cv : Nat → Nat → Value) : Prop where
  hcap : rows.length ≤ cap
  hnil : a = none → cap = 0
  at_ : rows ≠ [] → a = some ⟨b, off, none⟩ ∧ b < w.heap.size
  hsz : ∀ row ∈ rows, row.length = sz
  cell : ∀ (i j : Nat) (c : AV), rowCell rows i j = some c → w.cell? ⟨b, off + i * sz + j, none⟩ = some (cv i j) ∧ γ.ro b (off + i * sz + j) ∧ (cv i j).oneCell' = true
  rep : ∀ (i j : Nat) (c : AV), rowCell rows i j = some c → Rep w γ.imm c (cv i j)

theorem SlV.mk' {w : World} {γ : G} {rows : List (List AV)} {a : Option Addr} {cap b off sz : Nat} {cv : Nat → Nat → Value} (h : SlV w γ rows a cap b off sz cv) {rt : Rt} (hrt : RtOK w γ a rows.length cap sz rt) :
    Rep w γ (.sl rt rows) (.slice a rows.length cap) :=   .sl b off sz cv h.hcap h.hnil h.at_ h.hsz h.cell h.rep hrt

theorem Rep.sl_inv {w : World} {γ : G} {v : Value} {rt : Rt} {rows : List (List AV)} (h : Rep w γ (.sl rt rows) v) : ∃ (a : Option Addr) (cap b off sz : Nat) (cv : Nat → Nat → Value),
    v = .slice a rows.length cap ∧ SlV w γ rows a cap b off sz cv ∧ RtOK w γ a rows.length cap sz rt := by
  obtain ⟨a, cap, b, off, sz, cv, h0, h1, h2, h3, h4, h5, h6, h7⟩ := h.inv_sl
  exact ⟨a, cap, b, off, sz, cv, h0, ⟨h1, h2, h3, h4, h5, h6⟩, h7⟩

theorem SlV.cells {w : World} {γ : G} {rows : List (List AV)} {a : Option Addr} {cap b off sz : Nat} {cv : Nat → Nat → Value} (h : SlV w γ rows a cap b off sz cv) :
    ∀ k u, (flatV rows.length sz cv)[k]? = some u → w.cell? ((⟨b, off, none⟩ : Addr).add k) = some u := fun k u hu => by
  obtain ⟨hk, rfl⟩ := flatV_get hu
  obtain ⟨c, hc⟩ := rowCell_at h.hsz hk
  have := (h.cell _ _ c hc).1
  have h0 : 0 < sz := by rcases Nat.eq_zero_or_pos sz with h | h; · subst h; simp at hk
                         · exact h
  rw [addr_add]
  rw [← this]
  have e : off + k = off + k / sz * sz + k % sz := by
    have := Nat.div_add_mod k sz
    rw [Nat.mul_comm] at this
    omega
  rw [e]

theorem SlV.one {w : World} {γ : G} {rows : List (List AV)} {a : Option Addr} {cap b off sz : Nat} {cv : Nat → Nat → Value} (h : SlV w γ rows a cap b off sz cv) :
    ∀ u ∈ flatV rows.length sz cv, u.oneCell' = true := fun u hu => by
  obtain ⟨k, hk⟩ := List.mem_iff_getElem?.1 hu
  obtain ⟨hk', rfl⟩ := flatV_get hk
  obtain ⟨c, hc⟩ := rowCell_at h.hsz hk'
  exact (h.cell _ _ c hc).2.2

theorem SlV.first {P : Program} {w : World} {γ : G} {rows : List (List AV)} {a : Option Addr} {cap b off sz : Nat} {cv : Nat → Nat → Value} (h : SlV w γ rows a cap b off sz cv) {w' : World} (hw : ∀ x, w'.cell? x = w.cell? x) :
    (Builtin.firstCells sz rows.length (.slice a rows.length cap)).run P w' = .ok (flatV rows.length sz cv).toArray w' := by
  cases hr : rows with
  | nil =>
    subst hr
    cases a with
    | none => simp [Builtin.firstCells, flatV]
    | some a => simp [Builtin.firstCells, loadCells, loadCellsFrom, flatV]
  | cons r rs =>
    rw [← hr]
    obtain ⟨rfl, _⟩ := h.at_ (by rw [hr]; simp)
    exact run_firstCells_some w' sz rows.length _ rows.length cap _ (length_flatV _ _ _) fun j u hj => by rw [hw]; exact h.cells j u hj

/-- The contents of two slices, one behind the other. -/
def joinCv (n : Nat) (cv cv2 : Nat → Nat → Value) : Nat → Nat → Value := fun i j => if i < n then cv i j else cv2 (i - n) j

theorem rowCell_append {rows rows2 : List (List AV)} {i j : Nat} {c : AV} (h : rowCell (rows ++ rows2) i j = some c) :
    (i < rows.length ∧ rowCell rows i j = some c) ∨ (rows.length ≤ i ∧ rowCell rows2 (i - rows.length) j = some c) := by
  unfold rowCell at *
  rcases Nat.lt_or_ge i rows.length with hi | hi
  · rw [List.getElem?_append_left hi] at h; exact .inl ⟨hi, h⟩
  · rw [List.getElem?_append_right hi] at h; exact .inr ⟨hi, h⟩

theorem rowCell_lt {rows : List (List AV)} {i j : Nat} {c : AV} (h : rowCell rows i j = some c) : ∃ hi : i < rows.length, j < rows[i].length := by
  unfold rowCell at h
  cases hr : rows[i]? with
  | none => simp [hr] at h
  | some row =>
    obtain ⟨hi, rfl⟩ := List.getElem?_eq_some_iff.1 hr
    simp [hr] at h
    exact ⟨hi, (List.getElem?_eq_some_iff.1 h).1⟩

section run
variable {P : Program} {w : World} {γ : G} {t ty e : TypeId} {i : TypeInfo} {z : Value} {rows rows2 : List (List AV)} {a a2 : Option Addr} {cap b off cap2 b2 off2 sz : Nat} {cv cv2 : Nat → Nat → Value}

theorem run_app_none (ht : P.underlying t = some (.slice e)) (hi : P.info? e = some i) (a2 : Option Addr) (cap2 len : Nat) (hcap : len ≤ cap) :
    (Builtin.append_ #[t, t] ty #[.slice a len cap, .slice a2 0 cap2]).run P w = .ok (.slice a len cap) w := by
  cases a <;> cases a2 <;> simp [Builtin.append_, run_underlying ht, sizeOf, typeInfo, hi, Builtin.lenOf, hcap, Builtin.firstCells, loadCells, loadCellsFrom, storeCells]

theorem run_app_grow (ht : P.underlying t = some (.slice e)) (hi : P.info? e = some i) (hz : i.zero = some z) (h : SlV w γ rows a cap b off i.size cv) {γ2 : G} (h2 : SlV w γ2 rows2 a2 cap2 b2 off2 i.size cv2)
    (hg : cap < rows.length + rows2.length) (hfit : (2 * (rows.length + rows2.length) + 2000) * i.bytes ≤ 281474976710656) (hbig : rows.length + rows2.length ≤ 9223372036854775807) :
    ∃ newcap, rows.length + rows2.length ≤ newcap ∧ (Builtin.append_ #[t, t] ty #[.slice a rows.length cap, .slice a2 rows2.length cap2]).run P w =
      .ok (.slice (some ⟨w.heap.size, 0, none⟩) (rows.length + rows2.length) newcap)
        (w.drew.alloc (.cells ((flatV rows.length i.size cv).toArray ++ (flatV rows2.length i.size cv2).toArray ++ Builtin.zeroCells z.cells (newcap - (rows.length + rows2.length))) e)) := by
  have hn : ¬ (rows.length + rows2.length ≤ cap) := by omega
  have h63' : ¬ (9223372036854775807 < ((rows.length : Int) + (rows2.length : Int))) := by omega
  have hle := nextslicecap_le hg
  have h48' : ¬ (281474976710656 < Builtin.nextslicecap (rows.length + rows2.length) cap * i.bytes) := by
    have : Builtin.nextslicecap (rows.length + rows2.length) cap * i.bytes ≤ (2 * (rows.length + rows2.length) + 2000) * i.bytes := Nat.mul_le_mul_right _ (by omega)
    omega
  have f1 := h.first (P := P) (w' := w.drew) fun _ => rfl
  have f2 := h2.first (P := P) (w' := w.drew) fun _ => rfl
  refine ⟨grownCap w (rows.length + rows2.length) cap e, grownCap_ge w _ _ _, ?_⟩
  simp [Builtin.append_, run_underlying ht, sizeOf, typeInfo, zeroValue, hi, hz, Builtin.lenOf, hn, h63', h48', Question.forced, f1, f2, newRow, grownCap]
  congr 2
  apply Array.ext'
  simp [List.append_assoc]

theorem run_app_room (ht : P.underlying t = some (.slice e)) (hi : P.info? e = some i) (h2 : SlV w γ rows2 a2 cap2 b2 off2 i.size cv2) {len : Nat}
    (hroom : len + rows2.length ≤ cap) {arr : Array Value} {e' : TypeId} (hh : w.heap[b]? = some (.cells arr e' (0, 0))) (hsz : off + cap * i.size ≤ arr.size) :
    (Builtin.append_ #[t, t] ty #[.slice (some ⟨b, off, none⟩) len cap, .slice a2 rows2.length cap2]).run P w =
      .ok (.slice (some ⟨b, off, none⟩) (len + rows2.length) cap) (w.setCells b (off + len * i.size) (flatV rows2.length i.size cv2)) := by
  have f2 := h2.first (P := P) (w' := w) fun _ => rfl
  have hle : (len + rows2.length) * i.size ≤ cap * i.size := Nat.mul_le_mul_right _ hroom
  rw [Nat.add_mul] at hle
  have hst := run_storeCells_cells (P := P) b (off + len * i.size) (flatV rows2.length i.size cv2) 0 w (fun j hj => by
      rw [length_flatV] at hj
      rw [cell_of_block hh, Nat.add_zero, Array.getElem?_eq_getElem (by omega)]; rfl)
    (fun j hj => frozen_of_block hh) h2.one
  simp only [Nat.add_zero] at hst
  simp [Builtin.append_, run_underlying ht, sizeOf, typeInfo, hi, Builtin.lenOf, hroom, f2, addr_add, hst]
end run

end Go.Abs
