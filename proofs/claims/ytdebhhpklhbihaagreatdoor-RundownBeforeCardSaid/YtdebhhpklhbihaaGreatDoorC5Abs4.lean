/-
  OWN WORK. The operations that leave the abstract memory are sound.
-/
import Derived.Test.YtdebhhpklhbihaaGreatDoorC5Abs3
namespace Go.Abs
open Go Go.RowKit

section inv
variable {w : World} {γ : G} {v : Value}
theorem Rep.inv_bool {b : Bool} (h : Rep w γ (.bool b) v) : v = .bool b := by cases h; rfl
theorem Rep.inv_int {k : IntKind} {n : Int} (h : Rep w γ (.int k n) v) : v = .int k n := by cases h; rfl
theorem Rep.inv_str {s : ByteArray} (h : Rep w γ (.str s) v) : v = .string s := by cases h; rfl
theorem Rep.inv_nilfn (h : Rep w γ .nilfn v) : v = .nilFunc := by cases h; rfl
theorem Rep.inv_ptr {id o : Nat} (h : Rep w γ (.ptr id o) v) : ∃ b, γ.β id = some b ∧ v = .pointer (some ⟨b, o, none⟩) := by cases h with | ptr h => exact ⟨_, h, rfl⟩
theorem Rep.inv_bs {id off len sz : Nat} (h : Rep w γ (.bs id off len sz) v) : ∃ (b cap : Nat) (arr : Array Value) (e : TypeId), γ.β id = some b ∧ v = .slice (some ⟨b, off, none⟩) len cap ∧ len ≤ cap ∧
    w.heap[b]? = some (.cells arr e (0, 0)) ∧ off + cap * sz ≤ arr.size := by
  cases h with | bs h hl hh hs => exact ⟨_, _, _, _, h, rfl, hl, hh, hs⟩
theorem Rep.inv_gd {g : Bool} {a : AV} (h : Rep w γ (.gd g a) v) (hg : g = true) : Rep w γ a v := by cases h with | gd h _ => exact h hg
theorem Rep.inv_gdF {a : AV} (h : Rep w γ (.gd false a) v) : v = undef := by cases h with | gd _ h => exact h rfl
theorem Rep.inv_agg {cs : List AV} (h : Rep w γ (.agg cs) v) : ∃ arr : Array Value, v = .agg arr ∧ RepL w γ cs arr.toList := by
  cases h with
  | @agg _ _ arr hl h => exact ⟨arr, rfl, by simpa using hl, fun i a v h1 h2 => h i a v h1 (by simpa using h2)⟩
theorem Rep.inv_tup {cs : List AV} (h : Rep w γ (.tup cs) v) : ∃ arr : Array Value, v = .tuple arr ∧ RepL w γ cs arr.toList := by
  cases h with
  | @tup _ _ arr hl h => exact ⟨arr, rfl, by simpa using hl, fun i a v h1 h2 => h i a v h1 (by simpa using h2)⟩
theorem Rep.inv_fn {f : FuncId} {first cap : List AV} (h : Rep w γ (.fn f first cap) v) : ∃ fa ca : Array Value, v = .func (.func f) fa ca ∧ RepL w γ first fa.toList ∧ RepL w γ cap ca.toList := by
  cases h with
  | @fn _ _ _ _ fa ca hl h hl' h' => exact ⟨fa, ca, rfl, ⟨by simpa using hl, fun i a v h1 h2 => h i a v h1 (by simpa using h2)⟩, ⟨by simpa using hl', fun i a v h1 h2 => h' i a v h1 (by simpa using h2)⟩⟩
theorem Rep.inv_ep {row : List AV} {o : Nat} (h : Rep w γ (.ep row o) v) : ∃ (b off : Nat) (cv : Nat → Value), v = .pointer (some ⟨b, off + o, none⟩) ∧ b < w.heap.size ∧
    (∀ (j : Nat) (c : AV), row[j]? = some c → w.cell? ⟨b, off + j, none⟩ = some (cv j) ∧ γ.ro b (off + j) ∧ (cv j).oneCell' = true) ∧ (∀ (j : Nat) (c : AV), row[j]? = some c → Rep w γ.imm c (cv j)) := by
  cases h with
  | @ep _ _ _ b off cv hb hc h => exact ⟨b, off, cv, rfl, hb, hc, h⟩
theorem Rep.inv_sl {rt : Rt} {rows : List (List AV)} (h : Rep w γ (.sl rt rows) v) : ∃ (a : Option Addr) (cap b off sz : Nat) (cv : Nat → Nat → Value), v = .slice a rows.length cap ∧
    rows.length ≤ cap ∧ (a = none → cap = 0) ∧ (rows ≠ [] → a = some ⟨b, off, none⟩ ∧ b < w.heap.size) ∧ (∀ row ∈ rows, row.length = sz) ∧
    (∀ (i j : Nat) (c : AV), rowCell rows i j = some c → w.cell? ⟨b, off + i * sz + j, none⟩ = some (cv i j) ∧ γ.ro b (off + i * sz + j) ∧ (cv i j).oneCell' = true) ∧
    (∀ (i j : Nat) (c : AV), rowCell rows i j = some c → Rep w γ.imm c (cv i j)) ∧ RtOK w γ a rows.length cap sz rt := by
  cases h with
  | @sl _ _ _ a cap b off sz cv h1 h2 h3 h4 h5 h6 h7 => exact ⟨a, cap, b, off, sz, cv, rfl, h1, h2, h3, h4, h5, h6, h7⟩
end inv

theorem Rep.of_imm {w : World} {γ : G} {a : AV} {v : Value} (h : Rep w γ.imm a v) : Rep w γ a v :=
  h.monoV ⟨Nat.le_refl _, fun _ _ _ h => ⟨h, rfl⟩, fun _ _ h => (by cases h), fun _ => Nat.zero_le _, fun _ _ h => (by cases h), fun _ _ h => (by cases h), fun _ _ _ h => (by cases h), Sz.refl w⟩

theorem RepL.agg {w : World} {γ : G} {cs : List AV} {vs : List Value} (h : RepL w γ cs vs) : Rep w γ (.agg cs) (.agg vs.toArray) :=
  .agg (by simpa using h.1) fun i c v h1 h2 => h.2 i c v h1 (by simpa using h2)
theorem RepL.agg' {w : World} {γ : G} {cs : List AV} {arr : Array Value} (h : RepL w γ cs arr.toList) : Rep w γ (.agg cs) (.agg arr) := by
  have := h.agg; simpa using this
theorem RepL.take {w : World} {γ : G} {cs : List AV} {vs : List Value} (h : RepL w γ cs vs) (n : Nat) : RepL w γ (cs.take n) (vs.take n) :=
  ⟨by simp [h.1], fun i a v h1 h2 => by
    rw [List.getElem?_take] at h1 h2
    split at h1 <;> simp_all
    exact h.2 i a v h1 h2⟩
theorem RepL.drop {w : World} {γ : G} {cs : List AV} {vs : List Value} (h : RepL w γ cs vs) (n : Nat) : RepL w γ (cs.drop n) (vs.drop n) :=
  ⟨by simp [h.1], fun i a v h1 h2 => by
    rw [List.getElem?_drop] at h1 h2
    exact h.2 _ a v h1 h2⟩

/-- The wide fence, in a round or not. -/
def FW (r : Option Nat) : Fence := { Fence.wide with round := r }

section
variable {P : Program} {o : Oper} {a : Act} {w : World} {next : Act → World → Prop} {Q : Exit → Act → World → Prop} {r : Option Nat}

theorem no_defer {x : Next} {w' : World} (h : (execOp a.eval o).run P w = .ok x w') (hx : ∀ d, x ≠ .defer d) : ∀ c, o.op ≠ .defer c := by
  intro c hc
  unfold execOp at h
  simp only [hc, Sem.run_bind] at h
  cases hr : (resolve a.eval c o.type).run P w with
  | ok d w'' => rw [hr] at h; simp at h; exact hx d h.1.symm
  | halt e w'' => rw [hr] at h; simp at h

theorem wp_run {x : Next} {w' : World} (h : (execOp a.eval o).run P w = .ok x w') (hx : ∀ d, x ≠ .defer d) (hn : o.uponIn (FW r) 0 P a next Q (.ok x w')) : o.wpIn (FW r) 0 P a w next Q := by
  refine ⟨fun f _ => trivial, ?_⟩
  rw [Oper.semAt_eq _ _ _ (no_defer h hx), h]
  exact hn

theorem wp_val {v : Value} {w' : World} (h : (execOp a.eval o).run P w = .ok (.value v) w') (hn : next (a.put o.dst v) w') : o.wpIn (FW r) 0 P a w next Q :=
  wp_run h (fun _ h => by cases h) hn
theorem wp_skip' {w' : World} (h : (execOp a.eval o).run P w = .ok .skip w') (hn : next (a.put o.dst undef) w') : o.wpIn (FW r) 0 P a w next Q :=
  wp_run h (fun _ h => by cases h) hn
theorem wp_enter {f : FuncId} {args : Array Value} {w' : World} (h : (execOp a.eval o).run P w = .ok (.enter f args) w') (hn : Calls P f args w' fun
      | .returned v, w'' => next (a.put o.dst v) w''
      | .panicked chain, w'' => Q (.panic chain) a w''
      | .outgrown, _ => LetsOut Q) : o.wpIn (FW r) 0 P a w next Q :=
  wp_run h (fun _ h => by cases h) ⟨fun h => by simp [FW, Fence.wide] at h, callsIn_wide.2 hn⟩
end

theorem addr_add (b o n : Nat) : (⟨b, o, none⟩ : Addr).add n = ⟨b, o + n, none⟩ := by
  unfold Addr.add; split <;> simp_all

/-- What a pointer leads to, from its place on. -/
theorem cut_load {P : Program} {w : World} {γ : G} {agg : Bool} {n b o : Nat} {t : TypeId} {i : TypeInfo} {d : TypeDesc} (hi : P.info? t = some i) (hd : P.underlying t = some d) (hagg : aggT P t = agg)
    (hn : agg = true → n = i.size) {cs : List AV} {cv : Nat → Value} (hcell : ∀ (j : Nat) (c : AV), cs[j]? = some c → w.cell? ⟨b, o + j, none⟩ = some (cv j)) (hrep : ∀ (j : Nat) (c : AV), cs[j]? = some c → Rep w γ c (cv j))
    (hc : (cutCells agg n cs).1) : ∃ v, (Instr.loadAt t (.pointer (some ⟨b, o, none⟩))).run P w = .ok v w ∧ Rep w γ (cutCells agg n cs).2 v := by
  obtain ⟨h1, h2⟩ := hc
  have hlen : n ≤ cs.length := by rw [List.length_take] at h1; omega
  cases agg with
  | false =>
    have hn1 := h2 rfl
    subst hn1
    have hz : cs[0]? = some (cs.getD 0 .junk) := by simp [List.getD]; cases cs <;> simp_all
    have hc0 := hcell 0 _ hz
    refine ⟨cv 0, ?_, ?_⟩
    · unfold aggT at hagg
      rw [hd] at hagg
      simp only [Nat.add_zero] at hc0
      cases d <;> simp at hagg <;> simp [Instr.loadAt, Instr.sureAddr, loadVar, isAgg, run_underlying hd, hc0]
    · simpa [cutCells] using hrep 0 _ hz
  | true =>
    have hn1 := hn rfl
    subst hn1
    have hl : (loadCells ⟨b, o, none⟩ i.size).run P w = .ok ((List.range i.size).map cv).toArray w := by
      refine run_loadCells w _ _ _ fun j hj => ?_
      rw [addr_add]
      exact hcell j _ (List.getElem?_eq_getElem (by omega))
    refine ⟨.agg ((List.range i.size).map cv).toArray, ?_, ?_⟩
    · unfold aggT at hagg
      rw [hd] at hagg
      cases d <;> simp at hagg <;> simp [Instr.loadAt, Instr.sureAddr, loadVar, isAgg, run_underlying hd, sizeOf, typeInfo, hi, hl]
    · simp only [cutCells, if_true]
      refine RepL.agg ⟨by simp; omega, fun j c v hj1 hj2 => ?_⟩
      rw [List.getElem?_take] at hj1
      split at hj1
      · simp at hj2
        obtain ⟨k, hk, rfl⟩ := hj2
        rename_i hlt
        rw [List.getElem?_range hlt] at hk
        cases hk
        exact hrep j c hj1
      · cases hj1

end Go.Abs
