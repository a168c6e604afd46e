/-
  OWN WORK. What the readings of this seat's arguments are; weaker knowledge of an argument suffices.
-/
import Derived.Test.YtedgjnpaebllpaaGreatDoorMF
import Derived.Test.YtedgjnpaebllpaaGreatDoorLwB
set_option linter.unusedVariables false
set_option linter.unusedSimpArgs false
namespace Go.Proofs.YtedgjnpaebllpaaGreatDoor
open Go Go.Abs

section
variable {H : Type} {P : Program} {n : Nat} {t e : TypeId} {x : DataW H}
theorem typed_int {k : IntKind} (hu : P.underlying t = some (.int k)) (h : Typed P (n + 1) t x) : ∃ m, x = .lit (.int k m) ∧ (Lit.int k m).wf = true := by
  unfold Typed at h
  rw [hu] at h
  cases x with
  | lit l => cases l <;> first | (cases h; done) | (obtain ⟨rfl, h⟩ := h; exact ⟨_, rfl, h⟩)
  | _ => cases h
theorem typed_bool (hu : P.underlying t = some .bool) (h : Typed P (n + 1) t x) : ∃ b, x = .lit (.bool b) := by
  unfold Typed at h
  rw [hu] at h
  cases x with
  | lit l => cases l <;> first | (cases h; done) | exact ⟨_, rfl⟩
  | _ => cases h
theorem typed_str (hu : P.underlying t = some .string) (h : Typed P (n + 1) t x) : ∃ s, x = .lit (.string s) ∧ s.length ≤ maxLen := by
  unfold Typed at h
  rw [hu] at h
  cases x with
  | lit l => cases l <;> first | (cases h; done) | exact ⟨_, rfl, h⟩
  | _ => cases h
theorem typed_slice (hu : P.underlying t = some (.slice e)) (h : Typed P (n + 1) t x) : x = .nil ∨ ∃ elems spare, x = .slice elems spare ∧ elems.length ≤ maxLen ∧ ∀ y ∈ elems, Typed P n e y := by
  unfold Typed at h
  rw [hu] at h
  cases x <;> first | (cases h; done) | exact .inl rfl | exact .inr ⟨_, _, rfl, h.1, h.2⟩
theorem typed_struct {fs : Array Field} (hu : P.underlying t = some (.struct fs)) (h : Typed P (n + 1) t x) : ∃ parts, x = .agg parts ∧ parts.length = fs.size ∧ ∀ p ∈ fs.toList.zip parts, Typed P n p.1.type p.2 := by
  unfold Typed at h
  rw [hu] at h
  cases x <;> first | (cases h; done) | exact ⟨_, rfl, h.1, h.2⟩
theorem typed_array {k : Nat} (hu : P.underlying t = some (.array k e)) (h : Typed P (n + 1) t x) : ∃ parts, x = .agg parts ∧ parts.length = k ∧ ∀ y ∈ parts, Typed P n e y := by
  unfold Typed at h
  rw [hu] at h
  cases x <;> first | (cases h; done) | exact ⟨_, rfl, h.1, h.2⟩
theorem avs_int {k : IntKind} (hu : P.underlying t = some (.int k)) (k' : IntKind) (m : Int) : avs P (n + 1) t (.lit (.int k' m) : DataW H) = [.int k' m] := by simp only [avs, hu]
theorem avs_bool (hu : P.underlying t = some .bool) (b : Bool) : avs P (n + 1) t (.lit (.bool b) : DataW H) = [.bool b] := by simp only [avs, hu]
theorem avs_str (hu : P.underlying t = some .string) (l : List UInt8) : avs P (n + 1) t (.lit (.string l) : DataW H) = [.str ⟨l.toArray⟩] := by simp only [avs, hu]
theorem avs_nil (hu : P.underlying t = some (.slice e)) : avs P (n + 1) t (.nil : DataW H) = [.sl .nil []] := by simp only [avs, hu]
theorem avs_sl (hu : P.underlying t = some (.slice e)) (l sp : List (DataW H)) : avs P (n + 1) t (.slice l sp) = [.sl .nn (l.map (avs P n e))] := by simp only [avs, hu]
theorem avs_struct {fs : Array Field} (hu : P.underlying t = some (.struct fs)) (l : List (DataW H)) : avs P (n + 1) t (.agg l) = (fs.toList.zip l).flatMap fun p => avs P n p.1.type p.2 := by simp only [avs, hu]
theorem avs_array {k : Nat} (hu : P.underlying t = some (.array k e)) (l : List (DataW H)) : avs P (n + 1) t (.agg l) = l.flatMap (avs P n e) := by simp only [avs, hu]
theorem arg_agg {d : Nat} (h : aggT P t = true) : argOf P d t x = .agg (avs P d t x) := by unfold argOf; rw [h]; rfl
theorem arg_one {d : Nat} (h : aggT P t = false) {a : AV} (ha : avs P d t x = [a]) : argOf P d t x = a := by unfold argOf; rw [h, ha]; rfl
end

/-- Less known of the arguments. -/
def Wk (a b : AV) : Prop := ∀ (w : World) (γ : G) (v : Value), Rep w γ a v → Rep w γ b v
theorem Wk.refl (a : AV) : Wk a a := fun _ _ _ h => h
theorem Wk.sl (rt : Rt) (rows : List (List AV)) : Wk (.sl rt rows) (.sl .ro rows) := fun w γ v h => by
  cases h with
  | sl b off sz cv hcap hnil ha hsz hc hr hrt => exact .sl b off sz cv hcap hnil ha hsz hc hr trivial

def WkL : List AV → List AV → Prop
  | [], [] => True
  | a :: r, b :: s => Wk a b ∧ WkL r s
  | _, _ => False
theorem WkL.rep {w : World} {γ : G} : ∀ {l l' : List AV} {vs : List Value}, WkL l l' → RepL w γ l vs → RepL w γ l' vs
  | [], [], _, _, h => h
  | [], _ :: _, _, h, _ => by cases h
  | _ :: _, [], _, h, _ => by cases h
  | a :: l, b :: l', [], _, h => by have := h.1; simp at this
  | a :: l, b :: l', v :: vs, hk, h => by
    have h0 : Rep w γ a v := h.2 0 a v rfl rfl
    have hs : RepL w γ l vs := ⟨by have := h.1; simpa using this, fun i x y h1 h2 => h.2 (i + 1) x y (by simpa using h1) (by simpa using h2)⟩
    exact RepL.cons (hk.1 w γ v h0) (WkL.rep hk.2 hs)
theorem pure_weak {P : Program} {gl : Nat → AV} {f : FuncId} {l l' : List AV} {r : AV} (h : Pure P gl f l' r) (hk : WkL l l') : Pure P gl f l r :=
  ⟨h.1, fun ro w vs hgl hr => h.2 ro w vs hgl (hk.rep hr)⟩

theorem wf64 {m : Int} (h : (Lit.int .i64 m).wf = true) : -9223372036854775808 ≤ m ∧ m ≤ 9223372036854775807 := by
  simp [Lit.wf, IntKind.min, IntKind.max, IntKind.signed, IntKind.bits] at h
  omega

set_option maxRecDepth 100000 in
/-- []int -/
theorem arg_ints {H : Type} {x : DataW H} {n : Nat} (h : Typed Tryz.prog (n + 2) 24 x) : ∃ xs : List Int, (∀ y ∈ xs, -9223372036854775808 ≤ y ∧ y ≤ 9223372036854775807) ∧ xs.length ≤ 9223372036854775807 ∧ Wk (argOf Tryz.prog (n + 2) 24 x) (ints xs) := by
  have hagg : aggT Tryz.prog 24 = false := by unfold aggT; rw [Tryz.underlying24]
  rcases typed_slice Tryz.underlying24 h with rfl | ⟨elems, spare, rfl, hl, he⟩
  · refine ⟨[], by simp, by simp, ?_⟩
    rw [arg_one hagg (avs_nil Tryz.underlying24)]
    exact Wk.sl _ _
  · have key : ∃ xs : List Int, (∀ y ∈ xs, -9223372036854775808 ≤ y ∧ y ≤ 9223372036854775807) ∧ elems.map (avs Tryz.prog (n + 1) 3) = xs.map fun m => [I m] := by
      clear hl h
      induction elems with
      | nil => exact ⟨[], by simp, rfl⟩
      | cons y ys ih =>
        obtain ⟨xs, h1, h2⟩ := ih fun z hz => he z (by simp [hz])
        obtain ⟨m, rfl, hw⟩ := typed_int Tryz.underlying3 (he y (by simp))
        refine ⟨m :: xs, ?_, ?_⟩
        · intro z hz
          rcases List.mem_cons.1 hz with rfl | hz
          · exact wf64 hw
          · exact h1 z hz
        · rw [List.map_cons, h2, avs_int Tryz.underlying3]; rfl
    obtain ⟨xs, h1, h2⟩ := key
    refine ⟨xs, h1, ?_, ?_⟩
    · have : xs.length = elems.length := by have := congrArg List.length h2; simpa using this.symm
      have hm : maxLen ≤ 9223372036854775807 := by decide
      omega
    · rw [arg_one hagg (avs_sl Tryz.underlying24 _ _), h2]
      exact Wk.sl _ _

theorem list11 {α : Type} {l : List α} (h : l.length = 11) : ∃ a0 a1 a2 a3 a4 a5 a6 a7 a8 a9 a10, l = [a0, a1, a2, a3, a4, a5, a6, a7, a8, a9, a10] := by
  match l, h with
  | [a0, a1, a2, a3, a4, a5, a6, a7, a8, a9, a10], _ => exact ⟨a0, a1, a2, a3, a4, a5, a6, a7, a8, a9, a10, rfl⟩
theorem list3 {α : Type} {l : List α} (h : l.length = 3) : ∃ a0 a1 a2, l = [a0, a1, a2] := by
  match l, h with
  | [a0, a1, a2], _ => exact ⟨a0, a1, a2, rfl⟩

set_option maxRecDepth 100000 in
/-- api.Unit -/
theorem arg_unit {H : Type} {x : DataW H} {n : Nat} (h : Typed Tryz.prog (n + 5) 50 x) : ∃ u : Unit, (-9223372036854775808 ≤ u.it ∧ u.it ≤ 9223372036854775807) ∧ (-9223372036854775808 ≤ u.ix ∧ u.ix ≤ 9223372036854775807) ∧ u.data.size ≤ 9223372036854775807 ∧ ok1 u.al = true ∧ argOf Tryz.prog (n + 5) 50 x = .agg (unitRow u) := by
  have hagg : aggT Tryz.prog 50 = true := by unfold aggT; rw [Tryz.underlying50]
  obtain ⟨parts, rfl, hlen, hp⟩ := typed_struct Tryz.underlying50 h
  obtain ⟨a0, a1, a2, a3, a4, a5, a6, a7, a8, a9, a10, rfl⟩ := list11 hlen
  simp only [List.zip_cons_cons, List.zip_nil_right, List.forall_mem_cons, List.not_mem_nil] at hp
  obtain ⟨h0, h1, h2, h3, h4, h5, h6, h7, h8, h9, h10, _⟩ := hp
  obtain ⟨m0, rfl, _⟩ := typed_int Tryz.underlying3 h0
  obtain ⟨m1, rfl, _⟩ := typed_int Tryz.underlying3 h1
  obtain ⟨m2, rfl, _⟩ := typed_int Tryz.underlying3 h2
  obtain ⟨m3, rfl, w3⟩ := typed_int Tryz.underlying3 h3
  obtain ⟨m4, rfl, w4⟩ := typed_int Tryz.underlying3 h4
  obtain ⟨b5, rfl⟩ := typed_bool Tryz.underlying4 h5
  obtain ⟨s6, rfl, w6⟩ := typed_str Tryz.underlying9 h6
  obtain ⟨m7, rfl, _⟩ := typed_int Tryz.underlying3 h7
  obtain ⟨m8, rfl, _⟩ := typed_int Tryz.underlying3 h8
  obtain ⟨s9, rfl, _⟩ := typed_str Tryz.underlying9 h9
  obtain ⟨qs, rfl, hlen', hq⟩ := typed_struct Tryz.underlying48 h10
  obtain ⟨q0, q1, q2, rfl⟩ := list3 hlen'
  simp only [List.zip_cons_cons, List.zip_nil_right, List.forall_mem_cons, List.not_mem_nil] at hq
  obtain ⟨k0, k1, k2, _⟩ := hq
  obtain ⟨m10, rfl, _⟩ := typed_int Tryz.underlying3 k0
  obtain ⟨m11, rfl, _⟩ := typed_int Tryz.underlying3 k1
  obtain ⟨al, hal, hav⟩ : ∃ al, ok1 al = true ∧ avs Tryz.prog (n + 3) 46 q2 = [al] := by
    rcases typed_slice Tryz.underlying46 k2 with rfl | ⟨el, sp, rfl, _, _⟩
    · exact ⟨_, rfl, avs_nil Tryz.underlying46⟩
    · exact ⟨_, rfl, avs_sl Tryz.underlying46 _ _⟩
  have hm : maxLen ≤ 9223372036854775807 := by decide
  refine ⟨⟨m0, m1, m2, m3, m4, b5, ⟨s6.toArray⟩, m7, m8, ⟨s9.toArray⟩, m10, m11, al⟩, wf64 w3, wf64 w4, ?_, hal, ?_⟩
  · have : (⟨s6.toArray⟩ : ByteArray).size = s6.length := by simp [ByteArray.size]
    simp only [this]; omega
  · rw [arg_agg hagg, avs_struct Tryz.underlying50]
    simp only [List.zip_cons_cons, List.zip_nil_right, List.flatMap_cons, List.flatMap_nil]
    rw [avs_int Tryz.underlying3, avs_int Tryz.underlying3, avs_int Tryz.underlying3, avs_int Tryz.underlying3, avs_int Tryz.underlying3, avs_bool Tryz.underlying4, avs_str Tryz.underlying9, avs_int Tryz.underlying3, avs_int Tryz.underlying3, avs_str Tryz.underlying9, avs_struct Tryz.underlying48]
    simp only [List.zip_cons_cons, List.zip_nil_right, List.flatMap_cons, List.flatMap_nil]
    rw [avs_int Tryz.underlying3, avs_int Tryz.underlying3, hav]
    rfl
end Go.Proofs.YtedgjnpaebllpaaGreatDoor
