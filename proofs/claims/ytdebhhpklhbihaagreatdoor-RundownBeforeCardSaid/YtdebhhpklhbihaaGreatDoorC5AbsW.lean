/-
  OWN WORK. What the readings of arguments are; weaker knowledge of an argument, or of a result, suffices.
-/
import Derived.Test.YtdebhhpklhbihaaGreatDoorC5Abs18
import Derived.Test.YtdebhhpklhbihaaGreatDoorC5Abs15e
namespace Go.Abs
open Go Go.RowKit
abbrev I (n : Int) : AV := .int .i64 n

section
variable {H : Type} {P : Program} {n : Nat} {t e : TypeId} {x : DataW H}
theorem typed_int {k : IntKind} (hu : P.underlying t = some (.int k)) (h : Typed P (n + 1) t x) : ∃ m, x = .lit (.int k m) ∧ (Lit.int k m).wf = true := by
  unfold Typed at h
  rw [hu] at h
  cases x with
  | lit l => cases l <;> first | (cases h; done) | (obtain ⟨rfl, h⟩ := h; exact ⟨_, rfl, h⟩)
  | _ => cases h
theorem typed_bool (hu : P.underlying t = some .bool) (h : Typed P (n + 1) t x) : ∃ b, x = .lit (.bool b) := by
  unfold Typed at h
  rw [hu] at h
  cases x with
  | lit l => cases l <;> first | (cases h; done) | exact ⟨_, rfl⟩
  | _ => cases h
theorem typed_str (hu : P.underlying t = some .string) (h : Typed P (n + 1) t x) : ∃ s, x = .lit (.string s) ∧ s.length ≤ maxLen := by
  unfold Typed at h
  rw [hu] at h
  cases x with
  | lit l => cases l <;> first | (cases h; done) | exact ⟨_, rfl, h⟩
  | _ => cases h
theorem typed_slice (hu : P.underlying t = some (.slice e)) (h : Typed P (n + 1) t x) : x = .nil ∨ ∃ elems spare, x = .slice elems spare ∧ elems.length ≤ maxLen ∧ ∀ y ∈ elems, Typed P n e y := by
  unfold Typed at h
  rw [hu] at h
  cases x <;> first | (cases h; done) | exact .inl rfl | exact .inr ⟨_, _, rfl, h.1, h.2⟩
theorem typed_struct {fs : Array Field} (hu : P.underlying t = some (.struct fs)) (h : Typed P (n + 1) t x) : ∃ parts, x = .agg parts ∧ parts.length = fs.size ∧ ∀ p ∈ fs.toList.zip parts, Typed P n p.1.type p.2 := by
  unfold Typed at h
  rw [hu] at h
  cases x <;> first | (cases h; done) | exact ⟨_, rfl, h.1, h.2⟩
theorem typed_array {k : Nat} (hu : P.underlying t = some (.array k e)) (h : Typed P (n + 1) t x) : ∃ parts, x = .agg parts ∧ parts.length = k ∧ ∀ y ∈ parts, Typed P n e y := by
  unfold Typed at h
  rw [hu] at h
  cases x <;> first | (cases h; done) | exact ⟨_, rfl, h.1, h.2⟩
theorem avs_int {k : IntKind} (hu : P.underlying t = some (.int k)) (k' : IntKind) (m : Int) : avs P (n + 1) t (.lit (.int k' m) : DataW H) = [.int k' m] := by simp only [avs, hu]
theorem avs_bool (hu : P.underlying t = some .bool) (b : Bool) : avs P (n + 1) t (.lit (.bool b) : DataW H) = [.bool b] := by simp only [avs, hu]
theorem avs_str (hu : P.underlying t = some .string) (l : List UInt8) : avs P (n + 1) t (.lit (.string l) : DataW H) = [.str ⟨l.toArray⟩] := by simp only [avs, hu]
theorem avs_nil (hu : P.underlying t = some (.slice e)) : avs P (n + 1) t (.nil : DataW H) = [.sl .nil []] := by simp only [avs, hu]
theorem avs_sl (hu : P.underlying t = some (.slice e)) (l sp : List (DataW H)) : avs P (n + 1) t (.slice l sp) = [.sl .nn (l.map (avs P n e))] := by simp only [avs, hu]
theorem avs_struct {fs : Array Field} (hu : P.underlying t = some (.struct fs)) (l : List (DataW H)) : avs P (n + 1) t (.agg l) = (fs.toList.zip l).flatMap fun p => avs P n p.1.type p.2 := by simp only [avs, hu]
theorem avs_array {k : Nat} (hu : P.underlying t = some (.array k e)) (l : List (DataW H)) : avs P (n + 1) t (.agg l) = l.flatMap (avs P n e) := by simp only [avs, hu]
theorem arg_agg {d : Nat} (h : aggT P t = true) : argOf P d t x = .agg (avs P d t x) := by unfold argOf; rw [h]; rfl
theorem arg_one {d : Nat} (h : aggT P t = false) {a : AV} (ha : avs P d t x = [a]) : argOf P d t x = a := by unfold argOf; rw [h, ha]; rfl
end

/-- Less known of the arguments. -/
def Wk (a b : AV) : Prop := ∀ (w : World) (γ : G) (v : Value), Rep w γ a v → Rep w γ b v
theorem Wk.refl (a : AV) : Wk a a := fun _ _ _ h => h
theorem Wk.sl (rt : Rt) (rows : List (List AV)) : Wk (.sl rt rows) (.sl .ro rows) := fun w γ v h => by
  cases h with
  | sl b off sz cv hcap hnil ha hsz hc hr hrt => exact .sl b off sz cv hcap hnil ha hsz hc hr trivial

def WkL : List AV → List AV → Prop
  | [], [] => True
  | a :: r, b :: s => Wk a b ∧ WkL r s
  | _, _ => False
theorem WkL.rep {w : World} {γ : G} : ∀ {l l' : List AV} {vs : List Value}, WkL l l' → RepL w γ l vs → RepL w γ l' vs
  | [], [], _, _, h => h
  | [], _ :: _, _, h, _ => by cases h
  | _ :: _, [], _, h, _ => by cases h
  | a :: l, b :: l', [], _, h => by have := h.1; simp at this
  | a :: l, b :: l', v :: vs, hk, h => by
    have h0 : Rep w γ a v := h.2 0 a v rfl rfl
    have hs : RepL w γ l vs := ⟨by have := h.1; simpa using this, fun i x y h1 h2 => h.2 (i + 1) x y (by simpa using h1) (by simpa using h2)⟩
    exact RepL.cons (hk.1 w γ v h0) (WkL.rep hk.2 hs)
theorem pure_weak {P : Program} {gl : Nat → AV} {f : FuncId} {l l' : List AV} {r : AV} (h : Pure P gl f l' r) (hk : WkL l l') : Pure P gl f l r :=
  ⟨h.1, fun ro w vs hgl hr => h.2 ro w vs hgl (hk.rep hr)⟩

/-- Rows of which less is known. -/
theorem Wk.rows {α : Type} (l : List α) (f g : α → List AV) (hl : ∀ a, (g a).length = (f a).length) (hc : ∀ (a : α) (j : Nat) (c' : AV), (g a)[j]? = some c' → ∃ c, (f a)[j]? = some c ∧ Wk c c') : Wk (.sl .ro (l.map f)) (.sl .ro (l.map g)) := fun w γ v h => by
  have key : ∀ (i j : Nat) (c' : AV), rowCell (l.map g) i j = some c' → ∃ c, rowCell (l.map f) i j = some c ∧ Wk c c' := fun i j c' h => by
    unfold rowCell at h ⊢
    rw [List.getElem?_map] at h ⊢
    cases hi : l[i]? with
    | none => rw [hi] at h; cases h
    | some a =>
      rw [hi] at h
      simpa using hc a j c' (by simpa using h)
  obtain ⟨a, cap, b, off, sz, cv, rfl, s1, _⟩ := h.sl_inv
  have e1 : (l.map f).length = (l.map g).length := by simp
  rw [e1]
  refine SlV.mk' (b := b) (off := off) (sz := sz) (cv := cv) ⟨by rw [← e1]; exact s1.hcap, s1.hnil, fun hn => s1.at_ (by simpa using hn), fun row hr => ?_, fun i j c' h => ?_, fun i j c' h => ?_⟩ trivial
  · simp at hr
    obtain ⟨x, hx, rfl⟩ := hr
    rw [hl x]
    exact s1.hsz _ (by simp; exact ⟨x, hx, rfl⟩)
  · obtain ⟨c, h1, h2⟩ := key i j c' h
    exact s1.cell i j c h1
  · obtain ⟨c, h1, h2⟩ := key i j c' h
    exact h2 _ _ _ (s1.rep i j c h1)

theorem pure_res {P : Program} {gl : Nat → AV} {f : FuncId} {l : List AV} {r r' : AV} (h : Pure P gl f l r) (hk : Wk r r') : Pure P gl f l r' :=
  ⟨h.1, fun ro w vs hg hr => (h.2 ro w vs hg hr).mono fun _ _ ⟨v, h1, h2, h3⟩ => ⟨v, h1, h2, hk _ _ _ h3⟩⟩
theorem wk_agg {l l' : List AV} (h : WkL l l') : Wk (.agg l) (.agg l') := fun w γ v hr => by
  have key : ∀ {l l' : List AV}, WkL l l' → l.length = l'.length ∧ ∀ (i : Nat) (c' : AV), l'[i]? = some c' → ∃ c, l[i]? = some c ∧ Wk c c' := by
    intro l
    induction l with
    | nil => intro l' h; cases l' with
      | nil => exact ⟨rfl, fun i c' h => by simp at h⟩
      | cons _ _ => exact h.elim
    | cons a l ih => intro l' h; cases l' with
      | nil => exact h.elim
      | cons b l' =>
        obtain ⟨h1, h2⟩ := ih h.2
        refine ⟨by simp [h1], fun i c' hc => ?_⟩
        cases i with
        | zero => simp at hc; subst hc; exact ⟨a, rfl, h.1⟩
        | succ i => simpa using h2 i c' (by simpa using hc)
  obtain ⟨h1, h2⟩ := key h
  cases hr with
  | agg hl hc =>
    refine .agg (by omega) fun i c' v hc' hv => ?_
    obtain ⟨c, g1, g2⟩ := h2 i c' hc'
    exact g2 _ _ _ (hc i c v g1 hv)
end Go.Abs
