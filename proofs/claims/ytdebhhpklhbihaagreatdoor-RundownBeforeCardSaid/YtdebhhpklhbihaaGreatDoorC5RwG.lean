/-
  OWN WORK. The listed variable as the row's condition lays it; the readings of int and of lists of [5]int.
-/
import Derived.Test.YtdebhhpklhbihaaGreatDoorC5RwJ
import Derived.Test.YtdebhhpklhbihaaGreatDoorCards
import Derived.WalkKit
import Derived.Deep.DeepHandedRow
import Derived.Lib.LaidTab
import Derived.MakeChecks
namespace Go.Proofs.YtdebhhpklhbihaaGreatDoor
open Go Go.Abs Go.RowKit

def isI (a : AV) : Bool := match a with
  | .int _ _ => true
  | _ => false
theorem isI_rep {a : AV} (h : isI a = true) {w : World} {γ γ' : G} {v : Value} (hr : Rep w γ a v) : v.oneCell' = true ∧ Rep w γ' a v := by
  cases hr <;> simp [isI] at h
  exact ⟨rfl, .int _ _⟩

/-- A listed variable that stands first reads as its datum: what a pointer to it stands for. -/
theorem laid_first {P : Program} {W : World} {name : String} {d : DataW Unit} {rest : List (String × DataW Unit)} {g : Nat} {t : TypeId} {D : Nat} {row : List AV} (h : laidMet P ((name, d) :: rest) W)
    (hg : P.globalNamed name = some g) (hty : (P.globals[g]?).map (·.type) = some t) (hok : okT P D t = true) (hav : avs P D t d = row) (hi : row.all isI = true) (hne : row ≠ []) : Rep W (G0 top) (.ep row 0) (.pointer (some ⟨g, 0, none⟩)) := by
  obtain ⟨ps, ⟨g', t', cs, fuel, p, q, hg', ht', hvar, hd, _, _⟩, _⟩ := h
  obtain rfl := Option.some.inj (hg.symm.trans hg')
  obtain rfl := Option.some.inj (hty.symm.trans ht')
  obtain ⟨_, hr, _, _⟩ := trod_rep D fuel t cs.toList d p hd hok
  rw [hav] at hr
  have hcell : ∀ (j : Nat) (c : AV), row[j]? = some c → W.cell? ⟨g, j, none⟩ = some (cs.toList.getD j undef) ∧ (cs.toList.getD j undef).oneCell' = true ∧ Rep W (G0 top).imm c (cs.toList.getD j undef) := by
    intro j c hj
    have hlt : j < row.length := (List.getElem?_eq_some_iff.1 hj).1
    have hlt' : j < cs.toList.length := by rw [← hr.1]; exact hlt
    have hv : cs.toList[j]? = some (cs.toList.getD j undef) := by rw [List.getD_eq_getElem?_getD, List.getElem?_eq_getElem hlt']; rfl
    have hc := World.var?_cell hg hvar j
    have h1 := hr.2 j c _ hj hv
    have h2 : isI c = true := List.all_eq_true.1 hi c (List.mem_of_getElem? hj)
    obtain ⟨h3, h4⟩ := isI_rep h2 (γ' := (G0 top).imm) h1
    refine ⟨?_, h3, h4⟩
    rw [hc, ← Array.getElem?_toList]; exact hv
  have hsz : g < W.heap.size := by
    obtain ⟨a, r, rfl⟩ := List.exists_cons_of_ne_nil hne
    have := (hcell 0 a rfl).1
    simp only [World.cell?] at this
    rcases Nat.lt_or_ge g W.heap.size with h | h
    · exact h
    · rw [Array.getElem?_eq_none (by omega)] at this; simp at this
  refine Rep.ep (o := 0) (b := g) (off := 0) (fun j => cs.toList.getD j undef) hsz (fun j c hj => ?_) (fun j c hj => (hcell j c hj).2.2)
  obtain ⟨h1, h2, _⟩ := hcell j c hj
  refine ⟨by simpa using h1, trivial, h2⟩

set_option maxRecDepth 100000 in
theorem rates_av : avs Tryz.prog 5 279 (Rows.laid_onair_timecode_rates : DataW Unit) = tblR := by
  unfold Rows.laid_onair_timecode_rates
  have h3 : ∀ n : Int, avs Tryz.prog 2 3 (.lit (.int .i64 n) : DataW Unit) = [I n] := fun n => avs_int Tryz.underlying3 _ _
  have h3' : ∀ n : Int, avs Tryz.prog 3 3 (.lit (.int .i64 n) : DataW Unit) = [I n] := fun n => avs_int Tryz.underlying3 _ _
  have h23 : ∀ a b : Int, avs Tryz.prog 3 23 (.agg [.lit (.int .i64 a), .lit (.int .i64 b)] : DataW Unit) = [I a, I b] := fun a b => by
    rw [avs_struct Tryz.underlying23]
    simp [h3]
  have h218 : ∀ a b c d : Int, avs Tryz.prog 4 218 (.agg [.agg [.lit (.int .i64 a), .lit (.int .i64 b)], .lit (.int .i64 c), .lit (.int .i64 d)] : DataW Unit) = [I a, I b, I c, I d] := fun a b c d => by
    rw [avs_struct Tryz.underlying218]
    simp [h3', h23]
  rw [avs_array Tryz.underlying279]
  simp only [List.flatMap_cons, List.flatMap_nil, h218]
  rfl

theorem gl_rep {W : World} {rest : List (String × DataW Unit)} (h : laidMet Tryz.prog (("onair/timecode.rates", Rows.laid_onair_timecode_rates) :: rest) W) : ∀ g, Rep W (G0 top) (gl0 g) (.pointer (some ⟨g, 0, none⟩)) := by
  intro g
  match g with
  | 0 => exact laid_first (D := 5) h (g := 0) (t := 279) (by kernel_rfl) (by kernel_rfl) (by kernel_rfl) rates_av (by decide) (by simp [tblR])
  | g + 1 => exact .junk _

theorem wf64 {m : Int} (h : (Lit.int .i64 m).wf = true) : ok64 m := by
  simp [Lit.wf, IntKind.min, IntKind.max, IntKind.bits, IntKind.signed] at h
  unfold ok64; omega

theorem list5 {α : Type} {l : List α} (h : l.length = 5) : ∃ a0 a1 a2 a3 a4, l = [a0, a1, a2, a3, a4] := by
  match l, h with
  | [a0, a1, a2, a3, a4], _ => exact ⟨a0, a1, a2, a3, a4, rfl⟩

set_option maxRecDepth 100000 in
theorem avs_q5 {H : Type} {x : DataW H} {n : Nat} (h : Typed Tryz.prog (n + 2) 107 x) : ∃ q : Q5, Q5OK q ∧ avs Tryz.prog (n + 2) 107 x = q5Row q := by
  obtain ⟨parts, rfl, hlen, hp⟩ := typed_array Tryz.underlying107 h
  obtain ⟨a0, a1, a2, a3, a4, rfl⟩ := list5 hlen
  obtain ⟨m0, rfl, w0⟩ := typed_int Tryz.underlying3 (hp a0 (by simp))
  obtain ⟨m1, rfl, w1⟩ := typed_int Tryz.underlying3 (hp a1 (by simp))
  obtain ⟨m2, rfl, w2⟩ := typed_int Tryz.underlying3 (hp a2 (by simp))
  obtain ⟨m3, rfl, w3⟩ := typed_int Tryz.underlying3 (hp a3 (by simp))
  obtain ⟨m4, rfl, w4⟩ := typed_int Tryz.underlying3 (hp a4 (by simp))
  refine ⟨⟨m0, m1, m2, m3, m4⟩, ⟨wf64 w0, wf64 w1, wf64 w2, wf64 w3, wf64 w4⟩, ?_⟩
  rw [avs_array Tryz.underlying107]
  simp only [List.flatMap_cons, List.flatMap_nil]
  rw [avs_int Tryz.underlying3, avs_int Tryz.underlying3, avs_int Tryz.underlying3, avs_int Tryz.underlying3, avs_int Tryz.underlying3]
  rfl

set_option maxRecDepth 100000 in
theorem arg_int {H : Type} {x : DataW H} {n : Nat} (h : Typed Tryz.prog (n + 1) 3 x) : ∃ m : Int, ok64 m ∧ argOf Tryz.prog (n + 1) 3 x = I m := by
  have hagg : aggT Tryz.prog 3 = false := by unfold aggT; rw [Tryz.underlying3]
  obtain ⟨m, rfl, w⟩ := typed_int Tryz.underlying3 h
  exact ⟨m, wf64 w, by rw [arg_one hagg (avs_int Tryz.underlying3 _ _)]⟩

set_option maxRecDepth 100000 in
theorem arg_q5s {H : Type} {x : DataW H} {n : Nat} (h : Typed Tryz.prog (n + 3) 53 x) : ∃ X : List Q5, (∀ y ∈ X, Q5OK y) ∧ X.length ≤ 9223372036854775807 ∧ Wk (argOf Tryz.prog (n + 3) 53 x) (.sl .ro (X.map q5Row)) := by
  have hagg : aggT Tryz.prog 53 = false := by unfold aggT; rw [Tryz.underlying53]
  rcases typed_slice Tryz.underlying53 h with rfl | ⟨elems, spare, rfl, hl, he⟩
  · refine ⟨[], by simp, by simp, ?_⟩
    rw [arg_one hagg (avs_nil Tryz.underlying53)]
    exact Wk.sl _ _
  · have key : ∃ X : List Q5, (∀ y ∈ X, Q5OK y) ∧ elems.map (avs Tryz.prog (n + 2) 107) = X.map q5Row := by
      clear hl h
      induction elems with
      | nil => exact ⟨[], by simp, rfl⟩
      | cons y ys ih =>
        obtain ⟨X, h1, h2⟩ := ih fun z hz => he z (by simp [hz])
        obtain ⟨q, hq, hv⟩ := avs_q5 (he y (by simp))
        refine ⟨q :: X, ?_, ?_⟩
        · intro z hz
          rcases List.mem_cons.1 hz with rfl | hz
          · exact hq
          · exact h1 z hz
        · rw [List.map_cons, h2, hv]; rfl
    obtain ⟨X, h1, h2⟩ := key
    refine ⟨X, h1, ?_, ?_⟩
    · have : X.length = elems.length := by have := congrArg List.length h2; simpa using this.symm
      have hm : maxLen ≤ 9223372036854775807 := by decide
      omega
    · rw [arg_one hagg (avs_sl Tryz.underlying53 _ _), h2]
      exact Wk.sl _ _
end Go.Proofs.YtdebhhpklhbihaaGreatDoor
