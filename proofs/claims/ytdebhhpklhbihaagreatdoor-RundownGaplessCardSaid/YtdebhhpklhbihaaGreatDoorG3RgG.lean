/-
  OWN WORK. The listed variable as the row's condition lays it; the readings of int, of lists of pairs, of plans.
-/
import Derived.Test.YtdebhhpklhbihaaGreatDoorG3RgA
import Derived.Test.YtdebhhpklhbihaaGreatDoorCards
import Derived.WalkKit
import Derived.Deep.DeepHandedRow
import Derived.Lib.LaidTab
import Derived.MakeChecks
set_option linter.unusedVariables false
set_option linter.unusedSimpArgs false
set_option maxRecDepth 100000
namespace Go.Proofs.YtdebhhpklhbihaaGreatDoor
open Go Go.Abs Go.RowKit

def isI (a : AV) : Bool := match a with
  | .int _ _ => true
  | _ => false
theorem isI_rep {a : AV} (h : isI a = true) {w : World} {γ γ' : G} {v : Value} (hr : Rep w γ a v) : v.oneCell' = true ∧ Rep w γ' a v := by
  cases hr <;> simp [isI] at h
  exact ⟨rfl, .int _ _⟩

/-- A listed variable that stands first reads as its datum: what a pointer to it stands for. -/
theorem laid_first {P : Program} {W : World} {name : String} {d : DataW Unit} {rest : List (String × DataW Unit)} {g : Nat} {t : TypeId} {D : Nat} {row : List AV} (h : laidMet P ((name, d) :: rest) W)
    (hg : P.globalNamed name = some g) (hty : (P.globals[g]?).map (·.type) = some t) (hok : okT P D t = true) (hav : avs P D t d = row) (hi : row.all isI = true) (hne : row ≠ []) : Rep W (G0 top) (.ep row 0) (.pointer (some ⟨g, 0, none⟩)) := by
  obtain ⟨ps, ⟨g', t', cs, fuel, p, q, hg', ht', hvar, hd, _, _⟩, _⟩ := h
  obtain rfl := Option.some.inj (hg.symm.trans hg')
  obtain rfl := Option.some.inj (hty.symm.trans ht')
  obtain ⟨_, hr, _, _⟩ := trod_rep D fuel t cs.toList d p hd hok
  rw [hav] at hr
  have hcell : ∀ (j : Nat) (c : AV), row[j]? = some c → W.cell? ⟨g, j, none⟩ = some (cs.toList.getD j undef) ∧ (cs.toList.getD j undef).oneCell' = true ∧ Rep W (G0 top).imm c (cs.toList.getD j undef) := by
    intro j c hj
    have hlt : j < row.length := (List.getElem?_eq_some_iff.1 hj).1
    have hlt' : j < cs.toList.length := by rw [← hr.1]; exact hlt
    have hv : cs.toList[j]? = some (cs.toList.getD j undef) := by rw [List.getD_eq_getElem?_getD, List.getElem?_eq_getElem hlt']; rfl
    have hc := World.var?_cell hg hvar j
    have h1 := hr.2 j c _ hj hv
    have h2 : isI c = true := List.all_eq_true.1 hi c (List.mem_of_getElem? hj)
    obtain ⟨h3, h4⟩ := isI_rep h2 (γ' := (G0 top).imm) h1
    refine ⟨?_, h3, h4⟩
    rw [hc, ← Array.getElem?_toList]; exact hv
  have hsz : g < W.heap.size := by
    obtain ⟨a, r, rfl⟩ := List.exists_cons_of_ne_nil hne
    have := (hcell 0 a rfl).1
    simp only [World.cell?] at this
    rcases Nat.lt_or_ge g W.heap.size with h | h
    · exact h
    · rw [Array.getElem?_eq_none (by omega)] at this; simp at this
  refine Rep.ep (o := 0) (b := g) (off := 0) (fun j => cs.toList.getD j undef) hsz (fun j c hj => ?_) (fun j c hj => (hcell j c hj).2.2)
  obtain ⟨h1, h2, _⟩ := hcell j c hj
  refine ⟨by simpa using h1, trivial, h2⟩

set_option maxRecDepth 100000 in
theorem rates_av : avs Tryz.prog 5 279 (Rows.laid_onair_timecode_rates : DataW Unit) = tblR := by
  unfold Rows.laid_onair_timecode_rates
  have h3 : ∀ n : Int, avs Tryz.prog 2 3 (.lit (.int .i64 n) : DataW Unit) = [I n] := fun n => avs_int Tryz.underlying3 _ _
  have h3' : ∀ n : Int, avs Tryz.prog 3 3 (.lit (.int .i64 n) : DataW Unit) = [I n] := fun n => avs_int Tryz.underlying3 _ _
  have h23 : ∀ a b : Int, avs Tryz.prog 3 23 (.agg [.lit (.int .i64 a), .lit (.int .i64 b)] : DataW Unit) = [I a, I b] := fun a b => by
    rw [avs_struct Tryz.underlying23]
    simp [h3]
  have h218 : ∀ a b c d : Int, avs Tryz.prog 4 218 (.agg [.agg [.lit (.int .i64 a), .lit (.int .i64 b)], .lit (.int .i64 c), .lit (.int .i64 d)] : DataW Unit) = [I a, I b, I c, I d] := fun a b c d => by
    rw [avs_struct Tryz.underlying218]
    simp [h3', h23]
  rw [avs_array Tryz.underlying279]
  simp only [List.flatMap_cons, List.flatMap_nil, h218]
  rfl

theorem gl_rep {W : World} {rest : List (String × DataW Unit)} (h : laidMet Tryz.prog (("onair/timecode.rates", Rows.laid_onair_timecode_rates) :: rest) W) : ∀ g, Rep W (G0 top) (gl0 g) (.pointer (some ⟨g, 0, none⟩)) := by
  intro g
  match g with
  | 0 => exact laid_first (D := 5) h (g := 0) (t := 279) (by kernel_rfl) (by kernel_rfl) (by kernel_rfl) rates_av (by decide) (by simp [tblR])
  | g + 1 => exact .junk _

theorem ok64_of {m : Int} (h : (Lit.int .i64 m).wf = true) : is64 m := by
  simp [Lit.wf, IntKind.min, IntKind.max, IntKind.bits, IntKind.signed] at h
  unfold is64; omega

/-- Every slice in the datum is within the reach. -/
def Sz {H : Type} (t : TypeId) (x : DataW H) : Prop := ∀ k ∈ x.weights Tryz.prog t, k ≤ reachBytes
theorem Sz.all {H : Type} {e : TypeId} {l : List (DataW H)} (h : ∀ k ∈ DataW.weightsAll Tryz.prog e l, k ≤ reachBytes) : ∀ y ∈ l, Sz e y := by
  induction l with
  | nil => intro y hy; cases hy
  | cons a l ih =>
    intro y hy
    simp only [DataW.weightsAll, List.mem_append] at h
    rcases List.mem_cons.1 hy with rfl | hy
    · exact fun k hk => h k (.inl hk)
    · exact ih (fun k hk => h k (.inr hk)) y hy
theorem Sz.slice {H : Type} {t e : TypeId} {elems spare : List (DataW H)} (hu : Tryz.prog.underlying t = some (.slice e)) (h : Sz t (.slice elems spare : DataW H)) : (elems.length + spare.length) * Tryz.prog.bytesOf e ≤ reachBytes ∧ ∀ y ∈ elems, Sz e y := by
  unfold Sz at h
  simp only [DataW.weights, hu] at h
  refine ⟨h _ (by simp), Sz.all fun k hk => h k (by simp [hk])⟩
theorem Sz.agg {H : Type} {t : TypeId} {fs : Array Field} {parts : List (DataW H)} (hu : Tryz.prog.underlying t = some (.struct fs)) (h : Sz t (.agg parts : DataW H)) : ∀ k ∈ DataW.weightsEach Tryz.prog (fs.toList.map (·.type)) parts, k ≤ reachBytes := by
  unfold Sz at h
  simpa only [DataW.weights, hu] using h

/-- A slice of rows. -/
theorem read_rows {H : Type} {α : Type} (row : α → List AV) (ok : α → Prop) {t e : TypeId} (hu : Tryz.prog.underlying t = some (.slice e)) {n : Nat} (hrd : ∀ y : DataW H, Typed Tryz.prog n e y → Sz e y → ∃ a, ok a ∧ avs Tryz.prog n e y = row a)
    {x : DataW H} (h : Typed Tryz.prog (n + 1) t x) (hs : Sz t x) : ∃ (l : List α) (rt : Rt), (∀ a ∈ l, ok a) ∧ l.length * Tryz.prog.bytesOf e ≤ reachBytes ∧ l.length ≤ maxLen ∧ avs Tryz.prog (n + 1) t x = [.sl rt (l.map row)] := by
  rcases typed_slice hu h with rfl | ⟨elems, spare, rfl, hl, he⟩
  · exact ⟨[], .nil, (fun _ h => by cases h), (by rw [List.length_nil, Nat.zero_mul]; exact Nat.zero_le _), Nat.zero_le _, avs_nil hu⟩
  · obtain ⟨hz, hzs⟩ := hs.slice hu
    have key : ∃ X : List α, (∀ y ∈ X, ok y) ∧ elems.map (avs Tryz.prog n e) = X.map row := by
      clear hl h hz hs
      induction elems with
      | nil => exact ⟨[], by simp, rfl⟩
      | cons y ys ih =>
        obtain ⟨X, h1, h2⟩ := ih (fun z hz => he z (by simp [hz])) (fun z hz => hzs z (by simp [hz]))
        obtain ⟨q, hq, hv⟩ := hrd y (he y (by simp)) (hzs y (by simp))
        refine ⟨q :: X, ?_, by rw [List.map_cons, h2, hv]; rfl⟩
        intro z hz
        rcases List.mem_cons.1 hz with rfl | hz
        · exact hq
        · exact h1 z hz
    obtain ⟨X, h1, h2⟩ := key
    have hlen : X.length = elems.length := by have := congrArg List.length h2; simpa using this.symm
    refine ⟨X, .nn, h1, ?_, by omega, by rw [avs_sl hu, h2]⟩
    rw [hlen]
    refine Nat.le_trans (Nat.mul_le_mul_right _ (Nat.le_add_right _ _)) hz

theorem pair_of {α : Type} {l : List α} (h : l.length = 2) : ∃ a b, l = [a, b] := by
  match l, h with
  | [a, b], _ => exact ⟨a, b, rfl⟩
theorem five_of {α : Type} {l : List α} (h : l.length = 5) : ∃ a0 a1 a2 a3 a4, l = [a0, a1, a2, a3, a4] := by
  match l, h with
  | [a0, a1, a2, a3, a4], _ => exact ⟨a0, a1, a2, a3, a4, rfl⟩
theorem seven_of {α : Type} {l : List α} (h : l.length = 7) : ∃ a0 a1 a2 a3 a4 a5 a6, l = [a0, a1, a2, a3, a4, a5, a6] := by
  match l, h with
  | [a0, a1, a2, a3, a4, a5, a6], _ => exact ⟨a0, a1, a2, a3, a4, a5, a6, rfl⟩
theorem eight_of {α : Type} {l : List α} (h : l.length = 8) : ∃ a0 a1 a2 a3 a4 a5 a6 a7, l = [a0, a1, a2, a3, a4, a5, a6, a7] := by
  match l, h with
  | [a0, a1, a2, a3, a4, a5, a6, a7], _ => exact ⟨a0, a1, a2, a3, a4, a5, a6, a7, rfl⟩
theorem eleven_of {α : Type} {l : List α} (h : l.length = 11) : ∃ a0 a1 a2 a3 a4 a5 a6 a7 a8 a9 a10, l = [a0, a1, a2, a3, a4, a5, a6, a7, a8, a9, a10] := by
  match l, h with
  | [a0, a1, a2, a3, a4, a5, a6, a7, a8, a9, a10], _ => exact ⟨a0, a1, a2, a3, a4, a5, a6, a7, a8, a9, a10, rfl⟩


theorem ints_aux {H : Type} {n : Nat} : ∀ (L : List Field) (parts : List (DataW H)), (∀ f ∈ L, f.type = 3) → (∀ p ∈ L.zip parts, Typed Tryz.prog (n + 1) p.1.type p.2) → parts.length = L.length →
    ∃ l : List Int, l.length = L.length ∧ (∀ m ∈ l, is64 m) ∧ (L.zip parts).flatMap (fun p => avs Tryz.prog (n + 1) p.1.type p.2) = l.map I
  | [], parts, _, _, _ => ⟨[], rfl, (fun _ h => by cases h), by cases parts <;> rfl⟩
  | f :: L, [], _, _, h => by simp at h
  | f :: L, a :: parts, hall, hp, hl => by
    obtain ⟨l, l1, l2, l3⟩ := ints_aux L parts (fun g hg => hall g (List.mem_cons_of_mem _ hg)) (fun p hp' => hp p (List.mem_cons_of_mem _ hp')) (by simpa using hl)
    have ha := hp (f, a) (by simp)
    have hf := hall f (by simp)
    rw [hf] at ha
    obtain ⟨m, rfl, w⟩ := typed_int Tryz.underlying3 ha
    refine ⟨m :: l, by simp [l1], ?_, ?_⟩
    · intro k hk
      rcases List.mem_cons.1 hk with rfl | hk
      · exact ok64_of w
      · exact l2 k hk
    · simp only [List.zip_cons_cons, List.flatMap_cons, hf]
      rw [avs_int Tryz.underlying3, l3]; rfl
/-- A struct of ints. -/
theorem avs_ints {H : Type} {t : TypeId} {fs : Array Field} (hu : Tryz.prog.underlying t = some (.struct fs)) (hall : ∀ f ∈ fs.toList, f.type = 3) {y : DataW H} {n : Nat} (h : Typed Tryz.prog (n + 2) t y) :
    ∃ l : List Int, l.length = fs.size ∧ (∀ m ∈ l, is64 m) ∧ avs Tryz.prog (n + 2) t y = l.map I := by
  obtain ⟨parts, rfl, hlen, hp⟩ := typed_struct hu h
  rw [avs_struct hu]
  obtain ⟨l, l1, l2, l3⟩ := ints_aux fs.toList parts hall hp (by simpa using hlen)
  exact ⟨l, by simpa using l1, l2, l3⟩

def Sp64 (s : Sp) : Prop := is64 s.1 ∧ is64 s.2
theorem avs_two {H : Type} {t : TypeId} {f g : Field} (hu : Tryz.prog.underlying t = some (.struct #[f, g])) (hf : f.type = 3) (hg : g.type = 3) {y : DataW H} {n : Nat} (h : Typed Tryz.prog (n + 2) t y) : ∃ s : Sp, Sp64 s ∧ avs Tryz.prog (n + 2) t y = spRow s := by
  obtain ⟨l, l1, l2, l3⟩ := avs_ints hu (by simp [hf, hg]) h
  obtain ⟨a, b, rfl⟩ := pair_of (show l.length = 2 from l1)
  exact ⟨(a, b), ⟨l2 a (by simp), l2 b (by simp)⟩, l3⟩
theorem avs_arr2 {H : Type} {y : DataW H} {n : Nat} (h : Typed Tryz.prog (n + 2) 91 y) : ∃ s : Sp, Sp64 s ∧ avs Tryz.prog (n + 2) 91 y = spRow s := by
  obtain ⟨parts, rfl, hlen, hp⟩ := typed_array Tryz.underlying91 h
  obtain ⟨a, b, rfl⟩ := pair_of hlen
  obtain ⟨m0, rfl, w0⟩ := typed_int Tryz.underlying3 (hp a (by simp))
  obtain ⟨m1, rfl, w1⟩ := typed_int Tryz.underlying3 (hp b (by simp))
  refine ⟨(m0, m1), ⟨ok64_of w0, ok64_of w1⟩, ?_⟩
  rw [avs_array Tryz.underlying91]
  simp only [List.flatMap_cons, List.flatMap_nil]
  rw [avs_int Tryz.underlying3, avs_int Tryz.underlying3]
  rfl

def It64 (x : It) : Prop := is64 x.id ∧ is64 x.ki ∧ is64 x.fr ∧ is64 x.sp ∧ is64 x.ra
def Cl64 (x : Cl) : Prop := is64 x.ki ∧ is64 x.it ∧ is64 x.fr ∧ is64 x.to ∧ is64 x.re ∧ is64 x.n ∧ is64 x.a ∧ is64 x.b
def Bk64 (x : Bk) : Prop := is64 x.id ∧ is64 x.it ∧ is64 x.re ∧ is64 x.fr ∧ is64 x.to ∧ is64 x.un ∧ is64 x.pr
def En64 (x : En) : Prop := (is64 x.id ∧ is64 x.it ∧ is64 x.fr ∧ is64 x.ea ∧ is64 x.la ∧ is64 x.bo) ∧ x.al.length ≤ 8796093022208 ∧ ∀ a ∈ x.al, Sp64 a
structure Pl64 (p : Pl) : Prop where
  ch : is64 p.ch
  nu : is64 p.nu
  de : is64 p.de
  of : is64 p.of
  ep : is64 p.ep
  rg : is64 p.rg
  ln : is64 p.ln
  fi : is64 p.fi
  sh : ∀ s ∈ p.sh, Sp64 s
  its : ∀ s ∈ p.its, It64 s
  ens : ∀ s ∈ p.ens, En64 s
  bks : ∀ s ∈ p.bks, Bk64 s
  cls : ∀ s ∈ p.cls, Cl64 s
  shl : p.sh.length ≤ 8796093022208
  itl : p.its.length ≤ 8796093022208
  enl : p.ens.length ≤ 8796093022208
  bkl : p.bks.length ≤ 8796093022208
  cll : p.cls.length ≤ 8796093022208
theorem Pl64.ok {p : Pl} (h : Pl64 p) : OKP p := fun e he => (h.ens e he).2.1

theorem avs_item {H : Type} {y : DataW H} {n : Nat} (h : Typed Tryz.prog (n + 2) 72 y) : ∃ x : It, It64 x ∧ avs Tryz.prog (n + 2) 72 y = itRow x := by
  obtain ⟨l, l1, l2, l3⟩ := avs_ints Tryz.underlying72 (by simp) h
  obtain ⟨a0, a1, a2, a3, a4, rfl⟩ := five_of (show l.length = 5 from l1)
  exact ⟨⟨a0, a1, a2, a3, a4⟩, ⟨l2 _ (by simp), l2 _ (by simp), l2 _ (by simp), l2 _ (by simp), l2 _ (by simp)⟩, l3⟩
theorem avs_clause {H : Type} {y : DataW H} {n : Nat} (h : Typed Tryz.prog (n + 2) 126 y) : ∃ x : Cl, Cl64 x ∧ avs Tryz.prog (n + 2) 126 y = clRow x := by
  obtain ⟨l, l1, l2, l3⟩ := avs_ints Tryz.underlying126 (by simp) h
  obtain ⟨a0, a1, a2, a3, a4, a5, a6, a7, rfl⟩ := eight_of (show l.length = 8 from l1)
  exact ⟨⟨a0, a1, a2, a3, a4, a5, a6, a7⟩, ⟨l2 _ (by simp), l2 _ (by simp), l2 _ (by simp), l2 _ (by simp), l2 _ (by simp), l2 _ (by simp), l2 _ (by simp), l2 _ (by simp)⟩, l3⟩
theorem avs_booking {H : Type} {y : DataW H} {n : Nat} (h : Typed Tryz.prog (n + 2) 165 y) : ∃ x : Bk, Bk64 x ∧ avs Tryz.prog (n + 2) 165 y = bkRow x := by
  obtain ⟨l, l1, l2, l3⟩ := avs_ints Tryz.underlying165 (by simp) h
  obtain ⟨a0, a1, a2, a3, a4, a5, a6, rfl⟩ := seven_of (show l.length = 7 from l1)
  exact ⟨⟨a0, a1, a2, a3, a4, a5, a6⟩, ⟨l2 _ (by simp), l2 _ (by simp), l2 _ (by simp), l2 _ (by simp), l2 _ (by simp), l2 _ (by simp), l2 _ (by simp)⟩, l3⟩

theorem bytes16_72 : Tryz.prog.bytesOf 72 = 40 := by kernel_rfl
theorem bytes50 : Tryz.prog.bytesOf 50 = 16 := by kernel_rfl
theorem bytes58 : Tryz.prog.bytesOf 58 = 72 := by kernel_rfl
theorem bytes165 : Tryz.prog.bytesOf 165 = 56 := by kernel_rfl
theorem bytes126 : Tryz.prog.bytesOf 126 = 64 := by kernel_rfl
theorem bytes222 : Tryz.prog.bytesOf 222 = 16 := by kernel_rfl

/-- An entry with what is known of its alternatives' slice. -/
def enRowT (q : En × Rt) : List AV := [I q.1.id, I q.1.it, I q.1.fr, I q.1.ea, I q.1.la, I q.1.bo, .sl q.2 (q.1.al.map spRow)]
set_option maxRecDepth 100000 in
theorem avs_entry {H : Type} {y : DataW H} {n : Nat} (h : Typed Tryz.prog (n + 4) 58 y) (hs : Sz 58 y) : ∃ q : En × Rt, En64 q.1 ∧ avs Tryz.prog (n + 4) 58 y = enRowT q := by
  obtain ⟨parts, rfl, hlen, hp⟩ := typed_struct Tryz.underlying58 h
  obtain ⟨a0, a1, a2, a3, a4, a5, a6, rfl⟩ := seven_of hlen
  have hz := hs.agg Tryz.underlying58
  have t0 := hp (⟨ "ID", 3, 0, false, "", "", 0⟩, a0) (by simp)
  have t1 := hp (⟨ "Item", 3, 1, false, "", "", 8⟩, a1) (by simp)
  have t2 := hp (⟨ "Frames", 3, 2, false, "", "", 16⟩, a2) (by simp)
  have t3 := hp (⟨ "Earliest", 3, 3, false, "", "", 24⟩, a3) (by simp)
  have t4 := hp (⟨ "Latest", 3, 4, false, "", "", 32⟩, a4) (by simp)
  have t5 := hp (⟨ "Booking", 3, 5, false, "", "", 40⟩, a5) (by simp)
  have t6 := hp (⟨ "Alts", 41, 6, false, "", "", 48⟩, a6) (by simp)
  obtain ⟨m0, rfl, w0⟩ := typed_int Tryz.underlying3 t0
  obtain ⟨m1, rfl, w1⟩ := typed_int Tryz.underlying3 t1
  obtain ⟨m2, rfl, w2⟩ := typed_int Tryz.underlying3 t2
  obtain ⟨m3, rfl, w3⟩ := typed_int Tryz.underlying3 t3
  obtain ⟨m4, rfl, w4⟩ := typed_int Tryz.underlying3 t4
  obtain ⟨m5, rfl, w5⟩ := typed_int Tryz.underlying3 t5
  have hs6 : Sz 41 a6 := fun k hk => hz k (by simp [DataW.weightsEach, hk])
  obtain ⟨l, rt, l1, l2, l3, l4⟩ := read_rows spRow Sp64 Tryz.underlying41 (fun y hy _ => avs_two Tryz.underlying50 rfl rfl hy) t6 hs6
  rw [bytes50] at l2
  have hr : reachBytes = 140737488351232 := rfl
  refine ⟨(⟨m0, m1, m2, m3, m4, m5, l⟩, rt), ⟨⟨ok64_of w0, ok64_of w1, ok64_of w2, ok64_of w3, ok64_of w4, ok64_of w5⟩, by simp only; omega, l1⟩, ?_⟩
  rw [avs_struct Tryz.underlying58]
  simp only [List.zip_cons_cons, List.zip_nil_right, List.flatMap_cons, List.flatMap_nil]
  rw [avs_int Tryz.underlying3, avs_int Tryz.underlying3, avs_int Tryz.underlying3, avs_int Tryz.underlying3, avs_int Tryz.underlying3, avs_int Tryz.underlying3, l4]
  rfl
theorem wk_ens (l : List (En × Rt)) (rt : Rt) : Wk (.sl rt (l.map enRowT)) (.sl .ro ((l.map (·.1)).map enRow)) := by
  refine Wk.trans (Wk.sl _ _) ?_
  rw [List.map_map]
  refine Wk.rows l enRowT (enRow ∘ (·.1)) (fun _ => rfl) fun a j c' h => ?_
  match j, h with
  | 0, h => exact ⟨_, rfl, by cases h; exact Wk.refl _⟩
  | 1, h => exact ⟨_, rfl, by cases h; exact Wk.refl _⟩
  | 2, h => exact ⟨_, rfl, by cases h; exact Wk.refl _⟩
  | 3, h => exact ⟨_, rfl, by cases h; exact Wk.refl _⟩
  | 4, h => exact ⟨_, rfl, by cases h; exact Wk.refl _⟩
  | 5, h => exact ⟨_, rfl, by cases h; exact Wk.refl _⟩
  | 6, h => exact ⟨_, rfl, by cases h; exact Wk.sl _ _⟩
  | j + 7, h => simp [enRow] at h

set_option maxRecDepth 100000 in
/-- A plan. -/
theorem arg_plan {H : Type} {x : DataW H} {n : Nat} (h : Typed Tryz.prog (n + 6) 32 x) (hs : Sz 32 x) : ∃ p : Pl, Pl64 p ∧ Wk (argOf Tryz.prog (n + 6) 32 x) (.agg (plRow p)) := by
  have hagg : aggT Tryz.prog 32 = true := by unfold aggT; rw [Tryz.underlying32]
  obtain ⟨parts, rfl, hlen, hp⟩ := typed_struct Tryz.underlying32 h
  obtain ⟨a0, a1, a2, a3, a4, a5, a6, a7, a8, a9, a10, rfl⟩ := eleven_of hlen
  have hz := hs.agg Tryz.underlying32
  have t0 := hp (⟨ "Channel", 3, 0, false, "", "", 0⟩, a0) (by simp)
  have t1 := hp (⟨ "Rate", 23, 1, false, "", "", 8⟩, a1) (by simp)
  have t2 := hp (⟨ "Zone", 26, 3, false, "", "", 24⟩, a2) (by simp)
  have t3 := hp (⟨ "Epoch", 3, 5, false, "", "", 56⟩, a3) (by simp)
  have t4 := hp (⟨ "Regions", 3, 6, false, "", "", 64⟩, a4) (by simp)
  have t5 := hp (⟨ "Length", 3, 7, false, "", "", 72⟩, a5) (by simp)
  have t6 := hp (⟨ "Fill", 3, 8, false, "", "", 80⟩, a6) (by simp)
  have t7 := hp (⟨ "Items", 27, 9, false, "", "", 88⟩, a7) (by simp)
  have t8 := hp (⟨ "Entries", 28, 10, false, "", "", 112⟩, a8) (by simp)
  have t9 := hp (⟨ "Bookings", 29, 11, false, "", "", 136⟩, a9) (by simp)
  have t10 := hp (⟨ "Clauses", 30, 12, false, "", "", 160⟩, a10) (by simp)
  obtain ⟨m0, rfl, w0⟩ := typed_int Tryz.underlying3 t0
  obtain ⟨m3, rfl, w3⟩ := typed_int Tryz.underlying3 t3
  obtain ⟨m4, rfl, w4⟩ := typed_int Tryz.underlying3 t4
  obtain ⟨m5, rfl, w5⟩ := typed_int Tryz.underlying3 t5
  obtain ⟨m6, rfl, w6⟩ := typed_int Tryz.underlying3 t6
  obtain ⟨r, ⟨r1, r2⟩, hrate⟩ := avs_two Tryz.underlying23 rfl rfl t1
  obtain ⟨zp, rfl, zlen, zpp⟩ := typed_struct Tryz.underlying26 t2
  obtain ⟨z0, z1, rfl⟩ := pair_of zlen
  have u0 := zpp (⟨ "Offset", 3, 0, false, "", "", 0⟩, z0) (by simp)
  have u1 := zpp (⟨ "Shifts", 24, 1, false, "", "", 8⟩, z1) (by simp)
  obtain ⟨mo, rfl, wo⟩ := typed_int Tryz.underlying3 u0
  have s1 : Sz 24 z1 := fun k hk => hz k (by simp [DataW.weightsEach, DataW.weights, Tryz.underlying26, hk])
  have s7 : Sz 27 a7 := fun k hk => hz k (by simp [DataW.weightsEach, hk])
  have s8 : Sz 28 a8 := fun k hk => hz k (by simp [DataW.weightsEach, hk])
  have s9 : Sz 29 a9 := fun k hk => hz k (by simp [DataW.weightsEach, hk])
  have s10 : Sz 30 a10 := fun k hk => hz k (by simp [DataW.weightsEach, hk])
  have hr : reachBytes = 140737488351232 := rfl
  obtain ⟨sh, rt1, sh1, sh2, _, sh4⟩ := read_rows spRow Sp64 Tryz.underlying24 (fun y hy _ => avs_two Tryz.underlying222 rfl rfl hy) u1 s1
  obtain ⟨it, rt7, it1, it2, _, it4⟩ := read_rows itRow It64 Tryz.underlying27 (fun y hy _ => avs_item hy) t7 s7
  obtain ⟨en, rt8, en1, en2, _, en4⟩ := read_rows enRowT (fun q => En64 q.1) Tryz.underlying28 (fun y hy hz => avs_entry hy hz) t8 s8
  obtain ⟨bk, rt9, bk1, bk2, _, bk4⟩ := read_rows bkRow Bk64 Tryz.underlying29 (fun y hy _ => avs_booking hy) t9 s9
  obtain ⟨cl, rt10, cl1, cl2, _, cl4⟩ := read_rows clRow Cl64 Tryz.underlying30 (fun y hy _ => avs_clause hy) t10 s10
  rw [bytes222] at sh2
  rw [bytes16_72] at it2
  rw [bytes58] at en2
  rw [bytes165] at bk2
  rw [bytes126] at cl2
  refine ⟨⟨m0, r.1, r.2, mo, sh, m3, m4, m5, m6, it, en.map (·.1), bk, cl⟩, ⟨ok64_of w0, r1, r2, ok64_of wo, ok64_of w3, ok64_of w4, ok64_of w5, ok64_of w6, sh1, it1, ?_, bk1, cl1, by simp only; omega, by simp only; omega, by simp only [List.length_map]; omega, by simp only; omega, by simp only; omega⟩, ?_⟩
  · intro s hs
    obtain ⟨q, hq, rfl⟩ := List.mem_map.1 hs
    exact en1 q hq
  · rw [arg_agg hagg, avs_struct Tryz.underlying32]
    simp only [List.zip_cons_cons, List.zip_nil_right, List.flatMap_cons, List.flatMap_nil]
    rw [avs_int Tryz.underlying3, avs_int Tryz.underlying3, avs_int Tryz.underlying3, avs_int Tryz.underlying3, avs_int Tryz.underlying3, it4, en4, bk4, cl4, avs_struct Tryz.underlying26]
    simp only [List.zip_cons_cons, List.zip_nil_right, List.flatMap_cons, List.flatMap_nil]
    rw [avs_int Tryz.underlying3, sh4, hrate]
    exact wk_agg ⟨Wk.refl _, Wk.refl _, Wk.refl _, Wk.refl _, Wk.sl _ _, Wk.refl _, Wk.refl _, Wk.refl _, Wk.refl _, Wk.sl _ _, wk_ens _ _, Wk.sl _ _, Wk.sl _ _, trivial⟩

theorem arg_int {H : Type} {x : DataW H} {n : Nat} (h : Typed Tryz.prog (n + 1) 3 x) : ∃ m : Int, is64 m ∧ argOf Tryz.prog (n + 1) 3 x = I m := by
  have hagg : aggT Tryz.prog 3 = false := by unfold aggT; rw [Tryz.underlying3]
  obtain ⟨m, rfl, w⟩ := typed_int Tryz.underlying3 h
  exact ⟨m, ok64_of w, by rw [arg_one hagg (avs_int Tryz.underlying3 _ _)]⟩
/-- A list of pairs of ints. -/
theorem arg_pairs {H : Type} {x : DataW H} {n : Nat} (h : Typed Tryz.prog (n + 3) 33 x) (hs : Sz 33 x) : ∃ l : List Sp, (∀ a ∈ l, Sp64 a) ∧ Wk (argOf Tryz.prog (n + 3) 33 x) (.sl .ro (l.map spRow)) := by
  have hagg : aggT Tryz.prog 33 = false := by unfold aggT; rw [Tryz.underlying33]
  obtain ⟨l, rt, l1, l2, l3, l4⟩ := read_rows spRow Sp64 Tryz.underlying33 (fun y hy _ => avs_arr2 hy) h hs
  exact ⟨l, l1, by rw [arg_one hagg l4]; exact Wk.sl _ _⟩
end Go.Proofs.YtdebhhpklhbihaaGreatDoor
