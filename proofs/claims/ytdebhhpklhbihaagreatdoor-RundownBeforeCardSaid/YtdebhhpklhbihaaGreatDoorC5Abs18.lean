/-
  OWN WORK. From a reading of an argument to the abstract value that it stands for.
-/
import Derived.Test.YtdebhhpklhbihaaGreatDoorC5Abs15
import Derived.ProofKit
import Derived.OpenShut
import Derived.Carry
import Derived.OpenVars
import Derived.ChangeSame
namespace Go.Abs
open Go Go.RowKit

def contig (P : Program) : List Field → Nat → Option Nat
  | [], n => some n
  | f :: r, n => if f.offset = n then contig P r (n + P.cellsOf f.type) else none

/-- Types whose values are read so. -/
def okT (P : Program) : Nat → TypeId → Bool
  | 0, _ => false
  | d + 1, t => match P.underlying t with
    | some .bool | some (.int _) | some .string => P.cellsOf t == 1
    | some (.slice e) => ((P.cellsOf t == 1) && !(P.cellsOf e == 0)) && okT P d e
    | some (.struct fs) => (contig P fs.toList 0 == some (P.cellsOf t)) && fs.toList.all fun f => okT P d f.type
    | some (.array n e) => (P.cellsOf t == n * P.cellsOf e) && okT P d e
    | _ => false

def avs {H : Type} (P : Program) : Nat → TypeId → DataW H → List AV
  | 0, _, _ => []
  | d + 1, t, x => match P.underlying t, x with
    | some .bool, .lit (.bool b) => [.bool b]
    | some (.int _), .lit (.int k n) => [.int k n]
    | some .string, .lit (.string s) => [.str ⟨s.toArray⟩]
    | some (.slice _), .nil => [.sl .nil []]
    | some (.slice e), .slice elems _ => [.sl .nn (elems.map (avs P d e))]
    | some (.struct fs), .agg parts => (fs.toList.zip parts).flatMap fun p => avs P d p.1.type p.2
    | some (.array _ e), .agg parts => parts.flatMap (avs P d e)
    | _, _ => []

def Typed {H : Type} (P : Program) : Nat → TypeId → DataW H → Prop
  | 0, _, _ => False
  | d + 1, t, x => match P.underlying t, x with
    | some .bool, .lit (.bool _) => True
    | some (.int k), .lit (.int k' n) => k' = k ∧ (Lit.int k n).wf = true
    | some .string, .lit (.string s) => s.length ≤ maxLen
    | some (.slice _), .nil => True
    | some (.slice e), .slice elems _ => elems.length ≤ maxLen ∧ ∀ y ∈ elems, Typed P d e y
    | some (.struct fs), .agg parts => parts.length = fs.size ∧ ∀ p ∈ fs.toList.zip parts, Typed P d p.1.type p.2
    | some (.array n e), .agg parts => parts.length = n ∧ ∀ y ∈ parts, Typed P d e y
    | _, _ => False

def top : Nat → Nat → Prop := fun _ _ => True

section
variable {H : Type} {enc : TypeId × Value → H} {P : Program} {w : World} {base : Nat} {sp : Nat → Bool} {held : Bool}

theorem cells_spec {a : Addr} {n : Nat} {cs : List Value} (h : w.cells? base a n = some cs) : cs.length = n ∧ ∀ (j : Nat) (v : Value), cs[j]? = some v → w.cell? (a.add j) = some v := by
  unfold World.cells? at h
  split at h
  · obtain ⟨h1, h2⟩ := mapM_get _ _ _ h
    refine ⟨by simpa using h1, fun j v hj => ?_⟩
    have hlt : j < n := by
      have := (List.getElem?_eq_some_iff.1 hj).1
      simp at h1; omega
    exact h2 j j v (by simp [hlt]) hj
  · cases h

theorem seg_rep {γ : G} : ∀ (l : List (List AV)) (segs : List (List Value)), l.length = segs.length → (∀ (i : Nat) (as : List AV) (vs : List Value), l[i]? = some as → segs[i]? = some vs → RepL w γ as vs) → RepL w γ l.flatten segs.flatten
  | [], [], _, _ => RepL.nil
  | [], _ :: _, h, _ => by simp at h
  | _ :: _, [], h, _ => by simp at h
  | as :: l, vs :: segs, h, hr => by
    rw [List.flatten_cons, List.flatten_cons]
    exact (hr 0 as vs rfl rfl).append (seg_rep l segs (by simpa using h) fun i as vs h1 h2 => hr (i + 1) as vs (by simpa using h1) (by simpa using h2))

theorem contig_segs {cs : List Value} : ∀ (fs : List Field) (n m : Nat), contig P fs n = some m → m = cs.length → n ≤ cs.length → (fs.map fun f => (cs.drop f.offset).take (P.cellsOf f.type)).flatten = cs.drop n
  | [], n, m, h, hm, hn => by simp [contig] at h; subst h; subst hm; simp
  | f :: fs, n, m, h, hm, hn => by
    simp only [contig] at h
    split at h
    · rename_i ho
      subst ho
      have hle : ∀ (fs : List Field) (n m : Nat), contig P fs n = some m → n ≤ m := by
        intro fs
        induction fs with
        | nil => intro n m h; simp [contig] at h; omega
        | cons f fs ih =>
          intro n m h
          simp only [contig] at h
          split at h
          · have := ih _ _ h; omega
          · cases h
      have h1 := hle _ _ _ h
      have ih := contig_segs fs _ m h hm (by omega)
      rw [List.map_cons, List.flatten_cons, ih]
      rw [← List.drop_drop, List.take_append_drop]
    · cases h

theorem array_segs {cs : List Value} {k : Nat} : ∀ (n : Nat), cs.length = n * k → ((List.range n).map fun i => (cs.drop (i * k)).take k).flatten = cs := by
  intro n hn
  have key : ∀ m, m ≤ n → ((List.range m).map fun i => (cs.drop (i * k)).take k).flatten = cs.take (m * k) := by
    intro m
    induction m with
    | zero => simp
    | succ m ih =>
      intro hm
      rw [List.range_succ, List.map_append, List.flatten_append, ih (by omega)]
      simp only [List.map_cons, List.map_nil, List.flatten_cons, List.flatten_nil, List.append_nil]
      rw [Nat.add_mul, Nat.one_mul, List.take_add]
  rw [key n (Nat.le_refl _), ← hn, List.take_length]

theorem trod_bool {t : TypeId} {fuel : Nat} {cs : List Value} {x : DataW H} {ps : List MemPlace} (hu : P.underlying t = some .bool) (h : DataW.trod enc P w base sp held (fuel + 1) t cs = some (x, ps)) : ∃ b, cs = [.bool b] ∧ x = .lit (.bool b) := by
  unfold DataW.trod at h
  rw [hu] at h
  rcases cs with _ | ⟨v, _ | ⟨_, _⟩⟩
  · cases h
  · cases v <;> first | (cases h; done) | (cases h; exact ⟨_, rfl, rfl⟩)
  · cases v <;> first | (cases h; done) | (simp at h; done)

theorem trod_int {t : TypeId} {k : IntKind} {fuel : Nat} {cs : List Value} {x : DataW H} {ps : List MemPlace} (hu : P.underlying t = some (.int k)) (h : DataW.trod enc P w base sp held (fuel + 1) t cs = some (x, ps)) : ∃ n, cs = [.int k n] ∧ x = .lit (.int k n) ∧ (Lit.int k n).wf = true := by
  unfold DataW.trod at h
  rw [hu] at h
  rcases cs with _ | ⟨v, _ | ⟨_, _⟩⟩
  · cases h
  · cases v <;> first | (cases h; done) | skip
    simp only at h
    split at h
    · rename_i hk; cases h; rw [hk.1]; exact ⟨_, rfl, rfl, hk.2⟩
    · cases h
  · cases v <;> first | (cases h; done) | (simp at h; done)

theorem trod_str {t : TypeId} {fuel : Nat} {cs : List Value} {x : DataW H} {ps : List MemPlace} (hu : P.underlying t = some .string) (h : DataW.trod enc P w base sp held (fuel + 1) t cs = some (x, ps)) : ∃ s, cs = [.string s] ∧ x = .lit (.string s.data.toList) ∧ s.size ≤ maxLen := by
  unfold DataW.trod at h
  rw [hu] at h
  rcases cs with _ | ⟨v, _ | ⟨_, _⟩⟩
  · cases h
  · cases v <;> first | (cases h; done) | skip
    simp only at h
    split at h
    · rename_i hk; cases h; exact ⟨_, rfl, rfl, hk⟩
    · cases h
  · cases v <;> first | (cases h; done) | (simp at h; done)

theorem trod_sl {t e : TypeId} {fuel : Nat} {cs : List Value} {x : DataW H} {ps : List MemPlace} (hu : P.underlying t = some (.slice e)) (h : DataW.trod enc P w base sp held (fuel + 1) t cs = some (x, ps)) :
    (cs = [.slice none 0 0] ∧ x = .nil) ∨ ∃ a len cap elems rest, cs = [.slice (some a) len cap] ∧ len ≤ cap ∧ cap ≤ maxLen ∧ x = .slice (elems.map (·.1)) rest ∧
      (List.range len).mapM (fun i => (w.cells? base (a.add (i * P.cellsOf e)) (P.cellsOf e)).bind (DataW.trod enc P w base sp held fuel e)) = some elems := by
  unfold DataW.trod at h
  rw [hu] at h
  rcases cs with _ | ⟨v, _ | ⟨_, _⟩⟩
  · cases h
  · cases v <;> first | (cases h; done) | skip
    rename_i a len cap
    cases a with
    | none => cases len <;> cases cap <;> first | (cases h; done) | (cases h; exact .inl ⟨rfl, rfl⟩)
    | some a =>
      simp only at h
      split at h
      case isFalse => cases h
      rename_i hc
      cases hm : (List.range len).mapM (fun i => (w.cells? base (a.add (i * P.cellsOf e)) (P.cellsOf e)).bind (DataW.trod enc P w base sp held fuel e)) with
      | none => rw [hm] at h; cases h
      | some elems =>
        rw [hm] at h
        simp only [Option.bind_some, Option.map_eq_some_iff] at h
        obtain ⟨rest, _, h2⟩ := h
        cases h2
        exact .inr ⟨a, len, cap, elems, _, rfl, hc.2.1, hc.2.2, rfl, hm⟩
  · cases v <;> first | (cases h; done) | skip
    rename_i a len cap
    cases a with
    | none => cases len <;> cases cap <;> first | (cases h; done) | (simp at h; done)
    | some a => first | (cases h; done) | (simp at h; done)

theorem trod_struct {t : TypeId} {fs : Array Field} {fuel : Nat} {cs : List Value} {x : DataW H} {ps : List MemPlace} (hu : P.underlying t = some (.struct fs)) (h : DataW.trod enc P w base sp held (fuel + 1) t cs = some (x, ps)) :
    cs.length = P.cellsOf t ∧ ∃ xs, x = .agg (xs.map (·.1)) ∧ fs.toList.mapM (fun f => DataW.trod enc P w base sp held fuel f.type ((cs.drop f.offset).take (P.cellsOf f.type))) = some xs := by
  unfold DataW.trod at h
  rw [hu] at h
  simp only at h
  split at h
  case isFalse => cases h
  rename_i hc
  simp only [Option.map_eq_some_iff] at h
  obtain ⟨xs, h1, h2⟩ := h
  cases h2
  exact ⟨hc, xs, rfl, h1⟩

theorem trod_array {t e : TypeId} {n : Nat} {fuel : Nat} {cs : List Value} {x : DataW H} {ps : List MemPlace} (hu : P.underlying t = some (.array n e)) (h : DataW.trod enc P w base sp held (fuel + 1) t cs = some (x, ps)) :
    cs.length = P.cellsOf t ∧ ∃ xs, x = .agg (xs.map (·.1)) ∧ (List.range n).mapM (fun i => DataW.trod enc P w base sp held fuel e ((cs.drop (i * P.cellsOf e)).take (P.cellsOf e))) = some xs := by
  unfold DataW.trod at h
  rw [hu] at h
  simp only at h
  split at h
  case isFalse => cases h
  rename_i hc
  simp only [Option.map_eq_some_iff] at h
  obtain ⟨xs, h1, h2⟩ := h
  cases h2
  exact ⟨hc, xs, rfl, h1⟩

theorem trod_rep : ∀ (d fuel : Nat) (t : TypeId) (cs : List Value) (x : DataW H) (ps : List MemPlace), DataW.trod enc P w base sp held fuel t cs = some (x, ps) → okT P d t = true →
    Typed P d t x ∧ RepL w (G0 top) (avs P d t x) cs ∧ (avs P d t x).all isCell = true ∧ cs.length = P.cellsOf t
  | 0, _, _, _, _, _, _, h => by cases h
  | d + 1, 0, _, _, _, _, h, _ => by cases h
  | d + 1, fuel + 1, t, cs, x, ps, h, hok => by
    unfold okT at hok
    cases hu : P.underlying t with
    | none => simp [hu] at hok
    | some desc =>
      rw [hu] at hok
      cases desc with
      | bool =>
        obtain ⟨b, rfl, rfl⟩ := trod_bool hu h
        exact ⟨by simp [Typed, hu], by simp only [avs, hu]; exact RepL.cons (.bool b) RepL.nil, by simp [avs, hu, isCell], (eq_of_beq hok).symm⟩
      | int k =>
        obtain ⟨n, rfl, rfl, hw⟩ := trod_int hu h
        exact ⟨by simp [Typed, hu, hw], by simp only [avs, hu]; exact RepL.cons (.int k n) RepL.nil, by simp [avs, hu, isCell], (eq_of_beq hok).symm⟩
      | string =>
        obtain ⟨s, rfl, rfl, hw⟩ := trod_str hu h
        refine ⟨by simpa [Typed, hu] using hw, ?_, by simp [avs, hu, isCell], (eq_of_beq hok).symm⟩
        simp only [avs, hu]
        have : (⟨s.data.toList.toArray⟩ : ByteArray) = s := by cases s; simp
        rw [this]
        exact RepL.cons (.str s) RepL.nil
      | slice e =>
        simp only [Bool.and_eq_true] at hok
        rcases trod_sl hu h with ⟨rfl, rfl⟩ | ⟨a, len, cap, elems, rest, rfl, hlc, hcm, rfl, hm⟩
        · exact ⟨by simp [Typed, hu], by simp only [avs, hu]; exact RepL.cons rep_nil RepL.nil, by simp [avs, hu, isCell], (eq_of_beq hok.1.1).symm⟩
        · obtain ⟨hl, hg⟩ := mapM_get _ _ _ hm
          have hl' : elems.length = len := by simpa using hl
          -- each element
          have hel : ∀ (i : Nat) (y : DataW H × List MemPlace), elems[i]? = some y → ∃ ec, ec.length = P.cellsOf e ∧ (∀ (j : Nat) (v : Value), ec[j]? = some v → w.cell? ((a.add (i * P.cellsOf e)).add j) = some v) ∧ Typed P d e y.1 ∧ RepL w (G0 top) (avs P d e y.1) ec ∧ (avs P d e y.1).all isCell = true := fun i y hy => by
            have hi : i < len := by rw [← hl']; exact (List.getElem?_eq_some_iff.1 hy).1
            have := hg i i y (by simp [hi]) hy
            cases hc : w.cells? base (a.add (i * P.cellsOf e)) (P.cellsOf e) with
            | none => rw [hc] at this; cases this
            | some ec =>
              rw [hc] at this
              obtain ⟨y1, y2⟩ := y
              obtain ⟨g1, g2, g3, g4⟩ := trod_rep d fuel e ec y1 y2 this hok.2
              obtain ⟨c1, c2⟩ := cells_spec hc
              exact ⟨ec, c1, c2, g1, g2, g3⟩
          refine ⟨?_, ?_, by simp [avs, hu, isCell], (eq_of_beq hok.1.1).symm⟩
          · simp only [Typed, hu]
            refine ⟨by simp; omega, fun y hy => ?_⟩
            simp only [List.mem_map] at hy
            obtain ⟨p, hp, rfl⟩ := hy
            obtain ⟨i, hi⟩ := List.mem_iff_getElem?.1 hp
            obtain ⟨ec, _, _, g1, _⟩ := hel i p hi
            exact g1
          · simp only [avs, hu]
            refine RepL.cons ?_ RepL.nil
            have hrows : ((elems.map (·.1)).map (avs P d e)).length = len := by simp [hl']
            have hz : P.cellsOf e ≠ 0 := by simpa using hok.1.2
            have hspot : ((elems.map (·.1)).map (avs P d e)) ≠ [] → a = ⟨a.block, a.off, none⟩ ∧ a.block < w.heap.size := fun hn => by
              cases helems : elems with
              | nil => simp [helems] at hn
              | cons y ys =>
                obtain ⟨ec, c1, c2, _, g2, _⟩ := hel 0 y (by simp [helems])
                cases hec : ec with
                | nil => rw [hec] at c1; exact absurd c1.symm hz
                | cons v vs =>
                  have := c2 0 v (by simp [hec])
                  simp only [Nat.zero_mul, Addr.add, if_true] at this
                  unfold World.cell? at this
                  split at this
                  · rename_i hb
                    split at this
                    · cases this
                    · rename_i hs
                      refine ⟨?_, lt_of_heap hb⟩
                      cases a
                      simp at hs
                      simp [hs]
                  · cases this
            have hrc : ∀ (i j : Nat) (c : AV), rowCell ((elems.map (·.1)).map (avs P d e)) i j = some c → ∃ v, w.cell? ⟨a.block, a.off + i * P.cellsOf e + j, none⟩ = some v ∧ Rep w (G0 top) c v ∧ isCell c = true := fun i j c hc => by
              have hne : ((elems.map (·.1)).map (avs P d e)) ≠ [] := by rintro h0; rw [h0] at hc; simp [rowCell] at hc
              obtain ⟨ha, _⟩ := hspot hne
              unfold rowCell at hc
              cases hy : elems[i]? with
              | none => simp [hy] at hc
              | some y =>
                simp [hy] at hc
                obtain ⟨ec, c1, c2, _, g2, g3⟩ := hel i y hy
                have hj : j < ec.length := by rw [← g2.1]; exact (List.getElem?_eq_some_iff.1 hc).1
                have hv : ec[j]? = some ec[j] := List.getElem?_eq_getElem hj
                refine ⟨ec[j], ?_, g2.2 j c _ hc hv, List.all_eq_true.1 g3 c (List.mem_of_getElem? hc)⟩
                have := c2 j _ hv
                rw [ha, addr_add, addr_add] at this
                exact this
            have := Rep.sl (w := w) (γ := G0 top) (rt := .nn) (rows := (elems.map (·.1)).map (avs P d e)) (a := some a) (cap := cap) a.block a.off (P.cellsOf e) (fun i j => (w.cell? ⟨a.block, a.off + i * P.cellsOf e + j, none⟩).getD undef)
              (by rw [hrows]; exact hlc) (fun h => by cases h) (fun hn => ⟨by rw [← (hspot hn).1], (hspot hn).2⟩) (fun row hrow => ?_) (fun i j c hc => ?_) (fun i j c hc => ?_) (by simp [RtOK])
            · rwa [hrows] at this
            · simp only [List.map_map, List.mem_map] at hrow
              obtain ⟨p, hp, rfl⟩ := hrow
              obtain ⟨i, hi⟩ := List.mem_iff_getElem?.1 hp
              obtain ⟨ec', c1', _, _, g2', _⟩ := hel i p hi
              have := g2'.1
              simp only [Function.comp]
              omega
            · obtain ⟨v, h1, h2, h3⟩ := hrc i j c hc
              rw [h1]
              exact ⟨rfl, trivial, rep_one h2 h3⟩
            · obtain ⟨v, h1, h2, h3⟩ := hrc i j c hc
              rw [h1]
              exact h2
      | struct fs =>
        simp only [Bool.and_eq_true, List.all_eq_true] at hok
        obtain ⟨hlen, xs, rfl, hm⟩ := trod_struct hu h
        obtain ⟨hl, hg⟩ := mapM_get _ _ _ hm
        have hel : ∀ (i : Nat) (f : Field) (y : DataW H × List MemPlace), fs.toList[i]? = some f → xs[i]? = some y → Typed P d f.type y.1 ∧ RepL w (G0 top) (avs P d f.type y.1) ((cs.drop f.offset).take (P.cellsOf f.type)) ∧ (avs P d f.type y.1).all isCell = true := fun i f y hf hy => by
          obtain ⟨y1, y2⟩ := y
          obtain ⟨g1, g2, g3, _⟩ := trod_rep d fuel f.type _ y1 y2 (hg i f (y1, y2) hf hy) (hok.2 f (List.mem_of_getElem? hf))
          exact ⟨g1, g2, g3⟩
        have hzip : ∀ p ∈ fs.toList.zip (xs.map (·.1)), ∃ (i : Nat) (f : Field) (y : DataW H × List MemPlace), fs.toList[i]? = some f ∧ xs[i]? = some y ∧ p = (f, y.1) := fun p hp => by
          obtain ⟨i, hi⟩ := List.mem_iff_getElem?.1 hp
          rw [List.getElem?_zip_eq_some] at hi
          obtain ⟨h1, h2⟩ := hi
          simp only [List.getElem?_map, Option.map_eq_some_iff] at h2
          obtain ⟨y, h2, h3⟩ := h2
          exact ⟨i, p.1, y, h1, h2, by rw [h3]⟩
        refine ⟨?_, ?_, ?_, hlen⟩
        · simp only [Typed, hu]
          refine ⟨by simpa using hl, fun p hp => ?_⟩
          obtain ⟨i, f, y, h1, h2, rfl⟩ := hzip p hp
          exact (hel i f y h1 h2).1
        · simp only [avs, hu]
          have hseg := contig_segs (P := P) (cs := cs) fs.toList 0 (P.cellsOf t) (eq_of_beq hok.1) hlen.symm (Nat.zero_le _)
          rw [List.drop_zero] at hseg
          have : RepL w (G0 top) ((fs.toList.zip (xs.map (·.1))).map fun p => avs P d p.1.type p.2).flatten (fs.toList.map fun f => (cs.drop f.offset).take (P.cellsOf f.type)).flatten := by
            refine seg_rep _ _ (by simp at hl ⊢; omega) fun i as vs h1 h2 => ?_
            simp only [List.getElem?_map, Option.map_eq_some_iff] at h1 h2
            obtain ⟨p, hp, rfl⟩ := h1
            obtain ⟨f, hf, rfl⟩ := h2
            rw [List.getElem?_zip_eq_some] at hp
            obtain ⟨q1, q2⟩ := hp
            rw [hf] at q1
            simp only [List.getElem?_map, Option.map_eq_some_iff] at q2
            obtain ⟨y, hy, q2⟩ := q2
            rw [← Option.some.inj q1, ← q2]
            exact (hel i f y hf hy).2.1
          rw [hseg] at this
          rwa [List.flatMap_def]
        · simp only [avs, hu, List.all_eq_true, List.mem_flatMap]
          rintro v ⟨p, hp, hv⟩
          obtain ⟨i, f, y, h1, h2, rfl⟩ := hzip p hp
          exact List.all_eq_true.1 (hel i f y h1 h2).2.2 v hv
      | array n e =>
        simp only [Bool.and_eq_true] at hok
        obtain ⟨hlen, xs, rfl, hm⟩ := trod_array hu h
        obtain ⟨hl, hg⟩ := mapM_get _ _ _ hm
        have hl' : xs.length = n := by simpa using hl
        have hel : ∀ (i : Nat) (y : DataW H × List MemPlace), xs[i]? = some y → Typed P d e y.1 ∧ RepL w (G0 top) (avs P d e y.1) ((cs.drop (i * P.cellsOf e)).take (P.cellsOf e)) ∧ (avs P d e y.1).all isCell = true := fun i y hy => by
          have hi : i < n := by rw [← hl']; exact (List.getElem?_eq_some_iff.1 hy).1
          obtain ⟨y1, y2⟩ := y
          obtain ⟨g1, g2, g3, _⟩ := trod_rep d fuel e _ y1 y2 (hg i i (y1, y2) (by simp [hi]) hy) hok.2
          exact ⟨g1, g2, g3⟩
        refine ⟨?_, ?_, ?_, hlen⟩
        · simp only [Typed, hu]
          refine ⟨by simpa using hl', fun y hy => ?_⟩
          simp only [List.mem_map] at hy
          obtain ⟨p, hp, rfl⟩ := hy
          obtain ⟨i, hi⟩ := List.mem_iff_getElem?.1 hp
          exact (hel i p hi).1
        · simp only [avs, hu]
          have hseg := array_segs (cs := cs) (k := P.cellsOf e) n (by rw [hlen]; exact eq_of_beq hok.1)
          have : RepL w (G0 top) ((xs.map (·.1)).map (avs P d e)).flatten ((List.range n).map fun i => (cs.drop (i * P.cellsOf e)).take (P.cellsOf e)).flatten := by
            refine seg_rep _ _ (by simp [hl']) fun i as vs h1 h2 => ?_
            simp only [List.map_map, List.getElem?_map, Option.map_eq_some_iff] at h1 h2
            obtain ⟨y, hy, rfl⟩ := h1
            obtain ⟨j, hj, rfl⟩ := h2
            have hi : i < n := by rw [← hl']; exact (List.getElem?_eq_some_iff.1 hy).1
            simp [hi] at hj
            subst hj
            exact (hel i y hy).2.1
          rw [hseg] at this
          rwa [List.flatMap_def]
        · simp only [avs, hu, List.all_eq_true, List.mem_flatMap, List.mem_map]
          rintro v ⟨y, ⟨p, hp, rfl⟩, hv⟩
          obtain ⟨i, hi⟩ := List.mem_iff_getElem?.1 hp
          exact List.all_eq_true.1 (hel i p hi).2.2 v hv
      | _ => simp at hok

/-- The abstract value of an argument. -/
def argOf (P : Program) (d : Nat) (t : TypeId) (x : DataW H) : AV := if aggT P t then .agg (avs P d t x) else (avs P d t x).headD .junk

theorem not_agg {r : Reach} {b0 : Nat} {t : TypeId} {v : Value} (hval : Value.okWide P w r b0 t v) (ha : aggT P t = false) (hok : ∃ d, okT P d t = true) : v.cells.toList = [v] := by
  unfold Value.okWide at hval
  unfold aggT at ha
  obtain ⟨d, hok⟩ := hok
  cases d with
  | zero => cases hok
  | succ d =>
    unfold okT at hok
    cases hu : P.underlying t with
    | none => simp [hu] at hok
    | some desc =>
      rw [hu] at hval ha hok
      cases desc <;> simp at ha hok hval
      all_goals
        unfold Cell.okWide at hval
        rw [hu] at hval
        cases v <;> first | rfl | (simp [Cell.ok, hu] at hval)

theorem arg_rep {d : Nat} {r : Reach} {b0 : Nat} {t : TypeId} {v : Value} {x : DataW H} {ps : List MemPlace} (hok : okT P d t = true) (hval : Value.okWide P w r b0 t v) (h : DataW.Trod enc P w base sp held t v x ps) :
    Typed P d t x ∧ Rep w (G0 top) (argOf P d t x) v := by
  obtain ⟨fuel, h⟩ := h
  obtain ⟨h1, h2, h3, h4⟩ := trod_rep d fuel t _ x ps h hok
  refine ⟨h1, ?_⟩
  unfold argOf
  cases ha : aggT P t with
  | true =>
    simp only [if_true]
    unfold Value.okWide at hval
    unfold aggT at ha
    split at ha
    · rename_i hu; rw [hu] at hval; obtain ⟨cs, rfl, _⟩ := hval; exact RepL.agg' h2
    · rename_i hu; rw [hu] at hval; obtain ⟨cs, rfl, _⟩ := hval; exact RepL.agg' h2
    · cases ha
  | false =>
    simp only [Bool.false_eq_true, if_false]
    rw [not_agg hval ha ⟨d, hok⟩] at h2
    cases hl : avs P d t x with
    | nil => rw [hl] at h2; have := h2.1; simp at this
    | cons a l => rw [hl] at h2; exact h2.2 0 a v rfl rfl

/-- All arguments. -/
def TypedAll (P : Program) (d : Nat) : List TypeId → List (DataW H) → Prop
  | [], [] => True
  | t :: ts, x :: xs => Typed P d t x ∧ TypedAll P d ts xs
  | _, _ => False
def argsOf (P : Program) (d : Nat) : List TypeId → List (DataW H) → List AV
  | t :: ts, x :: xs => argOf P d t x :: argsOf P d ts xs
  | _, _ => []

theorem args_rep {d : Nat} {r : Reach} {b0 : Nat} : ∀ {ts : List TypeId} {vs : List Value} {xs : List (DataW H)} {ps : List MemPlace}, (∀ t ∈ ts, okT P d t = true) → (∀ (j : Nat) (t : TypeId) (v : Value), ts[j]? = some t → vs[j]? = some v → Value.okWide P w r b0 t v) →
    DataW.TrodAll enc P w base sp held ts vs xs ps → TypedAll P d ts xs ∧ RepL w (G0 top) (argsOf P d ts xs) vs
  | [], [], [], _, _, _, _ => ⟨trivial, RepL.nil⟩
  | [], _ :: _, _, _, _, _, h => by cases h
  | [], [], _ :: _, _, _, _, h => by cases h
  | _ :: _, [], _, _, _, _, h => by cases h
  | _ :: _, _ :: _, [], _, _, _, h => by cases h
  | t :: ts, v :: vs, x :: xs, ps, hok, hval, h => by
    obtain ⟨p, q, h1, h2, _⟩ := h
    obtain ⟨g1, g2⟩ := arg_rep (hok t (by simp)) (hval 0 t v rfl rfl) h1
    obtain ⟨k1, k2⟩ := args_rep (fun t ht => hok t (by simp [ht])) (fun j t v h1 h2 => hval (j + 1) t v (by simpa using h1) (by simpa using h2)) h2
    exact ⟨⟨g1, k1⟩, RepL.cons g2 k2⟩

theorem below_trodAll {W W' : World} (hl : laidOutB P = true) (hb : Below W.heap.size W W') {sp' : Nat → Bool} : ∀ {ts : List TypeId} {vs : List Value} {xs : List (DataW H)} {ps : List MemPlace}, (∀ t ∈ ts, P.readableRec t = true ∧ t < P.types.size) →
    DataW.TrodAll enc P W 0 (fun _ => true) true ts vs xs ps → (∀ p ∈ ps, p.block < W.heap.size ∧ sp' p.block = true) → DataW.TrodAll enc P W' 0 sp' true ts vs xs ps
  | [], [], [], _, _, h, _ => h
  | [], _ :: _, _, _, _, h, _ => by cases h
  | [], [], _ :: _, _, _, h, _ => by cases h
  | _ :: _, [], _, _, _, h, _ => by cases h
  | _ :: _, _ :: _, [], _, _, h, _ => by cases h
  | t :: ts, v :: vs, x :: xs, ps, hr, h, hp => by
    obtain ⟨p, q, h1, h2, rfl⟩ := h
    refine ⟨p, q, WideElems.Trod_stays hl (hr t (by simp)).1 (hr t (by simp)).2 h1 (fun y hy => hb.same (hp y (by simp [hy])).1) (fun y hy => (hp y (by simp [hy])).2), below_trodAll hl hb (fun t ht => hr t (by simp [ht])) h2 fun y hy => hp y (by simp [hy]), rfl⟩

/-- A LAW: what is proved of the abstract arguments, said of the row. -/
theorem law_contract {gl : Nat → AV} {fid : FuncId} {fn : Func} {s : ChangeSpec} {bt : TypeId} {d : Nat} (hvars : s.vars = []) (hres : fn.resultTypes = #[bt]) (hbt : P.underlying bt = some .bool) (hl : laidOutB P = true)
    (hts : (fn.params.toList.all fun t => okT P d t && P.readableRec t && decide (t < P.types.size)) = true) (hspec : ∀ ds : List (DataW H), ds.length = fn.params.size → (s.fn H ds).results = [.lit (.bool true)] ∧ (s.fn H ds).args = ds ∧ (s.fn H ds).vars = [])
    {W : World} {args : Array Value} {ds gs : List (DataW H)} {before : List MemPlace} {r : Reach} {b0 : Nat} (hgl : ∀ g, Rep W (G0 top) (gl g) (.pointer (some ⟨g, 0, none⟩)))
    (hval : ∀ (j : Nat) (t : TypeId) (v : Value), fn.params[j]? = some t → args[j]? = some v → Value.okWide P W r b0 t v)
    (hW : DataW.Whole enc P fn.params.toList s.vars false W args.toList ds gs before)
    (hp : TypedAll P d fn.params.toList ds → Pure P gl fid (argsOf P d fn.params.toList ds) (.bool true)) :
    Calls P fid args W fun e W' => ∃ v, e = .returned v ∧ s.post enc P fn false true false false W args v W' := by
  have hW' := hW
  obtain ⟨p, q, hA, hV, rfl, hfz, hnd⟩ := hW
  rw [hvars] at hV
  obtain ⟨rfl, rfl⟩ := ChangeShapes.trodVars_none hV
  simp only [List.all_eq_true, Bool.and_eq_true, decide_eq_true_eq] at hts
  obtain ⟨h1, h2⟩ := args_rep (fun t ht => (hts t ht).1.1) (fun j t v q1 q2 => hval j t v (by simpa using q1) (by simpa using q2)) hA
  have hlen : ds.length = fn.params.size := by
    have : ∀ {ts : List TypeId} {vs : List Value} {xs : List (DataW H)} {ps : List MemPlace}, DataW.TrodAll enc P W 0 (fun _ => true) true ts vs xs ps → xs.length = ts.length := by
      intro ts
      induction ts with
      | nil => intro vs xs ps h; cases vs <;> cases xs <;> first | rfl | cases h
      | cons t ts ih =>
        intro vs xs ps h
        cases vs <;> cases xs <;> first | (cases h; done) | skip
        obtain ⟨_, _, _, h, _⟩ := h
        simp [ih h]
    simpa using this hA
  obtain ⟨k1, k2, k3⟩ := hspec ds hlen
  have hlt : ∀ x ∈ p, x.block < W.heap.size := fun x hx => hW'.lt x (by simp [hx])
  refine ((hp h1).2 top W args.toList hgl h2).mono ?_
  rintro e W' ⟨v, rfl, hb, hr⟩
  obtain rfl := hr.inv_bool
  refine ⟨_, rfl, ds, [], p ++ [], [], p, [], hW', ?_, ?_, ?_, World.keptBut_mono (fun x hx => ⟨hx, ?_⟩) (hb.frame (· ∈ p ++ [])), fun h => by cases h⟩
  · rw [hres, List.append_nil, k1]
    exact ⟨[], [], shut_bool hbt true, rfl, rfl⟩
  · rw [List.append_nil, k2]
    exact below_trodAll hl hb (fun t ht => ⟨(hts t ht).1.2, (hts t ht).2⟩) hA fun x hx => ⟨hlt x hx, by simpa using hlt x hx⟩
  · rw [hvars, List.append_nil, k3]
    rfl
  · simp at hx
    exact .inr (.inl hx)
end
end Go.Abs
