/-
  OWN WORK. A region whose order is drawn, with one call that changes memory: the others don't see it.
-/
import Derived.Test.YtedgjnpaebllpaaDoorAbs13b
namespace Go.Abs
open Go Go.RowKit

def calmOp (o : Oper) : Bool := o.guard.isNone && (match o.op with | .alloc _ | .box _ _ => false | _ => true)

def isDyn (o : Oper) : Bool := match o.op with
  | .call ⟨.value (.tmp _), _, _⟩ => o.dst.isSome
  | .store _ _ _ => true
  | _ => false

/-- The one call of a function's value among the first p. -/
def effAt (ops : Array Oper) (p : Nat) : Option Nat :=
  match (List.range p).filter (fun i => match ops[i]? with | some o => isDyn o | none => false) with
  | [j] => if (List.range p).all fun i => (match ops[i]? with | some o => calmOp o && (i == j || !(o.dst.getD 0 == (dstOf ops j).getD 0)) | none => false) then some j else none
  | _ => none

section
variable (P : Program) (gl : Nat → AV) (orc : Nat → FuncId → List AV → AV) (Y : YT)

/-- The one operation that changes memory. -/
def effC (e : Opd → AV) (m : AM) (dst : Option Nat) (av : AV) (m1 : AM) : SOp → Prop
  | .call f args => (match e f with
    | .fn g first cap => EffY P gl Y g (first ++ args.map e ++ cap) m (fun x m2 => x = av ∧ m2 = m1)
    | _ => False)
  | .store n x v => (sop P gl orc e m dst (.store n x v)).1 ∧ av = .junk ∧ m1 = (sop P gl orc e m dst (.store n x v)).2.2
  | _ => False

def vcE (l2 : List SO) (K : AS → Prop) (av : AV) (m m1 : AM) : List SO → Option Nat → List AV → Prop
  | [], _, T => vcOps P gl orc Y l2 ⟨T, m1⟩ K
  | o :: r, some 0, T => effC P gl orc Y (ev gl T) m o.dst av m1 o.op ∧ vcE l2 K av m m1 r none (put T o.dst av)
  | o :: r, j, T => (rop P gl orc (ev gl T) m o.dst o.op).1 ∧ rop P gl orc (ev gl T) m1 o.dst o.op = rop P gl orc (ev gl T) m o.dst o.op ∧ vcE l2 K av m m1 r (j.map (· - 1)) (put T o.dst (rop P gl orc (ev gl T) m o.dst o.op).2)
end

def orcE (orc : Nat → FuncId → List AV → AV) (d : Nat) (av : AV) : Nat → FuncId → List AV → AV := fun d' f as => if d' = d then .gd false av else orc d' f as

section
variable {N : Nat} {w0 : Bas} {r : Option Nat} {ro0 : Nat → Nat → Prop} {S : G × World} {Y : YT} {P : Program} {gl : Nat → AV} {orc : Nat → FuncId → List AV → AV} {ops : Array Oper} {T0 : List AV} {m : AM} {p : Nat}

theorem rop_orcE {d : Nat} {av : AV} {e : Opd → AV} {m : AM} {dst : Option Nat} {so : SOp} (h : dst.getD 0 ≠ d) : rop P gl (orcE orc d av) e m dst so = rop P gl orc e m dst so := by
  cases so <;> first | rfl | skip
  simp only [rop, orcE, if_neg h]

structure InvE (N : Nat) (w0 : Bas) (r : Option Nat) (ro0 : Nat → Nat → Prop) (S : G × World) (Y : YT) (P : Program) (gl : Nat → AV) (orc : Nat → FuncId → List AV → AV) (ops : Array Oper) (T0 : List AV) (m m1 : AM) (j p : Nat) (listed : Array Bool) (γ : G) (w : World) (a : Act) : Prop where
  size : listed.size = ops.size
  tail : ∀ i, p ≤ i → i < ops.size → listed.getD i true = false
  mm : MSim N w0 ro0 γ w (if listed.getD j false then m1 else m).B (if listed.getD j false then m1 else m).L
  ls : LSim γ w (if listed.getD j false then m1 else m)
  rd : Rdr r γ w
  tl : a.tmps.size = T0.length
  tt : ∀ t, Rep w γ (At P gl orc ops T0 m p listed t) (a.tmps.getD t undef)
  d : Dfr S.2.heap.size γ w a.defers
  g : ∀ g, Rep w γ.imm (gl g) (.pointer (some ⟨g, 0, none⟩))
  y : YOK N w0 ro0 P Y γ w
  e : EvR S.2 S.1 w γ

theorem calm_dop {o : Oper} (hc : calmOp o = true) (T : List AV) (nb : List (List AV)) : dop P gl orc (soOf P ops o) T m nb = ((rop P gl orc (ev gl T) m o.dst (tr P o)).1, (rop P gl orc (ev gl T) m o.dst (tr P o)).2, nb) := by
  simp only [calmOp, Bool.and_eq_true] at hc
  have hg : o.guard = none := by simpa using hc.1
  have e1 : (soOf P ops o).guard = none := by simp [soOf, hg]
  have e2 : (soOf P ops o).op = tr P o := rfl
  unfold dop
  rw [e1]
  simp only
  cases hso : tr P o with
  | alloc zs => obtain ⟨t, hot, _⟩ := tr_alloc hso; rw [hot] at hc; simp at hc
  | box x => obtain ⟨t, y, hot, _⟩ := tr_box hso; rw [hot] at hc; simp at hc
  | _ => rw [e2, hso]; rfl

/-- An operation that comes early, whenever it comes. -/
theorem earlyE_step {orc0 : Nat → FuncId → List AV → AV} {m1 : AM} {j d : Nat} {av : AV} (horc : orc = orcE orc0 d av) (hc : dchk ops p = true) {Q : Exit → Act → World → Prop} {listed : Array Bool} {γ : G} {w : World} {a : Act}
    (hI : InvE N w0 r ro0 S Y P gl orc ops T0 m m1 j p listed γ w a) {i : Nat} {o : Oper} (ho : ops[i]? = some o) (hip : i < p) (hcalm : calmOp o = true)
    (hu : listed.getD i true = false) (haft : ∀ j ∈ afters o, listed.getD j false = true)
    (hne : i ≠ j → o.dst.getD 0 ≠ d ∧ (rop P gl orc (ev gl (dsts P gl orc ops T0 m i).1) m o.dst (tr P o)).1 ∧ rop P gl orc (ev gl (dsts P gl orc ops T0 m i).1) m1 o.dst (tr P o) = rop P gl orc (ev gl (dsts P gl orc ops T0 m i).1) m o.dst (tr P o))
    (heq : i = j → effC P gl orc0 Y (ev gl (dsts P gl orc ops T0 m i).1) m o.dst av m1 (tr P o) ∧ (rop P gl orc (ev gl (dsts P gl orc ops T0 m i).1) m o.dst (tr P o)).2 = av) :
    wpOpIn (FW r) 0 P ops Q i (fun a' w' => ∃ γ', InvE N w0 r ro0 S Y P gl orc ops T0 m m1 j p (listed.setIfInBounds i true) γ' w' a') a w := by
  have hi : i < ops.size := (Array.getElem?_eq_some_iff.1 ho).1
  have hil : i < listed.size := by rw [hI.size]; exact hi
  have hsee : ∀ t ∈ o.looksAt ops, Rep w γ ((dsts P gl orc ops T0 m i).1.getD t .junk) (a.tmps.getD t undef) := fun t ht => by
    rw [sees (P := P) (gl := gl) (orc := orc) (T0 := T0) (m := m) hc hI.size ho hip hu haft ht]; exact hI.tt t
  have hop : ∀ x ∈ o.op.operands, Rep w γ (ev gl (dsts P gl orc ops T0 m i).1 (opd x)) (a.eval x) := fun x hx => by
    cases x with
    | tmp t => exact hsee t (by simp only [Oper.looksAt, List.mem_append, List.mem_filterMap]; exact .inl ⟨.tmp t, by simpa using hx, rfl⟩)
    | const v => exact rep_ofVal w γ v
    | func f => exact .fn rfl (fun i c v h => by simp at h) rfl fun i c v h => by simp at h
    | global g => exact (hI.g g).of_imm
  -- what is left to show behind it
  have fin : ∀ {v : Value} {w' : World} {γ' : G}, EvR w γ w' γ' → MSim N w0 ro0 γ' w' (if (listed.setIfInBounds i true).getD j false then m1 else m).B (if (listed.setIfInBounds i true).getD j false then m1 else m).L → LSim γ' w' (if (listed.setIfInBounds i true).getD j false then m1 else m) →
      Rep w' γ' (rop P gl orc (ev gl (dsts P gl orc ops T0 m i).1) m o.dst (tr P o)).2 v → ∃ γ', InvE N w0 r ro0 S Y P gl orc ops T0 m m1 j p (listed.setIfInBounds i true) γ' w' (a.put o.dst v) := fun {v w' γ'} he hm hl hr => by
    refine ⟨γ', by simp [hI.size], fun j hj1 hj2 => by rw [getD_set_other (by omega)]; exact hI.tail j hj1 hj2, hm, hl, hI.rd.monoR he, ?_, fun t => ?_, ?_, fun g => (hI.g g).monoR he.imm, hI.y.mono he, hI.e.trans he⟩
    · cases hd : o.dst <;> simp [Act.put, hI.tl]
    · rw [At_set hc hI.size ho hip, calm_dop hcalm]
      by_cases hd : o.dst = some t
      · by_cases ht : t < T0.length
        · rw [if_pos ⟨hd, ht⟩, hd]
          have : (a.put (some t) v).tmps.getD t undef = v := by simp [Act.put, hI.tl, ht]
          rw [this, ← hd]; exact hr
        · rw [if_neg (by simp [ht]), hd]
          have : (a.put (some t) v).tmps.getD t undef = a.tmps.getD t undef := by simp [Act.put, hI.tl, ht]
          rw [this]; exact (hI.tt t).monoR he
      · rw [if_neg (by simp [hd])]
        have : (a.put o.dst v).tmps.getD t undef = a.tmps.getD t undef := by
          cases hd' : o.dst with
          | none => rfl
          | some d => simp only [Act.put]; simp; rw [Array.getElem?_setIfInBounds_ne (by rintro rfl; exact hd hd')]
        rw [this]; exact (hI.tt t).monoR he
    · cases hd : o.dst <;> exact hI.d.monoR he
  have hg : o.guard = none := by simp only [calmOp, Bool.and_eq_true] at hcalm; simpa using hcalm.1
  simp only [wpOpIn, ho]
  have hw : Region.wanted o (yielded ops a.tmps) = true := by simp [Region.wanted, hg]
  rw [if_pos hw]
  by_cases hij : i = j
  · subst hij
    obtain ⟨h1, h2⟩ := heq rfl
    have hlj : listed.getD i false = false := by rw [listed_iff hil false true]; exact hu
    have hset : (listed.setIfInBounds i true).getD i false = true := getD_set_same hil
    rw [hset, h2] at fin
    have hmm := hI.mm
    have hls := hI.ls
    rw [hlj] at hmm hls
    simp only [Bool.false_eq_true, if_false] at hmm hls
    simp only [if_true] at fin
    have hsim : Sim N w0 r ro0 S P gl Y γ w ⟨(List.range T0.length).map fun t => At P gl orc ops T0 m p listed t, m⟩ a := by
      refine ⟨hmm, hls, hI.rd, ⟨by simp [hI.tl], fun t x v hx hv => ?_⟩, hI.d, hI.g, hI.y, hI.e⟩
      · have hlt : t < T0.length := by
          rcases Nat.lt_or_ge t T0.length with h | h
          · exact h
          · simp [Nat.not_lt.2 h] at hx
        simp [hlt] at hx
        have := hI.tt t
        rw [hx] at this
        have hv' : a.tmps.getD t undef = v := by simp at hv; simp [hv]
        rwa [hv'] at this
    cases htr : tr P o with
    | call f args =>
      rw [htr] at h1
      have h1' : vcEff P gl Y (ev gl (dsts P gl orc ops T0 m i).1) m (fun x m2 => x = av ∧ m2 = m1) (tr P o) := by
        rw [htr]
        simp only [effC] at h1
        simp only [vcEff]
        split at h1
        · rename_i g first cap hev; simp only [hev]; exact h1
        · exact h1.elim
      refine eff_sound hsim hop h1' fun v w' γ' av' m' hK h3 h4 h5 h6 => ?_
      obtain ⟨rfl, rfl⟩ := hK
      exact fin h3 h4 h5 h6
    | store n x y =>
      rw [htr] at h1
      obtain ⟨k1, k2, k3⟩ := h1
      refine sop_sound (orc := orc0) (K := fun av' m' => av' = av ∧ m' = m1) hmm hI.g hop ⟨by rw [htr]; exact k1, ?_, by rw [htr]; exact k3.symm⟩ r _ Q fun v w' γ' av' m' hK h3 h4 h5 h6 => ?_
      · rw [htr, k2]
        simp only [sop]
        split <;> rfl
      · obtain ⟨rfl, rfl⟩ := hK
        exact fin h4.toR h5 (hls.mono' h4 h3) h6
    | _ => rw [htr] at h1; exact h1.elim
  · obtain ⟨h0, h1, h2⟩ := hne hij
    have hset : (listed.setIfInBounds i true).getD j false = listed.getD j false := getD_set_other (Ne.symm hij)
    rw [hset] at fin
    generalize hmL : (if listed.getD j false then m1 else m) = mL at fin
    have hmm := hI.mm
    have hls := hI.ls
    rw [hmL] at hmm hls
    have heqL : rop P gl orc (ev gl (dsts P gl orc ops T0 m i).1) mL o.dst (tr P o) = rop P gl orc (ev gl (dsts P gl orc ops T0 m i).1) m o.dst (tr P o) := by
      rw [← hmL]; split
      · exact h2
      · rfl
    refine rop_sound (m := mL) hmm (fun _ _ h => h) hI.g hop (by rw [heqL]; exact h1) r _ Q fun v w' γ' q1 q2 q3 => ?_
    rw [heqL] at q3
    exact fin q1.toR q2 (hls.mono q1) q3

theorem effAt_spec {j : Nat} (h : effAt ops p = some j) : j < p ∧ (∃ o, ops[j]? = some o ∧ isDyn o = true) ∧ ∀ i, i < p → ∃ o, ops[i]? = some o ∧ calmOp o = true ∧ (i = j ∨ o.dst.getD 0 ≠ (dstOf ops j).getD 0) := by
  unfold effAt at h
  split at h
  case h_2 => cases h
  rename_i j' hf
  split at h
  case isFalse => cases h
  rename_i hall
  cases h
  have hj : j ∈ (List.range p).filter fun i => match ops[i]? with | some o => isDyn o | none => false := by rw [hf]; simp
  rw [List.mem_filter] at hj
  refine ⟨List.mem_range.1 hj.1, ?_, fun i hi => ?_⟩
  · have h2 := hj.2
    split at h2
    · rename_i o ho; exact ⟨o, ho, h2⟩
    · cases h2
  · have := List.all_eq_true.1 hall i (List.mem_range.2 hi)
    split at this
    · rename_i o ho
      simp only [Bool.and_eq_true, Bool.or_eq_true, beq_iff_eq, Bool.not_eq_true', beq_eq_false_iff_ne] at this
      exact ⟨o, ho, this.1, this.2⟩
    · cases this

theorem dyn_tr {o : Oper} (h : isDyn o = true) : (∃ t args, tr P o = .call (.tmp t) args ∧ ∃ d, o.dst = some d) ∨ (∃ n x v, tr P o = .store n x v) ∨ tr P o = .bad := by
  obtain ⟨dst, op, ty, pos, after, guard⟩ := o
  cases op <;> simp only [isDyn] at h <;> first | (cases h; done) | skip
  case call c =>
    obtain ⟨callee, args, ts⟩ := c
    cases callee with
    | value f =>
      cases f with
      | tmp t => exact .inl ⟨t, _, rfl, Option.isSome_iff_exists.1 h⟩
      | _ => cases h
    | _ => cases h
  case store t x v =>
    simp only [tr]
    split
    · exact .inr (.inl ⟨_, _, _, rfl⟩)
    · exact .inr (.inr rfl)

theorem vcE_all {m1 : AM} {j d : Nat} {av : AV} (l2 : List SO) (K : AS → Prop) (hp : p ≤ ops.size) (hj : effAt ops p = some j) (hjd : (dstOf ops j).getD 0 = d) : ∀ (n k : Nat), k + n = p →
    vcE P gl orc Y l2 K av m m1 (((ops.toList.take p).drop k).map (soOf P ops)) (if k ≤ j then some (j - k) else none) (dsts P gl (orcE orc d av) ops T0 m k).1 →
    (∀ i o, k ≤ i → i < p → ops[i]? = some o →
      (i ≠ j → o.dst.getD 0 ≠ d ∧ (rop P gl (orcE orc d av) (ev gl (dsts P gl (orcE orc d av) ops T0 m i).1) m o.dst (tr P o)).1 ∧ rop P gl (orcE orc d av) (ev gl (dsts P gl (orcE orc d av) ops T0 m i).1) m1 o.dst (tr P o) = rop P gl (orcE orc d av) (ev gl (dsts P gl (orcE orc d av) ops T0 m i).1) m o.dst (tr P o)) ∧
      (i = j → effC P gl orc Y (ev gl (dsts P gl (orcE orc d av) ops T0 m i).1) m o.dst av m1 (tr P o) ∧ (rop P gl (orcE orc d av) (ev gl (dsts P gl (orcE orc d av) ops T0 m i).1) m o.dst (tr P o)).2 = av)) ∧
    vcOps P gl orc Y l2 ⟨(dsts P gl (orcE orc d av) ops T0 m p).1, m1⟩ K
  | 0, k, hk, h => by
    obtain rfl : k = p := by omega
    have : (ops.toList.take k).drop k = [] := List.drop_eq_nil_of_le (by simp; omega)
    rw [this] at h
    refine ⟨fun i o h1 h2 => by omega, ?_⟩
    unfold vcE at h
    split at h <;> first | exact h | simp_all
  | n + 1, k, hk, h => by
    have hlt : k < ops.size := by omega
    have ho : ops[k]? = some ops[k] := Array.getElem?_eq_getElem hlt
    have hd : (ops.toList.take p).drop k = ops[k] :: (ops.toList.take p).drop (k + 1) := by
      rw [List.drop_eq_getElem_cons (by simp; omega)]; simp
    rw [hd, List.map_cons] at h
    have hsu := dsts_succ (P := P) (gl := gl) (orc := orcE orc d av) (T0 := T0) (m := m) ho
    obtain ⟨hjp, ⟨oj, hoj, hdyn⟩, hothers⟩ := effAt_spec hj
    obtain ⟨o', ho', hcalm, hdst⟩ := hothers k (by omega)
    rw [ho] at ho'
    cases ho'
    rw [calm_dop hcalm] at hsu
    have e2 : (soOf P ops ops[k]).op = tr P ops[k] := rfl
    have e3 : (soOf P ops ops[k]).dst = ops[k].dst := rfl
    by_cases hkj : k = j
    · subst hkj
      rw [ho] at hoj
      cases hoj
      simp only [Nat.le_refl, if_true, Nat.sub_self, vcE, e2, e3] at h
      obtain ⟨h1, h2⟩ := h
      have hval : (rop P gl (orcE orc d av) (ev gl (dsts P gl (orcE orc d av) ops T0 m k).1) m ops[k].dst (tr P ops[k])).2 = av := by
        rcases dyn_tr (P := P) hdyn with ⟨t, args, htr, d', hd'⟩ | ⟨n', x', v', htr⟩ | htr
        · have hdd : d' = d := by simp [dstOf, ho, hd'] at hjd; exact hjd
          subst hdd
          rw [htr] at h1 ⊢
          simp only [effC] at h1
          split at h1
          · rename_i g first cap hev
            simp only [rop, hev, hd', orcE, Option.getD_some, if_true, callV]
          · exact h1.elim
        · rw [htr] at h1 ⊢
          rw [h1.2.1]; rfl
        · rw [htr] at h1; exact h1.elim
      rw [hval] at hsu
      have := vcE_all l2 K hp hj hjd n (k + 1) (by omega) (by
        rw [hsu, if_neg (by omega)]
        exact h2)
      refine ⟨fun i o hi hip hio => ?_, this.2⟩
      rcases Nat.lt_or_ge k i with hki | hki
      · exact this.1 i o hki hip hio
      · obtain rfl : i = k := by omega
        rw [ho] at hio
        cases hio
        exact ⟨fun h => absurd rfl h, fun _ => ⟨h1, hval⟩⟩
    · have hne : ops[k].dst.getD 0 ≠ d := by
        rcases hdst with h | h
        · exact absurd h hkj
        · rw [hjd] at h; exact h
      have hcase : (rop P gl orc (ev gl (dsts P gl (orcE orc d av) ops T0 m k).1) m ops[k].dst (tr P ops[k])).1 ∧ rop P gl orc (ev gl (dsts P gl (orcE orc d av) ops T0 m k).1) m1 ops[k].dst (tr P ops[k]) = rop P gl orc (ev gl (dsts P gl (orcE orc d av) ops T0 m k).1) m ops[k].dst (tr P ops[k]) ∧
          vcE P gl orc Y l2 K av m m1 (((ops.toList.take p).drop (k + 1)).map (soOf P ops)) (if k + 1 ≤ j then some (j - (k + 1)) else none) (put (dsts P gl (orcE orc d av) ops T0 m k).1 ops[k].dst (rop P gl orc (ev gl (dsts P gl (orcE orc d av) ops T0 m k).1) m ops[k].dst (tr P ops[k])).2) := by
        by_cases hle : k ≤ j
        · rw [if_pos hle] at h
          rw [if_pos (by omega)]
          obtain ⟨q, hq⟩ : ∃ q, j - k = q + 1 := ⟨j - k - 1, by omega⟩
          rw [hq] at h
          rw [show j - (k + 1) = q by omega]
          exact h
        · rw [if_neg hle] at h
          rw [if_neg (by omega)]
          exact h
      obtain ⟨h1, h2, h3⟩ := hcase
      rw [rop_orcE hne] at hsu
      have := vcE_all l2 K hp hj hjd n (k + 1) (by omega) (by rw [hsu]; exact h3)
      refine ⟨fun i o hi hip hio => ?_, this.2⟩
      rcases Nat.lt_or_ge k i with hki | hki
      · exact this.1 i o hki hip hio
      · obtain rfl : i = k := by omega
        rw [ho] at hio
        cases hio
        refine ⟨fun _ => ⟨hne, ?_, ?_⟩, fun h => absurd h hkj⟩
        · rw [rop_orcE hne]; exact h1
        · rw [rop_orcE hne, rop_orcE hne]; exact h2

theorem drawE_sound {Q : Exit → Act → World → Prop} {K : AS → Prop} {γ : G} {w : World} {s : AS} {a : Act} {j : Nat} (hQ : ∀ γ w s a, K s → Sim N w0 r ro0 S P gl Y γ w s a → Q .normal a w) (hc : dchk ops p = true) (hj : effAt ops p = some j)
    {av : AV} {m1 : AM} (h : vcE P gl orc Y ((ops.toList.drop p).map (soOf P ops)) K av s.m m1 ((ops.toList.take p).map (soOf P ops)) (some j) s.T) (hs : Sim N w0 r ro0 S P gl Y γ w s a) :
    wpAnyIn (FW r) 0 P .any ops Q ops.size (Array.replicate ops.size false) a { w with drawn := w.drawn + 1 } := by
  obtain ⟨hp, hsp⟩ := dchk_spec hc
  obtain ⟨hjp, ⟨oj, hoj, hdyn⟩, hothers⟩ := effAt_spec hj
  obtain ⟨d, hjd⟩ : ∃ d, (dstOf ops j).getD 0 = d := ⟨_, rfl⟩
  obtain ⟨h1, h2⟩ := vcE_all (P := P) (gl := gl) (orc := orc) (T0 := s.T) (m := s.m) ((ops.toList.drop p).map (soOf P ops)) K hp hj hjd p 0 (by simp) (by rw [List.drop_zero]; simpa [dsts] using h)
  have full : ∀ (fuel : Nat) (listed : Array Bool) (γ : G) (w : World) (a : Act), InvE N w0 r ro0 S Y P gl (orcE orc d av) ops s.T s.m m1 j p listed γ w a → uc ops listed ≤ fuel → (∀ i, i < p → listed.getD i false = true) → wpAnyIn (FW r) 0 P .any ops Q fuel listed a w := by
    intro fuel listed γ w a hI huc hall
    have hlj := hall j hjp
    have hmm := hI.mm
    have hls := hI.ls
    rw [hlj] at hmm hls
    simp only [if_true] at hmm hls
    refine tail_sound hQ hc fuel p listed γ w _ a (Nat.le_refl _) hp hI.size hall hI.tail huc h2 ⟨hmm, hls, hI.rd, ⟨?_, fun t x v hx hv => ?_⟩, hI.d, hI.g, hI.y, hI.e⟩
    · simp [dsts_len, hI.tl]
    · have h1 := hI.tt t
      have hAt : At P gl (orcE orc d av) ops s.T s.m p listed t = x := by
        have hx' : (dsts P gl (orcE orc d av) ops s.T s.m p).1.getD t .junk = x := by simp only at hx; simp [List.getD, hx]
        unfold At
        split
        · exact hx'
        · rename_i hw
          rw [← hx']
          refine (dsts_first p fun j hj hd => hw ?_).symm
          unfold wr
          rw [List.any_eq_true]
          exact ⟨j, List.mem_range.2 hj, by rw [hall j hj, hd]; simp⟩
      rw [hAt] at h1
      have : a.tmps.getD t undef = v := by simp at hv; simp [hv]
      rwa [this] at h1
  have main : ∀ (fuel : Nat) (listed : Array Bool) (γ : G) (w : World) (a : Act), InvE N w0 r ro0 S Y P gl (orcE orc d av) ops s.T s.m m1 j p listed γ w a → uc ops listed ≤ fuel → wpAnyIn (FW r) 0 P .any ops Q fuel listed a w := by
    intro fuel
    induction fuel with
    | zero =>
      intro listed γ w a hI huc
      exact full 0 listed γ w a hI huc fun i hi => by
        rw [listed_iff (by rw [hI.size]; omega) false true]
        exact uc_zero (Nat.le_zero.1 huc) (by omega)
    | succ fuel ih =>
      intro listed γ w a hI huc
      by_cases hall : ∀ i, i < p → listed.getD i false = true
      · exact full (fuel + 1) listed γ w a hI huc hall
      · have hex : ∃ k, k < p ∧ listed.getD k true = false := by
          refine Classical.byContradiction fun hn => hall fun i hi => ?_
          rw [listed_iff (by rw [hI.size]; omega) false true]
          cases hl : listed.getD i true with
          | true => rfl
          | false => exact absurd ⟨i, hi, hl⟩ hn
        obtain ⟨k, hk, hlk⟩ := hex
        refine ⟨fun hr => ?_, fun i hi => ?_⟩
        · obtain ⟨j, hj⟩ := ready_least hc hI.size k k (Nat.le_refl _) (by omega) hlk
          rw [hr] at hj; cases hj
        · obtain ⟨hlt, hu, o, ho, haft⟩ := ready_after hc hi
          have hip : i < p := by
            rcases Nat.lt_or_ge i p with h | h
            · exact h
            · have := haft k (((hsp i o ho).2.2 h) k (by omega))
              rw [listed_iff (by rw [hI.size]; omega) false true, hlk] at this; cases this
          obtain ⟨o', ho', hcalm, _⟩ := hothers i hip
          rw [ho] at ho'
          cases ho'
          refine wpOpIn_mono ?_ (earlyE_step rfl hc hI ho hip hcalm hu haft (h1 i o (Nat.zero_le _) hip ho).1 (h1 i o (Nat.zero_le _) hip ho).2)
          rintro a' w' ⟨γ', hI'⟩
          refine ih _ γ' w' a' hI' ?_
          have := uc_set hI.size hlt hu
          omega
  have hlf : (Array.replicate ops.size false).getD j false = false := by
    rcases Nat.lt_or_ge j ops.size with h | h <;> simp [h]
  refine main ops.size _ γ w.drew a ⟨by simp, fun i _ hi => by simp [hi], ?_, ?_, hs.rd.monoR (Ev.drew w γ).toR, ?_, fun t => ?_, hs.d.monoR (Ev.drew w γ).toR, fun g => (hs.g g).mono (Ev.drew w γ).imm, hs.y.mono (Ev.drew w γ).toR, hs.e.trans (Ev.drew w γ).toR⟩ ?_
  · rw [hlf]; exact hs.m.drew
  · rw [hlf]; exact hs.ls.mono (Ev.drew w γ)
  · have := hs.t.1; simp at this; omega
  · have hw : wr ops p (Array.replicate ops.size false) t = false := by
      unfold wr
      rw [List.any_eq_false]
      intro j _
      have : (Array.replicate ops.size false).getD j false = false := by
        rcases Nat.lt_or_ge j ops.size with h | h <;> simp [h]
      rw [this]; simp
    unfold At
    rw [hw]
    simp only [Bool.false_eq_true, if_false]
    have := (hs.t.mono (Ev.drew w γ)).get t
    simpa [List.getD] using this
  · unfold uc
    exact Nat.le_trans (List.countP_le_length) (by simp)
end
end Go.Abs
