/-
  OWN WORK. A region whose order is drawn, with one call that changes memory: the others don't see it.
-/
import Derived.Test.YtdebhhpklhbihaaGreatDoorC5Abs13b
namespace Go.Abs
open Go Go.RowKit

def calmOp (o : Oper) : Bool := o.guard.isNone && (match o.op with | .alloc _ | .box _ _ => false | _ => true)

def isDyn (o : Oper) : Bool := match o.op with
  | .call ⟨.value (.tmp _), _, _⟩ => o.dst.isSome
  | .call ⟨.builtin .copy, _, _⟩ => true
  | .store _ _ _ => true
  | .mapUpdate _ _ _ _ => true
  | _ => false
def isCal (o : Oper) : Bool := match o.op with
  | .call ⟨.value _, _, _⟩ => true
  | _ => false
def opAt (ops : Array Oper) (p : Oper → Bool) (i : Nat) : Bool := match ops[i]? with
  | some o => p o
  | none => false

/-- Each of these comes behind the one before it. -/
def chnB (ops : Array Oper) : List Nat → Bool
  | j :: j' :: r => (match ops[j']? with | some o => (afters o).contains j | none => false) && chnB ops (j' :: r)
  | _ => true

/-- The operations among the first p that change memory, in their order. -/
def effsAt (ops : Array Oper) (p : Nat) : Option (List Nat) :=
  let js := (List.range p).filter (opAt ops isDyn)
  if !js.isEmpty && chnB ops js && (List.range p).all (fun i => opAt ops calmOp i && js.all fun j => (i == j) || !(opAt ops isCal j) || !((dstOf ops i).getD 0 == (dstOf ops j).getD 0)) then some js else none

/-- How an operation stands to those that change memory: one of them; before the first of them; neither. -/
inductive Fg
  | eff
  | pre
  | oth

/-- What these wait for, in one step or in many. -/
def cloL (ops : Array Oper) : Nat → List Nat → List Nat
  | 0, s => s
  | k + 1, s => bif s.any fun i => waitsB ops i k then cloL ops k (k :: s) else cloL ops k s
theorem cloL_ok {ops : Array Oper} {listed : Array Bool} (h : Clo ops listed) : ∀ (k : Nat) (s : List Nat), (∀ i ∈ s, listed.getD i false = true) → ∀ i ∈ cloL ops k s, listed.getD i false = true
  | 0, _, hs, i, hi => hs i hi
  | k + 1, s, hs, i, hi => by
    simp only [cloL] at hi
    cases hc : s.any fun i => waitsB ops i k with
    | false => rw [hc] at hi; exact cloL_ok h k s hs i hi
    | true =>
      rw [hc] at hi
      refine cloL_ok h k (k :: s) (fun j hj => ?_) i hi
      rcases List.mem_cons.1 hj with rfl | hj
      · obtain ⟨x, hx, hw⟩ := List.any_eq_true.1 hc
        unfold waitsB at hw
        split at hw
        · rename_i o ho
          exact h x o (hs x hx) ho j (by simpa using hw)
        · cases hw
      · exact hs j hj
def preAt (ops : Array Oper) (js : List Nat) (i : Nat) : Bool := match js with
  | j :: _ => (cloL ops j [j]).contains i
  | [] => false
def flagAt (ops : Array Oper) (js : List Nat) (i : Nat) : Fg := bif js.contains i then .eff else bif preAt ops js i then .pre else .oth
def flags (ops : Array Oper) (p : Nat) (js : List Nat) : List Fg := (List.range p).map (flagAt ops js)

section
variable (P : Program) (gl : Nat → AV) (orc : Nat → FuncId → List AV → AV) (Y : YT)

def memEff : SOp → Bool
  | .store _ _ _ | .cpy _ _ _ | .mupd _ _ _ => true
  | _ => false

/-- An operation that changes memory. -/
def effC (e : Opd → AV) (m : AM) (dst : Option Nat) (av : AV) (m1 : AM) : SOp → Prop
  | .call f args => (match e f with
    | .fn g first cap => EffY P gl Y g (first ++ args.map e ++ cap) m (fun x m2 => x = av ∧ m2 = m1)
    | _ => False)
  | so => memEff so = true ∧ (sop P gl orc e m dst so).1 ∧ av = .junk ∧ m1 = (sop P gl orc e m dst so).2.2

def vcE (l2 : List SO) (K : AS → Prop) (m : AM) (ms : List (AV × AM)) : List SO → List Fg → List (AV × AM) → AM → List AV → Prop
  | [], _, q, mc, T => q = [] ∧ vcOps P gl orc Y l2 ⟨T, mc⟩ K
  | _ :: _, [], _, _, _ => False
  | o :: r, .eff :: fl, q, mc, T => (match q with
    | [] => False
    | x :: q => effC P gl orc Y (ev gl T) mc o.dst x.1 x.2 o.op ∧ vcE l2 K m ms r fl q x.2 (put T o.dst x.1))
  | o :: r, .pre :: fl, q, mc, T => (rop P gl orc (ev gl T) m o.dst o.op).1 ∧ vcE l2 K m ms r fl q mc (put T o.dst (rop P gl orc (ev gl T) m o.dst o.op).2)
  | o :: r, .oth :: fl, q, mc, T => (rop P gl orc (ev gl T) m o.dst o.op).1 ∧ (∀ x ∈ ms, rop P gl orc (ev gl T) x.2 o.dst o.op = rop P gl orc (ev gl T) m o.dst o.op) ∧ vcE l2 K m ms r fl q mc (put T o.dst (rop P gl orc (ev gl T) m o.dst o.op).2)
end

def lkp : List (Nat × AV) → Nat → Option AV
  | [], _ => none
  | (k, a) :: r, d => if k = d then some a else lkp r d

def orcE (orc : Nat → FuncId → List AV → AV) (L : List (Nat × AV)) : Nat → FuncId → List AV → AV := fun d' f as => match lkp L d' with
  | some av => .gd false av
  | none => orc d' f as

/-- The values of the calls. -/
def effL (ops : Array Oper) : List Nat → List (AV × AM) → List (Nat × AV)
  | j :: js, x :: q => if opAt ops isCal j then ((dstOf ops j).getD 0, x.1) :: effL ops js q else effL ops js q
  | _, _ => []

/-- The memory behind the operations that have been. -/
def memL (listed : Array Bool) : AM → List Nat → List (AV × AM) → AM
  | m, j :: js, x :: q => if listed.getD j false then memL listed x.2 js q else m
  | m, _, _ => m

/-- The memory in front of the operation of this number. -/
def memN (m : AM) (ms : List (AV × AM)) : Nat → AM
  | 0 => m
  | a + 1 => (ms.getD a (.junk, m)).2

def chn (listed : Array Bool) : List Nat → Prop
  | j :: j' :: r => (listed.getD j' false = true → listed.getD j false = true) ∧ chn listed (j' :: r)
  | _ => True

section
variable {N : Nat} {w0 : Bas} {r : Option Nat} {ro0 : Nat → Nat → Prop} {S : G × World} {Y : YT} {P : Program} {gl : Nat → AV} {orc : Nat → FuncId → List AV → AV} {ops : Array Oper} {T0 : List AV} {m : AM} {p : Nat}

theorem rop_orcE {L : List (Nat × AV)} {e : Opd → AV} {m : AM} {dst : Option Nat} {so : SOp} (h : lkp L (dst.getD 0) = none) : rop P gl (orcE orc L) e m dst so = rop P gl orc e m dst so := by
  cases so <;> first | rfl | skip
  simp only [rop, orcE, h]

theorem memL_mem (listed : Array Bool) : ∀ (js : List Nat) (ms : List (AV × AM)) (m : AM), memL listed m js ms = m ∨ ∃ x ∈ ms, memL listed m js ms = x.2
  | [], ms, m => .inl (by cases ms <;> rfl)
  | j :: js, [], m => .inl rfl
  | j :: js, x :: q, m => by
    simp only [memL]
    split
    · rcases memL_mem listed js q x.2 with h | ⟨y, hy, h⟩
      · exact .inr ⟨x, by simp, h⟩
      · exact .inr ⟨y, by simp [hy], h⟩
    · exact .inl rfl

theorem memL_at {listed : Array Bool} : ∀ {js : List Nat} {ms : List (AV × AM)} {m : AM} {a : Nat}, js.length = ms.length → a ≤ js.length → (∀ b j, b < a → js[b]? = some j → listed.getD j false = true) → (∀ j, js[a]? = some j → listed.getD j false = false) →
    memL listed m js ms = memN m ms a
  | [], [], m, a, _, ha, _, _ => by
    have : a = 0 := by simpa using ha
    subst this; rfl
  | [], _ :: _, _, _, h, _, _, _ => by simp at h
  | _ :: _, [], _, _, h, _, _, _ => by simp at h
  | j :: js, x :: q, m, 0, _, _, _, h => by
    simp only [memL, memN]
    rw [h j rfl]; rfl
  | j :: js, x :: q, m, a + 1, hl, ha, h1, h2 => by
    simp only [memL]
    rw [h1 0 j (by omega) rfl, if_pos rfl]
    rw [memL_at (a := a) (by simpa using hl) (by simpa using ha) (fun b j hb hj => h1 (b + 1) j (by omega) (by simpa using hj)) (fun j hj => h2 j (by simpa using hj))]
    cases a with
    | zero => rfl
    | succ a =>
      simp only [memN, List.getD_cons_succ]
      have : a < q.length := by simp at ha hl; omega
      simp [List.getD, this]

theorem memL_same {listed listed' : Array Bool} : ∀ {js : List Nat} {ms : List (AV × AM)} {m : AM}, (∀ j ∈ js, listed'.getD j false = listed.getD j false) → memL listed' m js ms = memL listed m js ms
  | [], _, _, _ => rfl
  | _ :: _, [], _, _ => rfl
  | j :: js, x :: q, m, h => by
    simp only [memL]
    rw [h j (by simp), memL_same fun j hj => h j (by simp [hj])]

theorem chn_down {listed : Array Bool} : ∀ {js : List Nat}, chn listed js → ∀ {a b j j' : Nat}, a < b → js[a]? = some j → js[b]? = some j' → listed.getD j' false = true → listed.getD j false = true
  | [], _, a, b, j, j', _, h, _, _ => by simp at h
  | [x], _, a, b, j, j', hab, h, h', _ => by
    have := (List.getElem?_eq_some_iff.1 h').1
    simp at this; omega
  | x :: y :: r, hc, 0, 1, j, j', _, h, h', hl => by
    simp at h h'; subst h; subst h'; exact hc.1 hl
  | x :: y :: r, hc, 0, b + 2, j, j', _, h, h', hl => by
    simp at h; subst h
    exact hc.1 (chn_down hc.2 (a := 0) (b := b + 1) (by omega) rfl (by simpa using h') hl)
  | x :: y :: r, hc, a + 1, b + 1, j, j', hab, h, h', hl => chn_down hc.2 (a := a) (b := b) (by omega) (by simpa using h) (by simpa using h') hl

theorem chn_set {listed : Array Bool} {i : Nat} : ∀ {js : List Nat}, chn listed js → (∀ a j, js[a]? = some j → js[a + 1]? = some i → listed.getD j false = true) → chn (listed.setIfInBounds i true) js
  | [], _, _ => trivial
  | [_], _, _ => trivial
  | j :: j' :: r, hc, h => by
    refine ⟨fun hl => ?_, chn_set hc.2 fun a x hx hx' => h (a + 1) x (by simpa using hx) (by simpa using hx')⟩
    have mono : ∀ k, listed.getD k false = true → (listed.setIfInBounds i true).getD k false = true := fun k hk => by
      by_cases hik : i = k
      · subst hik
        have : i < listed.size := by
          rcases Nat.lt_or_ge i listed.size with h | h
          · exact h
          · simp [Nat.not_lt.2 h] at hk
        exact getD_set_same this
      · rw [getD_set_other (Ne.symm hik)]; exact hk
    by_cases hij : i = j'
    · subst hij; exact mono j (h 0 j rfl rfl)
    · rw [getD_set_other (Ne.symm hij)] at hl
      exact mono j (hc.1 hl)

theorem nodup_inj {l : List Nat} (h : l.Nodup) {a b i : Nat} (h1 : l[a]? = some i) (h2 : l[b]? = some i) : a = b := by
  obtain ⟨ha, ea⟩ := List.getElem?_eq_some_iff.1 h1
  obtain ⟨hb, eb⟩ := List.getElem?_eq_some_iff.1 h2
  rcases Nat.lt_trichotomy a b with h' | h' | h'
  · exact absurd (ea.trans eb.symm) (List.pairwise_iff_getElem.1 h a b ha hb h')
  · exact h'
  · exact absurd (eb.trans ea.symm) (List.pairwise_iff_getElem.1 h b a hb ha h')

structure InvE (N : Nat) (w0 : Bas) (r : Option Nat) (ro0 : Nat → Nat → Prop) (S : G × World) (Y : YT) (P : Program) (gl : Nat → AV) (orc : Nat → FuncId → List AV → AV) (ops : Array Oper) (T0 : List AV) (m : AM) (ms : List (AV × AM)) (js : List Nat) (p : Nat) (listed : Array Bool) (γ : G) (w : World) (a : Act) : Prop where
  size : listed.size = ops.size
  tail : ∀ i, p ≤ i → i < ops.size → listed.getD i true = false
  ch : chn listed js
  clo : ∀ i o, listed.getD i false = true → ops[i]? = some o → ∀ j ∈ afters o, listed.getD j false = true
  mm : MSim N w0 ro0 γ w (memL listed m js ms).B (memL listed m js ms).L
  ls : LSim γ w (memL listed m js ms)
  rd : Rdr r γ w
  tl : a.tmps.size = T0.length
  tt : ∀ t, Rep w γ (At P gl orc ops T0 m p listed t) (a.tmps.getD t undef)
  d : Dfr S.2.heap.size γ w a.defers
  g : ∀ g, Rep w γ.imm (gl g) (.pointer (some ⟨g, 0, none⟩))
  y : YOK N w0 ro0 P Y γ w
  e : EvR S.2 S.1 w γ

theorem calm_dop {o : Oper} (hc : calmOp o = true) (T : List AV) (nb : List (List AV)) : dop P gl orc (soOf P ops o) T m nb = ((rop P gl orc (ev gl T) m o.dst (tr P o)).1, (rop P gl orc (ev gl T) m o.dst (tr P o)).2, nb) := by
  simp only [calmOp, Bool.and_eq_true] at hc
  have hg : o.guard = none := by simpa using hc.1
  have e1 : (soOf P ops o).guard = none := by simp [soOf, hg]
  have e2 : (soOf P ops o).op = tr P o := rfl
  unfold dop
  rw [e1]
  simp only
  cases hso : tr P o with
  | alloc zs => obtain ⟨t, hot, _⟩ := tr_alloc hso; rw [hot] at hc; simp at hc
  | box x => obtain ⟨t, y, hot, _⟩ := tr_box hso; rw [hot] at hc; simp at hc
  | _ => rw [e2, hso]; rfl

/-- An operation that comes early, whenever it comes. -/
theorem earlyE_step {orc0 : Nat → FuncId → List AV → AV} {ms : List (AV × AM)} {js : List Nat} {L : List (Nat × AV)} (horc : orc = orcE orc0 L) (hc : dchk ops p = true) {Q : Exit → Act → World → Prop} {listed : Array Bool} {γ : G} {w : World} {a : Act}
    (hI : InvE N w0 r ro0 S Y P gl orc ops T0 m ms js p listed γ w a) {i : Nat} {o : Oper} (ho : ops[i]? = some o) (hip : i < p) (hcalm : calmOp o = true) (hlen : js.length = ms.length) (hnd : js.Nodup)
    (hu : listed.getD i true = false) (haft : ∀ j ∈ afters o, listed.getD j false = true) (hchn : ∀ a j, js[a]? = some j → js[a + 1]? = some i → j ∈ afters o)
    (hne : i ∉ js → (rop P gl orc (ev gl (dsts P gl orc ops T0 m i).1) m o.dst (tr P o)).1 ∧ (preAt ops js i = false → ∀ x ∈ ms, rop P gl orc (ev gl (dsts P gl orc ops T0 m i).1) x.2 o.dst (tr P o) = rop P gl orc (ev gl (dsts P gl orc ops T0 m i).1) m o.dst (tr P o)))
    (heq : ∀ k x, js[k]? = some i → ms[k]? = some x → effC P gl orc0 Y (ev gl (dsts P gl orc ops T0 m i).1) (memN m ms k) o.dst x.1 x.2 (tr P o) ∧ (rop P gl orc (ev gl (dsts P gl orc ops T0 m i).1) m o.dst (tr P o)).2 = x.1) :
    wpOpIn (FW r) 0 P ops Q i (fun a' w' => ∃ γ', InvE N w0 r ro0 S Y P gl orc ops T0 m ms js p (listed.setIfInBounds i true) γ' w' a') a w := by
  have hi : i < ops.size := (Array.getElem?_eq_some_iff.1 ho).1
  have hil : i < listed.size := by rw [hI.size]; exact hi
  have hsee : ∀ t ∈ o.looksAt ops, Rep w γ ((dsts P gl orc ops T0 m i).1.getD t .junk) (a.tmps.getD t undef) := fun t ht => by
    rw [sees (P := P) (gl := gl) (orc := orc) (T0 := T0) (m := m) hc hI.size ho hip hu haft ht]; exact hI.tt t
  have hop : ∀ x ∈ o.op.operands, Rep w γ (ev gl (dsts P gl orc ops T0 m i).1 (opd x)) (a.eval x) := fun x hx => by
    cases x with
    | tmp t => exact hsee t (by simp only [Oper.looksAt, List.mem_append, List.mem_filterMap]; exact .inl ⟨.tmp t, by simpa using hx, rfl⟩)
    | const v => exact rep_ofVal w γ v
    | func f => exact .fn rfl (fun i c v h => by simp at h) rfl fun i c v h => by simp at h
    | global g => exact (hI.g g).of_imm
  have hch : chn (listed.setIfInBounds i true) js := chn_set hI.ch fun a j h1 h2 => haft j (hchn a j h1 h2)
  have hpr : Clo ops (listed.setIfInBounds i true) := Clo.set hI.clo ho hil haft
  -- what is left to show behind it
  have fin : ∀ {v : Value} {w' : World} {γ' : G}, EvR w γ w' γ' → MSim N w0 ro0 γ' w' (memL (listed.setIfInBounds i true) m js ms).B (memL (listed.setIfInBounds i true) m js ms).L → LSim γ' w' (memL (listed.setIfInBounds i true) m js ms) →
      Rep w' γ' (rop P gl orc (ev gl (dsts P gl orc ops T0 m i).1) m o.dst (tr P o)).2 v → ∃ γ', InvE N w0 r ro0 S Y P gl orc ops T0 m ms js p (listed.setIfInBounds i true) γ' w' (a.put o.dst v) := fun {v w' γ'} he hm hl hr => by
    refine ⟨γ', by simp [hI.size], fun j hj1 hj2 => by rw [getD_set_other (by omega)]; exact hI.tail j hj1 hj2, hch, hpr, hm, hl, hI.rd.monoR he, ?_, fun t => ?_, ?_, fun g => (hI.g g).monoR he.imm, hI.y.mono he, hI.e.trans he⟩
    · cases hd : o.dst <;> simp [Act.put, hI.tl]
    · rw [At_set hc hI.size ho hip, calm_dop hcalm]
      by_cases hd : o.dst = some t
      · by_cases ht : t < T0.length
        · rw [if_pos ⟨hd, ht⟩, hd]
          have : (a.put (some t) v).tmps.getD t undef = v := by simp [Act.put, hI.tl, ht]
          rw [this, ← hd]; exact hr
        · rw [if_neg (by simp [ht]), hd]
          have : (a.put (some t) v).tmps.getD t undef = a.tmps.getD t undef := by simp [Act.put, hI.tl, ht]
          rw [this]; exact (hI.tt t).monoR he
      · rw [if_neg (by simp [hd])]
        have : (a.put o.dst v).tmps.getD t undef = a.tmps.getD t undef := by
          cases hd' : o.dst with
          | none => rfl
          | some d => simp only [Act.put]; simp; rw [Array.getElem?_setIfInBounds_ne (by rintro rfl; exact hd hd')]
        rw [this]; exact (hI.tt t).monoR he
    · cases hd : o.dst <;> exact hI.d.monoR he
  have hg : o.guard = none := by simp only [calmOp, Bool.and_eq_true] at hcalm; simpa using hcalm.1
  simp only [wpOpIn, ho]
  have hw : Region.wanted o (yielded ops a.tmps) = true := by simp [Region.wanted, hg]
  rw [if_pos hw]
  by_cases hij : i ∈ js
  · obtain ⟨k, hk⟩ := List.mem_iff_getElem?.1 hij
    have hkl : k < ms.length := by rw [← hlen]; exact (List.getElem?_eq_some_iff.1 hk).1
    obtain ⟨x, hx⟩ : ∃ x, ms[k]? = some x := ⟨ms[k], List.getElem?_eq_getElem hkl⟩
    obtain ⟨h1, h2⟩ := heq k x hk hx
    have hlj : listed.getD i false = false := by rw [listed_iff hil false true]; exact hu
    have hbef : ∀ b j, b < k → js[b]? = some j → listed.getD j false = true := fun b j hb hj => by
      have hb1 : k - 1 < js.length := by have := (List.getElem?_eq_some_iff.1 hk).1; omega
      obtain ⟨j1, hj1⟩ : ∃ j1, js[k - 1]? = some j1 := ⟨js[k - 1], List.getElem?_eq_getElem hb1⟩
      have hl1 := haft j1 (hchn (k - 1) j1 hj1 (by rw [show k - 1 + 1 = k by omega]; exact hk))
      rcases Nat.lt_or_ge b (k - 1) with h | h
      · exact chn_down hI.ch h hj hj1 hl1
      · obtain rfl : b = k - 1 := by omega
        rw [hj] at hj1; cases hj1; exact hl1
    have hm0 : memL listed m js ms = memN m ms k := memL_at hlen (by have := (List.getElem?_eq_some_iff.1 hk).1; omega) hbef (fun j hj => by rw [hk] at hj; cases hj; exact hlj)
    have hm1 : memL (listed.setIfInBounds i true) m js ms = x.2 := by
      have := memL_at (listed := listed.setIfInBounds i true) (m := m) (a := k + 1) hlen (by have := (List.getElem?_eq_some_iff.1 hk).1; omega) (fun b j hb hj => ?_) (fun j hj => ?_)
      · rw [this]; simp [memN, List.getD, hx]
      · rcases Nat.lt_or_ge b k with h | h
        · have hne' : j ≠ i := by
            rintro rfl
            have := nodup_inj hnd hj hk
            omega
          rw [getD_set_other hne']; exact hbef b j h hj
        · obtain rfl : b = k := by omega
          rw [hk] at hj; cases hj; exact getD_set_same hil
      · have hne' : j ≠ i := by
          rintro rfl
          have := nodup_inj hnd hj hk
          omega
        rw [getD_set_other hne']
        cases hl : listed.getD j false with
        | false => rfl
        | true => rw [chn_down hI.ch (Nat.lt_succ_self k) hk hj hl] at hlj; cases hlj
    rw [hm1, h2] at fin
    have hmm := hI.mm
    have hls := hI.ls
    rw [hm0] at hmm hls
    have hsim : Sim N w0 r ro0 S P gl Y γ w ⟨(List.range T0.length).map fun t => At P gl orc ops T0 m p listed t, memN m ms k⟩ a := by
      refine ⟨hmm, hls, hI.rd, ⟨by simp [hI.tl], fun t x v hx hv => ?_⟩, hI.d, hI.g, hI.y, hI.e⟩
      · have hlt : t < T0.length := by
          rcases Nat.lt_or_ge t T0.length with h | h
          · exact h
          · simp [Nat.not_lt.2 h] at hx
        simp [hlt] at hx
        have := hI.tt t
        rw [hx] at this
        have hv' : a.tmps.getD t undef = v := by simp at hv; simp [hv]
        rwa [hv'] at this
    have mem : ∀ so, tr P o = so → memEff so = true → ((sop P gl orc0 (ev gl (dsts P gl orc ops T0 m i).1) (memN m ms k) o.dst so).1 ∧ x.1 = .junk ∧ x.2 = (sop P gl orc0 (ev gl (dsts P gl orc ops T0 m i).1) (memN m ms k) o.dst so).2.2) →
        o.wpIn (FW r) 0 P a w (fun a' w' => ∃ γ', InvE N w0 r ro0 S Y P gl orc ops T0 m ms js p (listed.setIfInBounds i true) γ' w' a') Q := fun so hso _ ⟨k1, k2, k3⟩ => by
      refine sop_sound (orc := orc0) (K := fun av' m' => m' = x.2) hmm hI.g hop ⟨by rw [hso]; exact k1, by rw [hso]; exact k3.symm⟩ r _ Q fun v w' γ' av' m' hK h3 h4 h5 h6 => ?_
      subst hK
      exact fin h4.toR h5 (hls.mono' h4 h3) (by rw [k2]; exact .junk _)
    cases htr : tr P o with
    | call f args =>
      rw [htr] at h1
      have h1' : vcEff P gl Y (ev gl (dsts P gl orc ops T0 m i).1) (memN m ms k) (fun y m2 => y = x.1 ∧ m2 = x.2) (tr P o) := by
        rw [htr]
        simp only [effC] at h1
        simp only [vcEff]
        split at h1
        · rename_i g first cap hev; simp only [hev]; exact h1
        · exact h1.elim
      refine eff_sound hsim hop h1' fun v w' γ' av' m' hK h3 h4 h5 h6 => ?_
      obtain ⟨rfl, rfl⟩ := hK
      exact fin h3 h4 h5 h6
    | _ => rw [htr] at h1; first | exact mem _ htr h1.1 h1.2 | exact absurd h1.1 (by simp [memEff])
  · obtain ⟨h1, h2⟩ := hne hij
    have hset : memL (listed.setIfInBounds i true) m js ms = memL listed m js ms := memL_same fun j hj => getD_set_other (by rintro rfl; exact hij hj)
    rw [hset] at fin
    have hmm := hI.mm
    have hls := hI.ls
    have heqL : rop P gl orc (ev gl (dsts P gl orc ops T0 m i).1) (memL listed m js ms) o.dst (tr P o) = rop P gl orc (ev gl (dsts P gl orc ops T0 m i).1) m o.dst (tr P o) := by
      cases hpa : preAt ops js i with
      | false =>
        rcases memL_mem listed js ms m with h | ⟨x, hx, h⟩
        · rw [h]
        · rw [h]; exact h2 hpa x hx
      | true =>
        have hm0 : memL listed m js ms = m := by
          cases js with
          | nil => cases ms <;> rfl
          | cons j0 js =>
            simp only [preAt] at hpa
            have hn : listed.getD j0 false = false := by
              cases hl : listed.getD j0 false with
              | false => rfl
              | true =>
                have := cloL_ok (ops := ops) (listed := listed) hI.clo j0 [j0] (fun k hk => by rw [List.mem_singleton.1 hk]; exact hl) i (by simpa using hpa)
                rw [listed_iff hil false true, hu] at this
                cases this
            cases ms with
            | nil => rfl
            | cons x q => simp only [memL, hn]; rfl
        rw [hm0]
    generalize memL listed m js ms = mL at *
    refine rop_sound (m := mL) hmm (fun _ _ h => h) hI.g hop (by rw [heqL]; exact h1) r _ Q fun v w' γ' q1 q2 q3 => ?_
    rw [heqL] at q3
    exact fin q1.toR q2 (hls.mono q1) q3

theorem chnB_ok : ∀ {js : List Nat}, chnB ops js = true → ∀ a j j' o, js[a]? = some j → js[a + 1]? = some j' → ops[j']? = some o → j ∈ afters o
  | [], _, a, j, j', o, h, _, _ => by simp at h
  | [x], _, a, j, j', o, h, h', _ => by
    have := (List.getElem?_eq_some_iff.1 h').1
    simp at this
  | x :: y :: r, hc, 0, j, j', o, h, h', ho => by
    simp at h h'
    subst h; subst h'
    simp only [chnB, Bool.and_eq_true, ho] at hc
    simpa using hc.1
  | x :: y :: r, hc, a + 1, j, j', o, h, h', ho => by
    simp only [chnB, Bool.and_eq_true] at hc
    exact chnB_ok hc.2 a j j' o (by simpa using h) (by simpa using h') ho

theorem effsAt_spec {js : List Nat} (h : effsAt ops p = some js) : js = (List.range p).filter (opAt ops isDyn) ∧ js ≠ [] ∧ chnB ops js = true ∧
    ∀ i, i < p → ∃ o, ops[i]? = some o ∧ calmOp o = true ∧ ∀ j ∈ js, i = j ∨ opAt ops isCal j = false ∨ o.dst.getD 0 ≠ (dstOf ops j).getD 0 := by
  unfold effsAt at h
  simp only at h
  split at h
  case isFalse => cases h
  rename_i hall
  cases h
  simp only [Bool.and_eq_true, Bool.not_eq_true'] at hall
  refine ⟨rfl, by rintro h; rw [h] at hall; simp at hall, hall.1.2, fun i hi => ?_⟩
  have := List.all_eq_true.1 hall.2 i (List.mem_range.2 hi)
  simp only [Bool.and_eq_true, List.all_eq_true, Bool.or_eq_true, beq_iff_eq, Bool.not_eq_true', beq_eq_false_iff_ne] at this
  obtain ⟨h1, h2⟩ := this
  unfold opAt at h1
  split at h1
  · rename_i o ho
    refine ⟨o, ho, h1, fun j hj => ?_⟩
    have hd : (dstOf ops i).getD 0 = o.dst.getD 0 := by simp [dstOf, ho]
    rcases h2 j hj with (h | h) | h
    · exact .inl h
    · exact .inr (.inl h)
    · exact .inr (.inr (by rw [← hd]; exact h))
  · cases h1

theorem lkp_none : ∀ (js : List Nat) (ms : List (AV × AM)) (d : Nat), (∀ j ∈ js, opAt ops isCal j = false ∨ d ≠ (dstOf ops j).getD 0) → lkp (effL ops js ms) d = none
  | [], _, _, _ => rfl
  | _ :: _, [], _, _ => rfl
  | j :: js, x :: q, d, h => by
    have ih := lkp_none js q d fun j hj => h j (by simp [hj])
    simp only [effL]
    split
    · rename_i hc
      rcases h j (by simp) with h' | h'
      · rw [h'] at hc; cases hc
      · simp only [lkp]; rw [if_neg (Ne.symm h')]; exact ih
    · exact ih

theorem lkp_some : ∀ (js : List Nat) (ms : List (AV × AM)) (a i : Nat) (x : AV × AM), js[a]? = some i → ms[a]? = some x → opAt ops isCal i = true → (∀ b j, js[b]? = some j → b ≠ a → opAt ops isCal j = false ∨ (dstOf ops i).getD 0 ≠ (dstOf ops j).getD 0) →
    lkp (effL ops js ms) ((dstOf ops i).getD 0) = some x.1
  | [], _, _, _, _, h, _, _, _ => by simp at h
  | _ :: _, [], _, _, _, _, h, _, _ => by simp at h
  | j :: js, y :: q, 0, i, x, h, hx, hc, _ => by
    simp at h hx
    subst h; subst hx
    simp only [effL, hc, if_true, lkp]
  | j :: js, y :: q, a + 1, i, x, h, hx, hc, hd => by
    have ih := lkp_some js q a i x (by simpa using h) (by simpa using hx) hc fun b j hb hne => hd (b + 1) j (by simpa using hb) (by omega)
    simp only [effL]
    split
    · rename_i hcj
      rcases hd 0 j rfl (by omega) with h' | h'
      · rw [h'] at hcj; cases hcj
      · simp only [lkp]; rw [if_neg (Ne.symm h')]; exact ih
    · exact ih

theorem dyn_tr {o : Oper} (h : isDyn o = true) : (∃ t args, tr P o = .call (.tmp t) args ∧ (∃ d, o.dst = some d) ∧ isCal o = true) ∨ (∀ f args, tr P o ≠ .call f args) := by
  obtain ⟨dst, op, ty, pos, after, guard⟩ := o
  cases op <;> simp only [isDyn] at h <;> first | (cases h; done) | skip
  case call c =>
    obtain ⟨callee, args, ts⟩ := c
    cases callee with
    | value f =>
      cases f with
      | tmp t => exact .inl ⟨t, _, rfl, Option.isSome_iff_exists.1 h, rfl⟩
      | _ => cases h
    | builtin b =>
      refine .inr fun f args' h' => ?_
      simp only [tr] at h'
      obtain ⟨f', as', ts', h1, _⟩ := trCall_call h'
      cases h1
    | _ => cases h
  case store t x v =>
    refine .inr fun f args' h' => ?_
    simp only [tr] at h'
    split at h' <;> cases h'
  case mapUpdate t x k v =>
    refine .inr fun f args' h' => ?_
    simp only [tr] at h'
    split at h' <;> cases h'

def cnt (ops : Array Oper) (k : Nat) : Nat := ((List.range k).filter (opAt ops isDyn)).length
theorem cnt_succ (k : Nat) : cnt ops (k + 1) = cnt ops k + (if opAt ops isDyn k = true then 1 else 0) := by
  simp only [cnt, List.range_succ, List.filter_append, List.length_append]
  cases h : opAt ops isDyn k <;> simp [h]
theorem cnt_at {i : Nat} (hi : i < p) (hd : opAt ops isDyn i = true) : ((List.range p).filter (opAt ops isDyn))[cnt ops i]? = some i := by
  obtain ⟨n, rfl⟩ : ∃ n, p = i + (n + 1) := ⟨p - i - 1, by omega⟩
  rw [List.range_add, List.filter_append]
  have hl : cnt ops i = ((List.range i).filter (opAt ops isDyn)).length := rfl
  rw [hl, List.getElem?_append_right (Nat.le_refl _), List.range_succ_eq_map, List.map_cons, Nat.add_zero, List.filter_cons_of_pos hd]
  simp

theorem vcE_all {ms : List (AV × AM)} {js : List Nat} (l2 : List SO) (K : AS → Prop) (hp : p ≤ ops.size) (hj : effsAt ops p = some js) : ∀ (n k : Nat) (mc : AM), k + n = p → cnt ops k ≤ ms.length → mc = memN m ms (cnt ops k) →
    vcE P gl orc Y l2 K m ms (((ops.toList.take p).drop k).map (soOf P ops)) ((flags ops p js).drop k) (ms.drop (cnt ops k)) mc (dsts P gl (orcE orc (effL ops js ms)) ops T0 m k).1 →
    js.length = ms.length ∧
    (∀ i o, k ≤ i → i < p → ops[i]? = some o →
      (i ∉ js → (rop P gl (orcE orc (effL ops js ms)) (ev gl (dsts P gl (orcE orc (effL ops js ms)) ops T0 m i).1) m o.dst (tr P o)).1 ∧ (preAt ops js i = false → ∀ x ∈ ms, rop P gl (orcE orc (effL ops js ms)) (ev gl (dsts P gl (orcE orc (effL ops js ms)) ops T0 m i).1) x.2 o.dst (tr P o) = rop P gl (orcE orc (effL ops js ms)) (ev gl (dsts P gl (orcE orc (effL ops js ms)) ops T0 m i).1) m o.dst (tr P o))) ∧
      (∀ b x, js[b]? = some i → ms[b]? = some x → effC P gl orc Y (ev gl (dsts P gl (orcE orc (effL ops js ms)) ops T0 m i).1) (memN m ms b) o.dst x.1 x.2 (tr P o) ∧ (rop P gl (orcE orc (effL ops js ms)) (ev gl (dsts P gl (orcE orc (effL ops js ms)) ops T0 m i).1) m o.dst (tr P o)).2 = x.1)) ∧
    vcOps P gl orc Y l2 ⟨(dsts P gl (orcE orc (effL ops js ms)) ops T0 m p).1, memN m ms ms.length⟩ K := by
  obtain ⟨hjs, _, _, hothers⟩ := effsAt_spec hj
  have hmem : ∀ j, j ∈ js ↔ j < p ∧ opAt ops isDyn j = true := fun j => by rw [hjs, List.mem_filter, List.mem_range]
  have hnd : js.Nodup := by rw [hjs]; exact (List.nodup_range).filter _
  have hat : ∀ i, i < p → opAt ops isDyn i = true → js[cnt ops i]? = some i := fun i h1 h2 => by rw [hjs]; exact cnt_at h1 h2
  have huniq : ∀ {a b i : Nat}, js[a]? = some i → js[b]? = some i → a = b := fun {a b i} h1 h2 => nodup_inj hnd h1 h2
  intro n
  induction n with
  | zero =>
    intro k mc hk hcl hmc h
    obtain rfl : k = p := by omega
    have e0 : (ops.toList.take k).drop k = [] := List.drop_eq_nil_of_le (by simp; omega)
    rw [e0] at h
    simp only [List.map_nil, vcE] at h
    have hc1 : ms.length ≤ cnt ops k := List.drop_eq_nil_iff.1 h.1
    have hc2 : cnt ops k = js.length := by rw [hjs]; rfl
    have hcc : cnt ops k = ms.length := by omega
    refine ⟨by omega, fun i o h1 h2 => by omega, ?_⟩
    rw [← hcc, ← hmc]
    exact h.2
  | succ n ih =>
    intro k mc hk hcl hmc h
    have hlt' : k < ops.size := by omega
    have ho : ops[k]? = some ops[k] := Array.getElem?_eq_getElem hlt'
    have hd : (ops.toList.take p).drop k = ops[k] :: (ops.toList.take p).drop (k + 1) := by
      rw [List.drop_eq_getElem_cons (by simp; omega)]; simp
    have hfl : (flags ops p js).drop k = flagAt ops js k :: (flags ops p js).drop (k + 1) := by
      rw [List.drop_eq_getElem_cons (by simp [flags]; omega)]; simp [flags]
    rw [hd, hfl, List.map_cons] at h
    have hsu := dsts_succ (P := P) (gl := gl) (orc := orcE orc (effL ops js ms)) (T0 := T0) (m := m) ho
    obtain ⟨o', ho', hcalm, hdst⟩ := hothers k (by omega)
    rw [ho] at ho'
    cases ho'
    rw [calm_dop hcalm] at hsu
    have e2 : (soOf P ops ops[k]).op = tr P ops[k] := rfl
    have e3 : (soOf P ops ops[k]).dst = ops[k].dst := rfl
    have hdk : (dstOf ops k).getD 0 = ops[k].dst.getD 0 := by simp [dstOf, ho]
    have hcs := cnt_succ (ops := ops) k
    cases hck : js.contains k with
    | true =>
      have hkm : k ∈ js := by simpa using hck
      have hdyn := ((hmem k).1 hkm).2
      rw [hdyn, if_pos rfl] at hcs
      rw [show flagAt ops js k = .eff by simp only [flagAt, hck, cond_true]] at h
      have hdyn' : isDyn ops[k] = true := by unfold opAt at hdyn; rw [ho] at hdyn; exact hdyn
      simp only [vcE, e2, e3] at h
      split at h
      · exact h.elim
      rename_i x q hq
      have hcl' : cnt ops k < ms.length := by
        rcases Nat.lt_or_ge (cnt ops k) ms.length with h' | h'
        · exact h'
        · rw [List.drop_eq_nil_of_le h'] at hq; cases hq
      have hx : ms[cnt ops k]? = some x := by
        have : (ms.drop (cnt ops k))[0]? = some x := by rw [hq]; rfl
        simpa using this
      have hq' : ms.drop (cnt ops (k + 1)) = q := by
        rw [hcs, ← List.drop_drop, hq]; rfl
      obtain ⟨h1, h2⟩ := h
      have hjk := hat k (by omega) hdyn
      have hval : (rop P gl (orcE orc (effL ops js ms)) (ev gl (dsts P gl (orcE orc (effL ops js ms)) ops T0 m k).1) m ops[k].dst (tr P ops[k])).2 = x.1 := by
        rcases dyn_tr (P := P) hdyn' with ⟨t, args, htr, ⟨d', hd'⟩, hcal⟩ | hno
        · have hlk := lkp_some (ops := ops) js ms (cnt ops k) k x hjk hx (by unfold opAt; rw [ho]; exact hcal) (fun b j hb hne => by
            rcases hdst j (List.mem_of_getElem? hb) with h' | h' | h'
            · subst h'; exact absurd (huniq hb hjk) hne
            · exact .inl h'
            · exact .inr (by rw [hdk]; exact h'))
          rw [hdk] at hlk
          rw [htr] at h1 ⊢
          simp only [effC] at h1
          split at h1
          · rename_i g first cap hev
            simp only [rop, hev, orcE, hlk, callV]
          · exact h1.elim
        · cases htr : tr P ops[k] with
          | call f args => exact absurd htr (hno f args)
          | _ =>
            rw [htr] at h1
            first
              | (obtain ⟨h0, _⟩ := h1; cases h0; done)
              | (obtain ⟨_, _, h3, _⟩ := h1; rw [h3]; rfl)
      rw [hval] at hsu
      obtain ⟨r1, r2, r3⟩ := ih (k + 1) x.2 (by omega) (by omega) (by rw [hcs]; simp [memN, List.getD, hx]) (by
        rw [hsu, hq']
        exact h2)
      refine ⟨r1, fun i o hi hip hio => ?_, r3⟩
      rcases Nat.lt_or_ge k i with hki | hki
      · exact r2 i o hki hip hio
      · obtain rfl : i = k := by omega
        rw [ho] at hio
        cases hio
        refine ⟨fun h => absurd hkm h, fun b y hb hy => ?_⟩
        obtain rfl := huniq hb hjk
        rw [hx] at hy
        cases hy
        rw [← hmc]
        exact ⟨h1, hval⟩
    | false =>
      have hkm : k ∉ js := by simpa using hck
      have hdyn : opAt ops isDyn k = false := by
        cases hdd : opAt ops isDyn k with
        | false => rfl
        | true => exact absurd ((hmem k).2 ⟨by omega, hdd⟩) hkm
      rw [hdyn, if_neg (by simp), Nat.add_zero] at hcs
      obtain ⟨h1, h2, h3⟩ : (rop P gl orc (ev gl (dsts P gl (orcE orc (effL ops js ms)) ops T0 m k).1) m ops[k].dst (tr P ops[k])).1 ∧ (preAt ops js k = false → ∀ x ∈ ms, rop P gl orc (ev gl (dsts P gl (orcE orc (effL ops js ms)) ops T0 m k).1) x.2 ops[k].dst (tr P ops[k]) = rop P gl orc (ev gl (dsts P gl (orcE orc (effL ops js ms)) ops T0 m k).1) m ops[k].dst (tr P ops[k])) ∧
          vcE P gl orc Y l2 K m ms (((ops.toList.take p).drop (k + 1)).map (soOf P ops)) ((flags ops p js).drop (k + 1)) (ms.drop (cnt ops k)) mc (put (dsts P gl (orcE orc (effL ops js ms)) ops T0 m k).1 ops[k].dst (rop P gl orc (ev gl (dsts P gl (orcE orc (effL ops js ms)) ops T0 m k).1) m ops[k].dst (tr P ops[k])).2) := by
        cases hpa : preAt ops js k with
        | true =>
          rw [show flagAt ops js k = .pre by simp only [flagAt, hck, hpa, cond_true, cond_false]] at h
          simp only [vcE, e2, e3] at h
          exact ⟨h.1, fun h => (by cases h), h.2⟩
        | false =>
          rw [show flagAt ops js k = .oth by simp only [flagAt, hck, hpa, cond_false]] at h
          simp only [vcE, e2, e3] at h
          exact ⟨h.1, fun _ => h.2.1, h.2.2⟩
      have hlk : lkp (effL ops js ms) (ops[k].dst.getD 0) = none := lkp_none js ms _ fun j hj' => by
        rcases hdst j hj' with h' | h' | h'
        · subst h'; exact absurd hj' hkm
        · exact .inl h'
        · exact .inr h'
      rw [rop_orcE hlk] at hsu
      obtain ⟨r1, r2, r3⟩ := ih (k + 1) mc (by omega) (by omega) (by rw [hcs]; exact hmc) (by rw [hsu, hcs]; exact h3)
      refine ⟨r1, fun i o hi hip hio => ?_, r3⟩
      rcases Nat.lt_or_ge k i with hki | hki
      · exact r2 i o hki hip hio
      · obtain rfl : i = k := by omega
        rw [ho] at hio
        cases hio
        refine ⟨fun _ => ⟨by rw [rop_orcE hlk]; exact h1, fun hpa x hx => by rw [rop_orcE hlk, rop_orcE hlk]; exact h2 hpa x hx⟩, fun b y hb => absurd (List.mem_of_getElem? hb) hkm⟩

theorem drawE_sound {Q : Exit → Act → World → Prop} {K : AS → Prop} {γ : G} {w : World} {s : AS} {a : Act} {js : List Nat} (hQ : ∀ γ w s a, K s → Sim N w0 r ro0 S P gl Y γ w s a → Q .normal a w) (hc : dchk ops p = true) (hj : effsAt ops p = some js)
    {ms : List (AV × AM)} (h : vcE P gl orc Y ((ops.toList.drop p).map (soOf P ops)) K s.m ms ((ops.toList.take p).map (soOf P ops)) (flags ops p js) ms s.m s.T) (hs : Sim N w0 r ro0 S P gl Y γ w s a) :
    wpAnyIn (FW r) 0 P .any ops Q ops.size (Array.replicate ops.size false) a { w with drawn := w.drawn + 1 } := by
  obtain ⟨hp, hsp⟩ := dchk_spec hc
  obtain ⟨hjs, hjne, hjc, hothers⟩ := effsAt_spec hj
  have hnd : js.Nodup := by rw [hjs]; exact (List.nodup_range).filter _
  have hltp : ∀ j ∈ js, j < p := fun j h => by rw [hjs, List.mem_filter] at h; exact List.mem_range.1 h.1
  obtain ⟨hlen, h1, h2⟩ := vcE_all (P := P) (gl := gl) (orc := orc) (T0 := s.T) (m := s.m) ((ops.toList.drop p).map (soOf P ops)) K hp hj p 0 s.m (by simp) (by simp [cnt]) (by simp [cnt, memN]) (by simpa [dsts, cnt] using h)
  have full : ∀ (fuel : Nat) (listed : Array Bool) (γ : G) (w : World) (a : Act), InvE N w0 r ro0 S Y P gl (orcE orc (effL ops js ms)) ops s.T s.m ms js p listed γ w a → uc ops listed ≤ fuel → (∀ i, i < p → listed.getD i false = true) → wpAnyIn (FW r) 0 P .any ops Q fuel listed a w := by
    intro fuel listed γ w a hI huc hall
    have hml : memL listed s.m js ms = memN s.m ms ms.length := memL_at hlen (by omega) (fun b j _ hb => hall j (hltp j (List.mem_of_getElem? hb))) (fun j hj => by rw [List.getElem?_eq_none (by omega)] at hj; cases hj)
    have hmm := hI.mm
    have hls := hI.ls
    rw [hml] at hmm hls
    refine tail_sound hQ hc fuel p listed γ w _ a (Nat.le_refl _) hp hI.size hall hI.tail huc h2 ⟨hmm, hls, hI.rd, ⟨?_, fun t x v hx hv => ?_⟩, hI.d, hI.g, hI.y, hI.e⟩
    · simp [dsts_len, hI.tl]
    · have h1 := hI.tt t
      have hAt : At P gl (orcE orc (effL ops js ms)) ops s.T s.m p listed t = x := by
        have hx' : (dsts P gl (orcE orc (effL ops js ms)) ops s.T s.m p).1.getD t .junk = x := by simp only at hx; simp [List.getD, hx]
        unfold At
        split
        · exact hx'
        · rename_i hw
          rw [← hx']
          refine (dsts_first p fun j hj hd => hw ?_).symm
          unfold wr
          rw [List.any_eq_true]
          exact ⟨j, List.mem_range.2 hj, by rw [hall j hj, hd]; simp⟩
      rw [hAt] at h1
      have : a.tmps.getD t undef = v := by simp at hv; simp [hv]
      rwa [this] at h1
  have main : ∀ (fuel : Nat) (listed : Array Bool) (γ : G) (w : World) (a : Act), InvE N w0 r ro0 S Y P gl (orcE orc (effL ops js ms)) ops s.T s.m ms js p listed γ w a → uc ops listed ≤ fuel → wpAnyIn (FW r) 0 P .any ops Q fuel listed a w := by
    intro fuel
    induction fuel with
    | zero =>
      intro listed γ w a hI huc
      exact full 0 listed γ w a hI huc fun i hi => by
        rw [listed_iff (by rw [hI.size]; omega) false true]
        exact uc_zero (Nat.le_zero.1 huc) (by omega)
    | succ fuel ih =>
      intro listed γ w a hI huc
      by_cases hall : ∀ i, i < p → listed.getD i false = true
      · exact full (fuel + 1) listed γ w a hI huc hall
      · have hex : ∃ k, k < p ∧ listed.getD k true = false := by
          refine Classical.byContradiction fun hn => hall fun i hi => ?_
          rw [listed_iff (by rw [hI.size]; omega) false true]
          cases hl : listed.getD i true with
          | true => rfl
          | false => exact absurd ⟨i, hi, hl⟩ hn
        obtain ⟨k, hk, hlk⟩ := hex
        refine ⟨fun hr => ?_, fun i hi => ?_⟩
        · obtain ⟨j, hj⟩ := ready_least hc hI.size k k (Nat.le_refl _) (by omega) hlk
          rw [hr] at hj; cases hj
        · obtain ⟨hlt, hu, o, ho, haft⟩ := ready_after hc hi
          have hip : i < p := by
            rcases Nat.lt_or_ge i p with h | h
            · exact h
            · have := tail_all hI.clo ho ((hsp i o ho).2.2 h) haft i k (by omega) (by omega)
              rw [listed_iff (by rw [hI.size]; omega) false true, hlk] at this; cases this
          obtain ⟨o', ho', hcalm, _⟩ := hothers i hip
          rw [ho] at ho'
          cases ho'
          refine wpOpIn_mono ?_ (earlyE_step rfl hc hI ho hip hcalm hlen hnd hu haft (fun a j e1 e2 => chnB_ok hjc a j i o e1 e2 ho) (h1 i o (Nat.zero_le _) hip ho).1 (h1 i o (Nat.zero_le _) hip ho).2)
          rintro a' w' ⟨γ', hI'⟩
          refine ih _ γ' w' a' hI' ?_
          have := uc_set hI.size hlt hu
          omega
  have hlf : ∀ j, (Array.replicate ops.size false).getD j false = false := fun j => by
    rcases Nat.lt_or_ge j ops.size with h | h <;> simp [h]
  have hchn : ∀ js' : List Nat, chn (Array.replicate ops.size false) js' := fun js' => by
    induction js' with
    | nil => trivial
    | cons j r ih =>
      cases r with
      | nil => trivial
      | cons j' r => exact ⟨fun h => (by rw [hlf] at h; cases h), ih⟩
  have hm0 : memL (Array.replicate ops.size false) s.m js ms = s.m := memL_at (a := 0) hlen (by omega) (fun b j hb => by omega) (fun j _ => hlf j)
  refine main ops.size _ γ w.drew a ⟨by simp, fun i _ hi => by simp [hi], hchn js, fun j o h => (by rw [hlf] at h; cases h), ?_, ?_, hs.rd.monoR (Ev.drew w γ).toR, ?_, fun t => ?_, hs.d.monoR (Ev.drew w γ).toR, fun g => (hs.g g).mono (Ev.drew w γ).imm, hs.y.mono (Ev.drew w γ).toR, hs.e.trans (Ev.drew w γ).toR⟩ ?_
  · rw [hm0]; exact hs.m.drew
  · rw [hm0]; exact hs.ls.mono (Ev.drew w γ)
  · have := hs.t.1; simp at this; omega
  · have hw : wr ops p (Array.replicate ops.size false) t = false := by
      unfold wr
      rw [List.any_eq_false]
      intro j _
      rw [hlf j]; simp
    unfold At
    rw [hw]
    simp only [Bool.false_eq_true, if_false]
    have := (hs.t.mono (Ev.drew w γ)).get t
    simpa [List.getD] using this
  · unfold uc
    exact Nat.le_trans (List.countP_le_length) (by simp)
end
end Go.Abs
