/-
  OWN WORK. Regions in the text's order.
-/
import Derived.Test.YtdebhhpklhbihaaGreatDoorC5Abs12
import Derived.RangeFuncSeq
namespace Go.Abs
open Go Go.RowKit

structure SO where
  dst : Option Nat
  op : SOp
  guard : Option (Option Nat × Bool)
  xs : List Opd

def soOf (P : Program) (ops : Array Oper) (o : Oper) : SO :=
  { dst := o.dst, op := tr P o, guard := o.guard.map fun p => ((ops[p.1]?).bind (·.dst), p.2), xs := if o.guard.isSome then o.op.operands.toList.map opd else [] }

structure AS where
  T : List AV
  m : AM

def put (T : List AV) (dst : Option Nat) (a : AV) : List AV := match dst with | some d => T.set d a | none => T

def strip : AV → AV
  | .gd _ a => a
  | a => a

/-- The values that an operation under a guard sees. -/
def evS (gl : Nat → AV) (T : List AV) (x : Opd) : AV := strip (ev gl T x)

def gok (gl : Nat → AV) (T : List AV) (g : Bool) : List Opd → Prop
  | [] => True
  | x :: r => (match ev gl T x with | .gd g' _ => (g = true → g' = true) | _ => True) ∧ gok gl T g r

/-- A choice takes guarded values as they are. -/
def rawOp : SOp → Bool
  | .pick _ _ _ => true
  | _ => false
def evG (gl : Nat → AV) (T : List AV) (op : SOp) : Opd → AV := bif rawOp op then ev gl T else evS gl T
def gxs (op : SOp) (xs : List Opd) : List Opd := bif rawOp op then [] else xs

/-- Is an operation wanted whose guard is this value? -/
def gvw (want : Bool) : AV → Option Bool
  | .bool g => some (g == want)
  | .gd d (.bool b) => some (d && (b == want))
  | .gd false _ => some false
  | _ => none

/-- What a call of yield comes to. -/
abbrev YT := Nat → List AV → AM → (Bool → AM → Prop) → Prop

def exCode : Exit → Option Code
  | .ret => some .ret
  | .exit id => some (.exit id)
  | _ => none

def LMatch : LS → Loop → Prop
  | .gone, _ => True
  | .ready, r => r.state = .ready ∧ r.pending = none
  | .busy, r => r.state = .busy
  | .done ex, r => r.state = .done ∧ r.pending = exCode ex ∧ (exCode ex).isSome = true

/-- The records of the loops over functions that are under way. -/
def LSim (γ : G) (w : World) (m : AM) : Prop := (∀ i, m.st i = .gone ∨ ∃ l, γ.lp i = some l ∧ γ.sp l ∧ ∃ r, w.heap[l]? = some (.loop r) ∧ LMatch (m.st i) r) ∧
  (∀ i, m.ln ≤ i → γ.lp i = none) ∧ (∀ i j l, γ.lp i = some l → γ.lp j = some l → i = j) ∧ ∀ i l, γ.lp i = some l → γ.sp l ∧ ∃ r, w.heap[l]? = some (.loop r)

theorem LSim.mono' {γ : G} {w : World} {m m' : AM} (h : LSim γ w m) {γ' : G} {w' : World} (e : Ev w γ w' γ') (hm : (m'.st, m'.ln) = (m.st, m.ln)) : LSim γ' w' m' := by
  simp only [Prod.mk.injEq] at hm
  unfold LSim
  rw [hm.1, hm.2, e.lp]
  exact ⟨fun i => (h.1 i).imp_right fun ⟨l, h0, h1, r, h2, h3⟩ => ⟨l, h0, (e.sp l h1).1, r, (e.sp l h1).2.trans h2, h3⟩, h.2.1, h.2.2.1, fun i l hl => let ⟨h1, r, h2⟩ := h.2.2.2 i l hl; ⟨(e.sp l h1).1, r, (e.sp l h1).2.trans h2⟩⟩
theorem LSim.mono {γ : G} {w : World} {m : AM} (h : LSim γ w m) {γ' : G} {w' : World} (e : Ev w γ w' γ') : LSim γ' w' m := h.mono' e rfl

/-- What yield does is what Y says, now and later. -/
def YOK (N : Nat) (w0 : Bas) (ro0 : Nat → Nat → Prop) (P : Program) (Y : YT) (γ : G) (w : World) : Prop := ∀ (γ' : G) (w' : World), EvR w γ w' γ' → ∀ (i : Nat) (args : List AV) (m : AM) (K : Bool → AM → Prop) (vs : List Value),
  MSim N w0 ro0 γ' w' m.B m.L → LSim γ' w' m → RepL w' γ' args vs → Y i args m K → ∀ l, γ'.lp i = some l →
  YieldAt (FW none) 0 P l vs.toArray w' fun e w'' => ∃ b γ'' m'', e = .returned (.bool b) ∧ EvR w' γ' w'' γ'' ∧ MSim N w0 ro0 γ'' w'' m''.B m''.L ∧ LSim γ'' w'' m'' ∧ K b m''

theorem YOK.mono {N : Nat} {w0 : Bas} {ro0 : Nat → Nat → Prop} {P : Program} {Y : YT} {γ : G} {w : World} (h : YOK N w0 ro0 P Y γ w) {γ' : G} {w' : World} (e : EvR w γ w' γ') : YOK N w0 ro0 P Y γ' w' :=
  fun γ'' w'' e' => h γ'' w'' (e.trans e')

/-- THE CONTRACT of a function that shares its caller's memory. -/
def EffY (P : Program) (gl : Nat → AV) (Y : YT) (f : FuncId) (as : List AV) (m : AM) (K : AV → AM → Prop) : Prop :=
  callable P f ∧ ∀ (N : Nat) (w0 : Bas) (ro0 : Nat → Nat → Prop) (γ : G) (w : World) (vs : List Value), MSim N w0 ro0 γ w m.B m.L → LSim γ w m → (∀ g, Rep w γ.imm (gl g) (.pointer (some ⟨g, 0, none⟩))) →
    YOK N w0 ro0 P Y γ w → RepL w γ as vs →
    CallsIn (FW none) 0 P f vs.toArray w fun e w' => ∃ v γ' r m', e = .returned v ∧ EvR w γ w' γ' ∧ MSim N w0 ro0 γ' w' m'.B m'.L ∧ LSim γ' w' m' ∧ Rep w' γ' r v ∧ K r m'

section vc
variable (P : Program) (gl : Nat → AV) (orc : Nat → FuncId → List AV → AV) (Y : YT)

/-- A call that is taken by yield's meaning, or in the caller's memory. -/
def effy (e : Opd → AV) (m : AM) (dst : Option Nat) : SOp → Bool
  | .call f args => (match e f with
    | .yld _ => true
    | .fn f first cap => (match orc (dst.getD 0) f ((first ++ args.map e ++ cap).map (cvn m 6)) with | .gd false _ => true | _ => false)
    | _ => false)
  | _ => false

def vcEff (e : Opd → AV) (m : AM) (K : AV → AM → Prop) : SOp → Prop
  | .call f args => (match e f with
    | .yld l => Y l (args.map e) m fun b m' => K (.bool b) m'
    | .fn f first cap => EffY P gl Y f (first ++ args.map e ++ cap) m K
    | _ => False)
  | _ => False

def vcOps : List SO → AS → (AS → Prop) → Prop
  | [], s, K => K s
  | o :: rest, s, K => match o.guard with
    | none => if effy orc (ev gl s.T) s.m o.dst o.op = true then vcEff P gl Y (ev gl s.T) s.m (fun av m' => vcOps rest ⟨put s.T o.dst av, m'⟩ K) o.op
      else (sop P gl orc (ev gl s.T) s.m o.dst o.op).1 ∧ vcOps rest ⟨put s.T o.dst (sop P gl orc (ev gl s.T) s.m o.dst o.op).2.1, (sop P gl orc (ev gl s.T) s.m o.dst o.op).2.2⟩ K
    | some (some t, want) => match gvw want (s.T.getD t .junk) with
      | some gw => gok gl s.T gw (gxs o.op o.xs) ∧
          if effy orc (evG gl s.T o.op) s.m o.dst o.op = true then
            (gw = true → vcEff P gl Y (evG gl s.T o.op) s.m (fun av m' => vcOps rest ⟨put s.T o.dst (.gd true av), m'⟩ K) o.op) ∧ (gw = false → vcOps rest ⟨put s.T o.dst (.gd false (.bool false)), s.m⟩ K)
          else (gw = true → (rop P gl orc (evG gl s.T o.op) s.m o.dst o.op).1) ∧
            vcOps rest ⟨put s.T o.dst (.gd gw (rop P gl orc (evG gl s.T o.op) s.m o.dst o.op).2), s.m⟩ K
      | none => False
    | some (none, _) => False

end vc

/-- The marks of loops over functions: nothing has been deferred in their rounds. -/
def Dfr (n0 : Nat) (γ : G) (w : World) (ds : List Deferred) : Prop :=
  n0 ≤ w.heap.size ∧ (∀ x ∈ ds, ∃ D, x.target = .collected D ∧ n0 ≤ D ∧ γ.sp D ∧ w.heap[D]? = some (.deferred (some []))) ∧ ds.Pairwise fun x y => ∀ D, x.target = .collected D → y.target ≠ .collected D

theorem Dfr.monoR {n0 : Nat} {γ : G} {w : World} {ds : List Deferred} (h : Dfr n0 γ w ds) {γ' : G} {w' : World} (e : EvR w γ w' γ') : Dfr n0 γ' w' ds :=
  ⟨Nat.le_trans h.1 e.size, fun x hx => let ⟨D, h1, h0, h2, h3⟩ := h.2.1 x hx; ⟨D, h1, h0, (e.sp D h2).1, by
    rcases (e.sp D h2).2 with h | ⟨r, _, _, h, _⟩
    · exact h.trans h3
    · rw [h3] at h; cases h⟩, h.2.2⟩

/-- In a round: the loop's record. -/
def Rdr (r : Option Nat) (γ : G) (w : World) : Prop := ∀ l, r = some l → γ.sp l ∧ ∃ rec, w.heap[l]? = some (.loop rec)

theorem Rdr.monoR {r : Option Nat} {γ : G} {w : World} (h : Rdr r γ w) {γ' : G} {w' : World} (e : EvR w γ w' γ') : Rdr r γ' w' :=
  fun l hl => let ⟨h1, rec, h2⟩ := h l hl; ⟨(e.sp l h1).1, by
    rcases (e.sp l h1).2 with h | ⟨r, s, p, _, h⟩
    · exact ⟨rec, h.trans h2⟩
    · exact ⟨_, h⟩⟩

structure Sim (N : Nat) (w0 : Bas) (r : Option Nat) (ro0 : Nat → Nat → Prop) (S : G × World) (P : Program) (gl : Nat → AV) (Y : YT) (γ : G) (w : World) (s : AS) (a : Act) : Prop where
  m : MSim N w0 ro0 γ w s.m.B s.m.L
  ls : LSim γ w s.m
  rd : Rdr r γ w
  t : RepL w γ s.T a.tmps.toList
  d : Dfr S.2.heap.size γ w a.defers
  g : ∀ g, Rep w γ.imm (gl g) (.pointer (some ⟨g, 0, none⟩))
  y : YOK N w0 ro0 P Y γ w
  e : EvR S.2 S.1 w γ

section
variable {N : Nat} {w0 : Bas} {r : Option Nat} {ro0 : Nat → Nat → Prop} {S : G × World} {Y : YT} {γ : G} {w : World} {P : Program} {gl : Nat → AV} {orc : Nat → FuncId → List AV → AV} {s : AS} {a : Act}

theorem Sim.ev (h : Sim N w0 r ro0 S P gl Y γ w s a) (x : Operand) : Rep w γ (ev gl s.T (opd x)) (a.eval x) := by
  cases x with
  | tmp t =>
    have := h.t.get t
    simpa [Abs.ev, opd, Act.eval, List.getD] using this
  | const v => exact rep_ofVal w γ v
  | func f => exact .fn rfl (fun i c v h => by simp at h) rfl fun i c v h => by simp at h
  | global g => exact (h.g g).of_imm

theorem Sim.putR (h : Sim N w0 r ro0 S P gl Y γ w s a) {dst : Option Nat} {av : AV} {v : Value} {w' : World} {γ' : G} {m' : AM} (e : EvR w γ w' γ') (hm : MSim N w0 ro0 γ' w' m'.B m'.L) (hl : LSim γ' w' m') (hr : Rep w' γ' av v) :
    Sim N w0 r ro0 S P gl Y γ' w' ⟨Abs.put s.T dst av, m'⟩ (a.put dst v) := by
  refine ⟨hm, hl, h.rd.monoR e, ?_, ?_, fun g => (h.g g).monoR e.imm, h.y.mono e, h.e.trans e⟩
  · cases dst with
    | none => exact h.t.monoR e
    | some d =>
      simp only [Abs.put, Act.put, Array.toList_setIfInBounds]
      exact (h.t.monoR e).set d hr
  · cases dst <;> exact h.d.monoR e

theorem Sim.put (h : Sim N w0 r ro0 S P gl Y γ w s a) {dst : Option Nat} {av : AV} {v : Value} {w' : World} {γ' : G} {m' : AM} (e : Ev w γ w' γ') (hm : MSim N w0 ro0 γ' w' m'.B m'.L) (ho : (m'.st, m'.ln) = (s.m.st, s.m.ln)) (hr : Rep w' γ' av v) :
    Sim N w0 r ro0 S P gl Y γ' w' ⟨Abs.put s.T dst av, m'⟩ (a.put dst v) := h.putR e.toR hm (h.ls.mono' e ho) hr

theorem gok_mem {T : List AV} {g : Bool} : ∀ {xs : List Opd}, gok gl T g xs → ∀ x ∈ xs, ∀ g' b, Abs.ev gl T x = .gd g' b → g = true → g' = true
  | [], _, x, hx, _, _, _, _ => by cases hx
  | y :: ys, h, x, hx, g', b, he, hg => by
    obtain ⟨h1, h2⟩ := h
    rcases List.mem_cons.1 hx with rfl | hx
    · rw [he] at h1; exact h1 hg
    · exact gok_mem h2 x hx g' b he hg

theorem strip_rep {x : AV} {v : Value} (h : Rep w γ x v) (hg : ∀ g b, x = .gd g b → g = true) : Rep w γ (strip x) v := by
  cases x <;> first | exact h | skip
  rename_i g b
  exact h.inv_gd (hg g b rfl)

theorem trCall_call {c : Call} {fo : Opd} {xs : List Opd} (h : trCall P c = .call fo xs) : ∃ (f : Operand) (as : Array Operand) (ts : Array TypeId), c = ⟨.value f, as, ts⟩ ∧ fo = opd f ∧ xs = as.toList.map opd := by
  obtain ⟨callee, args, ts⟩ := c
  cases callee with
  | value f => cases h; exact ⟨f, args, ts, rfl, rfl, rfl⟩
  | invoke r n => cases h
  | builtin b => cases b <;> simp only [trCall] at h <;> (repeat' split at h) <;> cases h

theorem tr_call {o : Oper} {fo : Opd} {xs : List Opd} (h : tr P o = .call fo xs) : ∃ (f : Operand) (as : Array Operand) (ts : Array TypeId), o.op = .call ⟨.value f, as, ts⟩ ∧ fo = opd f ∧ xs = as.toList.map opd := by
  obtain ⟨dst, op, ty, pos, after, guard⟩ := o
  cases op
  case call c =>
    obtain ⟨f, as, ts, rfl, h1, h2⟩ := trCall_call h
    exact ⟨f, as, ts, rfl, h1, h2⟩
  case build t parts => simp only [tr, trBuild] at h; repeat' split at h
                        all_goals cases h
  case slice t x lo hi mx => cases mx <;> simp only [tr] at h <;> (repeat' split at h) <;> cases h
  case makeFunc fn a b => cases fn <;> cases h
  case makeMap t r => cases r <;> simp only [tr] at h <;> (try split at h) <;> cases h
  case binOp op t x y t' => simp only [tr, trNil, trEq] at h; repeat' split at h
                            all_goals cases h
  all_goals first | (cases h; done) | (simp only [tr] at h; repeat' split at h
                                       all_goals cases h)

/-- A call that is taken by yield's meaning, or in the caller's memory. -/
theorem eff_sound {o : Oper} {e : Opd → AV} {Q : Exit → Act → World → Prop} {K : AV → AM → Prop} (hs : Sim N w0 r ro0 S P gl Y γ w s a) (he : ∀ x ∈ o.op.operands, Rep w γ (e (opd x)) (a.eval x)) (h : vcEff P gl Y e s.m K (tr P o))
    {next : Act → World → Prop} (hn : ∀ v w' γ' av m', K av m' → EvR w γ w' γ' → MSim N w0 ro0 γ' w' m'.B m'.L → LSim γ' w' m' → Rep w' γ' av v → next (a.put o.dst v) w') : o.wpIn (FW r) 0 P a w next Q := by
  obtain ⟨dst, op, ty, pos, after, guard⟩ := o
  cases hop : tr P ⟨dst, op, ty, pos, after, guard⟩ with
  | call fo args =>
    rw [hop] at h
    obtain ⟨f, as, ts, rfl, rfl, rfl⟩ : ∃ (f : Operand) (as : Array Operand) (ts : Array TypeId), op = .call ⟨.value f, as, ts⟩ ∧ fo = opd f ∧ args = as.toList.map opd := by simpa using tr_call hop
    simp only [vcEff] at h
    have h1 := he f (by simp [Op.operands, Call.operands])
    have h2 : ∀ x ∈ as, Rep w γ (e (opd x)) (a.eval x) := fun x hx => he x (by simp [Op.operands, Call.operands, hx])
    have hargs := repL_args h2
    split at h
    · rename_i i e1
      rw [e1] at h1
      obtain ⟨l, hl, hv⟩ : ∃ l, γ.lp i = some l ∧ a.eval f = .func (.yield l) #[] #[] := by
        generalize a.eval f = v at h1
        cases h1 with
        | yld h => exact ⟨_, h, rfl⟩
      obtain ⟨fn, tmps, assign, body, hy, hR⟩ := hs.y γ w (Ev.refl w γ).toR i _ s.m _ _ hs.m hs.ls hargs h l hl
      have hrun : (execOp a.eval ⟨dst, .call ⟨.value f, as, ts⟩, ty, pos, after, guard⟩).run P w = .ok (.round l fn tmps assign body) w := by
        rw [Array.toArray_toList] at hy
        simpa [execOp, resolve, hv, Deferred.ofValue, invoke] using hy
      refine wp_run hrun (fun _ h => by cases h) ?_
      rw [Oper.uponIn_round]
      refine ⟨fun h => by simp [FW, Fence.wide] at h, RoundIn.mono hR ?_⟩
      rintro en w' ⟨b, γ', m', rfl, g1, g2, g3, g4⟩
      exact hn _ _ _ _ _ g4 g1 g2 g3 (.bool b)
    · rename_i g first cap e1
      rw [e1] at h1
      obtain ⟨fa, ca, hv, r1, r2⟩ := h1.inv_fn
      have hrun : (execOp a.eval ⟨dst, .call ⟨.value f, as, ts⟩, ty, pos, after, guard⟩).run P w = .ok (.enter g ((fa.toList ++ (as.map a.eval).toList ++ ca.toList).toArray)) w := by
        simp [execOp, resolve, hv, Deferred.ofValue, invoke, run_callFunc h.1]
      refine wp_run hrun (fun _ h => by cases h) ⟨fun h => by simp [FW, Fence.wide] at h, ?_⟩
      refine CallsIn.mono (h.2 N w0 ro0 γ w _ hs.m hs.ls hs.g hs.y ((r1.append hargs).append r2)) ?_
      rintro en w' ⟨v, γ', r', m', rfl, g1, g2, g3, g4, g5⟩
      exact hn v w' γ' r' m' g5 g1 g2 g3 g4
    · exact h.elim
  | _ => rw [hop] at h; exact h.elim

/-- One operation, in the text's order. -/
theorem vcOps_step {ops : Array Oper} {Q : Exit → Act → World → Prop} {K : AS → Prop} {k : Nat} (hlt : k < ops.size) (hs : Sim N w0 r ro0 S P gl Y γ w s a)
    (h : vcOps P gl orc Y ((ops.toList.drop k).map (soOf P ops)) s K) :
    wpOpIn (FW r) 0 P ops Q k (fun a' w' => ∃ γ' s', Sim N w0 r ro0 S P gl Y γ' w' s' a' ∧ vcOps P gl orc Y ((ops.toList.drop (k + 1)).map (soOf P ops)) s' K) a w := by
  have hd : ops.toList.drop k = ops[k] :: ops.toList.drop (k + 1) := by
    rw [List.drop_eq_getElem_cons (by simpa using hlt)]; simp
  rw [hd, List.map_cons] at h
  have ho : ops[k]? = some ops[k] := Array.getElem?_eq_getElem hlt
  generalize ops[k] = o at ho h
  simp only [wpOpIn, ho]
  cases hg : o.guard with
  | none =>
    have hw : Region.wanted o (yielded ops a.tmps) = true := by simp [Region.wanted, hg]
    rw [if_pos hw]
    have e1 : (soOf P ops o).guard = none := by simp [soOf, hg]
    simp only [vcOps, e1] at h
    split at h
    · exact eff_sound (K := fun av m => vcOps P gl orc Y ((ops.toList.drop (k + 1)).map (soOf P ops)) ⟨Abs.put s.T o.dst av, m⟩ K) hs (fun x _ => hs.ev x) h fun v w' γ' av m' hK h1 h2 h3 h4 => ⟨γ', _, hs.putR h1 h2 h3 h4, hK⟩
    · exact sop_sound (K := fun av m => vcOps P gl orc Y ((ops.toList.drop (k + 1)).map (soOf P ops)) ⟨Abs.put s.T o.dst av, m⟩ K) hs.m hs.g (fun x _ => hs.ev x) h r _ Q fun v w' γ' av m' hK ho' h1 h2 h3 => ⟨γ', _, hs.put h1 h2 ho' h3, hK⟩
  | some p =>
    obtain ⟨j, want⟩ := p
    have e1 : (soOf P ops o).guard = some ((ops[j]?).bind (·.dst), want) := by simp [soOf, hg]
    simp only [vcOps, e1] at h
    cases hj : (ops[j]?).bind (·.dst) with
    | none => rw [hj] at h; exact h.elim
    | some t =>
      rw [hj] at h
      simp only at h
      split at h
      case h_2 => exact h.elim
      rename_i gw hgt
      obtain ⟨h1, h⟩ := h
      have hwant : Region.wanted o (yielded ops a.tmps) = gw := by
        have hr := hs.t.get t
        have hlt' : t < a.tmps.size := by
          rcases Nat.lt_or_ge t s.T.length with h | h
          · have h5 := hs.t.1; rw [Array.length_toList] at h5; rw [← h5]; exact h
          · simp [List.getD, List.getElem?_eq_none h, gvw] at hgt
        have hget : (a.tmps.toList.getD t undef) = a.tmps[t] := by simp [List.getD, hlt']
        rw [hget] at hr
        have hyv : ∀ b, a.tmps[t] = .bool b → yielded ops a.tmps j = some b := fun b hb => by simp only [yielded, hj, Option.bind_some, Array.getElem?_eq_getElem hlt', hb]
        have hyu : a.tmps[t] = undef → yielded ops a.tmps j = none := fun hb => by simp only [yielded, hj, Option.bind_some, Array.getElem?_eq_getElem hlt', hb]; rfl
        generalize s.T.getD t .junk = gv at hgt hr
        have hf : ∀ {x : AV}, Rep w γ (.gd false x) a.tmps[t] → Region.wanted o (yielded ops a.tmps) = false := fun hx => by
          simp only [Region.wanted, hg, hyu hx.inv_gdF]
          cases want <;> rfl
        cases gv with
        | bool g =>
          simp only [gvw, Option.some.injEq] at hgt
          subst hgt
          simp only [Region.wanted, hg, hyv g hr.inv_bool]
          cases g <;> cases want <;> rfl
        | gd d x =>
          cases d with
          | false =>
            rw [hf hr]
            cases x <;> simp [gvw] at hgt <;> exact hgt.symm
          | true =>
            cases x <;> simp [gvw] at hgt
            rename_i b
            subst hgt
            simp only [Region.wanted, hg, hyv b (hr.inv_gd rfl).inv_bool]
            cases b <;> cases want <;> rfl
        | _ => simp [gvw] at hgt
      rw [hwant]
      have hstrip : gw = true → ∀ x ∈ o.op.operands, Rep w γ (evG gl s.T (tr P o) (opd x)) (a.eval x) := fun hgw x hx => by
        unfold evG
        cases hra : rawOp (tr P o) with
        | true => exact hs.ev x
        | false =>
          refine strip_rep (hs.ev x) fun g' b hgb => gok_mem h1 (opd x) ?_ g' b hgb hgw
          have hro : rawOp (soOf P ops o).op = false := hra
          simp only [gxs, hro, cond_false]
          simp [soOf, hg]; exact ⟨x, by simpa using hx, rfl⟩
      split at h
      · obtain ⟨h2, h3⟩ := h
        cases hgw : gw with
        | true =>
          simp only [if_true]
          exact eff_sound (e := evG gl s.T (tr P o)) (K := fun av m => vcOps P gl orc Y ((ops.toList.drop (k + 1)).map (soOf P ops)) ⟨Abs.put s.T o.dst (.gd true av), m⟩ K) hs (hstrip hgw) (h2 hgw) fun v w' γ' av m' hK h1 h2 h3 h4 => ⟨γ', _, hs.putR h1 h2 h3 (.gd (fun _ => h4) (fun h => by cases h)), hK⟩
        | false =>
          simp only [Bool.false_eq_true, if_false]
          exact ⟨fun _ _ => trivial, γ, _, hs.put (Ev.refl _ _) hs.m rfl (.gd (fun h => by cases h) (fun _ => rfl)), h3 hgw⟩
      · obtain ⟨h2, h3⟩ := h
        cases hgw : gw with
        | true =>
          rw [hgw] at h2 h3
          simp only [if_true]
          refine rop_sound (e := evG gl s.T (tr P o)) hs.m (fun _ _ h => h) hs.g (hstrip hgw) (h2 rfl) r _ Q fun v w' γ' q1 q2 q3 => ?_
          exact ⟨γ', _, hs.put q1 q2 rfl (.gd (fun _ => q3) (fun h => by cases h)), h3⟩
        | false =>
          rw [hgw] at h3
          simp only [Bool.false_eq_true, if_false]
          exact ⟨fun _ _ => trivial, γ, _, hs.put (Ev.refl _ _) hs.m rfl (.gd (fun h => by cases h) (fun _ => rfl)), h3⟩

/-- The tail of a region that is carried out in the text's order. -/
theorem vcOps_sound {ops : Array Oper} {Q : Exit → Act → World → Prop} {K : AS → Prop} (hQ : ∀ γ w s a, K s → Sim N w0 r ro0 S P gl Y γ w s a → Q .normal a w) :
    ∀ (n k : Nat) (γ : G) (w : World) (s : AS) (a : Act), k + n = ops.size → vcOps P gl orc Y ((ops.toList.drop k).map (soOf P ops)) s K → Sim N w0 r ro0 S P gl Y γ w s a → wpOpsIn (FW r) 0 P ops Q (List.range' k n) a w
  | 0, k, γ, w, s, a, hk, h, hs => by
    have : ops.toList.drop k = [] := List.drop_eq_nil_of_le (by simp; omega)
    rw [this] at h
    exact hQ γ w s a h hs
  | n + 1, k, γ, w, s, a, hk, h, hs => by
    rw [List.range'_succ, wpOpsIn_cons]
    refine wpOpIn_mono ?_ (vcOps_step (by omega) hs h)
    rintro a' w' ⟨γ', s', hs', h'⟩
    exact vcOps_sound hQ n (k + 1) γ' w' s' a' (by omega) h' hs'

end
end Go.Abs
