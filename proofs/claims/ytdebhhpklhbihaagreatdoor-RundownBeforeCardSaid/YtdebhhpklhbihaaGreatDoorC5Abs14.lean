/-
  OWN WORK. From the condition on a function's code to its contract.
-/
import Derived.Test.YtdebhhpklhbihaaGreatDoorC5Abs13c
namespace Go.Abs
open Go Go.RowKit

section
variable {N : Nat} {w0 : Bas} {ro0 : Nat → Nat → Prop} {γ : G} {w : World} {B : Nat → Option (List AV)} {L : Nat → Option Nat} {P : Program} {gl : Nat → AV} {orc : Nat → FuncId → List AV → AV} {e : Opd → AV} {m : AM}

def ldOp (P : Program) (t : TypeId) (x : Opd) : SOp :=
  (match P.info? t, P.underlying t with | some i, some _ => if aggT P t then .load true i.size x else .load false 1 x | _, _ => .bad)

theorem load_val (hm : MSim N w0 ro0 γ w B L) (hB : ∀ id cells, m.boxes[id]? = some cells → B id = some cells) {t : TypeId} {x : Opd} {v0 : Value} (h1 : Rep w γ (e x) v0)
    (hc : (rop P gl orc e m none (ldOp P t x)).1) : ∃ b o v, v0 = .pointer (some ⟨b, o, none⟩) ∧ (loadVar t ⟨b, o, none⟩).run P w = .ok v w ∧ Rep w γ (rop P gl orc e m none (ldOp P t x)).2 v := by
  unfold ldOp at hc ⊢
  split at hc
  case h_2 => exact hc.elim
  rename_i i d hi hd
  have main : ∀ (agg : Bool) (n : Nat), aggT P t = agg → (agg = true → n = i.size) → (rop P gl orc e m none (.load agg n x)).1 →
      ∃ b o v, v0 = .pointer (some ⟨b, o, none⟩) ∧ (loadVar t ⟨b, o, none⟩).run P w = .ok v w ∧ Rep w γ (rop P gl orc e m none (.load agg n x)).2 v := by
    intro agg n hagg hn hc
    have conv : ∀ b o v, (Instr.loadAt t (.pointer (some ⟨b, o, none⟩))).run P w = .ok v w → (loadVar t ⟨b, o, none⟩).run P w = .ok v w := fun b o v h => by
      simpa [Instr.loadAt, Instr.sureAddr] using h
    simp only [rop] at hc ⊢
    split at hc
    · rename_i id o' he
      try simp only [he]
      rw [he] at h1
      obtain ⟨b, hb, hv⟩ := h1.inv_ptr
      cases hmb : m.boxes[id]? with
      | none =>
        have e0 : m.boxes.getD id [] = [] := by simp [List.getD, hmb]
        rw [e0] at hc ⊢
        obtain ⟨v, h2, h3⟩ := cut_load (P := P) (w := w) (γ := γ) (b := b) (o := o') (cv := fun _ => undef) hi hd hagg hn (fun j c hj => by simp at hj) (fun j c hj => by simp at hj) hc
        exact ⟨b, o', v, hv, conv _ _ _ h2, h3⟩
      | some cells =>
        have e0 : m.boxes.getD id [] = cells := by simp [List.getD, hmb]
        rw [e0] at hc ⊢
        obtain ⟨arr, te, g2, g3, g4⟩ := hm.box id cells b (hB id cells hmb) hb
        have hget : ∀ (j : Nat) (c : AV), (cells.drop o')[j]? = some c → arr[o' + j]? = some (arr.getD (o' + j) undef) ∧ Rep w γ c (arr.getD (o' + j) undef) := fun j c hj => by
          rw [List.getElem?_drop] at hj
          have hlt : o' + j < arr.size := by
            have := (List.getElem?_eq_some_iff.1 hj).1
            have h0 := g3.1
            simp at h0
            omega
          have hu : arr[o' + j]? = some (arr.getD (o' + j) undef) := by simp [hlt]
          exact ⟨hu, g3.2 _ _ _ hj (by simpa using hu)⟩
        obtain ⟨v, h2, h3⟩ := cut_load (P := P) (w := w) (γ := γ) (b := b) (o := o') (cv := fun j => arr.getD (o' + j) undef) hi hd hagg hn (fun j c hj => by rw [cell_of_block g2]; exact (hget j c hj).1) (fun j c hj => (hget j c hj).2) hc
        exact ⟨b, o', v, hv, conv _ _ _ h2, h3⟩
    · rename_i row o' he
      try simp only [he]
      rw [he] at h1
      obtain ⟨b, off, cv, hv, hb, hcell, hrep⟩ := h1.inv_ep
      have hget : ∀ (j : Nat) (c : AV), (row.drop o')[j]? = some c → row[o' + j]? = some c := fun j c hj => by rw [List.getElem?_drop] at hj; exact hj
      obtain ⟨v, h2, h3⟩ := cut_load (P := P) (w := w) (γ := γ) (b := b) (o := off + o') (cv := fun j => cv (o' + j)) hi hd hagg hn
        (fun j c hj => by rw [Nat.add_assoc]; exact (hcell _ _ (hget j c hj)).1) (fun j c hj => (hrep _ _ (hget j c hj)).of_imm) hc
      exact ⟨b, off + o', v, hv, conv _ _ _ h2, h3⟩
    · exact hc.elim
  cases hagg : aggT P t with
  | true => simp only [hagg, if_true] at hc ⊢; exact main true _ hagg (fun _ => rfl) hc
  | false => simp only [hagg] at hc ⊢; exact main false 1 hagg (fun h => by cases h) hc
end

def resOf (P : Program) (rs : List ResultVar) : List SOp := rs.map fun
  | .tmp t => .mv (.tmp t)
  | .cell a t => ldOp P t (.tmp a)

def retL (P : Program) (gl : Nat → AV) (orc : Nat → FuncId → List AV → AV) (s : AS) : List SOp → Prop × List AV
  | [] => (True, [])
  | o :: r => ((rop P gl orc (ev gl s.T) s.m none o).1 ∧ (retL P gl orc s r).1, (rop P gl orc (ev gl s.T) s.m none o).2 :: (retL P gl orc s r).2)

def oneOf : List AV → AV
  | [a] => a
  | l => .tup l

section
variable {N : Nat} {w0 : Bas} {r : Option Nat} {ro0 : Nat → Nat → Prop} {S : G × World} {Y : YT} {γ : G} {w : World} {P : Program} {gl : Nat → AV} {orc : Nat → FuncId → List AV → AV} {s : AS} {a : Act}

theorem res_run (hs : Sim N w0 r ro0 S P gl Y γ w s a) : ∀ (rs : List ResultVar), (retL P gl orc s (resOf P rs)).1 →
    ∃ vs : List Value, (rs.mapM fun (r : ResultVar) => (match r with | .tmp t => pure (a.tmps.getD t undef) | .cell x t => do loadVar t (← asAddr (a.tmps.getD x undef)) : Sem Value)).run P w = .ok vs w ∧
      RepL w γ (retL P gl orc s (resOf P rs)).2 vs
  | [], _ => ⟨[], by simp, RepL.nil⟩
  | r :: rs, hc => by
    obtain ⟨h1, h2⟩ := hc
    obtain ⟨vs, g1, g2⟩ := res_run hs rs h2
    have key : ∃ v, (match r with | .tmp t => pure (a.tmps.getD t undef) | .cell x t => do loadVar t (← asAddr (a.tmps.getD x undef)) : Sem Value).run P w = .ok v w ∧
        Rep w γ (rop P gl orc (ev gl s.T) s.m none ((fun (r : ResultVar) => match r with | .tmp t => SOp.mv (.tmp t) | .cell a t => ldOp P t (.tmp a)) r)).2 v := by
      cases r with
      | tmp t => exact ⟨a.tmps.getD t undef, by simp, hs.ev (.tmp t)⟩
      | cell x t =>
        obtain ⟨b, o, v, e1, e2, e3⟩ := load_val (P := P) (gl := gl) (orc := orc) (e := ev gl s.T) (m := s.m) hs.m (fun _ _ h => h) (t := t) (x := .tmp x) (v0 := a.tmps.getD x undef) (hs.ev (.tmp x)) h1
        refine ⟨v, ?_, e3⟩
        simp only [e1, Sem.run_bind, asAddr, Sem.run_pure, Result.andThen_ok, e2]
    obtain ⟨v, k1, k2⟩ := key
    refine ⟨v :: vs, ?_, RepL.cons k2 g2⟩
    simp only [List.mapM_cons, Sem.run_bind, k1, Result.andThen_ok, g1, Sem.run_pure]

theorem results_run (hs : Sim N w0 r ro0 S P gl Y γ w s a) {fn : Func} (hc : (retL P gl orc s (resOf P fn.results.toList)).1) : ∃ v, (results fn a.tmps).run P w = .ok v w ∧ Rep w γ (oneOf (retL P gl orc s (resOf P fn.results.toList)).2) v := by
  obtain ⟨vs, h1, h2⟩ := res_run (P := P) (orc := orc) hs fn.results.toList hc
  have hrun : (results fn a.tmps).run P w = .ok (if h : vs.toArray.size = 1 then vs.toArray[0] else .tuple vs.toArray) w := by
    simp only [results, Sem.run_bind, Array.mapM_eq_mapM_toList, Sem.run_map]
    exact congrArg (fun (z : Result (List Value)) => (z.andThen fun a w' => Result.ok a.toArray w').andThen fun (a : Array Value) w' => Sem.run P (pure (if h : a.size = 1 then a[0] else Value.tuple a) : Sem Value) w') h1
  refine ⟨_, hrun, ?_⟩
  generalize (retL P gl orc s (resOf P fn.results.toList)).2 = as at h2
  match as, vs, h2 with
  | [], [], h2 => exact .tup rfl fun i c v h => by simp at h
  | [], _ :: _, h2 => have := h2.1; simp at this
  | _ :: _, [], h2 => have := h2.1; simp at this
  | [x], [v], h2 => exact h2.2 0 x v rfl rfl
  | [x], _ :: _ :: _, h2 => have := h2.1; simp at this
  | _ :: _ :: _, [v], h2 => have := h2.1; simp at this
  | x :: y :: as, v :: u :: vs, h2 =>
    simp only [oneOf]
    rw [dif_neg (by simp)]
    exact .tup (by simpa using h2.1) fun i c v' g1 g2 => h2.2 i c v' g1 (by simpa using g2)

/-- THE END OF A FUNCTION: its result, as a caller sees it. -/
def post (P : Program) (gl : Nat → AV) (orc : Nat → FuncId → List AV → AV) (rs : List SOp) (r : AV) : Exit → AS → Prop
  | .normal, s => (retL P gl orc s rs).1 ∧ cvn s.m 6 (oneOf (retL P gl orc s rs).2) = r
  | .ret, s => (retL P gl orc s rs).1 ∧ cvn s.m 6 (oneOf (retL P gl orc s rs).2) = r
  | _, _ => False

/-- The same, of a function that shares its caller's memory. -/
def postE (P : Program) (gl : Nat → AV) (orc : Nat → FuncId → List AV → AV) (rs : List SOp) (K : AV → AM → Prop) : Exit → AS → Prop
  | .normal, s => (retL P gl orc s rs).1 ∧ K (oneOf (retL P gl orc s rs).2) s.m
  | .ret, s => (retL P gl orc s rs).1 ∧ K (oneOf (retL P gl orc s rs).2) s.m
  | _, _ => False

def Y0 : YT := fun _ _ _ _ => False

theorem Sim.y0 (h : Sim N w0 r ro0 S P gl Y γ w s a) : Sim N w0 r ro0 S P gl Y0 γ w s a := ⟨h.m, h.ls, h.rd, h.t, h.d, h.g, fun _ _ _ _ _ _ _ _ _ _ _ hY _ _ => hY.elim, h.e⟩

/-- The way out of a function: the marks are taken, the results read. -/
theorem leave_sound {fn : Func} {R : Ending → World → Prop} (hS : ∀ b, S.1.sp b → b < S.2.heap.size) : ∀ (ds : List Deferred) (γ : G) (w : World) (s : AS) (a : Act), a.defers = ds → Sim N w0 none ro0 S P gl Y0 γ w s a →
    (retL P gl orc s (resOf P fn.results.toList)).1 →
    (∀ v w' γ', EvR S.2 S.1 w' γ' → MSim N w0 ro0 γ' w' s.m.B s.m.L → LSim γ' w' s.m → Rep w' γ' (oneOf (retL P gl orc s (resOf P fn.results.toList)).2) v → R (.returned v) w') → LeavesInM (FW none) 0 P fn a.tmps R ds .returning w
  | [], γ, w, s, a, _, hs, h1, hR => by
    obtain ⟨v, g1, g2⟩ := results_run (P := P) (orc := orc) hs h1
    exact ⟨v, g1, hR v w γ hs.e hs.m hs.ls g2⟩
  | d :: ds, γ, w, s, a, hd, hs, hc, hR => by
    obtain ⟨D, e1, e0, e2, e3⟩ := hs.d.2.1 d (by rw [hd]; simp)
    refine ⟨by simp, .inl ⟨D, w.putObj D (.deferred none), e1, run_takeDeferred e3, ?_⟩⟩
    have hDS : ¬ S.1.sp D := fun h => by have := hS D h; omega
    obtain ⟨hm', hev, hevS⟩ := hs.m.putSp e2 (o := .deferred none) e3 (fun _ _ _ h => by cases h) (fun _ _ _ h => by cases h) (γ' := { γ with sp := fun b => γ.sp b ∧ b ≠ D }) (.inr rfl) (fun h => by
      have := congrFun (congrArg G.sp h) D
      simp [e2] at this)
    have hpw := hs.d.2.2
    rw [hd, List.pairwise_cons] at hpw
    refine leave_sound hS ds { γ with sp := fun b => γ.sp b ∧ b ≠ D } (w.putObj D (.deferred none)) s { a with defers := ds } rfl ⟨hm', ⟨fun i => ?_, hs.ls.2.1, hs.ls.2.2.1, fun i l hl => ?_⟩, fun l h => (by cases h), hs.t.monoV hev, ⟨by simpa using hs.d.1, fun x hx => ?_, hpw.2⟩, fun g => (hs.g g).monoV hev.imm, fun _ _ _ _ _ _ _ _ _ _ _ hY _ _ => hY.elim, hevS _ _ hs.e (.inr hDS)⟩ hc hR
    · rcases hs.ls.1 i with h | ⟨l, h0, h1, rc, h2, h3⟩
      · exact .inl h
      · have hne : l ≠ D := by rintro rfl; rw [e3] at h2; cases h2
        exact .inr ⟨l, h0, ⟨h1, hne⟩, rc, (World.putObj_heap_other hne).trans h2, h3⟩
    · obtain ⟨h1, rc, h2⟩ := hs.ls.2.2.2 i l hl
      have hne : l ≠ D := by rintro rfl; rw [e3] at h2; cases h2
      exact ⟨⟨h1, hne⟩, rc, (World.putObj_heap_other hne).trans h2⟩
    · obtain ⟨D', q1, q0, q2, q3⟩ := hs.d.2.1 x (by rw [hd]; simp [hx])
      have hne : D' ≠ D := by rintro rfl; exact hpw.1 x hx D' e1 q1
      exact ⟨D', q1, q0, ⟨q2, hne⟩, (World.putObj_heap_other hne).trans q3⟩

/-- The base of a function that only computes. -/
def pureBas (w0 : World) : Bas where
  p γ w := Below w0.heap.size w0 w ∧ ∀ b, OI γ b → w0.heap.size ≤ b
  st γ w γ' w' h hc := by
    refine ⟨h.1.trans ⟨hc.os, hc.tape, hc.output, hc.size, fun b hb => hc.same b (Nat.lt_of_lt_of_le hb h.1.size) fun ho => ?_⟩, fun b hb => ?_⟩
    · have := h.2 b ho; omega
    · rcases hc.oi b hb with hb | hb
      · exact h.2 b hb
      · exact Nat.le_trans h.1.size hb

theorem junk_rest {as : List AV} {vs : List Value} {k : Nat} (h : RepL w γ as vs) : RepL w γ (as ++ List.replicate (k - as.length) .junk) (vs.toArray ++ Array.replicate (k - vs.toArray.size) undef).toList := by
  have hlen := h.1
  have h2 : RepL w γ (List.replicate (k - as.length) .junk) (List.replicate (k - vs.length) undef) := ⟨by simp [hlen], fun i x v hx _ => by
    rw [List.getElem?_replicate] at hx
    split at hx
    · cases hx; exact .junk _
    · cases hx⟩
  simpa using h.append h2

/-- A function's code, simplified. -/
def FCode (P : Program) (f : FuncId) (sc : SC) (rs : List SOp) (n : Nat) : Prop :=
  ∃ fn c, P.funcs[f]? = some fn ∧ fn.body = some c ∧ (fn.name == "runtime.NumGoroutine") = false ∧ stripC P c = sc ∧ resOf P fn.results.toList = rs ∧ fn.ntmps = n

/-- A function's run, in whatever memory. -/
theorem run_of {f : FuncId} {sc : SC} {rs : List SOp} {n : Nat} (hc : FCode P f sc rs n) (orc : Nat → FuncId → List AV → AV) {as : List AV} {m : AM} {K : AV → AM → Prop}
    (h : vc P gl orc Y sc ⟨as ++ List.replicate (n - as.length) .junk, m⟩ (postE P gl orc rs K)) {vs : List Value} (hm : MSim N w0 ro0 γ w m.B m.L) (hl : LSim γ w m) (hg : ∀ g, Rep w γ.imm (gl g) (.pointer (some ⟨g, 0, none⟩)))
    (hy : YOK N w0 ro0 P Y γ w) (hr : RepL w γ as vs) :
    CallsIn (FW none) 0 P f vs.toArray w fun e w' => ∃ v γ' r m', e = .returned v ∧ EvR w γ w' γ' ∧ MSim N w0 ro0 γ' w' m'.B m'.L ∧ LSim γ' w' m' ∧ Rep w' γ' r v ∧ K r m' := by
  obtain ⟨fn, c, hf, hb, hname, rfl, rfl, rfl⟩ := hc
  refine callsIn_of_wp_marks (F := FW none) hf hb trivial ?_
  have hs : Sim N w0 none ro0 (γ, w) P gl Y γ w ⟨as ++ List.replicate (fn.ntmps - as.length) .junk, m⟩ { tmps := vs.toArray ++ Array.replicate (fn.ntmps - vs.toArray.size) undef, defers := [] } :=
    ⟨hm, hl, fun l h => (by cases h), junk_rest hr, ⟨Nat.le_refl _, fun x hx => (by cases hx), List.Pairwise.nil⟩, hg, hy, (Ev.refl w γ).toR⟩
  refine wpIn_mono (vc_sound c none (γ, w) γ w _ _ _ h hs) ?_
  have fin : ∀ γ' w' s a, Sim N w0 none ro0 (γ, w) P gl Y γ' w' s a → (retL P gl orc s (resOf P fn.results.toList)).1 ∧ K (oneOf (retL P gl orc s (resOf P fn.results.toList)).2) s.m →
      LeavesInM (FW none) 0 P fn a.tmps (fun e w' => ∃ v γ' r m', e = .returned v ∧ EvR w γ w' γ' ∧ MSim N w0 ro0 γ' w' m'.B m'.L ∧ LSim γ' w' m' ∧ Rep w' γ' r v ∧ K r m') a.defers .returning w' :=
    fun γ' w' s a hs' hc => leave_sound (S := (γ, w)) (fun b hb => (hm.sp b hb).2.1) a.defers γ' w' s a rfl hs'.y0 hc.1 fun v w'' γ'' q1 q2 q3 q4 => ⟨v, γ'', _, _, rfl, q1, q2, q3, q4, hc.2⟩
  rintro ex a w' ⟨γ', s, hs', h'⟩
  cases ex with
  | normal => exact fin γ' w' s a hs' h'
  | ret => exact fin γ' w' s a hs' h'
  | _ => exact h'.elim

theorem FCode.callable {f : FuncId} {sc : SC} {rs : List SOp} {n : Nat} (hc : FCode P f sc rs n) : callable P f := by
  obtain ⟨fn, c, hf, hb, hname, _⟩ := hc
  exact ⟨fn, hf, by simp [hb], hname⟩

theorem eff_of {f : FuncId} {sc : SC} {rs : List SOp} {n : Nat} (hc : FCode P f sc rs n) (orc : Nat → FuncId → List AV → AV) {as : List AV} {m : AM} {K : AV → AM → Prop}
    (h : vc P gl orc Y sc ⟨as ++ List.replicate (n - as.length) .junk, m⟩ (postE P gl orc rs K)) : EffY P gl Y f as m K :=
  ⟨hc.callable, fun _ _ _ _ _ _ hm hl hg hy hr => run_of hc orc h hm hl hg hy hr⟩

def AM.none : AM := ⟨[], [], fun _ => .gone, 0⟩

theorem pure_of_eff {f : FuncId} {as : List AV} {r : AV} (h : EffY P gl Y0 f as ⟨[], [], fun _ => .gone, 0⟩ fun x m' => cvn m' 6 x = r) : Pure P gl f as r := by
  refine ⟨h.1, fun ro w vs hgl hr => ?_⟩
  refine (callsIn_wide (n := 0)).1 ?_
  let γ0 : G := G0 fun b o => ro b o ∧ b < w.heap.size
  have hev : Ev w (G0 ro) w γ0 := ⟨Nat.le_refl _, fun b o hb h => ⟨⟨h, hb⟩, rfl⟩, fun _ _ h => (by cases h), fun _ => Nat.le_refl _, fun _ _ h => (by cases h), rfl, fun _ _ _ h => (by cases h), fun _ h => h.elim, Sz.refl w⟩
  have hm : MSim w.heap.size (pureBas w) ro γ0 w (⟨[], [], fun _ => .gone, 0⟩ : AM).B (⟨[], [], fun _ => .gone, 0⟩ : AM).L := by
    refine ⟨⟨Below.refl _ _, fun b hb => ?_⟩, Nat.le_refl _, fun b o h => .inl h.1, fun b o h => h.2, fun id cells b h => by simp [AM.B] at h, fun id b h => (by cases h), fun id id' b h => (by cases h), fun id b h => (by cases h), fun id id' b h => (by cases h), fun b h => h.elim, fun id b h => (by cases h), fun id id' b h => (by cases h), fun id n h => by simp [AM.L] at h, fun _ _ => rfl⟩
    rcases hb with ⟨_, hb⟩ | ⟨_, hb⟩ | hb | ⟨_, hb⟩
    · cases hb
    · cases hb
    · exact hb.elim
    · cases hb
  refine CallsIn.mono (h.2 _ _ _ _ _ _ hm ⟨fun _ => .inl rfl, fun _ _ => rfl, fun _ _ _ h => (by cases h), fun _ _ h => (by cases h)⟩ (fun g => (hgl g).mono hev) (fun _ _ _ _ _ _ _ _ _ _ _ hY _ _ => hY.elim) (hr.mono hev)) ?_
  rintro e w' ⟨v, γ', x, m', rfl, _, h2, _, h4, h5⟩
  refine ⟨v, rfl, h2.bs.1, ?_⟩
  rw [← h5]
  exact cvn_rep h2 (fun _ _ h => h) h2.ro0 6 _ v h4 fun _ id b hb o => .inr (h2.β id b hb).1

theorem pure_of {f : FuncId} {sc : SC} {rs : List SOp} {n : Nat} (hc : FCode P f sc rs n) (orc : Nat → FuncId → List AV → AV) {as : List AV} {r : AV}
    (h : vc P gl orc Y0 sc ⟨as ++ List.replicate (n - as.length) .junk, ⟨[], [], fun _ => .gone, 0⟩⟩ (post P gl orc rs r)) : Pure P gl f as r := by
  have hpost : post P gl orc rs r = postE P gl orc rs fun x m' => cvn m' 6 x = r := by
    funext ex s
    cases ex <;> rfl
  rw [hpost] at h
  exact pure_of_eff (eff_of hc orc h)
end
end Go.Abs
