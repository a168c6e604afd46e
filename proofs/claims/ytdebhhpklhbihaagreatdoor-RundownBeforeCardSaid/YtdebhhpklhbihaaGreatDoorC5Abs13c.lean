/-
  OWN WORK. Code: from a condition on abstract states to the run.
-/
import Derived.Test.YtdebhhpklhbihaaGreatDoorC5Abs13e
import Derived.RangeFuncNested
namespace Go.Abs
open Go Go.RowKit

inductive SC where
  | skip
  | ops (l : List SO)
  | draw (l l2 : List SO)
  | drawE (fl : List Fg) (l l2 : List SO)
  | seq (a b : SC)
  | cond (x : Opd) (a b : SC)
  | block (id : Nat) (c : SC)
  | loop (c : SC)
  | exit (id : Nat)
  | scope (c : SC)
  | rfunc (g : Opd) (ps : List Nat) (asg body : SC)
  | ret
  | bad

def stripC (P : Program) : Code → SC
  | .skip => .skip
  | .region _ ops false => .ops (ops.toList.map (soOf P ops))
  | .region _ ops true => if P.follows .mixedOrders && dchk ops (dsplit ops) then (match effsAt ops (dsplit ops) with
    | some js => .drawE (flags ops (dsplit ops) js) ((ops.toList.take (dsplit ops)).map (soOf P ops)) ((ops.toList.drop (dsplit ops)).map (soOf P ops))
    | none => .draw ((ops.toList.take (dsplit ops)).map (soOf P ops)) ((ops.toList.drop (dsplit ops)).map (soOf P ops))) else .bad
  | .seq a b => .seq (stripC P a) (stripC P b)
  | .cond c a b => .cond (opd c) (stripC P a) (stripC P b)
  | .block id c => .block id (stripC P c)
  | .loop c => .loop (stripC P c)
  | .exit id => .exit id
  | .label _ => .skip
  | .scope c => .scope (stripC P c)
  | .rangeFunc g ps asg body => .rfunc (opd g) ps.toList (stripC P asg) (stripC P body)
  | .ret => .ret
  | _ => .bad

def upd (st : Nat → LS) (l : Nat) (x : LS) : Nat → LS := fun i => if i = l then x else st i
def AM.at_ (m : AM) (l : Nat) (x : LS) : AM := { m with st := upd m.st l x }
/-- A new loop, ready. -/
def AM.begin_ (m : AM) : AM := { m with st := upd m.st m.ln .ready, ln := m.ln + 1 }
def setPs (T : List AV) : List Nat → List AV → List AV
  | p :: ps, x :: xs => setPs (T.set p x) ps xs
  | _, _ => T

section vc
variable (P : Program) (gl : Nat → AV) (orc : Nat → FuncId → List AV → AV) (Y : YT)
/-- What follows a statement; what lies around a block; around a scope; a loop's round. -/
def Qseq (k : AS → (Exit → AS → Prop) → Prop) (Q : Exit → AS → Prop) : Exit → AS → Prop
  | .normal, s => k s Q
  | ex, s => Q ex s
def Qblock (id : Nat) (Q : Exit → AS → Prop) : Exit → AS → Prop
  | .exit id', s => if id' = id then Q .normal s else Q (.exit id') s
  | ex, s => Q ex s
def Qscope (Q : Exit → AS → Prop) : Exit → AS → Prop
  | .goto _, _ => False
  | ex, s => Q ex s
def Qround (I : AS → Prop) (μ : AS → Nat) (s : AS) (Q : Exit → AS → Prop) : Exit → AS → Prop
  | .normal, s' => I s' ∧ μ s' < μ s
  | ex, s' => Q ex s'

/-- The end of a round; of the assignments before it; of the loop. -/
def Qrnd (l : Nat) (K : Bool → AM → Prop) : Exit → AS → Prop
  | .normal, s => K true (s.m.at_ l .ready)
  | .ret, s => K false (s.m.at_ l (.done .ret))
  | .exit id, s => K false (s.m.at_ l (.done (.exit id)))
  | _, _ => False
def Qasg (l : Nat) (k : AS → Prop) : Exit → AS → Prop
  | .normal, s => s.m.st l = .ready ∧ k ⟨s.T, s.m.at_ l .busy⟩
  | _, _ => False
def Qend (l : Nat) (T : List AV) (m : AM) (Q : Exit → AS → Prop) : LS → Prop
  | .ready => Q .normal ⟨T, m.at_ l .gone⟩
  | .done ex => Q ex ⟨T, m.at_ l .gone⟩
  | _ => False
/-- What yield of loop l does: a round. -/
def Yin (l n : Nat) (k : List AV → AM → (Bool → AM → Prop) → Prop) : YT := fun l' args m K => if l' = l then m.st l = .ready ∧ args.length = n ∧ k args m K else Y l' args m K

def vc : SC → AS → (Exit → AS → Prop) → Prop
  | .skip, s, Q => Q .normal s
  | .ops l, s, Q => vcOps P gl orc Y l s (Q .normal)
  | .draw l l2, s, Q => vcD P gl orc Y l2 (Q .normal) l s.T s.m []
  | .drawE fl l l2, s, Q => vcD P gl orc Y l2 (Q .normal) l s.T s.m [] ∨ ∃ ms, vcE P gl orc Y l2 (Q .normal) s.m ms l fl ms s.m s.T
  | .seq a b, s, Q => vc a s (Qseq (vc b) Q)
  | .cond x a b, s, Q => match ev gl s.T x with
    | .bool t => (t = true → vc a s Q) ∧ (t = false → vc b s Q)
    | _ => False
  | .block id c, s, Q => vc c s (Qblock id Q)
  | .loop c, s, Q => ∃ (I : AS → Prop) (μ : AS → Nat), I s ∧ ∀ s', I s' → vc c s' (Qround I μ s' Q)
  | .exit id, s, Q => Q (.exit id) s
  | .scope c, s, Q => vc c s (Qscope Q)
  | .rfunc g ps asg body, s, Q => match ev gl s.T g with
    | .fn f first cap => s.m.st s.m.ln = .gone → EffY P gl (Yin Y s.m.ln ps.length fun args m K => vc asg ⟨setPs s.T ps args, m⟩ (Qasg s.m.ln fun s' => vc body s' (Qrnd s.m.ln K))) f (first ++ [.yld s.m.ln] ++ cap) (s.m.begin_)
        fun _ m' => Qend s.m.ln s.T m' Q (m'.st s.m.ln)
    | _ => False
  | .ret, s, Q => Q .ret s
  | .bad, _, _ => False
end vc

section
variable {N : Nat} {w0 : Bas} {r : Option Nat} {ro0 : Nat → Nat → Prop} {S : G × World} {Y : YT} {P : Program} {gl : Nat → AV} {orc : Nat → FuncId → List AV → AV} {γ : G} {w : World}

def lift (N : Nat) (w0 : Bas) (r : Option Nat) (ro0 : Nat → Nat → Prop) (S : G × World) (P : Program) (gl : Nat → AV) (Y : YT) (Q : Exit → AS → Prop) : Exit → Act → World → Prop := fun ex a w => ∃ γ s, Sim N w0 r ro0 S P gl Y γ w s a ∧ Q ex s

/-- A new special block. -/
theorem MSim.newSp {B : Nat → Option (List AV)} {L : Nat → Option Nat} (hm : MSim N w0 ro0 γ w B L) (o : Obj) :
    MSim N w0 ro0 { γ with sp := fun b => γ.sp b ∨ b = w.heap.size } (w.alloc o) B L ∧ Ev w γ (w.alloc o) { γ with sp := fun b => γ.sp b ∨ b = w.heap.size } := by
  have hev : Ev w γ (w.alloc o) { γ with sp := fun b => γ.sp b ∨ b = w.heap.size } :=
    ⟨by simp, fun b o' hb hr => ⟨hr, cell_of_heap (Below.heap_alloc w o b hb)⟩, fun _ _ h => h, fun _ => Nat.le_refl _, fun _ _ h => h, rfl,
      fun i b _ ho => ⟨ho, fun arr e he => ⟨arr, by rw [Below.heap_alloc w o b (hm.own i b ho).2.1]; exact he, Nat.le_refl _⟩, fun _ h => h⟩,
      fun b hb => ⟨.inl hb, Below.heap_alloc w o b (hm.sp b hb).2.1⟩, Sz.of_same (Below.heap_alloc w o)⟩
  refine ⟨⟨w0.st _ _ _ _ hm.bs ⟨rfl, rfl, rfl, by simp, fun b hb _ => Below.heap_alloc w _ b hb, hev.ro, fun b hb => ?_, fun _ _ h => .inl h⟩, by have := hm.hN; simp; omega, hm.ro0, fun b o h => by have := hm.robd b o h; simp; omega,
    fun id cells b hb h1 => ?_, fun id b hb => ?_, hm.inj, fun id b hb => ?_, hm.oinj, fun b hb => ?_, fun id b hb => ?_, hm.minj, hm.len, hm.cur0⟩, hev⟩
  · rcases hb with hb | hb | (hb | rfl) | hb
    · exact .inl (.inl hb)
    · exact .inl (.inr (.inl hb))
    · exact .inl (.inr (.inr (.inl hb)))
    · exact .inr (Nat.le_refl _)
    · exact .inl (.inr (.inr (.inr hb)))
  · obtain ⟨arr, e, h2, h3, h4⟩ := hm.box id cells b hb h1
    exact ⟨arr, e, by rw [Below.heap_alloc w _ b (lt_of_heap h2)]; exact h2, h3.mono hev, h4⟩
  · obtain ⟨h1, h2, h3⟩ := hm.β id b hb
    exact ⟨h1, by simp; omega, h3⟩
  · obtain ⟨h1, h2, h3⟩ := hm.own id b hb
    exact ⟨h1, by simp; omega, h3⟩
  · rcases hb with hb | rfl
    · obtain ⟨h1, h2, h3⟩ := hm.sp b hb
      exact ⟨h1, by simp; omega, h3⟩
    · refine ⟨hm.hN, by simp, fun o' h => ?_, fun id h => ?_, fun id h => ?_⟩
      · have := hm.robd _ _ h; omega
      · have := (hm.β id _ h).2.1; omega
      · have := (hm.own id _ h).2.1; omega
  · obtain ⟨h1, h2, h3, h4, h5, h6, h8, h7⟩ := hm.mm id b hb
    refine ⟨h1, by simp; omega, h3, h4, h5, ?_, h8, h7.mono hev.toR.toV (Below.heap_alloc w o b h2)⟩
    rintro (h | rfl)
    · exact h6 h
    · omega

/-- A special block that holds no cells is changed; or changed and given up. -/
theorem MSim.putSp {B : Nat → Option (List AV)} {L : Nat → Option Nat} (hm : MSim N w0 ro0 γ w B L) {D : Nat} (hD : γ.sp D) {o o0 : Obj} (h0 : w.heap[D]? = some o0) (hnc : ∀ c e f, o0 ≠ .cells c e f) (hnc' : ∀ c e f, o ≠ .cells c e f)
    {γ' : G} (hγ : γ' = γ ∨ γ' = { γ with sp := fun b => γ.sp b ∧ b ≠ D }) (hsame : γ' = γ → SameSp (some o0) (some o)) :
    MSim N w0 ro0 γ' (w.putObj D o) B L ∧ EvV w γ (w.putObj D o) γ' ∧ (∀ wS γS, EvR wS γS w γ → (γ' = γ ∨ ¬ γS.sp D) → EvR wS γS (w.putObj D o) γ') := by
  have hlt : D < w.heap.size := lt_of_heap h0
  have hother : ∀ b, b ≠ D → (w.putObj D o).heap[b]? = w.heap[b]? := fun b hb => World.putObj_heap_other hb
  have hthis : (w.putObj D o).heap[D]? = some o := World.putObj_heap_same hlt
  have hcell : ∀ b o', (w.putObj D o).cell? ⟨b, o', none⟩ = w.cell? ⟨b, o', none⟩ := fun b o' => by
    by_cases hb : b = D
    · subst hb
      simp only [World.cell?, hthis, h0]
      cases o <;> cases o0 <;> first | rfl | exact absurd rfl (hnc _ _ _) | exact absurd rfl (hnc' _ _ _)
    · exact cell_of_heap (hother b hb)
  have hβ : γ'.β = γ.β := by rcases hγ with rfl | rfl <;> rfl
  have hown : γ'.own = γ.own := by rcases hγ with rfl | rfl <;> rfl
  have hcur : γ'.cur = γ.cur := by rcases hγ with rfl | rfl <;> rfl
  have hro : γ'.ro = γ.ro := by rcases hγ with rfl | rfl <;> rfl
  have hmm : γ'.mm = γ.mm := by rcases hγ with rfl | rfl <;> rfl
  have hlp : γ'.lp = γ.lp := by rcases hγ with rfl | rfl <;> rfl
  have hsp : ∀ b, γ'.sp b → γ.sp b := by rcases hγ with rfl | rfl; exact fun _ h => h; exact fun _ h => h.1
  have hsp' : ∀ b, γ.sp b → b ≠ D → γ'.sp b := fun b hb h => by
    rcases hγ with rfl | rfl
    · exact hb
    · exact ⟨hb, h⟩
  have hsz : Sz w (w.putObj D o) := fun b' arr e f h => ⟨arr, by rw [hother b' (by rintro rfl; rw [h0] at h; cases h; exact hnc _ _ _ rfl)]; exact h, rfl⟩
  have hevV : EvV w γ (w.putObj D o) γ' := by
    refine ⟨by simp, fun b o' _ hr => ⟨by rw [hro]; exact hr, hcell b o'⟩, fun _ _ h => by rw [hβ]; exact h, fun _ => by rw [hcur]; exact Nat.le_refl _, fun _ _ h => by rw [hmm]; exact h, fun _ _ h => by rw [hlp]; exact h, fun id b _ ho => ⟨by rw [hown]; exact ho, fun arr e he => ⟨arr, ?_, Nat.le_refl _⟩, fun _ h => by rw [hro] at h; exact h⟩, hsz⟩
    rw [hother b (by rintro rfl; exact (hm.sp b hD).2.2.2.2 id ho)]; exact he
  refine ⟨⟨w0.st _ _ _ _ hm.bs ⟨rfl, rfl, rfl, by simp, fun b _ hno => hother b (by rintro rfl; exact hno (.inr (.inr (.inl hD)))), hevV.ro, fun b hb => .inl ?_, fun b o' h => .inl (by rw [hro] at h; exact h)⟩, by simpa using hm.hN,
    fun b o' h => hm.ro0 b o' (by rw [hro] at h; exact h), fun b o' h => by rw [hro] at h; simpa using hm.robd b o' h, fun id cells b hb h1 => ?_, fun id b hb => ?_, fun id id' b h h' => hm.inj id id' b (by rw [hβ] at h; exact h) (by rw [hβ] at h'; exact h'),
    fun id b hb => ?_, fun id id' b h h' => hm.oinj id id' b (by rw [hown] at h; exact h) (by rw [hown] at h'; exact h'), fun b hb => ?_, fun id b hb => ?_, fun id id' b h h' => hm.minj id id' b (by rw [hmm] at h; exact h) (by rw [hmm] at h'; exact h'), fun id n h => by rw [hcur]; exact hm.len id n h, fun id h => by rw [hcur]; exact hm.cur0 id h⟩, hevV, fun wS γS e hc => ?_⟩
  · rcases hb with ⟨id, hb⟩ | ⟨id, hb⟩ | hb | ⟨F, hb⟩
    · rw [hβ] at hb; exact .inl ⟨id, hb⟩
    · rw [hown] at hb; exact .inr (.inl ⟨id, hb⟩)
    · exact .inr (.inr (.inl (hsp b hb)))
    · rw [hmm] at hb; exact .inr (.inr (.inr ⟨F, hb⟩))
  · rw [hβ] at h1
    obtain ⟨arr, e, h2, h3, h4⟩ := hm.box id cells b hb h1
    exact ⟨arr, e, by rw [hother b (by rintro rfl; exact (hm.sp b hD).2.2.2.1 id h1)]; exact h2, h3.monoV hevV, h4⟩
  · rw [hβ] at hb
    obtain ⟨h1, h2, h3, h4, h5⟩ := hm.β id b hb
    exact ⟨h1, by simpa using h2, by rw [hro]; exact h3, by rw [hown]; exact h4, h5⟩
  · rw [hown] at hb
    simpa using hm.own id b hb
  · obtain ⟨h1, h2, h3, h4, h5⟩ := hm.sp b (hsp b hb)
    exact ⟨h1, by simpa using h2, by rw [hro]; exact h3, by rw [hβ]; exact h4, by rw [hown]; exact h5⟩
  · rw [hmm] at hb
    obtain ⟨h1, h2, h3, h4, h5, h6, h8, h7⟩ := hm.mm id b hb
    exact ⟨h1, by simpa using h2, by rw [hro]; exact h3, by rw [hβ]; exact h4, by rw [hown]; exact h5, fun h => h6 (hsp b h), by rw [hβ]; exact h8, h7.mono hevV (hother b (by rintro rfl; exact h6 hD))⟩
  · refine ⟨by simpa using e.size, fun b o' hb hr => ⟨by rw [hro]; exact (e.ro b o' hb hr).1, (hcell b o').trans (e.ro b o' hb hr).2⟩, fun id b h => by rw [hβ]; exact e.β id b h, fun id => by rw [hcur]; exact e.cur id, fun b F h => by rw [hmm]; exact e.mm b F h, fun i l h => by rw [hlp]; exact e.lp i l h, fun id b hc' ho => ?_, fun b hb => ?_, e.ss.trans hsz⟩
    · rw [hcur] at hc'
      obtain ⟨g1, g2, g3⟩ := e.own id b hc' ho
      refine ⟨by rw [hown]; exact g1, fun arr te he => ?_, fun o' h => g3 o' (by rw [hro] at h; exact h)⟩
      obtain ⟨arr', k1, k2⟩ := g2 arr te he
      exact ⟨arr', by rw [hother b (by rintro rfl; exact (hm.sp b hD).2.2.2.2 id g1)]; exact k1, k2⟩
    · obtain ⟨g1, g2⟩ := e.sp b hb
      by_cases hbD : b = D
      · subst hbD
        rcases hc with rfl | hc
        · refine ⟨g1, g2.trans ?_⟩
          rw [h0, hthis]; exact hsame rfl
        · exact absurd hb hc
      · exact ⟨hsp' b g1 hbD, by rw [hother b hbD]; exact g2⟩

theorem stepR_scope {b : Frame} {a : Act} {k : List Item} {cs : List Frame} {w : World} {c : Code} : step P (lone (b.atR a (.code (.scope c) :: k)) cs w) = .next (lone (b.atR a (.code c :: .inScope c :: k)) cs w) :=
  step_lone_go (by simp [stepG, stepG.exec, Frame.atR])
theorem stepR_inScope {b : Frame} {a : Act} {k : List Item} {cs : List Frame} {w : World} {c : Code} : step P (lone (b.atR a (.inScope c :: k)) cs w) = .next (lone (b.atR a k) cs w) :=
  step_lone_go (by simp [stepG, stepG.exec, Frame.atR])

theorem wpIn_scope_straight {c : Code} {Q : Exit → Act → World → Prop} {a : Act} {w : World} (h : c.wpIn (FW r) 0 P (Exit.noGoto Q) a w) : (Code.scope c).wpIn (FW r) 0 P Q a w := by
  intro b k cs hro hb hr
  obtain ⟨e, a₁, w₁, hq, harr⟩ := h b (.inScope c :: k) cs hro hb hr
  have h0 : (lone (b.atR a (.code (.scope c) :: k)) cs w).fenced P (FW r) := fenced_calm hb hr rfl
  cases e with
  | normal => exact ⟨.normal, a₁, w₁, hq, .head h0 stepR_scope (StepsIn.trans harr (.one (fenced_calm hb hr rfl) stepR_inScope))⟩
  | exit id =>
    refine ⟨.exit id, a₁, w₁, hq, fun k' hk => .head h0 stepR_scope (harr.1 k' (by simp [exitTo, hk])), fun hr' hk => ?_⟩
    obtain ⟨k₁, h1, h2⟩ := harr.2 hr' (by simp [exitTo, hk])
    exact ⟨k₁, h1, .head h0 stepR_scope h2⟩
  | goto l => exact hq.elim
  | ret => exact ⟨_, a₁, w₁, hq, .of_steps (.one h0 stepR_scope) harr⟩
  | panic ch => exact ⟨_, a₁, w₁, hq, .of_steps (.one h0 stepR_scope) harr⟩
  | outgrown => exact ⟨_, a₁, w₁, hq, .of_steps (.one h0 stepR_scope) harr⟩

theorem foldl_setPs {γ : G} {w : World} : ∀ (ps : List Nat) (args : List AV) (vs : List Value) (T : List AV) (arr : Array Value), args.length = ps.length → RepL w γ args vs → RepL w γ T arr.toList →
    RepL w γ (setPs T ps args) ((ps.toArray.zip vs.toArray).foldl (fun (tmps : Array Value) (p : Nat × Value) => tmps.setIfInBounds p.1 p.2) arr).toList := by
  intro ps args vs T arr hl hr ht
  have e : (ps.toArray.zip vs.toArray).foldl (fun (tmps : Array Value) (p : Nat × Value) => tmps.setIfInBounds p.1 p.2) arr = (ps.zip vs).foldl (fun (tmps : Array Value) (p : Nat × Value) => tmps.setIfInBounds p.1 p.2) arr := by
    rw [← Array.foldl_toList]
    simp
  rw [e]
  clear e
  induction ps generalizing args vs T arr with
  | nil =>
    cases args with
    | nil => simpa [setPs] using ht
    | cons x xs => simp at hl
  | cons p ps ih =>
    cases args with
    | nil => simp at hl
    | cons x xs =>
      cases vs with
      | nil => have := hr.1; simp at this
      | cons v vs =>
        have h0 : Rep w γ x v := hr.2 0 x v rfl rfl
        have hs : RepL w γ xs vs := ⟨by have := hr.1; simpa using this, fun i x y h1 h2 => hr.2 (i + 1) x y (by simpa using h1) (by simpa using h2)⟩
        simp only [List.zip_cons_cons, List.foldl_cons, setPs]
        refine ih xs vs _ _ (by simpa using hl) hs ?_
        rw [Array.toList_setIfInBounds]
        exact ht.set p h0

/-- The record is in another state. -/
theorem LSim.put {m : AM} {i l : Nat} {rc : Loop} {x : LS} (h : LSim γ w m) (hi : γ.lp i = some l) (hsp : γ.sp l) (hl : l < w.heap.size) (hx : LMatch x rc) : LSim γ (w.putObj l (.loop rc)) (m.at_ i x) := by
  refine ⟨fun i' => ?_, h.2.1, h.2.2.1, fun i' l' hl' => ?_⟩
  rotate_left
  · obtain ⟨q1, r, q2⟩ := h.2.2.2 i' l' hl'
    by_cases hll : l' = l
    · subst hll; exact ⟨q1, rc, World.putObj_heap_same hl⟩
    · exact ⟨q1, r, (World.putObj_heap_other hll).trans q2⟩
  by_cases hi' : i' = i
  · subst hi'
    exact .inr ⟨l, hi, hsp, rc, World.putObj_heap_same hl, by simpa [AM.at_, upd] using hx⟩
  · rcases h.1 i' with h' | ⟨l', h0, h1, r, h2, h3⟩
    · exact .inl (by simp [AM.at_, upd, hi', h'])
    · have hl' : l' ≠ l := by rintro rfl; exact hi' (h.2.2.1 _ _ _ h0 hi)
      exact .inr ⟨l', h0, h1, r, (World.putObj_heap_other hl').trans h2, by simpa [AM.at_, upd, hi'] using h3⟩

/-- A new loop gets its number. -/
def G.newlp (γ : G) (i l : Nat) : G := { γ with lp := fun j => if j = i then some l else γ.lp j }

theorem ev_newlp (w : World) {γ : G} {i l : Nat} (h : γ.lp i = none) : EvR w γ w (γ.newlp i l) :=
  ⟨Nat.le_refl _, fun _ _ _ h => ⟨h, rfl⟩, fun _ _ h => h, fun _ => Nat.le_refl _, fun _ _ h => h, fun j l' hj => by
    have : j ≠ i := by rintro rfl; rw [h] at hj; cases hj
    simp [G.newlp, this, hj], fun _ _ _ h => ⟨h, fun arr _ h => ⟨arr, h, Nat.le_refl _⟩, fun _ h => h⟩, fun _ h => ⟨h, .inl rfl⟩, Sz.refl w⟩

theorem MSim.newlp {B : Nat → Option (List AV)} {L : Nat → Option Nat} (hm : MSim N w0 ro0 γ w B L) {i l : Nat} (h : γ.lp i = none) : MSim N w0 ro0 (γ.newlp i l) w B L := by
  have hev := (ev_newlp w h (l := l)).toV
  refine ⟨w0.st _ _ _ _ hm.bs ⟨rfl, rfl, rfl, Nat.le_refl _, fun _ _ _ => rfl, fun _ _ _ h => ⟨h, rfl⟩, fun _ hb => .inl hb, fun _ _ h => .inl h⟩, hm.hN, hm.ro0, hm.robd, fun id cells b hb h1 => ?_, hm.β, hm.inj, hm.own, hm.oinj, hm.sp, fun id b hb => ?_, hm.minj, hm.len, hm.cur0⟩
  · obtain ⟨arr, e, h2, h3, h4⟩ := hm.box id cells b hb h1
    exact ⟨arr, e, h2, h3.monoV hev, h4⟩
  · obtain ⟨h1, h2, h3, h4, h5, h6, h8, h7⟩ := hm.mm id b hb
    exact ⟨h1, h2, h3, h4, h5, h6, h8, h7.mono hev rfl⟩

theorem putLoop {B : Nat → Option (List AV)} {L : Nat → Option Nat} (hm : MSim N w0 ro0 γ w B L) {l : Nat} (hl : γ.sp l) {rc : Loop} (h0 : w.heap[l]? = some (.loop rc)) (st : LoopState) (pd : Option Code) :
    MSim N w0 ro0 γ (w.putObj l (.loop { rc with state := st, pending := pd })) B L ∧ EvR w γ (w.putObj l (.loop { rc with state := st, pending := pd })) γ := by
  obtain ⟨h1, _, h3⟩ := hm.putSp hl (o := .loop { rc with state := st, pending := pd }) h0 (fun _ _ _ h => by cases h) (fun _ _ _ h => by cases h) (.inl rfl) (fun _ => .inr ⟨rc, st, pd, rfl, rfl⟩)
  exact ⟨h1, h3 w γ (Ev.refl w γ).toR (.inl rfl)⟩

theorem rfunc_sound {g : Operand} {ps : Array Tmp} {asg body : Code}
    (ihA : ∀ (l : Nat) (S : G × World) (γ : G) (w : World) (s : AS) (a : Act) (Q : Exit → AS → Prop), vc P gl orc Y (stripC P asg) s Q → Sim N w0 (some l) ro0 S P gl Y γ w s a → asg.wpIn (FW (some l)) 0 P (lift N w0 (some l) ro0 S P gl Y Q) a w)
    (ihB : ∀ (l : Nat) (S : G × World) (γ : G) (w : World) (s : AS) (a : Act) (Q : Exit → AS → Prop), vc P gl orc Y (stripC P body) s Q → Sim N w0 (some l) ro0 S P gl Y γ w s a → body.wpIn (FW (some l)) 0 P (lift N w0 (some l) ro0 S P gl Y Q) a w)
    {s : AS} {a : Act} {Q : Exit → AS → Prop} (h : vc P gl orc Y (stripC P (.rangeFunc g ps asg body)) s Q) (hs : Sim N w0 r ro0 S P gl Y γ w s a) :
    (Code.rangeFunc g ps asg body).wpIn (FW r) 0 P (lift N w0 r ro0 S P gl Y Q) a w := by
  simp only [stripC, vc] at h
  have hg := hs.ev g
  split at h
  case h_2 => exact h.elim
  rename_i f first cap e1
  rw [e1] at hg
  obtain ⟨fa, ca, hv, r1, r2⟩ := hg.inv_fn
  refine wpIn_rangeFunc fun fn _ => ?_
  -- the record is laid
  obtain ⟨l, mark, w1, γ1', rc, he, hrc, hsp1', hm1', hev1', hd1', hfresh⟩ : ∃ (l : Nat) (mark : List Deferred) (w1 : World) (γ1 : G) (df : Nat),
      (Instr.enterLoop fn a.tmps ps asg body (FW r).round).run P w = .ok (l, mark) w1 ∧ w1.heap[l]? = some (.loop { state := .ready, pending := none, fn, tmps := a.tmps, params := ps, assign := asg, body, defers := df }) ∧ γ1.sp l ∧
      MSim N w0 ro0 γ1 w1 s.m.B s.m.L ∧ Ev w γ w1 γ1 ∧ Dfr S.2.heap.size γ1 w1 (mark ++ a.defers) ∧ w.heap.size ≤ l := by
    cases r with
    | none =>
      obtain ⟨hm1, hev1⟩ := hs.m.newSp (.deferred (some []))
      obtain ⟨hm2, hev2⟩ := hm1.newSp (.loop { state := .ready, pending := none, fn, tmps := a.tmps, params := ps, assign := asg, body, defers := w.heap.size })
      refine ⟨w.heap.size + 1, _, _, _, w.heap.size, run_enterLoop_outer fn a.tmps ps asg body, ?_, Or.inr (by simp), hm2, hev1.trans hev2, ?_, by omega⟩
      · have := World.alloc_heap_new (w.alloc (.deferred (some []))) (.loop { state := .ready, pending := none, fn, tmps := a.tmps, params := ps, assign := asg, body, defers := w.heap.size })
        simpa using this
      · have hd := hs.d.monoR (hev1.trans hev2).toR
        have hold : ∀ x ∈ a.defers, ∀ D, x.target = .collected D → D < w.heap.size := fun x hx D hD => by
          obtain ⟨D', q1, _, _, q4⟩ := hs.d.2.1 x hx
          rw [hD] at q1
          cases q1
          exact lt_of_heap q4
        refine ⟨hd.1, fun x hx => ?_, ?_⟩
        · simp only [List.cons_append, List.nil_append, List.mem_cons] at hx
          rcases hx with rfl | hx
          · refine ⟨w.heap.size, rfl, hs.d.1, .inl (.inr rfl), ?_⟩
            rw [Below.heap_alloc _ _ _ (by simp)]
            exact World.alloc_heap_new w _
          · exact hd.2.1 x hx
        · simp only [List.cons_append, List.nil_append, List.pairwise_cons]
          refine ⟨fun x hx D hD hx' => ?_, hd.2.2⟩
          simp at hD
          have := hold x hx D hx'
          omega
    | some l0 =>
      obtain ⟨hl0, rec0, hrec0⟩ := hs.rd l0 rfl
      obtain ⟨hm1, hev1⟩ := hs.m.newSp (.loop { state := .ready, pending := none, fn, tmps := a.tmps, params := ps, assign := asg, body, defers := rec0.defers })
      exact ⟨w.heap.size, [], _, _, rec0.defers, run_enterLoop_inner hrec0 fn a.tmps ps asg body, World.alloc_heap_new w _, Or.inr rfl, hm1, hev1, hs.d.monoR hev1.toR, Nat.le_refl _⟩
  have hl1 : l < w1.heap.size := lt_of_heap hrc
  generalize hln : s.m.ln = i at h
  have hlsE := hs.ls.mono hev1'
  have hnone : γ1'.lp i = none := hlsE.2.1 i (by omega)
  have hnew : ∀ j, γ1'.lp j ≠ some l := fun j hj => by
    rw [hev1'.lp] at hj
    have := (hs.m.sp l (hs.ls.2.2.2 j l hj).1).2.1; omega
  let γ1 := γ1'.newlp i l
  have hevN : EvR w1 γ1' w1 γ1 := ev_newlp w1 hnone
  have hev1 : EvR w γ w1 γ1 := hev1'.toR.trans hevN
  have hm1 : MSim N w0 ro0 γ1 w1 s.m.B s.m.L := hm1'.newlp hnone
  have hsp1 : γ1.sp l := hsp1'
  have hlp1 : γ1.lp i = some l := by simp [γ1, G.newlp]
  have hd1 := hd1'.monoR hevN
  have hE := h (by
    rcases hs.ls.1 i with h | ⟨l', h0, _⟩
    · exact h
    · rw [hs.ls.2.1 i (by omega)] at h0; cases h0)
  have hargs : RepL w1 γ1 (first ++ [.yld i] ++ cap) (fa.toList ++ [.func (.yield l) #[] #[]] ++ ca.toList) := ((r1.monoR hev1).append (RepL.cons (.yld hlp1) RepL.nil)).append (r2.monoR hev1)
  have hls1 : LSim γ1 w1 s.m.begin_ := by
    refine ⟨fun j => ?_, fun j hj => ?_, fun j j' l' h1 h2 => ?_, fun j l' h1 => ?_⟩
    · by_cases hj : j = i
      · subst hj; exact .inr ⟨l, hlp1, hsp1, _, hrc, by simp [AM.begin_, upd, hln, LMatch]⟩
      · rcases hlsE.1 j with h | ⟨l', h0, h1, r', h2, h3⟩
        · exact .inl (by simp [AM.begin_, upd, hln, hj, h])
        · exact .inr ⟨l', by simp [γ1, G.newlp, hj, h0], h1, r', h2, by simpa [AM.begin_, upd, hln, hj] using h3⟩
    · have hj' : i + 1 ≤ j := by simpa [AM.begin_, hln] using hj
      have : j ≠ i := by omega
      simp [γ1, G.newlp, this, hlsE.2.1 j (by omega)]
    · by_cases hj : j = i <;> by_cases hj' : j' = i
      · rw [hj, hj']
      · simp [γ1, G.newlp, hj] at h1
        simp [γ1, G.newlp, hj'] at h2
        subst h1
        exact absurd h2 (hnew j')
      · simp [γ1, G.newlp, hj] at h1
        simp [γ1, G.newlp, hj'] at h2
        subst h2
        exact absurd h1 (hnew j)
      · simp [γ1, G.newlp, hj] at h1
        simp [γ1, G.newlp, hj'] at h2
        exact hlsE.2.2.1 j j' l' h1 h2
    · by_cases hj : j = i
      · simp [γ1, G.newlp, hj] at h1
        subst h1
        exact ⟨hsp1, _, hrc⟩
      · simp [γ1, G.newlp, hj] at h1
        exact hlsE.2.2.2 j l' h1
  refine ⟨l, mark, w1, { target := .fn (.func f) ca, args := fa ++ #[.func (.yield l) #[] #[]] }, w1, f, (fa.toList ++ [Value.func (.yield l) #[] #[]] ++ ca.toList).toArray, w1, he, ?_, fun _ _ => trivial, ?_, fun h => by simp [FW, Fence.wide] at h, ?_⟩
  · have hc : a.eval (.const (.func (.yield l) #[] #[])) = .func (.yield l) #[] #[] := rfl
    simp [resolve, hv, hc, Deferred.ofValue, rangeCall]
  · simp [invoke, run_callFunc hE.1]
  have hcall := hE.2 N w0 ro0 γ1 w1 _ hm1 hls1 (fun g => (hs.g g).monoR hev1.imm) ?_ hargs
  · refine CallsIn.mono (F := FW r) (n := 0) (show CallsIn (FW r) 0 P f _ w1 _ from hcall) ?_
    rintro en w3 ⟨v, γ3, r', m', rfl, g1, g2, g3, g4, g5⟩
    -- the loop is over
    have hsp3 := (g1.sp l hsp1).1
    have fin : ∀ (rc3 : Loop) (pd : Option Code), w3.heap[l]? = some (.loop rc3) → (∀ ex, ex = Exit.normal ∧ pd = none ∨ pd = exCode ex ∧ pd.isSome = true → rc3.state ≠ .busy → rc3.pending = pd → Q ex ⟨s.T, m'.at_ i .gone⟩ → rangePost (FW r) 0 P l (lift N w0 r ro0 S P gl Y Q) { a with defers := mark ++ a.defers } (.returned v) w3) := by
      intro rc3 pd hrc3 ex hex hnb hpd hQ
      obtain ⟨hm4, hev4⟩ := putLoop g2 hsp3 hrc3 .exhausted rc3.pending
      refine ⟨rc3.pending, _, run_endLoop hrc3 hnb, ?_⟩
      have hev : EvR w γ (w3.putObj l (.loop { rc3 with state := .exhausted })) γ3 := (hev1.trans g1).trans hev4
      have hsim : Sim N w0 r ro0 S P gl Y γ3 (w3.putObj l (.loop { rc3 with state := .exhausted })) ⟨s.T, m'.at_ i .gone⟩ { a with defers := mark ++ a.defers } := by
        have hlp3 := g1.lp i l hlp1
        refine ⟨hm4, ?_, hs.rd.monoR hev, hs.t.monoR hev, hd1.monoR (g1.trans hev4), fun g => (hs.g g).monoR hev.imm, hs.y.mono hev, hs.e.trans hev⟩
        refine ⟨fun j => ?_, g3.2.1, g3.2.2.1, fun j l' hl' => ?_⟩
        rotate_left
        · obtain ⟨q1, r, q2⟩ := g3.2.2.2 j l' hl'
          by_cases hll : l' = l
          · subst hll; exact ⟨q1, _, World.putObj_heap_same (lt_of_heap q2)⟩
          · exact ⟨q1, r, (World.putObj_heap_other hll).trans q2⟩
        by_cases hj : j = i
        · exact .inl (by simp [AM.at_, upd, hj])
        · rcases g3.1 j with h | ⟨l', h0, h1, r', h2, h3⟩
          · exact .inl (by simp [AM.at_, upd, hj, h])
          · have hl' : l' ≠ l := by rintro rfl; exact hj (g3.2.2.1 _ _ _ h0 hlp3)
            exact .inr ⟨l', h0, h1, r', (World.putObj_heap_other hl').trans h2, by simpa [AM.at_, upd, hj] using h3⟩
      generalize w3.putObj l (.loop { rc3 with state := .exhausted }) = w4 at hsim
      rw [hpd]
      rcases hex with ⟨rfl, rfl⟩ | ⟨hex, hsome⟩
      · exact ⟨γ3, _, hsim, hQ⟩
      · cases ex with
        | ret => simp only [exCode] at hex; subst hex; exact wpIn_ret ⟨γ3, _, hsim, hQ⟩
        | exit id => simp only [exCode] at hex; subst hex; exact wpIn_exit ⟨γ3, _, hsim, hQ⟩
        | _ => simp only [exCode] at hex; subst hex; cases hsome
    have hl3 := g3.1 i
    have hlp3 := g1.lp i l hlp1
    cases hst : m'.st i with
    | gone => rw [hst] at g5; exact g5.elim
    | busy => rw [hst] at g5; exact g5.elim
    | ready =>
      rw [hst] at g5 hl3
      rcases hl3 with hl3 | ⟨l', q0, _, rc3, q1, q2⟩
      · cases hl3
      · obtain rfl : l' = l := Option.some.inj (q0.symm.trans hlp3)
        exact fin rc3 none q1 .normal (.inl ⟨rfl, rfl⟩) (by rw [q2.1]; simp) q2.2 g5
    | done ex =>
      rw [hst] at g5 hl3
      rcases hl3 with hl3 | ⟨l', q0, _, rc3, q1, q2⟩
      · cases hl3
      · obtain rfl : l' = l := Option.some.inj (q0.symm.trans hlp3)
        exact fin rc3 _ q1 ex (.inr ⟨rfl, q2.2.2⟩) (by rw [q2.1]; simp) q2.2.1 g5
  -- the rounds
  intro γ' w' hev' i' args m K vs hm' hls' hr' hY l' hlp'
  unfold Yin at hY
  split at hY
  case isFalse => exact hs.y γ' w' (hev1.trans hev') i' args m K vs hm' hls' hr' hY l' hlp'
  rename_i hi'
  subst hi'
  obtain rfl : l' = l := Option.some.inj (hlp'.symm.trans (hev'.lp _ _ hlp1))
  obtain ⟨hrd, hlen, hY⟩ := hY
  have hrec' : ∃ st pd, w'.heap[l']? = some (.loop { state := st, pending := pd, fn, tmps := a.tmps, params := ps, assign := asg, body, defers := rc }) := by
    rcases (hev'.sp l' hsp1).2 with h | ⟨r0, st, pd, h, h'⟩
    · rw [hrc] at h; exact ⟨_, _, h⟩
    · rw [hrc] at h; cases h; exact ⟨st, pd, h'⟩
  obtain ⟨st, pd, hrec'⟩ := hrec'
  have hsp' := (hev'.sp l' hsp1).1
  have hevw := hev1.trans hev'
  have hps : vs.toArray.size = ps.size := by have := hr'.1; simp at this hlen ⊢; omega
  refine ⟨fn, _, asg, body, run_yield hrec' hps, roundIn_of_wpIn (F := FW none) trivial ?_⟩
  have hsim0 : Sim N w0 (some l') ro0 (γ', w') P gl Y γ' w' ⟨setPs s.T ps.toList args, m⟩ { tmps := (ps.zip vs.toArray).foldl (fun (tmps : Array Value) (p : Nat × Value) => tmps.setIfInBounds p.1 p.2) a.tmps, defers := [] } := by
    refine ⟨hm', hls', fun l hl => ?_, ?_, ⟨Nat.le_refl _, fun x hx => (by cases hx), List.Pairwise.nil⟩, fun g => (hs.g g).monoR hevw.imm, hs.y.mono hevw, (Ev.refl w' γ').toR⟩
    · cases hl; exact ⟨hsp', _, hrec'⟩
    · have := foldl_setPs ps.toList args vs s.T a.tmps hlen hr' (hs.t.monoR hevw)
      simpa using this
  refine wpIn_mono (ihA l' (γ', w') γ' w' _ _ _ hY hsim0) ?_
  rintro ex a2 w2 ⟨γ2, s2, hs2, hq2⟩
  cases ex with
  | normal =>
    obtain ⟨hrd2, hq2⟩ := hq2
    have hl2 := hs2.ls.1 i'
    rw [hrd2] at hl2
    have hlp2 := hs2.e.lp _ _ hlp'
    rcases hl2 with hl2 | ⟨l2, q0, hsp2, rc2, q1, q2⟩
    · cases hl2
    obtain rfl : l' = l2 := Option.some.inj (hlp2.symm.trans q0)
    obtain ⟨hm3, hev3⟩ := putLoop hs2.m hsp2 q1 .busy rc2.pending
    refine ⟨_, run_beginRound q1 q2.1, ?_⟩
    have hsim3 : Sim N w0 (some l') ro0 (γ', w') P gl Y γ2 (w2.putObj l' (.loop { rc2 with state := .busy })) ⟨s2.T, s2.m.at_ i' .busy⟩ a2 :=
      ⟨hm3, hs2.ls.put hlp2 hsp2 (lt_of_heap q1) rfl, hs2.rd.monoR hev3, hs2.t.monoR hev3, hs2.d.monoR hev3, fun g => (hs2.g g).monoR hev3.imm, hs2.y.mono hev3, hs2.e.trans hev3⟩
    refine wpIn_mono (ihB l' (γ', w') γ2 _ _ _ _ hq2 hsim3) ?_
    rintro ex a4 w4 ⟨γ4, s4, hs4, hq4⟩
    obtain ⟨hsp4, rc4, q4⟩ := hs4.rd _ rfl
    have hlp4 := hs4.e.lp _ _ hlp'
    cases ex with
    | normal =>
      obtain ⟨hm5, hev5⟩ := putLoop hs4.m hsp4 q4 .ready none
      exact ⟨_, _, run_endRound none q4, true, γ4, s4.m.at_ i' .ready, rfl, hs4.e.trans hev5, hm5, hs4.ls.put hlp4 hsp4 (lt_of_heap q4) ⟨rfl, rfl⟩, hq4⟩
    | ret =>
      obtain ⟨hm5, hev5⟩ := putLoop hs4.m hsp4 q4 .done (some .ret)
      exact ⟨_, _, run_endRound (some .ret) q4, false, γ4, s4.m.at_ i' (.done .ret), rfl, hs4.e.trans hev5, hm5, hs4.ls.put hlp4 hsp4 (lt_of_heap q4) ⟨rfl, rfl, rfl⟩, hq4⟩
    | exit id =>
      obtain ⟨hm5, hev5⟩ := putLoop hs4.m hsp4 q4 .done (some (.exit id))
      exact ⟨_, _, run_endRound (some (.exit id)) q4, false, γ4, s4.m.at_ i' (.done (.exit id)), rfl, hs4.e.trans hev5, hm5, hs4.ls.put hlp4 hsp4 (lt_of_heap q4) ⟨rfl, rfl, rfl⟩, hq4⟩
    | _ => exact hq4.elim
  | _ => exact hq2.elim

theorem vc_sound : ∀ (c : Code) (r : Option Nat) (S : G × World) (γ : G) (w : World) (s : AS) (a : Act) (Q : Exit → AS → Prop), vc P gl orc Y (stripC P c) s Q → Sim N w0 r ro0 S P gl Y γ w s a → c.wpIn (FW r) 0 P (lift N w0 r ro0 S P gl Y Q) a w
  | .skip, r, S, γ, w, s, a, Q, h, hs => wpIn_skip ⟨γ, s, hs, h⟩
  | .label _, r, S, γ, w, s, a, Q, h, hs => wpIn_label ⟨γ, s, hs, h⟩
  | .region id ops false, r, S, γ, w, s, a, Q, h, hs => by
    refine wpIn_region ?_
    have := vcOps_sound (P := P) (orc := orc) (ops := ops) (Q := lift N w0 r ro0 S P gl Y Q) (K := Q .normal) (fun γ w s a hK hs => ⟨γ, s, hs, hK⟩) ops.size 0 γ w s a (by simp) (by simpa [stripC, vc] using h) hs
    rwa [List.range_eq_range']
  | .region id ops true, r, S, γ, w, s, a, Q, h, hs => by
    simp only [stripC] at h
    split at h
    case isFalse => exact h.elim
    rename_i hc
    simp only [Bool.and_eq_true] at hc
    split at h
    · rename_i j hj
      rcases h with h | ⟨ms, h⟩
      · exact wpIn_region_any hc.1 (draw_sound (Q := lift N w0 r ro0 S P gl Y Q) (K := Q .normal) (fun γ w s a hK hs => ⟨γ, s, hs, hK⟩) hc.2 h hs)
      · exact wpIn_region_any hc.1 (drawE_sound (Q := lift N w0 r ro0 S P gl Y Q) (K := Q .normal) (fun γ w s a hK hs => ⟨γ, s, hs, hK⟩) hc.2 hj h hs)
    · exact wpIn_region_any hc.1 (draw_sound (Q := lift N w0 r ro0 S P gl Y Q) (K := Q .normal) (fun γ w s a hK hs => ⟨γ, s, hs, hK⟩) hc.2 h hs)
  | .seq x y, r, S, γ, w, s, a, Q, h, hs => by
    refine wpIn_seq (wpIn_mono (vc_sound x r S γ w s a _ h hs) ?_)
    rintro ex a' w' ⟨γ', s', hs', h'⟩
    cases ex with
    | normal => exact vc_sound y r S γ' w' s' a' Q h' hs'
    | _ => exact ⟨γ', s', hs', h'⟩
  | .cond c x y, r, S, γ, w, s, a, Q, h, hs => by
    simp only [stripC, vc] at h
    have hr := hs.ev c
    split at h
    case h_2 => exact h.elim
    rename_i t ht
    rw [ht] at hr
    exact wpIn_cond_split hr.inv_bool (fun e => vc_sound x r S γ w s a Q (h.1 e) hs) fun e => vc_sound y r S γ w s a Q (h.2 e) hs
  | .block id c, r, S, γ, w, s, a, Q, h, hs => by
    refine wpIn_block (wpIn_mono (vc_sound c r S γ w s a _ h hs) ?_)
    rintro ex a' w' ⟨γ', s', hs', h'⟩
    cases ex with
    | exit id' =>
      simp only [Exit.inBlock, Qblock] at h' ⊢
      split
      · rename_i hid; rw [if_pos hid] at h'; exact ⟨γ', s', hs', h'⟩
      · rename_i hid; rw [if_neg hid] at h'; exact ⟨γ', s', hs', h'⟩
    | _ => exact ⟨γ', s', hs', h'⟩
  | .loop c, r, S, γ, w, s, a, Q, h, hs => by
    obtain ⟨I, μ, h0, hr'⟩ := h
    intro b k cs hro hb hr
    have key : ∀ j γ w s a, μ s = j → I s → Sim N w0 r ro0 S P gl Y γ w s a → ∃ e a' w', lift N w0 r ro0 S P gl Y Q e a' w' ∧ ArrivesIn (Machine.fenced P (FW r)) P (lone (b.atR a (.code c :: .inLoop c :: k)) cs w) b k cs e a' w' := by
      intro j
      induction j using Nat.strongRecOn with
      | _ j ih =>
        intro γ w s a hn hI hs
        obtain ⟨e, a₁, w₁, ⟨γ₁, s₁, hs₁, hq⟩, harr⟩ := vc_sound c r S γ w s a _ (hr' s hI) hs b (.inLoop c :: k) cs hro hb hr
        cases e with
        | normal =>
          obtain ⟨hI₁, hlt⟩ := hq
          obtain ⟨e₂, a₂, w₂, hq₂, harr₂⟩ := ih (μ s₁) (hn ▸ hlt) γ₁ w₁ s₁ a₁ rfl hI₁ hs₁
          exact ⟨e₂, a₂, w₂, hq₂, .of_steps (StepsIn.trans harr (.one (fenced_calm hb hr rfl) stepR_inLoop)) harr₂⟩
        | exit id => exact ⟨_, a₁, w₁, ⟨γ₁, s₁, hs₁, hq⟩, .pass (x := .inLoop c) rfl (fun _ _ => .inl (by simp)) harr⟩
        | goto l => exact ⟨_, a₁, w₁, ⟨γ₁, s₁, hs₁, hq⟩, .pass (x := .inLoop c) rfl (fun _ _ => .inl (by simp)) harr⟩
        | ret => exact ⟨_, a₁, w₁, ⟨γ₁, s₁, hs₁, hq⟩, .pass (x := .inLoop c) rfl (fun _ _ => .inl (by simp)) harr⟩
        | panic ch => exact ⟨_, a₁, w₁, ⟨γ₁, s₁, hs₁, hq⟩, .pass (x := .inLoop c) rfl (fun _ _ => .inl (by simp)) harr⟩
        | outgrown => exact ⟨_, a₁, w₁, ⟨γ₁, s₁, hs₁, hq⟩, .pass (x := .inLoop c) rfl (fun _ _ => .inl (by simp)) harr⟩
    obtain ⟨e, a', w', hq, harr⟩ := key _ γ w s a rfl h0 hs
    exact ⟨e, a', w', hq, .of_steps (.one (fenced_calm hb hr rfl) stepR_loop) harr⟩
  | .exit id, r, S, γ, w, s, a, Q, h, hs => wpIn_exit ⟨γ, s, hs, h⟩
  | .ret, r, S, γ, w, s, a, Q, h, hs => wpIn_ret ⟨γ, s, hs, h⟩
  | .scope c, r, S, γ, w, s, a, Q, h, hs => by
    refine wpIn_scope_straight (wpIn_mono (vc_sound c r S γ w s a _ h hs) ?_)
    rintro ex a' w' ⟨γ', s', hs', h'⟩
    cases ex with
    | goto l => exact h'.elim
    | _ => exact ⟨γ', s', hs', h'⟩
  | .rangeFunc g ps asg body, r, S, γ, w, s, a, Q, h, hs => rfunc_sound (fun l S γ w s a Q h hs => vc_sound asg (some l) S γ w s a Q h hs) (fun l S γ w s a Q h hs => vc_sound body (some l) S γ w s a Q h hs) h hs
  | .goto l, r, S, γ, w, s, a, Q, h, hs => h.elim
  | .refuse why, r, S, γ, w, s, a, Q, h, hs => h.elim

end
end Go.Abs
