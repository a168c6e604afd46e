/-
  OWN WORK. The run by computation: code, calls, loops over functions.
-/
import Derived.Test.YtdebhhpklhbihaaGreatDoorC5Abs16
namespace Go.Abs
open Go Go.RowKit

/-- The loops over functions that are under way, by their rounds. -/
inductive YE where
  | nil
  | cons (l : Nat) (T : List AV) (ps : List Nat) (asg body : SC) (rest : YE)

structure Rc where
  code : YE → SC → AS → Option (Exit × AS)
  fn : YE → FuncId → List AV → AM → Option (AV × AM)

/-- A round. -/
def xyld (R : Rc) (l : Nat) (args : List AV) (m : AM) : YE → Option (Bool × AM)
  | .nil => none
  | .cons l0 T ps asg body rest => bif Nat.beq l l0 then
      (match m.st l0, Nat.beq args.length ps.length with
      | .ready, true => (match R.code rest asg ⟨setPs T ps args, m⟩ with
        | some (.normal, s1) => (match s1.m.st l0 with
          | .ready => (match R.code rest body ⟨s1.T, s1.m.at_ l0 .busy⟩ with
            | some (.normal, s2) => some (true, s2.m.at_ l0 .ready)
            | some (.ret, s2) => some (false, s2.m.at_ l0 (.done .ret))
            | some (.exit id, s2) => some (false, s2.m.at_ l0 (.done (.exit id)))
            | _ => none)
          | _ => none)
        | _ => none)
      | _, _ => none)
    else xyld R l args m rest

/-- The oracle's word on new slices. -/
def mutB (orc : FuncId → List AV → AV) : Bool := match orc 999999 [] with
  | .mobj [] => true
  | _ => false

/-- A call by the oracle's word: its value if it is one of a function that only computes. -/
def pureV : AV → Bool
  | .gd _ _ => false
  | .junk => false
  | .mobj _ => false
  | _ => true

def isEff : AV → Bool
  | .gd false _ => true
  | _ => false

section
variable (gl : Nat → AV) (orc : FuncId → List AV → AV) (R : Rc) (ye : YE)

def xcallP (e : Opd → AV) (m : AM) (f : Opd) (args : List Opd) : Option AV :=
  match e f with
  | .fn f first cap => let r := orc f ((first ++ args.map e ++ cap).map (cvn m 6)); okIf (pureV r && (!((first ++ args.map e ++ cap).any (hasP 6)) || flat r)) r
  | _ => none

/-- An operation in the text's order. -/
def xop (e : Opd → AV) (m : AM) : SOp → Option (AV × AM)
  | .call f args => (match e f with
    | .yld l => (match xyld R l (args.map e) m ye with | some (b, m') => some (.bool b, m') | none => none)
    | .fn g first cap => bif isEff (orc g ((first ++ args.map e ++ cap).map (cvn m 6))) then R.fn ye g (first ++ args.map e ++ cap) m
        else (match xcallP orc e m f args with | some v => some (v, m) | none => none)
    | _ => none)
  | so => sopB (mutB orc) e m so

/-- An operation that leaves the memory. -/
def xrop (e : Opd → AV) (m : AM) : SOp → Option AV
  | .call f args => xcallP orc e m f args
  | so => ropB e m so

def gokB (T : List AV) (g : Bool) : List Opd → Bool
  | [] => true
  | x :: r => (match ev gl T x with | .gd g' _ => !g || g' | _ => true) && gokB T g r

/-- Is it a call that shares memory? -/
def effyB (e : Opd → AV) (m : AM) : SOp → Bool
  | .call f args => (match e f with
    | .yld _ => true
    | .fn g first cap => isEff (orc g ((first ++ args.map e ++ cap).map (cvn m 6)))
    | _ => false)
  | _ => false

end

section
variable (P : Program) (gl : Nat → AV) (orc : FuncId → List AV → AV) (R : Rc) (ye : YE)

def xops : List SO → AS → Option AS
  | [], s => some s
  | o :: rest, s => match o.guard with
    | none => (match xop orc R ye (ev gl s.T) s.m o.op with
      | some (v, m') => xops rest ⟨put s.T o.dst v, m'⟩
      | none => none)
    | some (some t, want) => (match gvw want (s.T.getD t .junk) with
      | some gw => bif gokB gl s.T gw (gxs o.op o.xs) then
          (bif gw then
            (bif effyB orc (evG gl s.T o.op) s.m o.op then
              (match xop orc R ye (evG gl s.T o.op) s.m o.op with
              | some (v, m') => xops rest ⟨put s.T o.dst (.gd true v), m'⟩
              | none => none)
            else (match xrop orc (evG gl s.T o.op) s.m o.op with
              | some v => xops rest ⟨put s.T o.dst (.gd true v), s.m⟩
              | none => none))
          else bif effyB orc (evG gl s.T o.op) s.m o.op then xops rest ⟨put s.T o.dst (.gd false (.bool false)), s.m⟩
            else xops rest ⟨put s.T o.dst (.gd false (rop P gl (fun _ => orc) (evG gl s.T o.op) s.m o.dst o.op).2), s.m⟩)
        else none
      | _ => none)
    | some (none, _) => none

def xdrw (l2 : List SO) : List SO → List AV → AM → List (List AV) → Option AS
  | [], T, m, nb => xops P gl orc R ye l2 ⟨T, { m with boxes := m.boxes ++ nb }⟩
  | o :: r, T, m, nb => match o.guard with
    | none => (match o.op with
      | .alloc zs => bif zs.all isCell then xdrw l2 r (put T o.dst (.ptr (m.boxes.length + nb.length) 0)) m (nb ++ [zs]) else none
      | .box x => bif bare (ev gl T x) && (cellsOf (ev gl T x)).all isCell then xdrw l2 r (put T o.dst (.ptr (m.boxes.length + nb.length) 0)) m (nb ++ [cellsOf (ev gl T x)]) else none
      | op => (match xrop orc (ev gl T) m op with
        | some v => xdrw l2 r (put T o.dst v) m nb
        | none => none))
    | some (some t, want) => (match gvw want (T.getD t .junk) with
      | some gw => bif gokB gl T gw (gxs o.op o.xs) then
          (bif gw then (match xrop orc (evG gl T o.op) m o.op with
            | some v => xdrw l2 r (put T o.dst (.gd true v)) m nb
            | none => none)
          else xdrw l2 r (put T o.dst (.gd false (rop P gl (fun _ => orc) (evG gl T o.op) m o.dst o.op).2)) m nb)
        else none
      | _ => none)
    | some (none, _) => none

/-- Are two values seen to be one? -/
def eqL {α : Type} (f : α → α → Bool) : List α → List α → Bool
  | [], [] => true
  | a :: r, b :: r' => f a b && eqL f r r'
  | _, _ => false

def eqRt : Rt → Rt → Bool
  | .ro, .ro => true
  | .full, .full => true
  | .nil, .nil => true
  | .nn, .nn => true
  | .own i s, .own i' s' => (i == i') && (s == s')
  | _, _ => false

def eqAV : Nat → AV → AV → Bool
  | 0, _, _ => false
  | d + 1, a, b => match a, b with
    | .bool x, .bool y => x == y
    | .int k n, .int k' n' => decide (k = k') && decide (n = n')
    | .str s, .str t => s.data.toList == t.data.toList
    | .agg cs, .agg ds => eqL (eqAV d) cs ds
    | .sl rt rows, .sl rt' rows' => eqRt rt rt' && eqL (eqL (eqAV d)) rows rows'
    | .ptr i o, .ptr i' o' => (i == i') && (o == o')
    | .bs i o n z, .bs i' o' n' z' => (i == i') && (o == o') && (n == n') && (z == z')
    | .ep row o, .ep row' o' => (o == o') && eqL (eqAV d) row row'
    | .mp i, .mp i' => i == i'
    | .yld i, .yld i' => i == i'
    | .nilfn, .nilfn => true
    | .nilv p, .nilv q => p == q
    | .fn f a b, .fn f' a' b' => decide (f = f') && eqL (eqAV d) a a' && eqL (eqAV d) b b'
    | _, _ => false

/-- Does an operation give the same in both memories? -/
def stab (e : Opd → AV) (m m1 : AM) : SOp → Bool
  | .load _ _ x => (match e x with | .ptr id _ => eqL (eqAV 6) (m1.boxes.getD id []) (m.boxes.getD id []) | _ => true)
  | .call f args => (match e f with | .fn g first cap => !((first ++ args.map e ++ cap).any (hasP 6)) && pureV (orc g ((first ++ args.map e ++ cap).map (cvn m 6))) | _ => true)
  | .bsl _ _ _ => false
  | .look _ _ _ _ => false
  | .slA _ _ x _ _ => (match e x with | .ptr id _ => Nat.beq (m1.boxes.getD id []).length (m.boxes.getD id []).length && Nat.beq m1.boxes.length m.boxes.length | _ => true)
  | .b2s x => (match e x with | .bs _ _ _ _ => false | _ => true)
  | _ => true

def xdrE (l2 : List SO) (m : AM) : List SO → List Fg → AM → List (AV × AM) → List AV → List (SOp × List AV) → Option AS
  | [], _, mc, ms, T, acc => bif acc.all (fun q => ms.all fun x => stab orc (ev gl q.2) m x.2 q.1) then xops P gl orc R ye l2 ⟨T, mc⟩ else none
  | _ :: _, [], _, _, _, _ => none
  | o :: r, .eff :: fl, mc, ms, T, acc => (match o.op with
    | .call f args => (match ev gl T f with
      | .fn g first cap => (match R.fn ye g (first ++ args.map (ev gl T) ++ cap) mc with
        | some (av, m1) => xdrE l2 m r fl m1 (ms ++ [(av, m1)]) (put T o.dst av) acc
        | none => none)
      | _ => none)
    | so => bif memEff so then (match sopB (mutB orc) (ev gl T) mc so with
      | some (_, m1) => xdrE l2 m r fl m1 (ms ++ [(.junk, m1)]) (put T o.dst .junk) acc
      | none => none) else none)
  | o :: r, .pre :: fl, mc, ms, T, acc => (match xrop orc (ev gl T) m o.op with
    | some v => xdrE l2 m r fl mc ms (put T o.dst v) acc
    | none => none)
  | o :: r, .oth :: fl, mc, ms, T, acc => (match xrop orc (ev gl T) m o.op with
    | some v => xdrE l2 m r fl mc ms (put T o.dst v) ((o.op, T) :: acc)
    | none => none)

/-- The code of the functions, by their numbers. -/
abbrev Tab := FuncId → Option (SC × List SOp × Nat)

def retB (s : AS) : List SOp → Option (List AV)
  | [] => some []
  | o :: r => (match ropB (ev gl s.T) s.m o with
    | some v => (match retB s r with | some l => some (v :: l) | none => none)
    | none => none)

def xcode (sc : SC) (s : AS) : Option (Exit × AS) :=
  match sc with
  | .skip => some (.normal, s)
  | .ops l => (match xops P gl orc R ye l s with | some s' => some (.normal, s') | none => none)
  | .draw l l2 => (match xdrw P gl orc R ye l2 l s.T s.m [] with | some s' => some (.normal, s') | none => none)
  | .drawE fl l l2 => (match xdrE P gl orc R ye l2 s.m l fl s.m [] s.T [] with
    | some s' => some (.normal, s')
    | none => (match xdrw P gl orc R ye l2 l s.T s.m [] with | some s' => some (.normal, s') | none => none))
  | .seq a b => (match R.code ye a s with
    | some (.normal, s') => R.code ye b s'
    | r => r)
  | .cond x a b => (match ev gl s.T x with
    | .bool t => R.code ye (bif t then a else b) s
    | _ => none)
  | .block id c => (match R.code ye c s with
    | some (.exit id', s') => bif Nat.beq id' id then some (.normal, s') else some (.exit id', s')
    | r => r)
  | .loop c => (match R.code ye c s with
    | some (.normal, s') => R.code ye (.loop c) s'
    | r => r)
  | .exit id => some (.exit id, s)
  | .scope c => (match R.code ye c s with
    | some (.goto _, _) => none
    | r => r)
  | .rfunc g ps asg body => (match ev gl s.T g with
    | .fn f first cap => (match R.fn (.cons s.m.ln s.T ps asg body ye) f (first ++ [.yld s.m.ln] ++ cap) s.m.begin_ with
      | some (_, m') => (match m'.st s.m.ln with
        | .ready => some (.normal, ⟨s.T, m'.at_ s.m.ln .gone⟩)
        | .done ex => some (ex, ⟨s.T, m'.at_ s.m.ln .gone⟩)
        | _ => none)
      | none => none)
    | _ => none)
  | .ret => some (.ret, s)
  | .bad => none

def xfn (tab : Tab) (f : FuncId) (as : List AV) (m : AM) : Option (AV × AM) :=
  match tab f with
  | some (sc, rs, n) => (match R.code ye sc ⟨as ++ List.replicate (n - as.length) .junk, m⟩ with
    | some (.normal, s) => (match retB gl s rs with | some l => some (oneOf l, s.m) | none => none)
    | some (.ret, s) => (match retB gl s rs with | some l => some (oneOf l, s.m) | none => none)
    | _ => none)
  | none => none
end

/-- The run, with fuel. -/
def xrun (P : Program) (gl : Nat → AV) (orc : FuncId → List AV → AV) (tab : Tab) (n : Nat) : Rc :=
  Nat.rec ⟨fun _ _ _ => none, fun _ _ _ _ => none⟩ (fun _ R => ⟨fun ye sc s => xcode P gl orc R ye sc s, fun ye f as m => xfn gl R ye tab f as m⟩) n

/-- A function that only computes. -/
def xpure (P : Program) (gl : Nat → AV) (orc : FuncId → List AV → AV) (tab : Tab) (n : Nat) (f : FuncId) (as : List AV) : AV :=
  match (xrun P gl orc tab n).fn .nil f as ⟨[], [], fun _ => .gone, 0⟩ with
  | some (r, m) => cvn m 6 r
  | none => .junk

section
variable {P : Program} {gl : Nat → AV} {orc : FuncId → List AV → AV}

def YofE (P : Program) (gl : Nat → AV) (orc : FuncId → List AV → AV) : YE → YT
  | .nil => Y0
  | .cons l T ps asg body rest => Yin (YofE P gl orc rest) l ps.length fun args m K => vc P gl (fun _ => orc) (YofE P gl orc rest) asg ⟨setPs T ps args, m⟩ (Qasg l fun s' => vc P gl (fun _ => orc) (YofE P gl orc rest) body s' (Qrnd l K))

def OrcOK (P : Program) (gl : Nat → AV) (orc : FuncId → List AV → AV) : Prop := ∀ f as, pureV (orc f as) = true → Pure P gl f as (orc f as)
def TabOK (P : Program) (tab : Tab) : Prop := ∀ f sc rs n, tab f = some (sc, rs, n) → FCode P f sc rs n

def CodeOK (P : Program) (gl : Nat → AV) (orc : FuncId → List AV → AV) (R : Rc) : Prop := ∀ ye sc s ex s', R.code ye sc s = some (ex, s') → ∀ Q : Exit → AS → Prop, Q ex s' → vc P gl (fun _ => orc) (YofE P gl orc ye) sc s Q
def FnOK (P : Program) (gl : Nat → AV) (orc : FuncId → List AV → AV) (R : Rc) : Prop := ∀ ye f as m r m', R.fn ye f as m = some (r, m') → ∀ K : AV → AM → Prop, K r m' → EffY P gl (YofE P gl orc ye) f as m K

theorem xyld_ok {R : Rc} (hR : CodeOK P gl orc R) {l : Nat} {args : List AV} {m : AM} : ∀ {ye : YE} {b : Bool} {m' : AM}, xyld R l args m ye = some (b, m') → ∀ K : Bool → AM → Prop, K b m' → YofE P gl orc ye l args m K
  | .nil, _, _, h, _, _ => by cases h
  | .cons l0 T ps asg body rest, b, m', h, K, hK => by
    simp only [xyld] at h
    simp only [YofE, Yin]
    cases hl : Nat.beq l l0 with
    | false =>
      simp [hl] at h
      have : l ≠ l0 := by rintro rfl; simp [Nat.beq_refl] at hl
      rw [if_neg this]
      exact xyld_ok hR h K hK
    | true =>
      simp [hl] at h
      obtain rfl := Nat.eq_of_beq_eq_true hl
      rw [if_pos rfl]
      split at h
      case h_2 => cases h
      rename_i hst hlen
      refine ⟨hst, Nat.eq_of_beq_eq_true hlen, ?_⟩
      split at h
      case h_2 => cases h
      rename_i s1 h1
      split at h
      case h_2 => cases h
      rename_i hst1
      refine hR _ _ _ _ _ h1 _ ⟨hst1, ?_⟩
      split at h
      · rename_i s2 h2; cases h; exact hR _ _ _ _ _ h2 _ hK
      · rename_i s2 h2; cases h; exact hR _ _ _ _ _ h2 _ hK
      · rename_i id s2 h2; cases h; exact hR _ _ _ _ _ h2 _ hK
      · cases h

theorem pureV_callV {f : FuncId} {as : List AV} {m : AM} {r : AV} (h : pureV r = true) : callV P gl f as m r = (Pure P gl f (as.map (cvn m 6)) r ∧ (as.any (hasP 6) = true → flat r = true), r) := by
  cases r <;> first | rfl | simp [pureV] at h

theorem xcallP_ok (hO : OrcOK P gl orc) {e : Opd → AV} {m : AM} {dst : Option Nat} {f : Opd} {args : List Opd} {v : AV} (h : xcallP orc e m f args = some v) :
    (rop P gl (fun _ => orc) e m dst (.call f args)).1 ∧ (rop P gl (fun _ => orc) e m dst (.call f args)).2 = v := by
  simp only [xcallP, rop] at h ⊢
  generalize e f = X at h ⊢
  split at h
  · obtain ⟨h1, h2⟩ := okIf_some h
    simp only [Bool.and_eq_true, Bool.or_eq_true, Bool.not_eq_true'] at h1
    simp only [pureV_callV h1.1]
    refine ⟨⟨hO _ _ h1.1, fun ha => ?_⟩, h2⟩
    rcases h1.2 with h3 | h3
    · rw [ha] at h3; cases h3
    · exact h3
  · cases h

theorem xrop_ok (hO : OrcOK P gl orc) {e : Opd → AV} {m : AM} {dst : Option Nat} {so : SOp} {v : AV} (h : xrop orc e m so = some v) :
    (rop P gl (fun _ => orc) e m dst so).1 ∧ (rop P gl (fun _ => orc) e m dst so).2 = v := by
  cases so <;> first | exact xcallP_ok hO h | exact ropB_ok h

theorem effyB_eq {e : Opd → AV} {m : AM} {dst : Option Nat} {so : SOp} : effy (fun _ => orc) e m dst so = effyB orc e m so := by
  cases so with
  | call f args =>
    simp only [effy, effyB]
    generalize e f = X
    cases X <;> first | rfl | (simp only [isEff]; rfl)
  | _ => rfl

theorem xop_eff {R : Rc} (hC : CodeOK P gl orc R) (hF : FnOK P gl orc R) {ye : YE} {e : Opd → AV} {m : AM} {so : SOp} {v : AV} {m' : AM} (h : xop orc R ye e m so = some (v, m')) (he : effyB orc e m so = true) (K : AV → AM → Prop) (hK : K v m') :
    vcEff P gl (YofE P gl orc ye) e m K so := by
  cases so with
  | call f args =>
    simp only [xop, vcEff, effyB] at h he ⊢
    generalize e f = X at h he ⊢
    cases X with
    | yld l =>
      simp only at h ⊢
      split at h
      · rename_i b m1 h1
        cases h
        exact xyld_ok hC h1 _ hK
      · cases h
    | fn g first cap =>
      simp only at h he ⊢
      simp only [he, cond_true] at h
      exact hF _ _ _ _ _ _ h K hK
    | _ => cases he
  | _ => cases he

theorem xop_sop (hO : OrcOK P gl orc) {R : Rc} {ye : YE} {e : Opd → AV} {m : AM} {dst : Option Nat} {so : SOp} {p : AV × AM} (h : xop orc R ye e m so = some p) (he : effyB orc e m so = false) :
    (sop P gl (fun _ => orc) e m dst so).1 ∧ (sop P gl (fun _ => orc) e m dst so).2 = p := by
  cases so with
  | call f args =>
    simp only [effyB] at he
    simp only [xop] at h
    have key : (match xcallP orc e m f args with | some v => some (v, m) | none => none) = some p → (sop P gl (fun _ => orc) e m dst (.call f args)).1 ∧ (sop P gl (fun _ => orc) e m dst (.call f args)).2 = p := fun h => by
      split at h
      · rename_i v hv
        cases h
        have := xcallP_ok (P := P) (gl := gl) hO (dst := dst) hv
        exact ⟨this.1, by simp only [sop, this.2]⟩
      · cases h
    revert h he
    cases hX : e f with
    | yld l => intro h he; cases he
    | fn g first cap =>
      intro h he
      simp only [he, cond_false] at h
      exact key h
    | _ => intro h; cases h
  | _ => exact sopB_ok rfl h

theorem gokB_ok {T : List AV} {g : Bool} : ∀ {xs : List Opd}, gokB gl T g xs = true → gok gl T g xs
  | [], _ => trivial
  | x :: r, h => by
    simp only [gokB, Bool.and_eq_true] at h
    refine ⟨?_, gokB_ok h.2⟩
    have h1 := h.1
    generalize ev gl T x = X at h1 ⊢
    cases X with
    | gd g' a => intro hg; simpa [hg] using h1
    | _ => trivial

theorem xops_ok (hO : OrcOK P gl orc) {R : Rc} (hC : CodeOK P gl orc R) (hF : FnOK P gl orc R) {ye : YE} : ∀ {l : List SO} {s s' : AS}, xops P gl orc R ye l s = some s' → ∀ K : AS → Prop, K s' → vcOps P gl (fun _ => orc) (YofE P gl orc ye) l s K
  | [], s, s', h, K, hK => by cases h; exact hK
  | o :: rest, s, s', h, K, hK => by
    simp only [xops] at h
    simp only [vcOps]
    cases hg : o.guard with
    | none =>
      simp only [hg] at h ⊢
      split at h
      case h_2 => cases h
      rename_i v m1 h1
      cases hE : effyB orc (ev gl s.T) s.m o.op with
      | true =>
        rw [if_pos (by rw [effyB_eq]; exact hE)]
        exact xop_eff hC hF h1 hE _ (xops_ok hO hC hF h K hK)
      | false =>
        rw [if_neg (by rw [effyB_eq, hE]; simp)]
        have := xop_sop (P := P) (gl := gl) hO (dst := o.dst) h1 hE
        refine ⟨this.1, ?_⟩
        rw [this.2]
        exact xops_ok hO hC hF h K hK
    | some q =>
      obtain ⟨t, want⟩ := q
      cases t with
      | none => simp [hg] at h
      | some t =>
        simp only [hg] at h ⊢
        split at h
        case h_2 => cases h
        rename_i gw hgt
        try simp only [hgt]
        cases hgo : gokB gl s.T gw (gxs o.op o.xs) with
        | false => simp [hgo] at h
        | true =>
          simp only [hgo, cond_true] at h
          refine ⟨gokB_ok hgo, ?_⟩
          cases hgw : gw with
          | true =>
            simp only [hgw, cond_true] at h
            cases hE : effyB orc (evG gl s.T o.op) s.m o.op with
            | true =>
              rw [if_pos (by rw [effyB_eq]; exact hE)]
              simp only [hE, cond_true] at h
              split at h
              case h_2 => cases h
              rename_i v m1 h1
              exact ⟨fun _ => xop_eff hC hF h1 hE _ (xops_ok hO hC hF h K hK), fun h => (by cases h)⟩
            | false =>
              rw [if_neg (by rw [effyB_eq, hE]; simp)]
              simp only [hE, cond_false] at h
              split at h
              case h_2 => cases h
              rename_i v h1
              have := xrop_ok (P := P) (gl := gl) hO (dst := o.dst) h1
              refine ⟨fun _ => this.1, ?_⟩
              rw [this.2]
              exact xops_ok hO hC hF h K hK
          | false =>
            simp only [hgw, cond_false] at h
            cases hE : effyB orc (evG gl s.T o.op) s.m o.op with
            | true =>
              rw [if_pos (by rw [effyB_eq]; exact hE)]
              simp only [hE, cond_true] at h
              exact ⟨fun h => (by cases h), fun _ => xops_ok hO hC hF h K hK⟩
            | false =>
              rw [if_neg (by rw [effyB_eq, hE]; simp)]
              simp only [hE, cond_false] at h
              exact ⟨fun h => (by cases h), xops_ok hO hC hF h K hK⟩

theorem xdrw_ok (hO : OrcOK P gl orc) {R : Rc} (hC : CodeOK P gl orc R) (hF : FnOK P gl orc R) {ye : YE} {l2 : List SO} : ∀ {l : List SO} {T : List AV} {m : AM} {nb : List (List AV)} {s' : AS}, xdrw P gl orc R ye l2 l T m nb = some s' → ∀ K : AS → Prop, K s' →
    vcD P gl (fun _ => orc) (YofE P gl orc ye) l2 K l T m nb
  | [], T, m, nb, s', h, K, hK => xops_ok hO hC hF h K hK
  | o :: r, T, m, nb, s', h, K, hK => by
    simp only [xdrw] at h
    simp only [vcD, dop]
    cases hg : o.guard with
    | none =>
      simp only [hg] at h ⊢
      have gen : ∀ op, (match xrop orc (ev gl T) m op with
          | some v => xdrw P gl orc R ye l2 r (put T o.dst v) m nb
          | none => none) = some s' → (rop P gl (fun _ => orc) (ev gl T) m o.dst op).1 ∧ vcD P gl (fun _ => orc) (YofE P gl orc ye) l2 K r (put T o.dst (rop P gl (fun _ => orc) (ev gl T) m o.dst op).2) m nb := fun op h => by
        split at h
        case h_2 => cases h
        rename_i v h1
        have := xrop_ok (P := P) (gl := gl) hO (dst := o.dst) h1
        refine ⟨this.1, ?_⟩
        rw [this.2]
        exact xdrw_ok hO hC hF h K hK
      cases hop : o.op with
      | alloc zs =>
        simp only [hop] at h ⊢
        cases hz : zs.all isCell with
        | false => simp [hz] at h
        | true => simp only [hz, cond_true] at h; exact ⟨rfl, xdrw_ok hO hC hF h K hK⟩
      | box x =>
        simp only [hop] at h ⊢
        cases hz : (bare (ev gl T x) && (cellsOf (ev gl T x)).all isCell) with
        | false => simp [hz] at h
        | true =>
          simp only [hz, cond_true] at h
          simp only [Bool.and_eq_true] at hz
          exact ⟨hz, xdrw_ok hO hC hF h K hK⟩
      | _ => simp only [hop] at h ⊢; exact gen _ h
    | some q =>
      obtain ⟨t, want⟩ := q
      cases t with
      | none => simp [hg] at h
      | some t =>
        simp only [hg] at h ⊢
        split at h
        case h_2 => cases h
        rename_i gw hgt
        try simp only [hgt]
        cases hgo : gokB gl T gw (gxs o.op o.xs) with
        | false => simp [hgo] at h
        | true =>
          simp only [hgo, cond_true] at h
          cases hgw : gw with
          | true =>
            rw [hgw] at hgo
            simp only [hgw, cond_true] at h
            split at h
            case h_2 => cases h
            rename_i v h1
            have := xrop_ok (P := P) (gl := gl) hO (dst := o.dst) h1
            refine ⟨⟨gokB_ok hgo, fun _ => this.1⟩, ?_⟩
            rw [this.2]
            exact xdrw_ok hO hC hF h K hK
          | false =>
            rw [hgw] at hgo
            simp only [hgw, cond_false] at h
            exact ⟨⟨gokB_ok hgo, fun h => (by cases h)⟩, xdrw_ok hO hC hF h K hK⟩

theorem eqL_ok {α : Type} {f : α → α → Bool} (hf : ∀ a b, f a b = true → a = b) : ∀ {l l' : List α}, eqL f l l' = true → l = l'
  | [], [], _ => rfl
  | [], _ :: _, h => by cases h
  | _ :: _, [], h => by cases h
  | a :: r, b :: r', h => by
    simp only [eqL, Bool.and_eq_true] at h
    rw [hf a b h.1, eqL_ok hf h.2]

theorem eqRt_ok {a b : Rt} (h : eqRt a b = true) : a = b := by
  cases a <;> cases b <;> simp [eqRt] at h <;> first | rfl | (obtain ⟨rfl, rfl⟩ := h; rfl)

theorem eqAV_ok : ∀ d a b, eqAV d a b = true → a = b
  | 0, _, _, h => by cases h
  | d + 1, a, b, h => by
    have ih := eqAV_ok d
    unfold eqAV at h
    split at h
    · rw [eq_of_beq h]
    · simp only [Bool.and_eq_true, decide_eq_true_eq] at h; rw [h.1, h.2]
    · rename_i s t
      have := eq_of_beq h
      cases s; cases t
      simp only at this
      rw [Array.toList_inj.1 this]
    · rw [eqL_ok ih h]
    · simp only [Bool.and_eq_true] at h; rw [eqRt_ok h.1, eqL_ok (fun a b => eqL_ok ih) h.2]
    · simp only [Bool.and_eq_true, beq_iff_eq] at h; rw [h.1, h.2]
    · simp only [Bool.and_eq_true, beq_iff_eq] at h; rw [h.1.1.1, h.1.1.2, h.1.2, h.2]
    · simp only [Bool.and_eq_true, beq_iff_eq] at h; rw [h.1, eqL_ok ih h.2]
    · rw [eq_of_beq h]
    · rw [eq_of_beq h]
    · rfl
    · rw [eq_of_beq h]
    · simp only [Bool.and_eq_true, decide_eq_true_eq] at h; rw [h.1.1, eqL_ok ih h.1.2, eqL_ok ih h.2]
    · cases h

theorem cvn_noP {m m1 : AM} : ∀ d a, hasP d a = false → cvn m d a = cvn m1 d a
  | 0, _, h => by cases h
  | d + 1, a, h => by
    have ih := cvn_noP (m := m) (m1 := m1) d
    have hl : ∀ l : List AV, l.any (hasP d) = false → l.map (cvn m d) = l.map (cvn m1 d) := fun l hl => List.map_congr_left fun a ha => ih a (by
      rw [List.any_eq_false] at hl; simpa using hl a ha)
    cases a with
    | agg cs => simp only [hasP] at h; simp only [cvn, hl cs h]
    | tup cs => simp only [hasP] at h; simp only [cvn, hl cs h]
    | fn f x y => simp only [hasP, Bool.or_eq_false_iff] at h; simp only [cvn, hl x h.1, hl y h.2]
    | ptr i o => cases h
    | bs i o n z => cases h
    | sl rt rows => cases rt <;> rfl
    | _ => rfl

theorem stab_ok {e : Opd → AV} {m m1 : AM} {dst : Option Nat} {so : SOp} (h : stab orc e m m1 so = true) : rop P gl (fun _ => orc) e m1 dst so = rop P gl (fun _ => orc) e m dst so := by
  cases so with
  | load agg n x =>
    simp only [stab, rop] at h ⊢
    generalize e x = X at h ⊢
    cases X <;> first | rfl | (simp only; rw [eqL_ok (eqAV_ok 6) h])
  | call f args =>
    simp only [stab, rop] at h ⊢
    generalize e f = X at h ⊢
    cases X with
    | fn g first cap =>
      simp only [Bool.and_eq_true, Bool.not_eq_true'] at h ⊢
      have hm : (first ++ args.map e ++ cap).map (cvn m1 6) = (first ++ args.map e ++ cap).map (cvn m 6) := List.map_congr_left fun a ha => cvn_noP 6 a (by
        have := h.1; rw [List.any_eq_false] at this; simpa using this a ha)
      rw [hm, pureV_callV h.2, pureV_callV h.2, hm]
    | _ => rfl
  | bsl a b c => cases h
  | look a b c d => cases h
  | slA n sz x lo hi =>
    simp only [stab, rop] at h ⊢
    generalize e x = X at h ⊢
    cases X <;> first | rfl | skip
    simp only [Bool.and_eq_true] at h ⊢
    have h1 := Nat.eq_of_beq_eq_true h.1
    have h2 := Nat.eq_of_beq_eq_true h.2
    simp only [h1, h2]
  | b2s x =>
    simp only [stab, rop] at h ⊢
    generalize e x = X at h ⊢
    cases X <;> first | rfl | cases h
  | _ => rfl

theorem sopB_store {orc : Nat → FuncId → List AV → AV} {dst : Option Nat} {e : Opd → AV} {m : AM} {n : Nat} {x v : Opd} {p : AV × AM} (h : sopB false e m (.store n x v) = some p) : (sop P gl orc e m dst (.store n x v)).1 ∧ (sop P gl orc e m dst (.store n x v)).2 = p := by
  have h' : sopB (mutO orc dst) e m (.store n x v) = some p := h
  exact sopB_ok rfl h'

theorem xdrE_ok (hO : OrcOK P gl orc) {R : Rc} (hC : CodeOK P gl orc R) (hF : FnOK P gl orc R) {ye : YE} {l2 : List SO} {m : AM} : ∀ {l : List SO} {fl : List Fg} {mc : AM} {ms : List (AV × AM)} {T : List AV} {acc : List (SOp × List AV)} {s' : AS}, xdrE P gl orc R ye l2 m l fl mc ms T acc = some s' → ∀ K : AS → Prop, K s' →
    ∃ q, acc.all (fun a => (ms ++ q).all fun x => stab orc (ev gl a.2) m x.2 a.1) = true ∧ vcE P gl (fun _ => orc) (YofE P gl orc ye) l2 K m (ms ++ q) l fl q mc T
  | [], fl, mc, ms, T, acc, s', h, K, hK => by
    simp only [xdrE] at h
    cases ha : acc.all (fun q => ms.all fun x => stab orc (ev gl q.2) m x.2 q.1) with
    | false => simp [ha] at h
    | true =>
      simp only [ha, cond_true] at h
      refine ⟨[], by simpa using ha, ?_⟩
      unfold vcE
      exact ⟨rfl, xops_ok hO hC hF h K hK⟩
  | o :: r, [], mc, ms, T, acc, s', h, K, hK => by simp [xdrE] at h
  | o :: r, .eff :: fl, mc, ms, T, acc, s', h, K, hK => by
    have mem : ∀ so, o.op = so → (∀ f args, so ≠ .call f args) → (bif memEff so then (match sopB (mutB orc) (ev gl T) mc so with
      | some (_, m1) => xdrE P gl orc R ye l2 m r fl m1 (ms ++ [(.junk, m1)]) (put T o.dst .junk) acc
      | none => none) else none) = some s' → ∃ q, acc.all (fun a => (ms ++ q).all fun x => stab orc (ev gl a.2) m x.2 a.1) = true ∧ vcE P gl (fun _ => orc) (YofE P gl orc ye) l2 K m (ms ++ q) (o :: r) (.eff :: fl) q mc T := fun so hso hnc h => by
      cases hme : memEff so with
      | false => simp [hme] at h
      | true =>
        simp only [hme, cond_true] at h
        split at h
        case h_2 => cases h
        rename_i av m1 hst
        obtain ⟨q, q1, q2⟩ := xdrE_ok hO hC hF h K hK
        have h1 := sopB_ok (P := P) (gl := gl) (orc := fun _ => orc) (dst := o.dst) (mu := mutB orc) rfl hst
        refine ⟨(.junk, m1) :: q, by simpa using q1, ?_⟩
        rw [List.append_assoc] at q2
        simp only [vcE]
        refine ⟨?_, q2⟩
        rw [hso]
        cases so <;> first | (exact absurd rfl (hnc _ _)) | exact ⟨hme, h1.1, rfl, by rw [h1.2]⟩
    simp only [xdrE] at h
    split at h
    · rename_i f args hop
      split at h
      case h_2 => cases h
      rename_i g first cap hev
      split at h
      case h_2 => cases h
      rename_i av m1 hfn
      obtain ⟨q, q1, q2⟩ := xdrE_ok hO hC hF h K hK
      refine ⟨(av, m1) :: q, by simpa using q1, ?_⟩
      rw [List.append_assoc] at q2
      simp only [vcE, effC, hop, hev]
      exact ⟨hF _ _ _ _ _ _ hfn _ ⟨rfl, rfl⟩, q2⟩
    · rename_i hno
      exact mem _ rfl (fun f args hf => hno f args hf) h
  | o :: r, .pre :: fl, mc, ms, T, acc, s', h, K, hK => by
    simp only [xdrE] at h
    split at h
    case h_2 => cases h
    rename_i v hv
    obtain ⟨q, q1, q2⟩ := xdrE_ok hO hC hF h K hK
    have h1 := xrop_ok (P := P) (gl := gl) hO (dst := o.dst) hv
    refine ⟨q, q1, ?_⟩
    simp only [vcE]
    exact ⟨h1.1, by rw [h1.2]; exact q2⟩
  | o :: r, .oth :: fl, mc, ms, T, acc, s', h, K, hK => by
    simp only [xdrE] at h
    split at h
    case h_2 => cases h
    rename_i v hv
    obtain ⟨q, q1, q2⟩ := xdrE_ok hO hC hF h K hK
    simp only [List.all_cons, Bool.and_eq_true] at q1
    have h1 := xrop_ok (P := P) (gl := gl) hO (dst := o.dst) hv
    refine ⟨q, q1.2, ?_⟩
    simp only [vcE]
    exact ⟨h1.1, fun x hx => stab_ok (List.all_eq_true.1 q1.1 x hx), by rw [h1.2]; exact q2⟩

theorem retB_ok {s : AS} : ∀ {rs : List SOp} {l : List AV}, retB gl s rs = some l → (retL P gl (fun _ => orc) s rs).1 ∧ (retL P gl (fun _ => orc) s rs).2 = l
  | [], l, h => by cases h; exact ⟨trivial, rfl⟩
  | o :: r, l, h => by
    simp only [retB] at h
    split at h
    case h_2 => cases h
    rename_i v hv
    split at h
    case h_2 => cases h
    rename_i l' hl
    cases h
    have h1 := ropB_ok (P := P) (gl := gl) (orc := fun _ => orc) (dst := none) hv
    have h2 := retB_ok hl
    exact ⟨⟨h1.1, h2.1⟩, by simp only [retL, h1.2, h2.2]⟩

theorem least_ex {p : Nat → Prop} : ∀ k, p k → ∃ k, p k ∧ ∀ j, p j → k ≤ j := fun k => by
  induction k using Nat.strongRecOn with
  | _ k ih =>
    intro hk
    by_cases h : ∃ j, j < k ∧ p j
    · obtain ⟨j, h1, h2⟩ := h; exact ih j h1 h2
    · exact ⟨k, hk, fun j hj => Nat.le_of_not_lt fun h' => h ⟨j, h', hj⟩⟩

open Classical in
noncomputable def leastOf (p : Nat → Prop) : Nat := if h : ∃ k, p k ∧ ∀ j, p j → k ≤ j then Classical.choose h else 0

theorem leastOf_ok {p : Nat → Prop} (h : ∃ k, p k) : p (leastOf p) ∧ ∀ j, p j → leastOf p ≤ j := by
  have h' : ∃ k, p k ∧ ∀ j, p j → k ≤ j := let ⟨k, hk⟩ := h; least_ex k hk
  unfold leastOf
  rw [dif_pos h']
  exact Classical.choose_spec h'

theorem xrun_succ (tab : Tab) (n : Nat) : xrun P gl orc tab (n + 1) = ⟨fun ye sc s => xcode P gl orc (xrun P gl orc tab n) ye sc s, fun ye f as m => xfn gl (xrun P gl orc tab n) ye tab f as m⟩ := rfl

theorem xrun_ok (hO : OrcOK P gl orc) {tab : Tab} (hT : TabOK P tab) (n : Nat) : CodeOK P gl orc (xrun P gl orc tab n) ∧ FnOK P gl orc (xrun P gl orc tab n) := by
  induction n using Nat.strongRecOn with
  | _ n ih =>
    cases n with
    | zero => exact ⟨fun _ _ _ _ _ h => (by cases h), fun _ _ _ _ _ _ h => (by cases h)⟩
    | succ n =>
      obtain ⟨hC, hF⟩ := ih n (by omega)
      rw [xrun_succ]
      refine ⟨fun ye sc s ex s' h Q hQ => ?_, fun ye f as m r m' h K hK => ?_⟩
      · simp only at h
        cases sc with
        | skip => cases h; exact hQ
        | ops l =>
          simp only [xcode] at h
          split at h
          case h_2 => cases h
          rename_i s1 h1
          cases h
          exact xops_ok hO hC hF h1 _ hQ
        | draw l l2 =>
          simp only [xcode] at h
          split at h
          case h_2 => cases h
          rename_i s1 h1
          cases h
          exact xdrw_ok hO hC hF h1 _ hQ
        | drawE j l l2 =>
          simp only [xcode] at h
          split at h
          · rename_i s1 h1
            cases h
            obtain ⟨q, _, h3⟩ := xdrE_ok hO hC hF h1 _ hQ
            exact .inr ⟨q, h3⟩
          · split at h
            case h_2 => cases h
            rename_i s1 h1
            cases h
            exact .inl (xdrw_ok hO hC hF h1 _ hQ)
        | seq a b =>
          simp only [xcode] at h
          split at h
          · rename_i s1 h1
            exact hC _ _ _ _ _ h1 _ (hC _ _ _ _ _ h _ hQ)
          · rename_i hno
            refine hC _ _ _ _ _ h _ ?_
            cases ex <;> first | exact hQ | exact absurd h (hno _)
        | cond x a b =>
          simp only [xcode] at h
          simp only [vc]
          split at h
          case h_2 => cases h
          rename_i t ht
          try simp only [ht]
          cases t with
          | true => exact ⟨fun _ => hC _ _ _ _ _ h _ hQ, fun h => (by cases h)⟩
          | false => exact ⟨fun h => (by cases h), fun _ => hC _ _ _ _ _ h _ hQ⟩
        | block id c =>
          simp only [xcode] at h
          split at h
          · rename_i id' s1 h1
            refine hC _ _ _ _ _ h1 _ ?_
            simp only [Qblock]
            cases hid : Nat.beq id' id with
            | true =>
              simp only [hid, cond_true] at h
              cases h
              rw [if_pos (Nat.eq_of_beq_eq_true hid)]
              exact hQ
            | false =>
              simp only [hid, cond_false] at h
              cases h
              rw [if_neg (by rintro rfl; simp [Nat.beq_refl] at hid)]
              exact hQ
          · rename_i hno
            refine hC _ _ _ _ _ h _ ?_
            cases ex <;> first | exact hQ | exact absurd h (hno _ _)
        | loop c =>
          let p : AS → Nat → Prop := fun x k => xcode P gl orc (xrun P gl orc tab k) ye (.loop c) x = some (ex, s')
          refine ⟨fun x => ∃ k, k ≤ n ∧ p x k, fun x => leastOf (p x), ⟨n, Nat.le_refl _, h⟩, ?_⟩
          rintro x ⟨k, hk, hx⟩
          obtain ⟨h1, h2⟩ := leastOf_ok ⟨k, hx⟩
          have hle := h2 k hx
          generalize hk0 : leastOf (p x) = k0 at h1 hle
          obtain ⟨hC0, _⟩ := ih k0 (by omega)
          have h1' : xcode P gl orc (xrun P gl orc tab k0) ye (.loop c) x = some (ex, s') := h1
          simp only [xcode] at h1'
          split at h1'
          · rename_i y hy
            refine hC0 _ _ _ _ _ hy _ ?_
            cases k0 with
            | zero => cases h1'
            | succ j =>
              have hj : p y j := h1'
              exact ⟨⟨j, by omega, hj⟩, by have := (leastOf_ok ⟨j, hj⟩).2 j hj; show leastOf (p y) < leastOf (p x); omega⟩
          · rename_i hno
            refine hC0 _ _ _ _ _ h1' _ ?_
            cases ex <;> first | exact hQ | exact absurd h1' (hno _)
        | exit id => cases h; exact hQ
        | scope c =>
          simp only [xcode] at h
          split at h
          · cases h
          · rename_i hno
            refine hC _ _ _ _ _ h _ ?_
            cases ex <;> first | exact hQ | exact absurd h (hno _ _)
        | rfunc g ps asg body =>
          simp only [xcode] at h
          simp only [vc]
          split at h
          case h_2 => cases h
          rename_i f first cap hg
          try simp only [hg]
          intro _
          split at h
          case h_2 => cases h
          rename_i r1 m1 h1
          refine hF _ _ _ _ _ _ h1 _ ?_
          split at h
          · rename_i hst; cases h; simp only [hst, Qend]; exact hQ
          · rename_i ex1 hst; cases h; simp only [hst, Qend]; exact hQ
          · cases h
        | ret => cases h; exact hQ
        | bad => cases h
      · simp only [xfn] at h
        split at h
        case h_2 => cases h
        rename_i sc rs k ht
        refine eff_of (hT f sc rs k ht) (fun _ => orc) ?_
        split at h
        · rename_i s1 h1
          split at h
          case h_2 => cases h
          rename_i l hl
          cases h
          have := retB_ok (P := P) (orc := orc) hl
          exact hC _ _ _ _ _ h1 _ ⟨this.1, by rw [this.2]; exact hK⟩
        · rename_i s1 h1
          split at h
          case h_2 => cases h
          rename_i l hl
          cases h
          have := retB_ok (P := P) (orc := orc) hl
          exact hC _ _ _ _ _ h1 _ ⟨this.1, by rw [this.2]; exact hK⟩
        · cases h

theorem xpure_ok (hO : OrcOK P gl orc) {tab : Tab} (hT : TabOK P tab) {n : Nat} {f : FuncId} {as : List AV} (h : pureV (xpure P gl orc tab n f as) = true) : Pure P gl f as (xpure P gl orc tab n f as) := by
  generalize hx : xpure P gl orc tab n f as = x at h
  unfold xpure at hx
  split at hx
  · rename_i r m hr
    exact pure_of_eff ((xrun_ok hO hT n).2 _ _ _ _ _ _ hr _ hx)
  · subst hx; cases h

/-- The oracle: functions of level k only compute, and call by it functions of lower levels. -/
def orcL (P : Program) (gl : Nat → AV) (tab : Tab) (lvl : FuncId → Nat) (fuel : Nat) : Nat → FuncId → List AV → AV
  | 0 => fun f _ => bif Nat.beq f 999999 && Nat.beq (lvl f) 77 then .mobj [] else .gd false .junk
  | k + 1 => fun f as => bif Nat.beq (lvl f) k then xpure P gl (orcL P gl tab lvl fuel k) tab fuel f as else orcL P gl tab lvl fuel k f as

theorem orcL_ok {tab : Tab} (hT : TabOK P tab) (lvl : FuncId → Nat) (fuel : Nat) : ∀ k, OrcOK P gl (orcL P gl tab lvl fuel k)
  | 0 => fun f _ h => by
    simp only [orcL] at h
    cases hc : (Nat.beq f 999999 && Nat.beq (lvl f) 77) <;> simp [hc, pureV] at h
  | k + 1 => fun f as h => by
    simp only [orcL] at h ⊢
    cases hl : Nat.beq (lvl f) k with
    | true => simp only [hl, cond_true] at h ⊢; exact xpure_ok (orcL_ok hT lvl fuel k) hT h
    | false => simp only [hl, cond_false] at h ⊢; exact orcL_ok hT lvl fuel k f as h

/-- THE USE: what the run returns, the function returns. -/
theorem pure_run {tab : Tab} (hT : TabOK P tab) (lvl : FuncId → Nat) (fuel k : Nat) {f : FuncId} {as : List AV} {r : AV} (h : xpure P gl (orcL P gl tab lvl fuel k) tab fuel f as = r) (hr : pureV r = true) : Pure P gl f as r := by
  have := xpure_ok (orcL_ok hT lvl fuel k) hT (f := f) (as := as) (n := fuel) (by rw [h]; exact hr)
  rwa [h] at this

/-- A table, row by row. -/
def okFrom (P : Program) : Nat → List (Option (SC × List SOp × Nat)) → Prop
  | _, [] => True
  | k, none :: r => okFrom P (k + 1) r
  | k, some (sc, rs, n) :: r => FCode P k sc rs n ∧ okFrom P (k + 1) r

theorem okFrom_get : ∀ {l : List (Option (SC × List SOp × Nat))} {k i : Nat} {sc : SC} {rs : List SOp} {n : Nat}, okFrom P k l → l.getD i none = some (sc, rs, n) → FCode P (k + i) sc rs n
  | [], _, i, _, _, _, _, h => by simp at h
  | none :: r, k, 0, _, _, _, _, h => by simp at h
  | some (sc', rs', n') :: r, k, 0, sc, rs, n, ho, h => by simp at h; obtain ⟨rfl, rfl, rfl⟩ := h; exact ho.1
  | none :: r, k, i + 1, sc, rs, n, ho, h => by
    have := okFrom_get (k := k + 1) (i := i) ho (by simpa using h)
    rwa [show k + (i + 1) = k + 1 + i by omega]
  | some (sc', rs', n') :: r, k, i + 1, sc, rs, n, ho, h => by
    have := okFrom_get (k := k + 1) (i := i) ho.2 (by simpa using h)
    rwa [show k + (i + 1) = k + 1 + i by omega]

theorem tabOK_of {l : List (Option (SC × List SOp × Nat))} (h : okFrom P 0 l) : TabOK P fun f => l.getD f none := fun f sc rs n hf => by
  have := okFrom_get h hf
  rwa [Nat.zero_add] at this
end
end Go.Abs
