/-
  OWN WORK. The law PlayoutPast on abstract arguments.
-/
import Derived.Test.YtedgjnpaebllpaaDoorLwU
set_option linter.unusedVariables false
set_option linter.unusedSimpArgs false
namespace Go.Proofs.YtedgjnpaebllpaaDoor
open Go Go.Abs

theorem three (B : List (List AV)) (h : 3 ≤ B.length) : ∃ rest, B = rowN B 0 :: rowN B 1 :: rowN B 2 :: rest := by
  match B, h with
  | a :: b :: c :: r, _ => exact ⟨r, rfl⟩

/-- Rows of events, some of them with less knowledge. -/
theorem wk_mix (a b : List Evt) : Wk (.sl .ro (a.map evtRow ++ b.map evtRowF)) (.sl .ro ((a ++ b).map evtRow)) := by
  have h := Wk.rows ((a.map fun e => (true, e)) ++ b.map fun e => (false, e)) (fun p => if p.1 = true then evtRow p.2 else evtRowF p.2) (fun p => evtRow p.2) (fun p => by obtain ⟨t, e⟩ := p; cases t <;> rfl) (fun p j c' h => by
    obtain ⟨t, e⟩ := p
    cases t with
    | true => exact ⟨c', h, Wk.refl _⟩
    | false =>
      simp only at h ⊢
      match j, h with
      | 0, h => exact ⟨c', h, Wk.refl _⟩
      | 1, h => exact ⟨c', h, Wk.refl _⟩
      | 2, h => exact ⟨c', h, Wk.refl _⟩
      | 3, h => exact ⟨c', h, Wk.refl _⟩
      | 4, h => exact ⟨c', h, Wk.refl _⟩
      | 5, h => exact ⟨c', h, Wk.refl _⟩
      | 6, h =>
        have : c' = alA e.al := by simpa [evtRow] using h.symm
        subst this
        exact ⟨alF e.al, rfl, wk_alF _⟩
      | j + 7, h => simp [evtRow] at h)
  have e1 : (((a.map fun e => (true, e)) ++ b.map fun e => (false, e)).map fun p => if p.1 = true then evtRow p.2 else evtRowF p.2) = a.map evtRow ++ b.map evtRowF := by simp [Function.comp_def]
  have e2 : (((a.map fun e => (true, e)) ++ b.map fun e => (false, e)).map fun p => evtRow p.2) = (a ++ b).map evtRow := by simp [Function.comp_def]
  rw [e1, e2] at h
  exact h
theorem wk_agg {l l' : List AV} (h : WkL l l') : Wk (.agg l) (.agg l') := fun w γ v hr => by
  have key : ∀ {l l' : List AV}, WkL l l' → l.length = l'.length ∧ ∀ (i : Nat) (c' : AV), l'[i]? = some c' → ∃ c, l[i]? = some c ∧ Wk c c' := by
    intro l
    induction l with
    | nil => intro l' h; cases l' with
      | nil => exact ⟨rfl, fun i c' h => by simp at h⟩
      | cons _ _ => exact h.elim
    | cons a l ih => intro l' h; cases l' with
      | nil => exact h.elim
      | cons b l' =>
        obtain ⟨h1, h2⟩ := ih h.2
        refine ⟨by simp [h1], fun i c' hc => ?_⟩
        cases i with
        | zero => simp at hc; subst hc; exact ⟨a, rfl, h.1⟩
        | succ i => simpa using h2 i c' (by simpa using hc)
  obtain ⟨h1, h2⟩ := key h
  cases hr with
  | agg hl hc =>
    refine .agg (by omega) fun i c' v hc' hv => ?_
    obtain ⟨c, g1, g2⟩ := h2 i c' hc'
    exact g2 _ _ _ (hc i c v g1 hv)

def tl7 : SC := (.seq (.ops [⟨(some 61), (.mv (.tmp 5)), none, []⟩, ⟨(some 62), (.mv (.tmp 16)), none, []⟩, ⟨(some 63), (.bin .add (.tmp 62) (.const (.int .i64 1))), none, []⟩, ⟨(some 64), (.call (.func 10) [(.tmp 61), (.tmp 63)]), none, []⟩, ⟨(some 65), (.bin .sub (.tmp 64) (.const (.int .i64 1))), none, []⟩, ⟨(some 20), (.mv (.tmp 65)), none, []⟩]) (.seq (.ops [⟨(some 66), (.load true 18 (.tmp 14)), none, []⟩, ⟨(some 67), (.mv (.tmp 15)), none, []⟩, ⟨(some 68), (.mv (.tmp 20)), none, []⟩, ⟨(some 69), (.call (.func 15) [(.tmp 66), (.tmp 67), (.tmp 68)]), none, []⟩, ⟨(some 21), (.alloc [(.int .i64 0), (.int .i64 0), (.int .i64 0), (.int .i64 0), (.int .i64 0), (.bool false), (.str ⟨#[]⟩), (.int .i64 0), (.int .i64 0), (.str ⟨#[]⟩), (.int .i64 0), (.int .i64 0), (.sl .nil [])]), none, []⟩, ⟨none, (.store 13 (.tmp 21) (.tmp 69)), none, []⟩]) (.seq (.ops [⟨(some 70), (.load true 18 (.tmp 17)), none, []⟩, ⟨(some 71), (.mv (.tmp 15)), none, []⟩, ⟨(some 72), (.mv (.tmp 20)), none, []⟩, ⟨(some 73), (.call (.func 15) [(.tmp 70), (.tmp 71), (.tmp 72)]), none, []⟩, ⟨(some 22), (.alloc [(.int .i64 0), (.int .i64 0), (.int .i64 0), (.int .i64 0), (.int .i64 0), (.bool false), (.str ⟨#[]⟩), (.int .i64 0), (.int .i64 0), (.str ⟨#[]⟩), (.int .i64 0), (.int .i64 0), (.sl .nil [])]), none, []⟩, ⟨none, (.store 13 (.tmp 22) (.tmp 73)), none, []⟩]) (.seq (.ops [⟨(some 74), (.faddr 10 (.tmp 21)), none, []⟩, ⟨(some 75), (.load true 3 (.tmp 74)), none, []⟩, ⟨(some 76), (.faddr 10 (.tmp 22)), none, []⟩, ⟨none, (.store 3 (.tmp 76) (.tmp 75)), none, []⟩]) (.seq (.draw [⟨(some 77), (.mv (.tmp 13)), none, []⟩, ⟨(some 78), (.mv (.tmp 77)), none, []⟩, ⟨(some 79), (.load true 13 (.tmp 21)), (some ((some 78), true)), [(.tmp 21)]⟩, ⟨(some 80), (.load true 13 (.tmp 22)), (some ((some 78), true)), [(.tmp 22)]⟩, ⟨(some 81), (.call (.func 23) [(.tmp 79), (.tmp 80)]), (some ((some 78), true)), [(.func 23), (.tmp 79), (.tmp 80)]⟩, ⟨(some 82), (.pick (.tmp 78) (.tmp 81) (.const (.bool false))), none, []⟩, ⟨(some 83), (.mv (.tmp 82)), none, []⟩, ⟨(some 84), (.load true 18 (.tmp 14)), (some ((some 83), true)), [(.tmp 14)]⟩, ⟨(some 85), (.mv (.tmp 15)), (some ((some 83), true)), [(.tmp 15)]⟩, ⟨(some 86), (.mv (.tmp 20)), (some ((some 83), true)), [(.tmp 20)]⟩, ⟨(some 87), (.call (.func 17) [(.tmp 84), (.tmp 85), (.tmp 86)]), (some ((some 83), true)), [(.func 17), (.tmp 84), (.tmp 85), (.tmp 86)]⟩, ⟨(some 88), (.load true 18 (.tmp 17)), (some ((some 83), true)), [(.tmp 17)]⟩, ⟨(some 89), (.mv (.tmp 15)), (some ((some 83), true)), [(.tmp 15)]⟩, ⟨(some 90), (.mv (.tmp 20)), (some ((some 83), true)), [(.tmp 20)]⟩] [⟨(some 91), (.call (.func 17) [(.tmp 88), (.tmp 89), (.tmp 90)]), (some ((some 83), true)), [(.func 17), (.tmp 88), (.tmp 89), (.tmp 90)]⟩, ⟨(some 92), (.bin .eql (.tmp 87) (.tmp 91)), (some ((some 83), true)), [(.tmp 87), (.tmp 91)]⟩, ⟨(some 93), (.pick (.tmp 83) (.tmp 92) (.const (.bool false))), none, []⟩, ⟨(some 12), (.mv (.tmp 93)), none, []⟩]) .ret)))))
def hd7 : SC := (.seq (.ops [⟨(some 7), (.box (.tmp 1)), none, []⟩, ⟨(some 12), (.mv (.const (.bool false))), none, []⟩]) (.seq (.ops [⟨(some 23), (.call (.func 8) []), none, []⟩, ⟨(some 13), (.mv (.tmp 23)), none, []⟩]) (.seq (.ops [⟨(some 24), (.mv (.tmp 0)), none, []⟩, ⟨(some 25), (.load true 4 (.tmp 7)), none, []⟩, ⟨(some 26), (.call (.func 14) [(.tmp 24), (.tmp 25)]), none, []⟩, ⟨(some 14), (.alloc [(.int .i64 0), (.int .i64 0), (.int .i64 0), (.int .i64 0), (.sl .nil []), (.int .i64 0), (.int .i64 0), (.int .i64 0), (.int .i64 0), (.sl .nil []), (.sl .nil []), (.sl .nil []), (.sl .nil []), (.sl .nil []), (.sl .nil []), (.int .i64 0), (.sl .nil []), (.int .i64 0)]), none, []⟩, ⟨none, (.store 18 (.tmp 14) (.tmp 26)), none, []⟩]) (.seq (.ops [⟨(some 27), (.mv (.tmp 2)), none, []⟩, ⟨(some 28), (.call (.func 9) [(.tmp 27)]), none, []⟩, ⟨(some 15), (.mv (.tmp 28)), none, []⟩]) (.seq (.ops [⟨(some 29), (.mv (.tmp 4)), none, []⟩, ⟨(some 30), (.call (.func 10) [(.tmp 29), (.const (.int .i64 300))]), none, []⟩, ⟨(some 16), (.mv (.tmp 30)), none, []⟩]) (.seq (.ops [⟨(some 31), (.load true 18 (.tmp 14)), none, []⟩, ⟨(some 17), (.alloc [(.int .i64 0), (.int .i64 0), (.int .i64 0), (.int .i64 0), (.sl .nil []), (.int .i64 0), (.int .i64 0), (.int .i64 0), (.int .i64 0), (.sl .nil []), (.sl .nil []), (.sl .nil []), (.sl .nil []), (.sl .nil []), (.sl .nil []), (.int .i64 0), (.sl .nil []), (.int .i64 0)]), none, []⟩, ⟨none, (.store 18 (.tmp 17) (.tmp 31)), none, []⟩]) (.seq (.ops [⟨(some 32), (.faddr 13 (.tmp 14)), none, []⟩, ⟨(some 33), (.load false 1 (.tmp 32)), none, []⟩, ⟨(some 34), (.mv (.tmp 16)), none, []⟩, ⟨(some 35), (.call (.func 21) [(.tmp 33), (.tmp 34)]), none, []⟩, ⟨(some 36), (.faddr 13 (.tmp 17)), none, []⟩, ⟨none, (.store 1 (.tmp 36) (.tmp 35)), none, []⟩]) (.seq (.ops [⟨(some 37), (.mv (.tmp 3)), none, []⟩, ⟨(some 38), (.call (.func 22) [(.tmp 37)]), none, []⟩, ⟨(some 18), (.mv (.tmp 38)), none, []⟩]) (.seq (.seq (.ops [⟨(some 19), (.mv (.const (.int .i64 0))), none, []⟩]) (.block 0 (.loop (.seq (.seq (.ops [⟨(some 39), (.mv (.tmp 19)), none, []⟩, ⟨(some 40), (.mv (.tmp 18)), none, []⟩, ⟨(some 41), (.len (.tmp 40)), none, []⟩, ⟨(some 42), (.bin .lss (.tmp 39) (.tmp 41)), none, []⟩]) (.cond (.tmp 42) .skip (.exit 0))) (.seq (.block 1 (.ops [⟨(some 45), (.mv (.tmp 18)), none, []⟩, ⟨(some 46), (.mv (.tmp 19)), none, []⟩, ⟨(some 47), (.mv (.tmp 18)), none, []⟩, ⟨(some 48), (.mv (.tmp 19)), none, []⟩, ⟨(some 49), (.iaddr 7 (.tmp 47) (.tmp 48)), none, []⟩, ⟨(some 50), (.faddr 2 (.tmp 49)), none, []⟩, ⟨(some 51), (.load false 1 (.tmp 50)), none, []⟩, ⟨(some 52), (.mv (.tmp 16)), none, []⟩, ⟨(some 53), (.bin .add (.tmp 51) (.tmp 52)), none, []⟩, ⟨(some 54), (.iaddr 7 (.tmp 45) (.tmp 46)), none, []⟩, ⟨(some 55), (.faddr 2 (.tmp 54)), none, []⟩, ⟨none, (.store 1 (.tmp 55) (.tmp 53)), none, []⟩])) (.ops [⟨(some 43), (.mv (.tmp 19)), none, []⟩, ⟨(some 44), (.bin .add (.tmp 43) (.const (.int .i64 1))), none, []⟩, ⟨(some 19), (.mv (.tmp 44)), none, []⟩])))))) (.seq (.ops [⟨(some 56), (.faddr 13 (.tmp 17)), none, []⟩, ⟨(some 57), (.load false 1 (.tmp 56)), none, []⟩, ⟨(some 58), (.mv (.tmp 18)), none, []⟩, ⟨(some 59), (.app 7 72 (.tmp 57) (.tmp 58)), none, []⟩, ⟨(some 60), (.faddr 13 (.tmp 17)), none, []⟩, ⟨none, (.store 1 (.tmp 60) (.tmp 59)), none, []⟩]) tl7))))))))))
theorem sc7_eq : sc7 = hd7 := rfl

def orc7 (X : List Q4) (n : Q4) (L : List Asset) (f k : Int) (u v : Unit) (g : Int) : Nat → FuncId → List AV → AV := fun d h _ =>
  if h = 8 then .bool true else if h = 14 then .agg (progAV X n) else if h = 9 then .sl .ro (L.map assetRow) else if h = 10 then (if d = 30 then I f else I k) else
  if h = 21 then .gd false .junk else if h = 22 then .gd false .junk else if h = 15 then (if d = 69 then .agg (unitRow u) else .agg (unitRow v)) else if h = 23 then .bool true else if h = 17 then I g else .junk

section
set_option linter.unusedSectionVars false
variable (X : List Q4) (n : Q4) (xs : List Int) (M : List Q4) (at_ frame : Int) (L : List Asset) (f k : Int) (u v : Unit) (hu : ok1 u.al = true) (hv : ok1 v.al = true) (g : Int)
    (hsane : Pure Tryd.prog gl0 8 [] (.bool true)) (hprog : Pure Tryd.prog gl0 14 [.sl .ro (X.map q4Row), .agg (q4Row n)] (.agg (progAV X n)))
    (hlib : Pure Tryd.prog gl0 9 [ints xs] (.sl .ro (L.map assetRow))) (hpk : Pure Tryd.prog gl0 10 [I at_, I 300] (I f)) (hf : 0 ≤ f ∧ f ≤ 300)
    (hpk2 : Pure Tryd.prog gl0 10 [I frame, I (f + 1)] (I (k + 1))) (hk : -1 ≤ k ∧ k < f)
    (hu1 : Pure Tryd.prog gl0 15 [.agg (progAV X n), .sl .ro (L.map assetRow), I k] (.agg (unitRow u)))
    (hv1 : Pure Tryd.prog gl0 15 [.agg (pgRow (pickI n.a 40) (pickI n.b 100) (pickI n.c 60) (.sl .ro ((bef f (events X)).map evtRow ++ ((events M).map (sh f)).map evtRowF)) (cuesAV n.c n.d)), .sl .ro (L.map assetRow), I k] (.agg (unitRow v)))
    (huv : u = { v with os := u.os, of := u.of, al := u.al })
    (hsame : Pure Tryd.prog gl0 23 [.agg (unitRow u), .agg (unitRow u)] (.bool true))
    (hg1 : Pure Tryd.prog gl0 17 [.agg (progAV X n), .sl .ro (L.map assetRow), I k] (I g))
    (hg2 : Pure Tryd.prog gl0 17 [.agg (pgRow (pickI n.a 40) (pickI n.b 100) (pickI n.c 60) (.sl .ro ((bef f (events X)).map evtRow ++ ((events M).map (sh f)).map evtRowF)) (cuesAV n.c n.d)), .sl .ro (L.map assetRow), I k] (I g))
    (hM : ∀ x ∈ M, Q4OK x) (hlM : M.length ≤ 9223372036854775807)
include hu hv hsane hprog hlib hpk hf hpk2 hk hu1 hv1 huv hsame hg1 hg2 hM hlM

set_option maxRecDepth 100000 in
set_option maxHeartbeats 4000000 in
theorem tail7 (E : List (Nat × AV)) (r0 : List AV) (rest : List (List AV)) (L' : List Nat) (j : Nat) (rows : List (List AV)) (hrows : rows = (bef f (events X)).map evtRow ++ ((events M).map (sh f)).map evtRowF)
    (h5 : Abs.look E 5 = I frame) (h13 : Abs.look E 13 = .bool true) (h14 : Abs.look E 14 = .ptr 1 0) (h15 : Abs.look E 15 = .sl .ro (L.map assetRow)) (h16 : Abs.look E 16 = I f) (h17 : Abs.look E 17 = .ptr 2 0) :
    vc Tryd.prog gl0 (orc7 X n L f (k + 1) u v g) Y0 tl7 ⟨envT 94 E, ⟨r0 :: pgRow (pickI n.a 40) (pickI n.b 100) (pickI n.c 60) (.sl .ro ((events X).map evtRow)) (cuesAV n.c n.d) :: pgRow (pickI n.a 40) (pickI n.b 100) (pickI n.c 60) (.sl (.own j 7) rows) (cuesAV n.c n.d) :: rest, L', fun _ => .gone, 0⟩⟩ (post Tryd.prog gl0 (orc7 X n L f (k + 1) u v g) rs7 (.bool true)) := by
  rw [← hrows] at hv1 hg2
  clear hrows
  have wf : IntKind.i64.wrap (f + 1) = f + 1 := by rw [wrap_in] <;> omega
  have wk : IntKind.i64.wrap k = k := by rw [wrap_in] <;> omega
  have c5 : ∀ m, cvn m 5 u.al = u.al := fun m => cvn_ok1 m 4 hu
  have c5' : ∀ m, cvn m 5 v.al = v.al := fun m => cvn_ok1 m 4 hv
  simp [tl7, rs7, orc7, h5, h13, h14, h15, h16, h17, wf, wk, pgRow, cuesAV, unitRow, isCell_ok1 hu, isCell_ok1 hv, c5, c5']
  refine ⟨hpk2, hu1, hv1, ?_, hg1, hg2⟩
  have hs2 : Pure Tryd.prog gl0 23 [.agg (unitRow u), .agg (unitRow { v with os := u.os, of := u.of, al := u.al })] (.bool true) := by rw [← huv]; exact hsame
  exact hs2

set_option maxRecDepth 100000 in
set_option maxHeartbeats 4000000 in
theorem core7 : Pure Tryd.prog gl0 7 [.sl .ro (X.map q4Row), .agg (q4Row n), ints xs, .sl .ro (M.map q4Row), I at_, I frame] (.bool true) := by
  refine pureE code7 (orc7 X n L f (k + 1) u v g) (by simp) ?_
  rw [sc7_eq]
  obtain ⟨hch, hsm, h14⟩ := events_all X
  simp [hd7, orc7, q4Row, progAV, cuesAV]
  refine ⟨hsane, hprog, hlib, hpk, ?_⟩
  refine before_eff Y0 (events X) f (by omega) hsm ⟨by omega, by omega⟩ _ _ _ _ _ ?_
  intro bx rt L' hrt
  simp
  refine events_eff Y0 M hM hlM _ _ _ _ _ ?_
  intro B w hbl hbo hV
  obtain ⟨rest, hB⟩ := three B (by simp only [List.length_cons] at hbl; omega)
  have e0 := hbo 0 (by simp)
  have e1 := hbo 1 (by simp)
  have e2 := hbo 2 (by simp)
  simp only [rowN_zero, rowN_succ] at e0 e1 e2
  rw [e0, e1, e2] at hB
  clear e0 e1 e2 hbo
  subst hB
  have ho59 : orc7 X n L f (k + 1) u v g 59 999999 [] = .junk := rfl
  have hsM := events_all M
  have hbl7 := bef_len f (events X)
  have hr7 : ∀ a ∈ bef f (events X), (evtRow a).length = 7 := fun _ _ => rfl
  have hfin := fun E rest L' j rows => tail7 X n xs M at_ frame L f k u v hu hv g hsane hprog hlib hpk hf hpk2 hk hu1 hv1 huv hsame hg1 hg2 hM hlM E [I n.a, I n.b, I n.c, I n.d] rest L' j rows
  simp only [pgRow, cuesAV] at hfin
  rcases hV with ⟨hMn, rfl⟩ | ⟨id, rfl, j1, j2, j3, j4⟩
  · rw [hMn] at hfin
    refine vc_loopE [19, 39, 40, 41, 42, 43, 44, 45, 46, 47, 48, 49, 50, 51, 52, 53, 54, 55] (fun g m => g 19 = I 0 ∧ m = ⟨_, L', fun _ => .gone, 0⟩) (fun _ _ => 0) ⟨by simp, rfl⟩ ?_
    rintro g' m ⟨h19, rfl⟩
    rcases hrt with ⟨hb, rfl, rfl⟩ | ⟨hb, rfl, rfl⟩
    · rw [hb] at hfin ⊢
      simp [h19, ho59]
      refine hfin _ _ _ _ _ ?_ ?_ ?_ ?_ ?_ ?_ ?_ <;> simp
    · simp [h19, ho59]
      refine ⟨⟨hr7, by omega⟩, ?_⟩
      refine hfin _ _ _ _ _ ?_ ?_ ?_ ?_ ?_ ?_ ?_ <;> simp
  · obtain ⟨S, hS⟩ : ∃ S, events M = S := ⟨_, rfl⟩
    obtain ⟨_, hsmS, hlS⟩ := hsM
    rw [hS] at hfin hsmS hlS j3 j4 ⊢
    simp only [List.length_cons] at j1 j2
    obtain ⟨id, rfl⟩ : ∃ id', id = id' + 3 := ⟨id - 3, by omega⟩
    simp only [rowN_succ] at j3
    refine vc_loopE [19, 39, 40, 41, 42, 43, 44, 45, 46, 47, 48, 49, 50, 51, 52, 53, 54, 55] (fun g m => ∃ (i : Nat) (rest' : List (List AV)), i ≤ S.length ∧ g 19 = I i ∧ m = ⟨_ :: _ :: _ :: rest', L', fun _ => .gone, 0⟩ ∧ id < rest'.length ∧ rowN rest' id = fe (shN f i S)) (fun g _ => S.length - (numOf (g 19)).toNat) ⟨0, rest, by omega, by simp, rfl, by omega, by rw [shN_zero]; exact j3⟩ ?_
    rintro g' m ⟨i, rest', hi, h19, rfl, hid, hrw⟩
    rcases Nat.lt_or_ge i S.length with hlt | hge
    · obtain ⟨p, hp⟩ : ∃ p, S[i]? = some p := ⟨_, List.getElem?_eq_getElem hlt⟩
      have hg := shN_get f i S p hp
      have hd2 := fe_drop' (shN f i S) i 2 p hg
      have hset := fe_set (shN f i S) i p (p.st + f) hg
      rw [shN_succ f i S p hp] at hset
      have hle := fe_len (shN f i S)
      rw [shN_len f i S hi] at hle
      obtain ⟨⟨a1, a2⟩, ⟨a3, a4⟩, a5, a6⟩ := hsmS p (List.mem_of_getElem? hp)
      have w1 : IntKind.i64.wrap (p.st + f) = p.st + f := by rw [wrap_in] <;> omega
      have w2 : IntKind.i64.wrap ((i : Int) + 1) = ((i + 1 : Nat) : Int) := by rw [wrap_in] <;> omega
      have hlt' : (i : Int) < (S.length : Int) := by omega
      simp [h19, hlt, hrw, hd2, evtRowF, w1, w2, hset, hle, hid]
      refine ⟨by omega, ag ?_, ⟨i + 1, by omega, by simp, rs_eq _ hid⟩, by omega⟩
      repeat (first | exact agree_refl _ _ | refine agree_cons _ rfl ?_)
    · obtain rfl : i = S.length := by omega
      rw [shN_all] at hrw
      have hok := fe_ok (S.map (sh f))
      have hcell := all_okRow hok
      have hany := any_okRow 5 hok
      have hmap := fun m => map_okRow m 5 hok
      have hch := fe_chunk (S.map (sh f))
      have hle := fe_len (S.map (sh f))
      rw [List.length_map] at hch hle
      rcases hrt with ⟨hb, rfl, rfl⟩ | ⟨hb, rfl, rfl⟩
      · rw [hb] at hfin ⊢
        simp [h19, ho59, hrw, hcell, hany, hmap, hch, hle, hid]
        refine ⟨by omega, ?_⟩
        refine hfin _ _ _ _ _ ?_ ?_ ?_ ?_ ?_ ?_ ?_ <;> simp
      · simp [h19, ho59, hrw, hcell, hany, hmap, hch, hle, hid]
        refine ⟨⟨hr7, by omega⟩, ?_⟩
        refine hfin _ _ _ _ _ ?_ ?_ ?_ ?_ ?_ ?_ ?_ <;> simp
end
theorem events_tight (X : List Q4) : ∀ e ∈ events X, (0 ≤ e.st ∧ e.st ≤ 420) ∧ (0 ≤ e.fr ∧ e.fr ≤ 29) ∧ (0 ≤ e.i ∧ e.i ≤ 420) := by
  have h := evs_all (X.take 14) [] trivial (fun e he => by simp at he)
  intro e he
  have h1 := h.2.1 e he
  have hl := (events_all X).2.2
  unfold events at hl
  omega
theorem bef_small (f : Int) (hf : 0 ≤ f ∧ f ≤ 300) : ∀ (l : List Evt), (∀ e ∈ l, Small e) → ∀ e ∈ bef f l, Small e
  | [], _, e, he => by simp [bef] at he
  | a :: l, h, e, he => by
    have ha := h a (by simp)
    have ih := bef_small f hf l (fun x hx => h x (by simp [hx])) e
    simp only [bef] at he
    split at he
    · exact ih he
    · rename_i h1
      rcases List.mem_cons.1 he with rfl | he
      · obtain ⟨⟨a1, a2⟩, ⟨a3, a4⟩, a5, a6⟩ := ha
        refine ⟨⟨a1, a2⟩, ?_, a5, a6⟩
        simp only [cutE]
        split <;> omega
      · exact ih he
theorem unit_al2 (ch ve ed c d : Int) (ev : List Evt) (L : List Asset) (f : Int) : ∃ rt b, (unitS ch ve ed c d ev L f).al = .sl rt (if b = true then [[I 1, I 8]] else []) := by
  unfold unitS
  repeat' split
  all_goals first | exact ⟨.nil, false, rfl⟩ | exact ⟨.ro, (nextS f ev).al, rfl⟩

set_option maxRecDepth 100000 in
theorem law7 (X : List Q4) (n : Q4) (xs : List Int) (M : List Q4) (at_ frame : Int) (hX : ∀ x ∈ X, Q4OK x) (hl : X.length ≤ 9223372036854775807) (hn : Q4OK n) (hx : ∀ x ∈ xs, i64 x) (hxl : xs.length ≤ 9223372036854775807) (hM : ∀ x ∈ M, Q4OK x) (hlM : M.length ≤ 9223372036854775807) (hat : i64 at_) (hfr : i64 frame) :
    Pure Tryd.prog gl0 7 [.sl .ro (X.map q4Row), .agg (q4Row n), ints xs, .sl .ro (M.map q4Row), I at_, I frame] (.bool true) := by
  have hsane := sane_pure
  have hprog := program_pure X n hX hl hn
  have hlib : Pure Tryd.prog gl0 9 [ints xs] (.sl .ro ((libs xs 3).map assetRow)) := library_pure xs hx hxl
  have hL := libs_pow xs
  have hpk := pick_pure at_ 300 hat.1 hat.2 (by omega)
  have hfb := pickI_bd' at_ 300 (by omega)
  generalize pickI at_ 300 = f at hpk hfb
  have hpk2 := pick_pure frame (f + 1) hfr.1 hfr.2 (by omega)
  have hkb := pickI_bd' frame (f + 1) (by omega)
  obtain ⟨k, hk⟩ : ∃ k, pickI frame (f + 1) = k + 1 := ⟨pickI frame (f + 1) - 1, by omega⟩
  rw [hk] at hpk2 hkb
  obtain ⟨hch, hsm, h14⟩ := events_all X
  have hed := pickI_bd' n.c 60 (by omega)
  have hu1 := unit_pure (pickI n.a 40) (pickI n.b 100) (pickI n.c 60) n.c n.d ⟨by omega, by omega⟩ (events X) (by omega) hsm (libs xs 3) hL k ⟨by omega, by omega⟩
  have hlate : ∀ e ∈ (events M).map (sh f), f ≤ e.st := by
    intro e he
    obtain ⟨a, ha, rfl⟩ := List.mem_map.1 he
    have := events_tight M a ha
    simp only [sh]; omega
  have hsm2 : ∀ e ∈ bef f (events X) ++ (events M).map (sh f), Small e := by
    intro e he
    rcases List.mem_append.1 he with h | h
    · exact bef_small f ⟨by omega, by omega⟩ _ hsm e h
    · obtain ⟨a, ha, rfl⟩ := List.mem_map.1 h
      have := events_tight M a ha
      simp only [Small, sh]; omega
  have hlen2 : (bef f (events X) ++ (events M).map (sh f)).length ≤ 1000000000 := by
    have h1 := bef_len f (events X)
    have h2 := (events_all M).2.2
    rw [List.length_append, List.length_map]; omega
  have hv0 := unit_pure (pickI n.a 40) (pickI n.b 100) (pickI n.c 60) n.c n.d ⟨by omega, by omega⟩ (bef f (events X) ++ (events M).map (sh f)) hlen2 hsm2 (libs xs 3) hL k ⟨by omega, by omega⟩
  have hg1 := gain_pure (libs xs 3) hL (events X) k (by omega) hsm ⟨by omega, by omega⟩ (pickI n.a 40) (pickI n.b 100) (pickI n.c 60) (cuesAV n.c n.d) rfl
  have hg0 := gain_pure (libs xs 3) hL (bef f (events X) ++ (events M).map (sh f)) k hlen2 hsm2 ⟨by omega, by omega⟩ (pickI n.a 40) (pickI n.b 100) (pickI n.c 60) (cuesAV n.c n.d) rfl
  rw [begs_bef k f (by omega) _ hlate] at hg0
  have hpast := unit_past (ch := pickI n.a 40) (ve := pickI n.b 100) (ed := pickI n.c 60) (c := n.c) (d := n.d) (L := libs xs 3) (k := k) (f := f) (by omega) (events X) ((events M).map (sh f)) hlate
  have oku := unit_al (pickI n.a 40) (pickI n.b 100) (pickI n.c 60) n.c n.d (events X) (libs xs 3) k
  have okv := unit_al (pickI n.a 40) (pickI n.b 100) (pickI n.c 60) n.c n.d (bef f (events X) ++ (events M).map (sh f)) (libs xs 3) k
  obtain ⟨rt, b, hal⟩ := unit_al2 (pickI n.a 40) (pickI n.b 100) (pickI n.c 60) n.c n.d (events X) (libs xs 3) k
  have hsame := same23 _ rt b hal oku
  have wkE := wk_mix (bef f (events X)) ((events M).map (sh f))
  have wkP : Wk (.agg (pgRow (pickI n.a 40) (pickI n.b 100) (pickI n.c 60) (.sl .ro ((bef f (events X)).map evtRow ++ ((events M).map (sh f)).map evtRowF)) (cuesAV n.c n.d))) (.agg (pgRow (pickI n.a 40) (pickI n.b 100) (pickI n.c 60) (.sl .ro ((bef f (events X) ++ (events M).map (sh f)).map evtRow)) (cuesAV n.c n.d))) :=
    wk_agg ⟨Wk.refl _, Wk.refl _, Wk.refl _, Wk.refl _, Wk.refl _, Wk.refl _, Wk.refl _, Wk.refl _, Wk.refl _, Wk.refl _, Wk.refl _, Wk.refl _, Wk.refl _, wkE, Wk.refl _, Wk.refl _, Wk.refl _, Wk.refl _, trivial⟩
  have hv1 := pure_weak (l := [.agg (pgRow (pickI n.a 40) (pickI n.b 100) (pickI n.c 60) (.sl .ro ((bef f (events X)).map evtRow ++ ((events M).map (sh f)).map evtRowF)) (cuesAV n.c n.d)), .sl .ro ((libs xs 3).map assetRow), I k]) hv0 ⟨wkP, Wk.refl _, Wk.refl _, trivial⟩
  have hg2 := pure_weak (l := [.agg (pgRow (pickI n.a 40) (pickI n.b 100) (pickI n.c 60) (.sl .ro ((bef f (events X)).map evtRow ++ ((events M).map (sh f)).map evtRowF)) (cuesAV n.c n.d)), .sl .ro ((libs xs 3).map assetRow), I k]) hg0 ⟨wkP, Wk.refl _, Wk.refl _, trivial⟩
  exact core7 X n xs M at_ frame (libs xs 3) f k _ _ oku okv _ hsane hprog hlib hpk ⟨by omega, by omega⟩ hpk2 ⟨by omega, by omega⟩ hu1 hv1 hpast hsame hg1 hg2 hM hlM
end Go.Proofs.YtedgjnpaebllpaaDoor
