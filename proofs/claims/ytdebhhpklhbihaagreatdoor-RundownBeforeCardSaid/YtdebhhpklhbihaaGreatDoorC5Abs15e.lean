/-
  OWN WORK. Slots by an environment: what was written last is found first.
-/
import Derived.Test.YtdebhhpklhbihaaGreatDoorC5Abs15
namespace Go.Abs
open Go Go.RowKit

def look : List (Nat × AV) → Nat → AV
  | [], _ => .junk
  | (d, v) :: r, t => if d = t then v else look r t
def envT (n : Nat) (E : List (Nat × AV)) : List AV := (List.range n).map (look E)
def pairs : Nat → List AV → List (Nat × AV)
  | _, [] => []
  | i, a :: r => (i, a) :: pairs (i + 1) r

@[simp] theorem look_cons (d : Nat) (v : AV) (r : List (Nat × AV)) (t : Nat) : look ((d, v) :: r) t = if d = t then v else look r t := rfl
@[simp] theorem look_nil (t : Nat) : look [] t = .junk := rfl
@[simp] theorem pairs_nil (i : Nat) : pairs i [] = [] := rfl
@[simp] theorem pairs_cons (i : Nat) (a : AV) (r : List AV) : pairs i (a :: r) = (i, a) :: pairs (i + 1) r := rfl

@[simp] theorem nth_env {n t : Nat} {E : List (Nat × AV)} (h : t < n) : nth (envT n E) t = look E t := by
  simp [nth, envT, List.getD_eq_getElem?_getD, -getD_nth, h]

theorem set_env {n d : Nat} {E : List (Nat × AV)} (h : d < n) (v : AV) : (envT n E).set d v = envT n ((d, v) :: E) := by
  apply List.ext_getElem (by simp [envT])
  intro i h1 h2
  rw [List.getElem_set]
  simp [envT]

@[simp] theorem put_env {n d : Nat} {E : List (Nat × AV)} (h : d < n) (v : AV) : put (envT n E) (some d) v = envT n ((d, v) :: E) := set_env h v
@[simp] theorem put_none (T : List AV) (v : AV) : put T none v = T := rfl
@[simp] theorem setPs_env {n d : Nat} {E : List (Nat × AV)} (h : d < n) (ps : List Nat) (x : AV) (xs : List AV) : setPs (envT n E) (d :: ps) (x :: xs) = setPs (envT n ((d, x) :: E)) ps xs := by
  rw [setPs, set_env h]

theorem look_pairs : ∀ (l : List AV) (i t : Nat), look (pairs i l) t = if i ≤ t then l.getD (t - i) .junk else .junk
  | [], i, t => by simp [-getD_nth]
  | a :: r, i, t => by
    rw [pairs_cons, look_cons, look_pairs r (i + 1) t]
    by_cases h : i = t
    · subst h; simp [-getD_nth]
    · rw [if_neg h]
      by_cases h' : i ≤ t
      · rw [if_pos (by omega), if_pos h', show t - i = (t - (i + 1)) + 1 by omega]
        simp [-getD_nth]
      · rw [if_neg (by omega), if_neg h']

theorem start_env {n : Nat} {l : List AV} (h : l.length ≤ n) : l ++ List.replicate (n - l.length) .junk = envT n (pairs 0 l) := by
  apply List.ext_getElem
  · simp [envT]; omega
  · intro i h1 h2
    simp only [envT, List.getElem_map, List.getElem_range, look_pairs, Nat.zero_le, if_true, Nat.sub_zero]
    rw [List.getElem_append]
    split
    · rename_i hi; simp [List.getD_eq_getElem?_getD, -getD_nth, hi]
    · rename_i hi; simp [List.getD_eq_getElem?_getD, -getD_nth, hi]

section
variable {P : Program} {gl : Nat → AV} {Y : YT}

theorem pureE {f : FuncId} {sc : SC} {rs : List SOp} {n : Nat} (hc : FCode P f sc rs n) (orc : Nat → FuncId → List AV → AV) {l : List AV} {r : AV} (hn : l.length ≤ n)
    (h : vc P gl orc Y0 sc ⟨envT n (pairs 0 l), ⟨[], [], fun _ => .gone, 0⟩⟩ (post P gl orc rs r)) : Pure P gl f l r := pure_of hc orc (by rw [start_env hn]; exact h)

theorem effE {f : FuncId} {sc : SC} {rs : List SOp} {n : Nat} (hc : FCode P f sc rs n) (orc : Nat → FuncId → List AV → AV) {l : List AV} {m : AM} {K : AV → AM → Prop} (hn : l.length ≤ n)
    (h : vc P gl orc Y sc ⟨envT n (pairs 0 l), m⟩ (postE P gl orc rs K)) : EffY P gl Y f l m K := eff_of hc orc (by rw [start_env hn]; exact h)
end

/-- One environment is another with some slots written. -/
def Agree (W : List Nat) (E' E : List (Nat × AV)) : Prop := ∀ t, W.contains t = false → look E' t = look E t
theorem agree_refl (W : List Nat) (E : List (Nat × AV)) : Agree W E E := fun _ _ => rfl
theorem agree_cons {W : List Nat} {E' E : List (Nat × AV)} {k : Nat} (v : AV) (hk : W.contains k = true) (h : Agree W E' E) : Agree W ((k, v) :: E') E := fun t ht => by
  rw [look_cons, if_neg (by rintro rfl; rw [hk] at ht; cases ht)]; exact h t ht

def QroundE (n : Nat) (E : List (Nat × AV)) (W : List Nat) (R : (Nat → AV) → AM → Prop) (μ : (Nat → AV) → AM → Nat) (f : Nat → AV) (m : AM) (Q : Exit → AS → Prop) : Exit → AS → Prop
  | .normal, s' => (∃ E', s'.T = envT n E' ∧ Agree W E' E) ∧ R (nth s'.T) s'.m ∧ μ (nth s'.T) s'.m < μ f m
  | ex, s' => Q ex s'

def wpairs (f : Nat → AV) : List Nat → List (Nat × AV) → List (Nat × AV)
  | [], E => E
  | i :: W, E => (i, f i) :: wpairs f W E
@[simp] theorem wpairs_nil (f : Nat → AV) (E : List (Nat × AV)) : wpairs f [] E = E := rfl
@[simp] theorem wpairs_cons (f : Nat → AV) (i : Nat) (W : List Nat) (E : List (Nat × AV)) : wpairs f (i :: W) E = (i, f i) :: wpairs f W E := rfl

theorem look_wpairs (f : Nat → AV) (E : List (Nat × AV)) (t : Nat) : ∀ W, look (wpairs f W E) t = if W.contains t then f t else look E t
  | [] => by simp
  | i :: W => by
    rw [wpairs_cons, look_cons, look_wpairs f E t W]
    by_cases h : i = t
    · subst h; simp
    · have h' : t ≠ i := Ne.symm h
      simp [h, h']

theorem agree_wpairs (f : Nat → AV) (W : List Nat) (E : List (Nat × AV)) : Agree W (wpairs f W E) E := fun t ht => by rw [look_wpairs, ht]; rfl

theorem env_ext {n : Nat} {E E' : List (Nat × AV)} (h : ∀ t, t < n → look E t = look E' t) : envT n E = envT n E' := List.map_congr_left fun t ht => h t (List.mem_range.1 ht)

theorem agree_iff {n : Nat} {W : List Nat} {E : List (Nat × AV)} {T : List AV} : (∃ E', T = envT n E' ∧ Agree W E' E) ↔ T = envT n (wpairs (nth T) W E) := by
  constructor
  · rintro ⟨E', rfl, h⟩
    refine env_ext fun t ht => ?_
    rw [look_wpairs]
    cases hc : W.contains t with
    | true => simp only [if_true]; rw [nth_env ht]
    | false => simp only [Bool.false_eq_true, if_false]; exact h t hc
  · exact fun h => ⟨_, h, agree_wpairs _ _ _⟩

theorem vc_loopE {P : Program} {gl : Nat → AV} {orc : Nat → FuncId → List AV → AV} {Y : YT} {n : Nat} {E : List (Nat × AV)} {m0 : AM} {Q : Exit → AS → Prop} {c : SC} (W : List Nat) (R : (Nat → AV) → AM → Prop) (μ : (Nat → AV) → AM → Nat)
    (h0 : R (nth (envT n E)) m0) (hr : ∀ f m, R f m → vc P gl orc Y c ⟨envT n (wpairs f W E), m⟩ (QroundE n E W R μ f m Q)) : vc P gl orc Y (.loop c) ⟨envT n E, m0⟩ Q := by
  refine vc_loop P gl orc Y ⟨envT n E, m0⟩ Q (fun s' => s'.T = envT n (wpairs (nth s'.T) W E) ∧ R (nth s'.T) s'.m) (fun s' => μ (nth s'.T) s'.m) ⟨agree_iff.1 ⟨E, rfl, agree_refl _ _⟩, h0⟩ ?_
  rintro ⟨T', m'⟩ ⟨h1, h2⟩
  have := hr _ m' h2
  rw [← h1] at this
  have e : QroundE n E W R μ (nth T') m' Q = Qround (fun s' => s'.T = envT n (wpairs (nth s'.T) W E) ∧ R (nth s'.T) s'.m) (fun s' => μ (nth s'.T) s'.m) ⟨T', m'⟩ Q := by
    funext ex s'
    cases ex <;> simp [QroundE, Qround, and_assoc, agree_iff]
  rwa [e] at this

section
variable (n : Nat) (E : List (Nat × AV)) (W : List Nat) (R : (Nat → AV) → AM → Prop) (μ : (Nat → AV) → AM → Nat) (f : Nat → AV) (m : AM) (Q : Exit → AS → Prop) (s : AS) (id : Nat)
@[simp] theorem QroundE_normal : QroundE n E W R μ f m Q .normal s = ((∃ E', s.T = envT n E' ∧ Agree W E' E) ∧ R (nth s.T) s.m ∧ μ (nth s.T) s.m < μ f m) := rfl
@[simp] theorem QroundE_exit : QroundE n E W R μ f m Q (.exit id) s = Q (.exit id) s := rfl
@[simp] theorem QroundE_ret : QroundE n E W R μ f m Q .ret s = Q .ret s := rfl
end
theorem ag {n : Nat} {E' E : List (Nat × AV)} {W : List Nat} (h : Agree W E' E) : ∃ E1, envT n E' = envT n E1 ∧ Agree W E1 E := ⟨E', rfl, h⟩

end Go.Abs
