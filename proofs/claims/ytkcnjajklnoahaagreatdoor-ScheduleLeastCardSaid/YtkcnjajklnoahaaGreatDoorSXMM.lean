import Derived.Test.YtkcnjajklnoahaaGreatDoorSXML
set_option linter.unusedVariables false
set_option linter.unusedSimpArgs false
namespace Go.Proofs.YtkcnjajklnoahaaGreatDoor
open Go Go.Abs
theorem intS_inR {lo hi : Int} {a b : List Sp} (h : InB lo hi b) : InB lo hi (Wv a b) := by
 obtain ⟨⟨h1, _⟩, h2⟩ := intS_ok a b
 intro w hw
 have hlt := h1 w hw
 obtain ⟨s, hs, s1, s2⟩ := ((h2 w.1).1 ⟨w, hw, by omega, hlt⟩).2
 obtain ⟨t, ht, t1, t2⟩ := ((h2 (w.2 - 1)).1 ⟨w, hw, by omega, by omega⟩).2
 have := h s hs; have := h t ht
 omega
theorem Qaa (p : Pl) (id region : Int) (s : Sp) : (Zx p id region s).length <= 1000000 := by
 unfold Zx
 simp only
 generalize Qao s = c
 cases Xf id p.its with
 | none => simp
 | some x =>
  simp only
  split
  ·simp
  ·rename_i hb
   simp only [not_or] at hb
   split
   ·simp
   ·split
    ·simp
    ·have hin : InB c.1 c.2 [c] := by intro w hw; simp at hw; subst hw; omega
     have := VS_len _ c.1 c.2 (intS_ok ((curS p x region (uS p c) (limL p x region (uS p c)).length).map (frS p)) [c]).1 (fun w hw => by have := intS_inR hin w hw; omega)
     omega
def frB (f : Int) : Bool := decide (0 <= f /\ f <= 100000000)
def Yy (p : Pl) (id region f n : Int) : Bool :=
 if n < 1 \/ 1000000 < n \/ frB f = false \/ frB (f + n - 1) = false then false else (subS [(f, f + n)] (Zx p id region (f, f + n))).isEmpty
def orcAl (p : Pl) (id region f n : Int) : Nat -> FuncId -> List AV -> AV := fun d g l =>
 if g = 83 then (match l with | [.int _ n] => .bool (frB n) | _ => .junk) else
 if g = 85 then .sl .ro ((Zx p id region (f, f + n)).map Qd) else
 if g = 84 then .bool (subS [(f, f + n)] (Zx p id region (f, f + n))).isEmpty else .junk
set_option maxRecDepth 100000 in
set_option maxHeartbeats 4000000 in
theorem allowed_pure (p : Pl) (id region f n : Int) (hc : p.cls.length <= 1000000) (hsh : p.sh.length <= 1000000000) (hit : p.its.length <= 1000000000) :
  Pure Tryz.prog gl0 55 [.agg (Qa p), I id, I region, I f, I n] (.bool (Yy p id region f n)) := by
 have k34 := pframe_pure f
 have k34' := pframe_pure (f + n - 1)
 refine Qr code55 (orcAl p id region f n) (by simp) ?_
 by_cases b1 : n < 1
 ·simp [sc55, Qa, orcAl, rs55, b1, Yy]
 ·by_cases b2 : 1000000 < n
  ·simp [sc55, Qa, orcAl, rs55, b1, b2, Yy]
  ·by_cases b3 : frB f = true
   ·have b3' : 0 <= f /\ f <= 100000000 := by simpa [frB] using b3
    have hw1 : IntKind.i64.wrap (f + n) = f + n := by rw [Qk] <;> omega
    have hw2 : IntKind.i64.wrap (f + n - 1) = f + n - 1 := by rw [Qk] <;> omega
    rw [show decide (0 <= f /\ f <= 100000000) = true from b3] at k34
    by_cases b4 : frB (f + n - 1) = true
    ·rw [show decide (0 <= f + n - 1 /\ f + n - 1 <= 100000000) = true from b4] at k34'
     have k36 := permS_pure p id region (f, f + n) hc hsh hit (by simp only; omega) (by simp only; omega)
     have k35 := covers_pure (Zx p id region (f, f + n)) (f, f + n) (by have := Qaa p id region (f, f + n); omega)
     simp [sc55, Qa, orcAl, rs55, b1, b2, b3, b4, hw1, hw2, Yy]
     exact ⟨k34, k34', k36, k35⟩
    ·have b4' : frB (f + n - 1) = false := by simpa using b4
     rw [show decide (0 <= f + n - 1 /\ f + n - 1 <= 100000000) = false from b4'] at k34'
     simp [sc55, Qa, orcAl, rs55, b1, b2, b3, b4', hw1, hw2, Yy]
     exact ⟨k34, k34'⟩
   ·have b3' : frB f = false := by simpa using b3
    rw [show decide (0 <= f /\ f <= 100000000) = false from b3'] at k34
    simp [sc55, Qa, orcAl, rs55, b1, b2, b3', Yy]
    exact k34
open Go Go.Abs
def Vy (id : Int) : List En -> Option En
 | [] => none
 | x :: r => if x.id = id then some x else Vy id r
def enAV : Option En -> AV
 | some x => .tup [.agg (Qf x), .bool true]
 | none => .tup [.agg [I 0, I 0, I 0, I 0, I 0, I 0, .sl .nil []], .bool false]
theorem enKey_pure (e : En) : Pure Tryz.prog gl0 53 [.agg (Qf e)] (I e.id) := by
 refine Qr code53 (fun _ _ _ => .junk) (by simp) ?_
 simp [sc53, Qf, rs53]
set_option maxRecDepth 100000 in
set_option maxHeartbeats 2000000 in
theorem findN_pure (L : List En) (id : Int) (hl : L.length <= 1000000000) : Pure Tryz.prog gl0 52 [.sl .ro (L.map Qf), I id, .fn 53 [] []] (enAV (Vy id L)) := by
 refine Qr code52 (fun _ f l => if f = 53 then (match l with | [.agg (c :: _)] => c | _ => .junk) else .junk) (by simp) ?_
 simp [sc52]
 refine Qg w52_0 (fun f m => ∃ (i : Nat) (bx : List (List AV)), f 13 = I i /\ i <= L.length /\ Vy id (L.drop i) = Vy id L /\ m = ⟨[I 0, I 0, I 0, I 0, I 0, I 0, .sl .nil []] :: bx, [], fun _ => .gone, 0⟩) (fun f _ => L.length - (numOf (f 13)).toNat) ?_ ?_
 ·exact ⟨0, [], by simp, by omega, rfl, rfl⟩
 ·rintro f m ⟨i, bx, h13, hi, hf, rfl⟩
  rcases Nat.lt_or_ge i L.length with hlt | hge
  ·obtain ⟨x, hx⟩ : ∃ x, L[i]? = some x := ⟨_, List.getElem?_eq_getElem hlt⟩
   have hrow : Ql (L.map Qf) i = Qf x := Qv (by simp [hx])
   have hilt : (i : Int) < (L.length : Int) := by omega
   have hw := wrS i (by omega)
   have hd : L.drop i = x :: L.drop (i + 1) := by rw [List.drop_eq_getElem_cons hlt, (List.getElem?_eq_some_iff.1 hx).2]
   have hk := enKey_pure x
   rw [hd, Vy] at hf
   by_cases hid : x.id = id
   ·rw [if_pos hid] at hf
    simp [h13, hlt, hilt, hrow, Qf, hid, w52_0, rs52, <- hf, enAV]
    simpa [Qf, hid] using hk
   ·rw [if_neg hid] at hf
    simp [h13, hlt, hilt, hrow, Qf, hid, w52_0, hw]
    refine ⟨hk, ag ?_, ⟨i + 1, by simp, by omega, hf⟩, by omega⟩
    repeat (first | exact Qb _ _ | refine Qc _ rfl ?_)
  ·rw [List.drop_eq_nil_of_le hge] at hf
   have hin : ¬ (i : Int) < (L.length : Int) := by omega
   simp [h13, Nat.not_lt.2 hge, hin, w52_0, rs52, <- hf, enAV, Vy]
open Go Go.Abs
theorem rep_nil_or {w : World} {γ : G} {rows : List (List AV)} {v : Value} (h : Rep w γ (.sl .ro rows) v) : Rep w γ (.sl .nil rows) v \/ Rep w γ (.sl .nn rows) v := by
 cases h with
 | sl b off sz cv hcap hnil ha hsz hc hr hrt =>
  rename_i a cap
  by_cases e : a = none
  ·exact .inl (.sl b off sz cv hcap hnil ha hsz hc hr e)
  ·exact .inr (.sl b off sz cv hcap hnil ha hsz hc hr e)
theorem pure_nil_or {P : Program} {gl : Nat -> AV} {f : FuncId} {rows : List (List AV)} {r : AV} (h : Pure P gl f [.sl .nil rows] r) (k : Pure P gl f [.sl .nn rows] r) : Pure P gl f [.sl .ro rows] r :=
 ⟨h.1, fun ro w vs hgl hr => by
  match vs, hr with
  | [v], hr =>
   rcases rep_nil_or (hr.2 0 _ v rfl rfl) with h1 | h1
   ·exact h.2 ro w [v] hgl ⟨rfl, fun i x y hx hy => by
     cases i with
     | zero => cases hx; cases hy; exact h1
     | succ i => cases hx⟩
   ·exact k.2 ro w [v] hgl ⟨rfl, fun i x y hx hy => by
     cases i with
     | zero => cases hx; cases hy; exact h1
     | succ i => cases hx⟩
  | [], hr => exact absurd hr.1 (by simp)
  | _ :: _ :: _, hr => exact absurd hr.1 (by simp)⟩
theorem cloneNN_pure : Pure Tryz.prog gl0 54 [.sl .nn []] (.sl .ro []) := by
 have : ∃ rt, Pure Tryz.prog gl0 54 [.sl .nn []] (.sl rt []) := by
  refine ⟨.ro, Qr code54 (fun _ _ _ => .junk) (by simp) ?_⟩
  simp [sc54, rs54]
 obtain ⟨rt, h⟩ := this
 exact Vs h (Wk.sl _ _)
theorem cloneS_pure (l : List Sp) (hl : l.length <= 8796093022208) : Pure Tryz.prog gl0 54 [.sl .ro (l.map Qd)] (.sl .ro (l.map Qd)) := by
 cases l with
 | nil => exact pure_nil_or (Vs cloneN_pure (Wk.sl _ _)) cloneNN_pure
 | cons x r =>
  refine Qr code54 (fun _ _ _ => .junk) (by simp) ?_
  simp [sc54, rs54]
  simp at hl
  refine ⟨⟨rfl, ?_⟩, by omega⟩
  rintro row a b _ rfl
  rfl
set_option maxRecDepth 100000 in
theorem entry_pure (p : Pl) (id : Int) (hl : p.ens.length <= 1000000000) (ha : ∀ e ∈ p.ens, e.al.length <= 8796093022208) : Pure Tryz.prog gl0 31 [.agg (Qa p), I id] (enAV (Vy id p.ens)) := by
 have h59 := findN_pure p.ens id hl
 refine Qr code31 (fun _ f l => if f = 52 then enAV (Vy id p.ens) else l.headD .junk) (by simp) ?_
 cases hf : Vy id p.ens with
 | none =>
  rw [hf] at h59
  simp [sc31, rs31, Qa, enAV, hf]
  exact ⟨h59, cloneN_pure⟩
 | some x =>
  rw [hf] at h59
  have hx : x ∈ p.ens := by
   have : ∀ l : List En, Vy id l = some x -> x ∈ l := by
    intro l
    induction l with
    | nil => intro h; cases h
    | cons y r ih =>
     intro h
     simp only [Vy] at h
     split at h
     ·cases h; simp
     ·simp [ih h]
   exact this _ hf
  have hc := cloneS_pure x.al (ha x hx)
  simp [sc31, rs31, Qa, enAV, Qf, hf]
  exact ⟨h59, hc⟩
end Go.Proofs.YtkcnjajklnoahaaGreatDoor
