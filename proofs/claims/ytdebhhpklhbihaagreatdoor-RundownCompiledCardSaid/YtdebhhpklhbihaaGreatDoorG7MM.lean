/-
  OWN WORK. Contract: permit.Allowed.
-/
import Derived.Test.YtdebhhpklhbihaaGreatDoorG7ML
set_option linter.unusedVariables false
set_option linter.unusedSimpArgs false
namespace Go.Proofs.YtdebhhpklhbihaaGreatDoor
open Go Go.Abs

theorem intS_inR {lo hi : Int} {a b : List Sp} (h : InB lo hi b) : InB lo hi (intS a b) := by
  obtain ⟨⟨h1, _⟩, h2⟩ := intS_ok a b
  intro w hw
  have hlt := h1 w hw
  obtain ⟨s, hs, s1, s2⟩ := ((h2 w.1).1 ⟨w, hw, by omega, hlt⟩).2
  obtain ⟨t, ht, t1, t2⟩ := ((h2 (w.2 - 1)).1 ⟨w, hw, by omega, by omega⟩).2
  have := h s hs; have := h t ht
  omega
theorem permS_len (p : Pl) (id region : Int) (s : Sp) : (permS p id region s).length ≤ 1000000 := by
  unfold permS
  simp only
  generalize clipS s = c
  cases fndI id p.its with
  | none => simp
  | some x =>
    simp only
    split
    · simp
    · rename_i hb
      simp only [not_or] at hb
      split
      · simp
      · split
        · simp
        · have hin : InB c.1 c.2 [c] := by intro w hw; simp at hw; subst hw; omega
          have := VS_len _ c.1 c.2 (intS_ok ((curS p x region (uS p c) (limL p x region (uS p c)).length).map (frS p)) [c]).1 (fun w hw => by have := intS_inR hin w hw; omega)
          omega

def frB (f : Int) : Bool := decide (0 ≤ f ∧ f ≤ 100000000)
def allowB (p : Pl) (id region f n : Int) : Bool :=
  if n < 1 ∨ 1000000 < n ∨ frB f = false ∨ frB (f + n - 1) = false then false else (subS [(f, f + n)] (permS p id region (f, f + n))).isEmpty
def orcAl (p : Pl) (id region f n : Int) : Nat → FuncId → List AV → AV := fun d g l =>
  if g = 34 then (match l with | [.int _ n] => .bool (frB n) | _ => .junk) else
  if g = 36 then .sl .ro ((permS p id region (f, f + n)).map spRow) else
  if g = 35 then .bool (subS [(f, f + n)] (permS p id region (f, f + n))).isEmpty else .junk

set_option maxRecDepth 100000 in
set_option maxHeartbeats 4000000 in
theorem allowed_pure (p : Pl) (id region f n : Int) (hc : p.cls.length ≤ 1000000) (hsh : p.sh.length ≤ 1000000000) (hit : p.its.length ≤ 1000000000) :
    Pure Tryz.prog gl0 15 [.agg (plRow p), I id, I region, I f, I n] (.bool (allowB p id region f n)) := by
  have k34 := pframe_pure f
  have k34' := pframe_pure (f + n - 1)
  refine pureE code15 (orcAl p id region f n) (by simp) ?_
  by_cases b1 : n < 1
  · simp [sc15, plRow, orcAl, rs15, b1, allowB]
  · by_cases b2 : 1000000 < n
    · simp [sc15, plRow, orcAl, rs15, b1, b2, allowB]
    · by_cases b3 : frB f = true
      · have b3' : 0 ≤ f ∧ f ≤ 100000000 := by simpa [frB] using b3
        have hw1 : IntKind.i64.wrap (f + n) = f + n := by rw [wrap_in] <;> omega
        have hw2 : IntKind.i64.wrap (f + n - 1) = f + n - 1 := by rw [wrap_in] <;> omega
        rw [show decide (0 ≤ f ∧ f ≤ 100000000) = true from b3] at k34
        by_cases b4 : frB (f + n - 1) = true
        · rw [show decide (0 ≤ f + n - 1 ∧ f + n - 1 ≤ 100000000) = true from b4] at k34'
          have k36 := permS_pure p id region (f, f + n) hc hsh hit (by simp only; omega) (by simp only; omega)
          have k35 := covers_pure (permS p id region (f, f + n)) (f, f + n) (by have := permS_len p id region (f, f + n); omega)
          simp [sc15, plRow, orcAl, rs15, b1, b2, b3, b4, hw1, hw2, allowB]
          exact ⟨k34, k34', k36, k35⟩
        · have b4' : frB (f + n - 1) = false := by simpa using b4
          rw [show decide (0 ≤ f + n - 1 ∧ f + n - 1 ≤ 100000000) = false from b4'] at k34'
          simp [sc15, plRow, orcAl, rs15, b1, b2, b3, b4', hw1, hw2, allowB]
          exact ⟨k34, k34'⟩
      · have b3' : frB f = false := by simpa using b3
        rw [show decide (0 ≤ f ∧ f ≤ 100000000) = false from b3'] at k34
        simp [sc15, plRow, orcAl, rs15, b1, b2, b3', allowB]
        exact k34
end Go.Proofs.YtdebhhpklhbihaaGreatDoor
/-
  OWN WORK. Contract: few (a plan cut to a small one).
-/
namespace Go.Proofs.YtdebhhpklhbihaaGreatDoor
open Go Go.Abs

def fewP (p : Pl) : Pl := { p with its := p.its.take 20, ens := p.ens.take 16, cls := p.cls.take 20, sh := p.sh.take 6, ln := min p.ln 1200 }

set_option maxRecDepth 100000 in
set_option maxHeartbeats 4000000 in
theorem few_pure (p : Pl) : Pure Tryz.prog gl0 10 [.agg (plRow p)] (.agg (plRow (fewP p))) := by
  refine pureE code10 (fun _ _ _ => .junk) (by simp) ?_
  simp [sc10, plRow, rs10, fewP]
  refine ⟨⟨by omega, fun _ _ => rfl⟩, ⟨by omega, fun _ _ => rfl⟩, ⟨by omega, fun _ _ => rfl⟩, ⟨by omega, by rintro row a b _ rfl; rfl⟩, by omega, by omega, by omega, by omega, by omega⟩
end Go.Proofs.YtdebhhpklhbihaaGreatDoor
/-
  OWN WORK. Contract: plan.find at entries.
-/
namespace Go.Proofs.YtdebhhpklhbihaaGreatDoor
open Go Go.Abs

def fndN (id : Int) : List En → Option En
  | [] => none
  | x :: r => if x.id = id then some x else fndN id r
def enAV : Option En → AV
  | some x => .tup [.agg (enRow x), .bool true]
  | none => .tup [.agg [I 0, I 0, I 0, I 0, I 0, I 0, .sl .nil []], .bool false]
theorem enKey_pure (e : En) : Pure Tryz.prog gl0 60 [.agg (enRow e)] (I e.id) := by
  refine pureE code60 (fun _ _ _ => .junk) (by simp) ?_
  simp [sc60, enRow, rs60]

set_option maxRecDepth 100000 in
set_option maxHeartbeats 2000000 in
theorem findN_pure (L : List En) (id : Int) (hl : L.length ≤ 1000000000) : Pure Tryz.prog gl0 59 [.sl .ro (L.map enRow), I id, .fn 60 [] []] (enAV (fndN id L)) := by
  refine pureE code59 (fun _ f l => if f = 60 then (match l with | [.agg (c :: _)] => c | _ => .junk) else .junk) (by simp) ?_
  simp [sc59]
  refine vc_loopE w59_0 (fun f m => ∃ (i : Nat) (bx : List (List AV)), f 13 = I i ∧ i ≤ L.length ∧ fndN id (L.drop i) = fndN id L ∧ m = ⟨[I 0, I 0, I 0, I 0, I 0, I 0, .sl .nil []] :: bx, [], fun _ => .gone, 0⟩) (fun f _ => L.length - (numOf (f 13)).toNat) ?_ ?_
  · exact ⟨0, [], by simp, by omega, rfl, rfl⟩
  · rintro f m ⟨i, bx, h13, hi, hf, rfl⟩
    rcases Nat.lt_or_ge i L.length with hlt | hge
    · obtain ⟨x, hx⟩ : ∃ x, L[i]? = some x := ⟨_, List.getElem?_eq_getElem hlt⟩
      have hrow : rowN (L.map enRow) i = enRow x := rowN_eq (by simp [hx])
      have hilt : (i : Int) < (L.length : Int) := by omega
      have hw : IntKind.i64.wrap ((i : Int) + 1) = ((i + 1 : Nat) : Int) := by rw [wrap_in] <;> omega
      have hd : L.drop i = x :: L.drop (i + 1) := by rw [List.drop_eq_getElem_cons hlt, (List.getElem?_eq_some_iff.1 hx).2]
      have hk := enKey_pure x
      rw [hd, fndN] at hf
      by_cases hid : x.id = id
      · rw [if_pos hid] at hf
        simp [h13, hlt, hilt, hrow, enRow, hid, w59_0, rs59, ← hf, enAV]
        simpa [enRow, hid] using hk
      · rw [if_neg hid] at hf
        simp [h13, hlt, hilt, hrow, enRow, hid, w59_0, hw]
        refine ⟨hk, ag ?_, ⟨i + 1, by simp, by omega, hf⟩, by omega⟩
        repeat (first | exact agree_refl _ _ | refine agree_cons _ rfl ?_)
    · rw [List.drop_eq_nil_of_le hge] at hf
      have hin : ¬ (i : Int) < (L.length : Int) := by omega
      simp [h13, Nat.not_lt.2 hge, hin, w59_0, rs59, ← hf, enAV, fndN]
end Go.Proofs.YtdebhhpklhbihaaGreatDoor
/-
  OWN WORK. Contracts: slices.Clone of spans, plan.Entry.
-/
namespace Go.Proofs.YtdebhhpklhbihaaGreatDoor
open Go Go.Abs

theorem rep_nil_or {w : World} {γ : G} {rows : List (List AV)} {v : Value} (h : Rep w γ (.sl .ro rows) v) : Rep w γ (.sl .nil rows) v ∨ Rep w γ (.sl .nn rows) v := by
  cases h with
  | sl b off sz cv hcap hnil ha hsz hc hr hrt =>
    rename_i a cap
    by_cases e : a = none
    · exact .inl (.sl b off sz cv hcap hnil ha hsz hc hr e)
    · exact .inr (.sl b off sz cv hcap hnil ha hsz hc hr e)
theorem pure_nil_or {P : Program} {gl : Nat → AV} {f : FuncId} {rows : List (List AV)} {r : AV} (h : Pure P gl f [.sl .nil rows] r) (k : Pure P gl f [.sl .nn rows] r) : Pure P gl f [.sl .ro rows] r :=
  ⟨h.1, fun ro w vs hgl hr => by
    match vs, hr with
    | [v], hr =>
      rcases rep_nil_or (hr.2 0 _ v rfl rfl) with h1 | h1
      · exact h.2 ro w [v] hgl ⟨rfl, fun i x y hx hy => by
          cases i with
          | zero => cases hx; cases hy; exact h1
          | succ i => cases hx⟩
      · exact k.2 ro w [v] hgl ⟨rfl, fun i x y hx hy => by
          cases i with
          | zero => cases hx; cases hy; exact h1
          | succ i => cases hx⟩
    | [], hr => exact absurd hr.1 (by simp)
    | _ :: _ :: _, hr => exact absurd hr.1 (by simp)⟩

theorem cloneNN_pure : Pure Tryz.prog gl0 39 [.sl .nn []] (.sl .ro []) := by
  have : ∃ rt, Pure Tryz.prog gl0 39 [.sl .nn []] (.sl rt []) := by
    refine ⟨.ro, pureE code39 (fun _ _ _ => .junk) (by simp) ?_⟩
    simp [sc39, rs39]
  obtain ⟨rt, h⟩ := this
  exact pure_res h (Wk.sl _ _)
theorem cloneS_pure (l : List Sp) (hl : l.length ≤ 8796093022208) : Pure Tryz.prog gl0 39 [.sl .ro (l.map spRow)] (.sl .ro (l.map spRow)) := by
  cases l with
  | nil => exact pure_nil_or (pure_res cloneN_pure (Wk.sl _ _)) cloneNN_pure
  | cons x r =>
    refine pureE code39 (fun _ _ _ => .junk) (by simp) ?_
    simp [sc39, rs39]
    simp at hl
    refine ⟨⟨rfl, ?_⟩, by omega⟩
    rintro row a b _ rfl
    rfl

set_option maxRecDepth 100000 in
theorem entry_pure (p : Pl) (id : Int) (hl : p.ens.length ≤ 1000000000) (ha : ∀ e ∈ p.ens, e.al.length ≤ 8796093022208) : Pure Tryz.prog gl0 30 [.agg (plRow p), I id] (enAV (fndN id p.ens)) := by
  have h59 := findN_pure p.ens id hl
  refine pureE code30 (fun _ f l => if f = 59 then enAV (fndN id p.ens) else l.headD .junk) (by simp) ?_
  cases hf : fndN id p.ens with
  | none =>
    rw [hf] at h59
    simp [sc30, rs30, plRow, enAV, hf]
    exact ⟨h59, cloneN_pure⟩
  | some x =>
    rw [hf] at h59
    have hx : x ∈ p.ens := by
      have : ∀ l : List En, fndN id l = some x → x ∈ l := by
        intro l
        induction l with
        | nil => intro h; cases h
        | cons y r ih =>
          intro h
          simp only [fndN] at h
          split at h
          · cases h; simp
          · simp [ih h]
      exact this _ hf
    have hc := cloneS_pure x.al (ha x hx)
    simp [sc30, rs30, plRow, enAV, enRow, hf]
    exact ⟨h59, hc⟩
end Go.Proofs.YtdebhhpklhbihaaGreatDoor
/-
  OWN WORK. Contracts: plan.Item, fills (the maker of the iterator), the collect's last closure.
-/
namespace Go.Proofs.YtdebhhpklhbihaaGreatDoor
open Go Go.Abs

theorem itKey_pure (e : It) : Pure Tryz.prog gl0 91 [.agg (itRow e)] (I e.id) := by
  refine pureE code91 (fun _ _ _ => .junk) (by simp) ?_
  simp [sc91, itRow, rs91]

set_option maxRecDepth 100000 in
set_option maxHeartbeats 2000000 in
theorem findI_pure (L : List It) (id : Int) (hl : L.length ≤ 1000000000) : Pure Tryz.prog gl0 114 [.sl .ro (L.map itRow), I id, .fn 91 [] []] (itAV (fndI id L)) := by
  refine pureE code114 (fun _ f l => if f = 91 then (match l with | [.agg (c :: _)] => c | _ => .junk) else .junk) (by simp) ?_
  simp [sc114]
  refine vc_loopE w114_0 (fun f m => ∃ (i : Nat) (bx : List (List AV)), f 13 = I i ∧ i ≤ L.length ∧ fndI id (L.drop i) = fndI id L ∧ m = ⟨[I 0, I 0, I 0, I 0, I 0] :: bx, [], fun _ => .gone, 0⟩) (fun f _ => L.length - (numOf (f 13)).toNat) ?_ ?_
  · exact ⟨0, [], by simp, by omega, rfl, rfl⟩
  · rintro f m ⟨i, bx, h13, hi, hf, rfl⟩
    rcases Nat.lt_or_ge i L.length with hlt | hge
    · obtain ⟨x, hx⟩ : ∃ x, L[i]? = some x := ⟨_, List.getElem?_eq_getElem hlt⟩
      have hrow : rowN (L.map itRow) i = itRow x := rowN_eq (by simp [hx])
      have hilt : (i : Int) < (L.length : Int) := by omega
      have hw : IntKind.i64.wrap ((i : Int) + 1) = ((i + 1 : Nat) : Int) := by rw [wrap_in] <;> omega
      have hd : L.drop i = x :: L.drop (i + 1) := by rw [List.drop_eq_getElem_cons hlt, (List.getElem?_eq_some_iff.1 hx).2]
      have hk := itKey_pure x
      rw [hd, fndI] at hf
      by_cases hid : x.id = id
      · rw [if_pos hid] at hf
        simp [h13, hlt, hilt, hrow, itRow, hid, w114_0, rs114, ← hf, itAV]
        simpa [itRow, hid] using hk
      · rw [if_neg hid] at hf
        simp [h13, hlt, hilt, hrow, itRow, hid, w114_0, hw]
        refine ⟨hk, ag ?_, ⟨i + 1, by simp, by omega, hf⟩, by omega⟩
        repeat (first | exact agree_refl _ _ | refine agree_cons _ rfl ?_)
    · rw [List.drop_eq_nil_of_le hge] at hf
      have hin : ¬ (i : Int) < (L.length : Int) := by omega
      simp [h13, Nat.not_lt.2 hge, hin, w114_0, rs114, ← hf, itAV, fndI]

set_option maxRecDepth 100000 in
theorem item_pure (p : Pl) (id : Int) (hl : p.its.length ≤ 1000000000) : Pure Tryz.prog gl0 62 [.agg (plRow p), I id] (itAV (fndI id p.its)) := by
  have h := findI_pure p.its id hl
  refine pureE code62 (fun _ f l => if f = 114 then itAV (fndI id p.its) else .junk) (by simp) ?_
  cases hf : fndI id p.its with
  | none =>
    rw [hf] at h
    simp [sc62, rs62, plRow, itAV, hf]
    exact h
  | some x =>
    rw [hf] at h
    simp [sc62, rs62, plRow, itAV, itRow, hf]
    exact h
set_option maxRecDepth 100000 in
theorem fills_pure (p : Pl) (f t : Int) : Pure Tryz.prog gl0 31 [.agg (plRow p), I f, I t] (.fn 61 [] [.ep (plRow p) 0, .ep [I f] 0, .ep [I t] 0]) := by
  refine pureE code31 (fun _ _ _ => .junk) (by simp) ?_
  simp [sc31, rs31, plRow]
end Go.Proofs.YtdebhhpklhbihaaGreatDoor
/-
  OWN WORK. Contract: rundown.collect.
-/
namespace Go.Proofs.YtdebhhpklhbihaaGreatDoor
open Go Go.Abs

def mskS (b : Nat → Bool) : Nat → Int
  | 0 => 0
  | n + 1 => mskS b n + if b n then 2 ^ n else 0
theorem mskS_bd (b : Nat → Bool) : ∀ n, 0 ≤ mskS b n ∧ mskS b n < 2 ^ n
  | 0 => by simp [mskS]
  | n + 1 => by
    have := mskS_bd b n
    have h2 : (2 : Int) ^ (n + 1) = 2 * 2 ^ n := by rw [Int.pow_succ]; omega
    rw [mskS, h2]
    split <;> omega

theorem or_msk : ∀ i : Nat, i < 8 → ∀ x : Nat, x < 2 ^ i → IntKind.i64.wrap (((((x : Int) % 2 ^ IntKind.i64.bits).toNat ||| (IntKind.i64.wrap (2 ^ min i IntKind.i64.bits) % 2 ^ IntKind.i64.bits).toNat : Nat)) : Int) = (x : Int) + 2 ^ i := by
  decide +kernel

set_option maxRecDepth 100000 in
set_option maxHeartbeats 2000000 in
theorem collect_eff (Y : YT) (p : Pl) (h : FuncId) (cap : List AV) (b : Nat → Bool) (m : AM) (K : AV → AM → Prop)
    (hg : ∀ (i : Nat) (mm : AM), i < 8 → (i : Int) < p.rg → (∃ bx, mm = ⟨m.boxes ++ bx, m.lens, m.st, m.ln⟩) → ∀ K' : AV → AM → Prop, K' (.bool (b i)) mm → EffY Tryz.prog gl0 Y h ([I i] ++ cap) mm K')
    (hK : ∀ bx, K (I (mskS b (min p.rg 8).toNat)) ⟨m.boxes ++ bx, m.lens, m.st, m.ln⟩) : EffY Tryz.prog gl0 Y 63 [.agg (plRow p), .fn h [] cap] m K := by
  refine effE code63 (fun _ _ _ => .gd false .junk) (by simp) ?_
  obtain ⟨n, hn⟩ : ∃ n, (min p.rg 8).toNat = n := ⟨_, rfl⟩
  have hr0 : rowN (m.boxes ++ [plRow p]) m.boxes.length = plRow p := by
    simp
  rw [hn] at hK
  have hmn : (if 8 < p.rg then 8 else p.rg) = min p.rg 8 := by omega
  simp only [plRow] at hr0
  simp [sc63, plRow, hr0]
  refine vc_loopE w63_0 (fun f mm => ∃ (i : Nat) (bx : List (List AV)), f 10 = I i ∧ (i = 0 ∨ i ≤ n) ∧ mm = ⟨m.boxes ++ bx, m.lens, m.st, m.ln⟩ ∧ f 5 = I (mskS b i)) (fun f _ => n - (numOf (f 10)).toNat) ?_ ?_
  · exact ⟨0, _, by simp, .inl rfl, rfl, by simp [mskS]⟩
  · rintro f mm ⟨i, bx, h10, hi, rfl, h5⟩
    by_cases hlt : (i : Int) < min p.rg 8
    · have hin : i < n := by omega
      have hw : IntKind.i64.wrap ((i : Int) + 1) = ((i + 1 : Nat) : Int) := by rw [wrap_in] <;> omega
      have hmb := mskS_bd b i
      have hg' := hg i ⟨m.boxes ++ bx, m.lens, m.st, m.ln⟩ (by omega) (by omega) ⟨_, rfl⟩
      have hor : IntKind.i64.wrap ((((mskS b i % 2 ^ IntKind.i64.bits).toNat ||| (IntKind.i64.wrap (2 ^ min i IntKind.i64.bits) % 2 ^ IntKind.i64.bits).toNat : Nat)) : Int) = mskS b i + 2 ^ i := by
        obtain ⟨x, hx⟩ : ∃ x : Nat, mskS b i = (x : Int) := ⟨(mskS b i).toNat, by omega⟩
        have hx2 : x < 2 ^ i := by
          have h2 := hmb.2
          rw [hx] at h2
          exact_mod_cast h2
        rw [hx]
        exact or_msk i (by omega) x hx2
      have hms : mskS b (i + 1) = mskS b i + if b i then 2 ^ i else 0 := rfl
      simp [h10, h5, w63_0, hmn, hlt]
      refine hg' _ ?_
      cases hb : b i with
      | true =>
        rw [hb] at hms
        simp [hor, hw]
        refine ⟨ag ?_, ⟨i + 1, by omega, by omega, by rw [hms]; rfl⟩, by omega⟩
        repeat (first | exact agree_refl _ _ | refine agree_cons _ rfl ?_)
      | false =>
        rw [hb] at hms
        simp [hw]
        refine ⟨ag ?_, ⟨i + 1, by omega, by omega, by rw [hms]; simp⟩, by omega⟩
        repeat (first | exact agree_refl _ _ | refine agree_cons _ rfl ?_)
    · have hin : i = n := by omega
      subst hin
      simp [h10, h5, w63_0, hmn, hlt, rs63]
      exact hK _
end Go.Proofs.YtdebhhpklhbihaaGreatDoor
/-
  OWN WORK. Contract: rundown.fills.
-/
namespace Go.Proofs.YtdebhhpklhbihaaGreatDoor
open Go Go.Abs

def fillN (fr t a : Int) : Int := if 1 ≤ fr then min (t - a) fr else t - a
def fillL (fr t a : Int) : List (Int × Int) := if a < t then (a, fillN fr t a) :: fillL fr t (a + fillN fr t a) else []
termination_by (t - a).toNat
decreasing_by simp only [fillN]; split <;> omega
def filFr (p : Pl) : Int := match fndI p.fi p.its with | some x => x.fr | none => 0
def filM (p : Pl) : Int := mskS (fun _ => true) (min p.rg 8).toNat
def fillAgg (p : Pl) (x : Int × Int) : List AV := [.agg [I 0, I p.fi, I x.1, I x.2, I 0, I (filM p), .sl .nil []]]
def orcF (p : Pl) : Nat → FuncId → List AV → AV := fun _ f _ => if f = 62 then itAV (fndI p.fi p.its) else .gd false .junk

set_option maxRecDepth 100000 in
set_option maxHeartbeats 4000000 in
theorem fills_iter (p : Pl) (f t : Int) (hl : p.its.length ≤ 1000000000) (hb : -1000000000 ≤ f ∧ t ≤ 1000000000) (hf : f ≤ 1000000000 ∧ -1000000000 ≤ t) :
    IterO Tryz.prog gl0 61 [] [.ep (plRow p) 0, .ep [I f] 0, .ep [I t] 0] ((fillL (filFr p) t f).map (fillAgg p)) := by
  intro Y l m K hF
  have k62 := item_pure p p.fi hl
  refine effE code61 (orcF p) (by simp) ?_
  obtain ⟨b, row, hitv, hrow⟩ : ∃ (b : Bool) (y : It), itAV (fndI p.fi p.its) = .tup [.agg (itRow y), .bool b] ∧ y.fr = filFr p := by
    unfold filFr
    cases fndI p.fi p.its with
    | none => exact ⟨false, ⟨0, 0, 0, 0, 0⟩, rfl, rfl⟩
    | some x => exact ⟨true, x, rfl, rfl⟩
  rw [hitv] at k62
  simp [sc61, plRow, orcF, hitv, itRow]
  refine ⟨k62, collect_eff Y p 64 [] (fun _ => true) _ _ (fun i mm _ _ _ K' h => by
    show EffY _ _ _ _ [I (i : Int)] _ _
    refine effE code64 (fun _ _ _ => .junk) (by simp) ?_
    simp [sc64, rs64]
    exact h) fun bx => ?_⟩
  obtain ⟨B0, hB0⟩ : ∃ B0, m.boxes.length = B0 := ⟨_, rfl⟩
  have hF1 := hF.ext (m' := ⟨m.boxes ++ [[I row.id, I row.ki, I row.fr, I row.sp, I row.ra]] ++ bx, m.lens, m.st, m.ln⟩) ⟨by simp, fun j hj _ => by rw [List.append_assoc]; exact rowN_app hj, ⟨[], by simp⟩, fun _ _ => rfl⟩
  simp only [hB0]
  refine vc_loopE w61_0 (fun g mm => ∃ (a : Int) (O : Nat → Prop), g 8 = I a ∧ -1000000000 ≤ a ∧ a ≤ 1000000000 ∧ B0 < mm.boxes.length ∧ rowN mm.boxes B0 = [I row.id, I row.ki, I row.fr, I row.sp, I row.ra] ∧ O B0 ∧ FoldO (Y l) K ((fillL (filFr p) t a).map (fillAgg p)) O mm) (fun g _ => (t - numOf (g 8)).toNat) ?_ ?_
  · refine ⟨f, _, by simp, by omega, by omega, by simp [hB0], ?_, .inr ⟨by omega, by simp; omega⟩, hF1⟩
    show rowN (m.boxes ++ [_] ++ bx) B0 = _
    rw [rowN_app (by simp; omega)]
    subst hB0
    simp
  · rintro g mm ⟨a, O, h8, a1, a2, hlm, hrw, hOb, hFo⟩
    by_cases hlt : a < t
    · rw [fillL, if_pos hlt] at hFo
      simp only [List.map_cons, fillAgg] at hFo
      have hw1 : IntKind.i64.wrap (t - a) = t - a := by rw [wrap_in] <;> omega
      have hfn : fillN (filFr p) t a = if 1 ≤ row.fr then min (t - a) row.fr else t - a := by rw [fillN, hrow]
      have hfb : 1 ≤ fillN (filFr p) t a ∧ fillN (filFr p) t a ≤ t - a := by rw [hfn]; split <;> omega
      have hw2 : IntKind.i64.wrap (a + fillN (filFr p) t a) = a + fillN (filFr p) t a := by rw [wrap_in] <;> omega
      have hmn : (if row.fr < t - a then row.fr else t - a) = min (t - a) row.fr := by omega
      have hM : mskS (fun _ => true) (min p.rg 8).toNat = filM p := rfl
      generalize hN : fillN (filFr p) t a = N at *
      have key : ∀ g1, (1 ≤ row.fr → g1 = min (t - a) row.fr) → True := fun _ _ => trivial
      have hwN : IntKind.i64.wrap N = N := by rw [wrap_in] <;> omega
      by_cases hfr : 1 ≤ row.fr
      · rw [if_pos hfr] at hfn
        simp [h8, w61_0, hlt, hrw, hfr, hw1, hmn, ← hfn, hwN, hM, hlm]
        refine hFo _ (ExtO.refl _ _) _ (fun m2 hS2 hF2 => ?_) (fun m2 hK => ?_)
        · have q1 : rowN m2.boxes B0 = [I row.id, I row.ki, I row.fr, I row.sp, I row.ra] := by rw [hS2.2 B0 (.inl hOb)]; exact hrw
          have hl2 := hS2.1
          simp [hw2]
          refine ⟨ag ?_, ⟨by omega, by omega, by omega, q1, _, .inl hOb, hF2⟩, by omega⟩
          repeat (first | exact agree_refl _ _ | refine agree_cons _ rfl ?_)
        · simp [rs61]
          exact hK _ (ExtO.refl _ _)
      · rw [if_neg hfr] at hfn
        simp [h8, w61_0, hlt, hrw, hfr, hw1, ← hfn, hwN, hM, hlm]
        refine hFo _ (ExtO.refl _ _) _ (fun m2 hS2 hF2 => ?_) (fun m2 hK => ?_)
        · have q1 : rowN m2.boxes B0 = [I row.id, I row.ki, I row.fr, I row.sp, I row.ra] := by rw [hS2.2 B0 (.inl hOb)]; exact hrw
          have hl2 := hS2.1
          simp [hw2]
          refine ⟨ag ?_, ⟨by omega, by omega, by omega, q1, _, .inl hOb, hF2⟩, by omega⟩
          repeat (first | exact agree_refl _ _ | refine agree_cons _ rfl ?_)
        · simp [rs61]
          exact hK _ (ExtO.refl _ _)
    · rw [fillL, if_neg hlt] at hFo
      simp only [List.map_nil] at hFo
      simp [h8, w61_0, hlt, rs61]
      exact hFo _ (ExtO.refl _ _)
end Go.Proofs.YtdebhhpklhbihaaGreatDoor
/-
  OWN WORK. Contracts: the closures of rundown.event.
-/
namespace Go.Proofs.YtdebhhpklhbihaaGreatDoor
open Go Go.Abs

set_option maxRecDepth 100000 in
theorem evt1_eff (Y : YT) (p : Pl) (e : En) (a r fr : Int) (m : AM) (bp bf be : Nat) (hc : p.cls.length ≤ 1000000) (hsh : p.sh.length ≤ 1000000000) (hit : p.its.length ≤ 1000000000)
    (h1 : rowN m.boxes bp = plRow p) (h2 : rowN m.boxes bf = [I fr]) (h3 : rowN m.boxes be = enRow e) (K : AV → AM → Prop) (hK : K (.bool (allowB p a r fr e.fr)) m) :
    EffY Tryz.prog gl0 Y 65 [I a, I r, .ptr bp 0, .ptr bf 0, .ptr be 0] m K := by
  have k := allowed_pure p a r fr e.fr hc hsh hit
  refine effE code65 (fun _ f _ => if f = 15 then .bool (allowB p a r fr e.fr) else .junk) (by simp) ?_
  simp only [plRow] at h1
  simp only [enRow] at h3
  simp [sc65, rs65, h1, h2, h3]
  exact ⟨k, hK⟩

set_option maxRecDepth 100000 in
theorem evt2_eff (Y : YT) (p : Pl) (e : En) (r fr : Int) (m : AM) (bp bf be bg : Nat) (hc : p.cls.length ≤ 1000000) (hsh : p.sh.length ≤ 1000000000) (hit : p.its.length ≤ 1000000000)
    (h1 : rowN m.boxes bp = plRow p) (h2 : rowN m.boxes bf = [I fr]) (h3 : rowN m.boxes be = enRow e) (h4 : rowN m.boxes bg = [.fn 65 [] [.ptr bp 0, .ptr bf 0, .ptr be 0]]) (K : AV → AM → Prop) (hK : K (.bool (allowB p e.it r fr e.fr)) m) :
    EffY Tryz.prog gl0 Y 66 [I r, .ptr bg 0, .ptr be 0] m K := by
  have k := evt1_eff Y p e e.it r fr m bp bf be hc hsh hit h1 h2 h3
  refine effE code66 (fun _ _ _ => .gd false .junk) (by simp) ?_
  simp only [enRow] at h3
  simp [sc66, h4, h3]
  refine k _ ?_
  simp [rs66]
  exact hK
end Go.Proofs.YtdebhhpklhbihaaGreatDoor
