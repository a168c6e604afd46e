/-
  OWN WORK. Contracts: pick, media.Find, playout.Genuine, and the reference's Find and Genuine.
-/
import Derived.Test.YtedgjnpaebllpaaGreatDoorCodeT
import Derived.Test.YtedgjnpaebllpaaGreatDoorMF
set_option linter.unusedVariables false
set_option linter.unusedSimpArgs false
namespace Go.Proofs.YtedgjnpaebllpaaGreatDoor
open Go Go.Abs

abbrev I (n : Int) : AV := .int .i64 n
def tbl : List AV := [.int .u32 0, .int .u32 274646895, .int .u32 549293790, .int .u32 820201905, .int .u32 1098587580, .int .u32 1361435347, .int .u32 1640403810, .int .u32 1905808397, .int .u32 2197175160, .int .u32 2460548119, .int .u32 2722870694, .int .u32 2987750089, .int .u32 3280807620, .int .u32 3553878443, .int .u32 3811616794, .int .u32 4084100981]
def gl0 : Nat → AV
  | 0 => .ep tbl 0
  | _ => .junk

def pickI (c n : Int) : Int := (if c < 0 then -(c + 1) else c).tmod n

theorem pick_pure (c n : Int) (h0 : -9223372036854775808 ≤ c) (h1 : c ≤ 9223372036854775807) (hn : n ≠ 0) : Pure Tryz.prog gl0 7 [I c, I n] (I (pickI c n)) := by
  refine pureE code7 (fun _ _ _ => .junk) (by simp) ?_
  have hw1 : c < 0 → IntKind.i64.wrap (c + 1) = c + 1 := fun h => by rw [wrap_in] <;> omega
  have hw2 : c < 0 → IntKind.i64.wrap (-(c + 1)) = -(c + 1) := fun h => by rw [wrap_in] <;> omega
  by_cases h : c < 0
  · simp [sc7, rs7, h, hw1 h, hw2 h, hn, pickI]
  · simp [sc7, rs7, h, hn, pickI]

structure Pic where
  key : Bool
  data : ByteArray
  power : Int
def picRow (p : Pic) : List AV := [.bool p.key, .str p.data, I p.power]
structure Asset where
  item : Int
  pics : List Pic
def assetRow (a : Asset) : List AV := [I a.item, .sl .ro (a.pics.map picRow)]
def libAV (L : List Asset) : AV := .sl .ro (L.map assetRow)

def orcEq : Nat → FuncId → List AV → AV := fun _ _ l => match l with
  | [.agg (.int _ x :: _), .ep [.int _ y] _] => .bool (x == y)
  | _ => .junk

theorem find1_pure (x item : Int) (s : AV) (hs : ok1 s = true) : Pure Tryz.prog gl0 38 [.agg [I x, s], .ep [I item] 0] (.bool (x == item)) := by
  refine pureE code38 (fun _ _ _ => .junk) (by simp) ?_
  simp [sc38, rs38, isCell_ok1 hs]

def srch (item : Int) : List Asset → Nat → Int
  | [], _ => -1
  | a :: r, i => if a.item = item then i else srch item r (i + 1)

theorem drop_cons {α : Type} {l : List α} {i : Nat} {a : α} (h : l[i]? = some a) : l.drop i = a :: l.drop (i + 1) := by
  obtain ⟨h1, h2⟩ := List.getElem?_eq_some_iff.1 h
  rw [List.drop_eq_getElem_cons h1, h2]

theorem indexA_pure (L : List Asset) (item : Int) (hL : L.length ≤ 1000000000) : Pure Tryz.prog gl0 37 [libAV L, .fn 38 [] [.ep [I item] 0]] (I (srch item L 0)) := by
  refine pureE code37 orcEq (by simp) ?_
  simp [sc37, rs37, libAV]
  refine vc_loopE [4, 5, 8, 9, 10, 11, 12, 13, 14, 15, 16, 17, 18] (fun f m => ∃ i : Nat, f 8 = I i ∧ i ≤ L.length ∧ srch item (L.drop i) i = srch item L 0 ∧ m = ⟨[], [], fun _ => .gone, 0⟩) (fun f m => L.length - (numOf (f 8)).toNat) ?_ ?_
  · exact ⟨0, by simp, by omega, by simp, rfl⟩
  · rintro f m ⟨i, hi, hle, hs, rfl⟩
    rcases Nat.lt_or_ge i L.length with hlt | hge
    · obtain ⟨a, ha⟩ : ∃ a, L[i]? = some a := ⟨L[i], List.getElem?_eq_getElem hlt⟩
      have hrow : rowN (L.map assetRow) i = assetRow a := rowN_eq (by simp [ha])
      have hw : IntKind.i64.wrap ((i : Int) + 1) = ((i + 1 : Nat) : Int) := by rw [wrap_in] <;> omega
      rw [drop_cons ha] at hs
      have hp := find1_pure a.item item (.sl .ro (a.pics.map picRow)) rfl
      by_cases h : a.item = item
      · simp [srch, h] at hs
        simp [hi, hrow, hlt, assetRow, orcEq, h]
        simp [h] at hp
        exact ⟨hp, hs⟩
      · simp [srch, h] at hs
        simp [hi, hrow, hlt, assetRow, orcEq, h, hw]
        refine ⟨hp, ag ?_, ⟨i + 1, by simp, by omega, hs⟩, by omega⟩
        repeat (first | exact agree_refl _ _ | refine agree_cons _ rfl ?_)
    · rw [List.drop_eq_nil_of_le hge] at hs
      simp [hi, Nat.not_lt.2 hge]
      exact hs

def fnd (item : Int) : List Asset → Option Asset
  | [] => none
  | a :: r => if a.item = item then some a else fnd item r

theorem srch_none {item : Int} : ∀ {L : List Asset} {i : Nat}, fnd item L = none → srch item L i = -1
  | [], _, _ => rfl
  | a :: r, i, h => by
    simp only [fnd] at h
    split at h
    · cases h
    · rename_i hn; simp only [srch, if_neg hn]; exact srch_none h
theorem srch_some {item : Int} {a : Asset} : ∀ {L : List Asset} {i : Nat}, fnd item L = some a → ∃ k : Nat, srch item L i = ((i + k : Nat) : Int) ∧ L[k]? = some a ∧ a.item = item
  | [], _, h => by cases h
  | b :: r, i, h => by
    simp only [fnd] at h
    split at h
    · rename_i hb; cases h; exact ⟨0, by simp [srch, hb], rfl, hb⟩
    · rename_i hn
      obtain ⟨k, h1, h2, h3⟩ := srch_some (i := i + 1) h
      exact ⟨k + 1, by simp only [srch, if_neg hn, h1]; omega, by simpa using h2, h3⟩

def BigOK (L : List Asset) : Prop := L.length ≤ 1000000000 ∧ ∀ a ∈ L, a.pics.length ≤ 1000000000
def zeroA : AV := .tup [.agg [I 0, .sl .nil []], .bool false]
def foundA : Option Asset → AV
  | none => zeroA
  | some a => .tup [.agg (assetRow a), .bool true]

theorem pic_len (l : List Pic) : ∀ row ∈ l.map picRow, row.length = 3 := by
  intro row h
  simp at h
  obtain ⟨p, _, rfl⟩ := h
  rfl

theorem find_pure (L : List Asset) (item : Int) (hL : BigOK L) : Pure Tryz.prog gl0 19 [libAV L, I item] (foundA (fnd item L)) := by
  have hix := indexA_pure L item hL.1
  refine pureE code19 (fun _ _ _ => I (srch item L 0)) (by simp) ?_
  cases hf : fnd item L with
  | none =>
    rw [srch_none hf] at hix ⊢
    simp [sc19, rs19, foundA, zeroA]
    exact hix
  | some a =>
    obtain ⟨k, h1, h2, h3⟩ := srch_some (i := 0) hf
    rw [h1] at hix ⊢
    have hlt : k < L.length := (List.getElem?_eq_some_iff.1 h2).1
    have hrow : rowN (L.map assetRow) k = assetRow a := rowN_eq (by simp [h2])
    have hp := hL.2 a (List.mem_of_getElem? h2)
    simp [sc19, rs19, foundA, libAV, hlt, hrow, assetRow, h3]
    refine ⟨?_, fun _ _ => rfl, by omega⟩
    rw [Nat.zero_add] at hix
    exact hix

theorem refFind_pure (L : List Asset) (item : Int) (hL : BigOK L) : Pure Tryz.prog gl0 24 [libAV L, I item] (foundA (fnd item L)) := by
  refine pureE code24 (fun _ _ _ => .junk) (by simp) ?_
  have hb := hL.1
  simp [sc24, rs24, libAV]
  refine vc_loopE [5, 6, 7, 8, 9, 10, 11, 12, 13, 14, 15, 16, 17, 18, 19, 20, 21, 22, 23] (fun f m => ∃ i : Nat, f 6 = I i ∧ i ≤ L.length ∧ fnd item (L.drop i) = fnd item L ∧ m = ⟨[[I 0, .sl .nil []]], [], fun _ => .gone, 0⟩) (fun f m => L.length - (numOf (f 6)).toNat) ?_ ?_
  · exact ⟨0, by simp, by omega, by simp, rfl⟩
  · rintro f m ⟨i, hi, hle, hs, rfl⟩
    rcases Nat.lt_or_ge i L.length with hlt | hge
    · obtain ⟨a, ha⟩ : ∃ a, L[i]? = some a := ⟨L[i], List.getElem?_eq_getElem hlt⟩
      have hrow : rowN (L.map assetRow) i = assetRow a := rowN_eq (by simp [ha])
      have hw : IntKind.i64.wrap ((i : Int) + 1) = ((i + 1 : Nat) : Int) := by rw [wrap_in] <;> omega
      rw [drop_cons ha] at hs
      by_cases h : a.item = item
      · simp [fnd, h] at hs
        rw [← hs]
        simp [hi, hrow, hlt, assetRow, h, foundA]
      · simp [fnd, h] at hs
        simp [hi, hrow, hlt, assetRow, h, hw]
        refine ⟨ag ?_, ⟨i + 1, by simp, by omega, hs⟩, by omega⟩
        repeat (first | exact agree_refl _ _ | refine agree_cons _ rfl ?_)
    · rw [List.drop_eq_nil_of_le hge] at hs
      rw [← hs]
      simp [hi, Nat.not_lt.2 hge, fnd, foundA, zeroA]

/-- A unit, as the program has it. -/
structure Unit where
  ch : Int
  fr : Int
  ve : Int
  it : Int
  ix : Int
  key : Bool
  data : ByteArray
  re : Int
  ga : Int
  cap : ByteArray
  os : Int
  of : Int
  al : AV
def unitRow (u : Unit) : List AV := [I u.ch, I u.fr, I u.ve, I u.it, I u.ix, .bool u.key, .str u.data, I u.re, I u.ga, .str u.cap, I u.os, I u.of, u.al]

def genB (L : List Asset) (u : Unit) : Bool :=
  if u.it = 0 then (u.ix == 0 && u.key && (u.data.toList == (⟨#[]⟩ : ByteArray).toList)) else
  match fnd u.it L with
  | none => false
  | some a => if u.ix < 0 then false else match a.pics[u.ix.toNat]? with
    | none => false
    | some p => (p.key == u.key) && (p.data.toList == u.data.toList)

set_option maxRecDepth 100000 in
set_option maxHeartbeats 1000000 in
theorem genuine_pure (L : List Asset) (u : Unit) (hL : BigOK L) (hu : ok1 u.al = true) : Pure Tryz.prog gl0 15 [libAV L, .agg (unitRow u)] (.bool (genB L u)) := by
  have hf := find_pure L u.it hL
  refine pureE code15 (fun _ _ _ => foundA (fnd u.it L)) (by simp) ?_
  by_cases h0 : u.it = 0
  · simp [sc15, rs15, unitRow, isCell_ok1 hu, h0, genB]
  · cases hfn : fnd u.it L with
    | none =>
      rw [hfn] at hf
      have hg : genB L u = false := by simp [genB, h0, hfn]
      rw [hg]
      simp [sc15, rs15, unitRow, isCell_ok1 hu, h0, foundA, zeroA, libAV]
      exact hf
    | some a =>
      rw [hfn] at hf
      by_cases hx : u.ix < 0
      · have hx0 : ¬ 0 ≤ u.ix := by omega
        have hg : genB L u = false := by simp [genB, h0, hfn, hx]
        rw [hg]
        simp [sc15, rs15, unitRow, isCell_ok1 hu, h0, foundA, assetRow, hx, hx0, libAV]
        exact hf
      · have hx0 : 0 ≤ u.ix := by omega
        cases hp : a.pics[u.ix.toNat]? with
        | none =>
          have hlt : ¬ u.ix < a.pics.length := by
            have := List.getElem?_eq_none_iff.1 hp; omega
          have hge : (a.pics.length : Int) ≤ u.ix := by omega
          have hg : genB L u = false := by simp only [genB, if_neg h0, hfn, if_neg hx, hp]
          rw [hg]
          simp [sc15, rs15, unitRow, isCell_ok1 hu, h0, foundA, assetRow, hx, hlt, hge, hx0, libAV]
          exact hf
        | some p =>
          have hlt : u.ix < a.pics.length := by
            have := (List.getElem?_eq_some_iff.1 hp).1; omega
          have hge : ¬ (a.pics.length : Int) ≤ u.ix := by omega
          have hrow : rowN (a.pics.map picRow) u.ix.toNat = picRow p := rowN_eq (by simp [hp])
          have hg : genB L u = ((p.key == u.key) && (p.data.toList == u.data.toList)) := by simp only [genB, if_neg h0, hfn, if_neg hx, hp]
          rw [hg]
          simp [sc15, rs15, unitRow, isCell_ok1 hu, h0, foundA, assetRow, hx, hlt, hge, hx0, hrow, picRow, libAV]
          exact hf

end Go.Proofs.YtedgjnpaebllpaaGreatDoor
