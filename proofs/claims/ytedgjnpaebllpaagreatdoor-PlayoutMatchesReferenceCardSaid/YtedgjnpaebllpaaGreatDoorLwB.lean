/-
  OWN WORK. The contract of the law's Library: what it makes of a list of integers.
-/
import Derived.Test.YtedgjnpaebllpaaGreatDoorLwA
set_option linter.unusedVariables false
set_option linter.unusedSimpArgs false
namespace Go.Proofs.YtedgjnpaebllpaaGreatDoor
open Go Go.Abs

def libC (xs : List Int) (item i : Nat) : Int := if xs = [] then (item : Int) * ((i : Int) + 3) else pickI (xs.getD (i % xs.length) 0) 1073741824 + i
def picOf (xs : List Int) (item i : Nat) : Pic :=
  { key := (i == 0) || ((libC xs item i).tmod 5 == 0),
    data := ⟨[UInt8.ofNat (IntKind.u8.wrap item).toNat, UInt8.ofNat (IntKind.u8.wrap i).toNat, UInt8.ofNat (IntKind.u8.wrap (libC xs item i)).toNat].toArray⟩,
    power := (libC xs item i).tmod 90 * 1000 }
def nPics (item : Nat) : Nat := 40 + 5 * (item - 7)
def libPics (xs : List Int) (item n : Nat) : List Pic := (List.range n).map (picOf xs item)
def libA (xs : List Int) (item : Nat) : Asset := ⟨item, libPics xs item (nPics item)⟩
def libs (xs : List Int) (k : Nat) : List Asset := (List.range k).map fun j => libA xs (7 + j)
def ints (xs : List Int) : AV := .sl .ro (xs.map fun n => [I n])

theorem pickI_bd (c n : Int) (hn : 0 < n) : 0 ≤ pickI c n ∧ pickI c n < n := by
  unfold pickI
  split
  · have h : 0 ≤ -(c + 1) := by omega
    rw [Int.tmod_eq_emod_of_nonneg h]
    exact ⟨Int.emod_nonneg _ (by omega), Int.emod_lt_of_pos _ hn⟩
  · have h : 0 ≤ c := by omega
    rw [Int.tmod_eq_emod_of_nonneg h]
    exact ⟨Int.emod_nonneg _ (by omega), Int.emod_lt_of_pos _ hn⟩

theorem libC_bd (xs : List Int) (item i : Nat) (h1 : item ≤ 9) (h2 : i < 60) : 0 ≤ libC xs item i ∧ libC xs item i < 1073742000 := by
  unfold libC
  split
  · have h : (item : Int) * ((i : Int) + 3) = ((item * (i + 3) : Nat) : Int) := by simp
    rw [h]
    have : item * (i + 3) ≤ 9 * 63 := Nat.mul_le_mul h1 (by omega)
    omega
  · have := pickI_bd (xs.getD (i % xs.length) 0) 1073741824 (by omega)
    omega

theorem tmod_bd (c n : Int) (h : 0 ≤ c) (hn : 0 < n) : 0 ≤ c.tmod n ∧ c.tmod n < n := by
  rw [Int.tmod_eq_emod_of_nonneg h]
  exact ⟨Int.emod_nonneg _ (by omega), Int.emod_lt_of_pos _ hn⟩

theorem libPics_succ (xs : List Int) (item n : Nat) : libPics xs item (n + 1) = libPics xs item n ++ [picOf xs item n] := by
  simp [libPics, List.range_succ]

def LOK (xs : List Int) (k : Nat) (v : AV) (L : List Nat) : Prop := (k = 0 ∧ v = .sl .nil []) ∨ ∃ id, v = .sl (.own id 2) ((libs xs k).map assetRow) ∧ L[id]? = some k

set_option maxRecDepth 100000 in
set_option maxHeartbeats 4000000 in
theorem library_pure (xs : List Int) (hx : ∀ x ∈ xs, -9223372036854775808 ≤ x ∧ x ≤ 9223372036854775807) (hl : xs.length ≤ 9223372036854775807) : Pure Tryz.prog gl0 6 [ints xs] (libAV (libs xs 3)) := by
  refine pureE code6 (fun _ _ l => match l with | [.int _ a, .int _ b] => I (pickI a b) | _ => .junk) (by simp) ?_
  simp [sc6, rs6]
  refine vc_loopE [2, 3, 4, 5, 6, 7, 8, 9, 10, 11, 12, 13, 14, 15, 16, 17, 18, 19, 20, 21, 22, 23, 24, 25, 26, 27, 28, 29, 30, 31, 32, 33, 34, 35, 36, 37, 38, 39, 40, 41, 42, 43, 44, 45, 46, 47, 48, 49, 50, 51, 52, 53, 54, 55, 56, 57, 58, 59, 60, 61, 62, 63, 64, 65, 66]
    (fun f m => ∃ (k : Nat) (B : List (List AV)) (L : List Nat), k ≤ 3 ∧ f 4 = I ((7 + k : Nat) : Int) ∧ m = ⟨B, L, fun _ => .gone, 0⟩ ∧ LOK xs k (f 3) L) (fun f m => 10 - (numOf (f 4)).toNat) ?_ ?_
  · exact ⟨0, [], [], by omega, by simp, rfl, .inl ⟨rfl, by simp⟩⟩
  · rintro f m ⟨k, B, L, hk, h4, rfl, hL⟩
    by_cases hk3 : k = 3
    · subst hk3
      simp [h4]
      rcases hL with ⟨h, _⟩ | ⟨id, h3, h5⟩
      · cases h
      · simp [h3, libAV]
    · obtain ⟨it, hit⟩ : ∃ it, it = 7 + k := ⟨_, rfl⟩
      have hle : (it : Int) ≤ 9 := by omega
      have hitn : it ≤ 9 := by omega
      rw [← hit] at h4
      have hsub : IntKind.i64.wrap ((it : Int) - 7) = (it : Int) - 7 := by rw [wrap_in] <;> omega
      have hmul : IntKind.i64.wrap (5 * ((it : Int) - 7)) = 5 * ((it : Int) - 7) := by rw [wrap_in] <;> omega
      have hadd : IntKind.i64.wrap (40 + 5 * ((it : Int) - 7)) = ((nPics it : Nat) : Int) := by unfold nPics; rw [wrap_in] <;> omega
      have hN : nPics it ≤ 50 := by unfold nPics; omega
      have hN0 : 40 ≤ nPics it := by unfold nPics; omega
      simp [h4, hle]
      refine vc_loopE [6, 7, 14, 15, 16, 17, 18, 19, 20, 21, 22, 23, 24, 25, 26, 27, 28, 29, 30, 31, 32, 33, 34, 35, 36, 37, 38, 39, 40, 41, 42, 43, 44, 45, 46, 47, 48, 49, 50, 51, 52, 53, 54, 55, 56, 57, 58, 59, 60, 61, 62]
        (fun f m => ∃ (i : Nat) (rt : Rt) (L' : List Nat), i ≤ nPics it ∧ f 6 = I i ∧ m = ⟨B ++ [[I it, .sl rt ((libPics xs it i).map picRow)]], L', fun _ => .gone, 0⟩ ∧ ((i = 0 ∧ rt = .nil ∧ L' = L) ∨ (rt = .own L.length 3 ∧ L' = L ++ [i]))) (fun f m => 60 - (numOf (f 6)).toNat) ?_ ?_
      · exact ⟨0, .nil, L, by omega, by simp, by simp [libPics], .inl ⟨rfl, rfl, rfl⟩⟩
      · rintro g m ⟨i, rt, L', hi, h6, rfl, hrt⟩
        by_cases hiN : i = nPics it
        · subst hiN
          have hrt' : rt = .own L.length 3 ∧ L' = L ++ [nPics it] := by
            rcases hrt with ⟨h, _⟩ | h
            · omega
            · exact h
          obtain ⟨rfl, rfl⟩ := hrt'
          have hw1 : IntKind.i64.wrap ((it : Int) + 1) = ((it + 1 : Nat) : Int) := by rw [wrap_in] <;> omega
          rcases hL with ⟨h0, h3⟩ | ⟨id, h3, hid⟩
          · simp [h6, h4, hsub, hmul, hadd, h3, hw1]
            refine ⟨ag ?_, ⟨1, by omega, by omega, _, _, ⟨rfl, rfl⟩, .inr ⟨L.length + 1, ?_, by simp⟩⟩, by omega⟩
            · repeat (first | exact agree_refl _ _ | refine agree_cons _ rfl ?_)
            · subst h0
              obtain rfl : it = 7 := by omega
              simp [libs, libA, assetRow, List.range_succ]
          · have hidl : id < L.length := (List.getElem?_eq_some_iff.1 hid).1
            have hlk : (libs xs k).length = k := by simp [libs]
            simp [h6, h4, hsub, hmul, hadd, h3, hw1]
            refine ⟨⟨?_, ?_, by omega⟩, ag ?_, ⟨k + 1, by omega, by omega, _, _, ⟨rfl, rfl⟩, .inr ⟨id, ?_, ?_⟩⟩, by omega⟩
            · rw [List.getElem?_append_left hidl, hlk]; exact hid
            · rintro row (⟨a, _, rfl⟩ | rfl) <;> rfl
            · repeat (first | exact agree_refl _ _ | refine agree_cons _ rfl ?_)
            · subst hit
              simp [libs, libA, assetRow, List.range_succ]
            · rw [hlk, List.getElem?_set_self (by simp; omega)]
        · have hlt : i < nPics it := by omega
          have hc := libC_bd xs it i hitn (by omega)
          have hw3 : IntKind.i64.wrap ((i : Int) + 3) = (i : Int) + 3 := by rw [wrap_in] <;> omega
          have hw1 : IntKind.i64.wrap ((i : Int) + 1) = ((i + 1 : Nat) : Int) := by rw [wrap_in] <;> omega
          have ht5 := tmod_bd (libC xs it i) 5 hc.1 (by omega)
          have ht90 := tmod_bd (libC xs it i) 90 hc.1 (by omega)
          have hpw : IntKind.i64.wrap ((libC xs it i).tmod 90 * 1000) = (libC xs it i).tmod 90 * 1000 := by rw [wrap_in] <;> omega
          have hlen : (libPics xs it i).length = i := by simp [libPics]
          have hsucc : (libPics xs it (i + 1)).map picRow = (libPics xs it i).map picRow ++ [picRow (picOf xs it i)] := by rw [libPics_succ]; simp
          have hb0 : ((i : Int) == 0) = (i == 0) := by cases i <;> simp <;> omega
          have hrow : [AV.bool ((i : Int) == 0 || (libC xs it i).tmod 5 == 0), AV.str ⟨#[UInt8.ofNat (IntKind.u8.wrap it).toNat, UInt8.ofNat (IntKind.u8.wrap i).toNat, UInt8.ofNat (IntKind.u8.wrap (libC xs it i)).toNat]⟩, AV.int .i64 ((libC xs it i).tmod 90 * 1000)] = picRow (picOf xs it i) := by
            rw [hb0]; rfl
          have hr3 : ∀ (row : List AV), (∃ a, a ∈ libPics xs it i ∧ picRow a = row) ∨ row = picRow (picOf xs it i) → row.length = 3 := by
            rintro row (⟨a, _, rfl⟩ | rfl) <;> rfl
          by_cases hxs : xs = []
          · have hlc : IntKind.i64.wrap ((it : Int) * ((i : Int) + 3)) = libC xs it i := by
              have : libC xs it i = (it : Int) * ((i : Int) + 3) := by simp [libC, hxs]
              rw [← this, wrap_in] <;> omega
            have hxs' := eq_true hxs
            rcases hrt with ⟨rfl, rfl, rfl⟩ | ⟨rfl, rfl⟩
            · simp only [Int.natCast_zero, Int.zero_add] at hw3 hlc h6 hw1 hrow
              have hrow' : [AV.bool true, AV.str ⟨#[UInt8.ofNat (IntKind.u8.wrap it).toNat, UInt8.ofNat (IntKind.u8.wrap 0).toNat, UInt8.ofNat (IntKind.u8.wrap (libC xs it 0)).toNat]⟩, AV.int .i64 ((libC xs it 0).tmod 90 * 1000)] = picRow (picOf xs it 0) := by rw [← hrow]; rfl
              simp [h6, h4, hsub, hmul, hadd, hlt, hw3, hlc, ints, hxs', hpw, hw1, hlen]
              refine ⟨?_, ag ?_, ?_⟩
              rotate_left
              · repeat (first | exact agree_refl _ _ | refine agree_cons _ rfl ?_)
              · exact ⟨1, by omega, by simp, _, _, ⟨⟨rfl, by rw [hrow', hsucc]⟩, rfl⟩, .inr ⟨rfl, rfl⟩⟩
              · rw [hrow']; exact hr3
            · simp [h6, h4, hsub, hmul, hadd, hlt, hw3, hlc, ints, hxs', hpw, hw1, hlen]
              refine ⟨?_, ag ?_, ?_⟩
              rotate_left
              · repeat (first | exact agree_refl _ _ | refine agree_cons _ rfl ?_)
              · exact ⟨⟨i + 1, by omega, by simp, _, _, ⟨⟨rfl, by rw [hrow, hsucc]⟩, rfl⟩, .inr ⟨rfl, rfl⟩⟩, by omega⟩
              · rw [hrow]; exact ⟨hr3, by omega⟩
          · have hpos : 0 < xs.length := List.length_pos_iff.2 hxs
            have hmod : i % xs.length < xs.length := Nat.mod_lt _ hpos
            obtain ⟨x, hxi⟩ : ∃ x, xs[i % xs.length]? = some x := ⟨_, List.getElem?_eq_getElem hmod⟩
            have hxb := hx x (List.mem_of_getElem? hxi)
            have hrw : rowN (xs.map fun n => [I n]) (i % xs.length) = [I x] := rowN_eq (by simp [hxi])
            have hrem : Int.tmod (i : Int) (xs.length : Int) = ((i % xs.length : Nat) : Int) := (Int.ofNat_tmod _ _).symm
            have hpk := pick_pure x 1073741824 hxb.1 hxb.2 (by omega)
            have hlc : IntKind.i64.wrap (pickI x 1073741824 + (i : Int)) = libC xs it i := by
              have : libC xs it i = pickI x 1073741824 + (i : Int) := by simp [libC, hxs, List.getD_eq_getElem?_getD, hxi]
              rw [← this, wrap_in] <;> omega
            have hxs' := eq_false hxs
            have m1 : 0 ≤ (i : Int) % (xs.length : Int) := by omega
            have m2 : (i : Int) % (xs.length : Int) < (xs.length : Int) := by omega
            have m3 : ((i : Int) % (xs.length : Int)).toNat = i % xs.length := by omega
            rcases hrt with ⟨rfl, rfl, rfl⟩ | ⟨rfl, rfl⟩
            · simp only [Int.natCast_zero, Int.zero_add, Int.add_zero, Int.zero_emod] at hlc h6 hw1 hrow m1 m2 m3 hrem
              have hrow' : [AV.bool true, AV.str ⟨#[UInt8.ofNat (IntKind.u8.wrap it).toNat, UInt8.ofNat (IntKind.u8.wrap 0).toNat, UInt8.ofNat (IntKind.u8.wrap (libC xs it 0)).toNat]⟩, AV.int .i64 ((libC xs it 0).tmod 90 * 1000)] = picRow (picOf xs it 0) := by rw [← hrow]; rfl
              simp only [Nat.zero_mod] at hrw
              simp [h6, h4, hsub, hmul, hadd, hlt, ints, hxs', hpos, hpw, hw1, hlen, hrw, hlc]
              refine ⟨hpk, ?_, ag ?_, ?_⟩
              rotate_left
              · repeat (first | exact agree_refl _ _ | refine agree_cons _ rfl ?_)
              · exact ⟨1, by omega, by simp, _, _, ⟨⟨rfl, by rw [hrow', hsucc]⟩, rfl⟩, .inr ⟨rfl, rfl⟩⟩
              · rw [hrow']; exact hr3
            · simp [h6, h4, hsub, hmul, hadd, hlt, ints, hxs', hpos, hpw, hw1, hlen, hrem, hrw, hlc, m1, m2, m3]
              refine ⟨hpk, ?_, ag ?_, ?_⟩
              rotate_left
              · repeat (first | exact agree_refl _ _ | refine agree_cons _ rfl ?_)
              · exact ⟨⟨i + 1, by omega, by simp, _, _, ⟨⟨rfl, by rw [hrow, hsucc]⟩, rfl⟩, .inr ⟨rfl, rfl⟩⟩, by omega⟩
              · rw [hrow]; exact ⟨hr3, by omega⟩
end Go.Proofs.YtedgjnpaebllpaaGreatDoor
