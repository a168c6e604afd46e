import Derived.Test.YtkcnjajklnoahaaGreatDoorSXSfG
import Derived.Test.YtkcnjajklnoahaaGreatDoorSXTcA
set_option linter.unusedVariables false
set_option linter.unusedSimpArgs false
namespace Go.Proofs.YtkcnjajklnoahaaGreatDoor
open Go Go.Abs
def Zj (B : Ca) (R : AV) : Nat -> FuncId -> List AV -> AV := fun _ f l => if f = 999999 then .junk else if f = 14 then .bool true else if f = 15 then .agg (Qe B) else if f = 16 then R else if f = 27 then (match l with
 | [.int _ c, .int _ n] => I (pickI c n) | _ => .junk) else if f = 31 then (match l with
 | [_, .int _ id] => enAV (Vy id B.p.ens) | _ => .junk) else if f = 32 then (match l with
 | [_, .sl _ o] => .bool (hldB B.p B.at_ B.ids (o.map unSp) (B.past.filter Zq) B.at_ (-1)) | _ => .junk) else .junk
def Inv12a (B : Ca) (f : Nat -> AV) (m : AM) : Prop := ∃ (i : Nat) (O : List Sp) (rt : Rt) (ls : List Nat) (bx : List (List AV)) (free : Int), f 10 = I i /\ i <= B.ids.length /\ f 8 = .sl rt (O.map Qd) /\ OutR 2 0 ls rt O /\ O.length = i /\ f 9 = I free /\ (0 <= free /\ free <= 1000000000) /\ m = ⟨Qe B :: bx, ls, fun _ => .gone, 0⟩
def Inv12b (B : Ca) (l : List Sp) (bx : List (List AV)) (ls : List Nat) (f : Nat -> AV) (m : AM) : Prop := ∃ (i : Nat), f 14 = I i /\ i <= l.length /\ m = ⟨Qe B :: bx, ls, fun _ => .gone, 0⟩
set_option maxRecDepth 100000 in
set_option maxHeartbeats 16000000 in
theorem law12 (c : Ca) (later : List Int) (h : Ca64 c) (hlt64 : ∀ n ∈ later, Xk n) (hll : later.length <= 17592186044416) : Pure Tryz.prog gl0 12 [.agg (Qe c), .sl .ro (later.map Qj)] (.bool true) := by
 have k14 := sane14
 have k15 := bound15 c h
 have b := bnd_of h
 obtain ⟨B, hB⟩ : ∃ B, bndC c = B := ⟨_, rfl⟩
 rw [hB] at k15 b
 have k16 := ear16 b
 have hl10 : B.ids.length <= 10 := b.ids
 have hunS : (unSp ∘ Qd : Sp -> Sp) = id := by funext n; rfl
 obtain ⟨R, hR⟩ : ∃ R, Qaj B.p B.at_ B.past B.ids = R := ⟨_, rfl⟩
 obtain ⟨rt1, l1, b1, hR1, hR2⟩ : ∃ (rt1 : Rt) (l1 : List Sp) (b1 : Bool), R = .tup [.sl rt1 (l1.map Qd), .bool b1] /\ (∀ l, Qp B.p B.at_ B.past B.ids = some l -> l1 = l /\ b1 = true) := by
  cases he : Qp B.p B.at_ B.past B.ids with
  | none => exact ⟨.nil, [], false, by rw [<- hR, Jf he]; rfl, fun l h => by cases h⟩
  | some l => exact ⟨rtE l, l, true, by rw [<- hR, Yu he], fun l' h => by cases h; exact ⟨rfl, rfl⟩⟩
 rw [hR, hR1] at k16
 have kl1 := b.k
 obtain ⟨l1', l2', l3', l4', l5', l6', l7', l8', l9', l10'⟩ := kl1
 have hat := b.at_
 unfold Xk at hat
 simp only [Qe, Qa] at k15 k16
 refine Qr code12 (Zj B (.tup [.sl rt1 (l1.map Qd), .bool b1])) (by simp) ?_
 simp [sc12, Qe, Qa, Zj]
 refine ⟨k14, k15, k16, ?_⟩
 clear k14 k15 k16
 refine Qg Yc (Inv12a B) (fun f _ => B.ids.length - (numOf (f 10)).toNat) ?_ ?_
 ·exact ⟨0, [], .nil, [], [], 0, by simp, by omega, by simp, .inl ⟨rfl, rfl⟩, rfl, by simp, by omega, by simp [Qe, Qa]⟩
 ·rintro f m ⟨i, O, rt, ls, bx, free, f10, hi, f8, hO, hOl, f9, hfr, rfl⟩
  rcases Nat.lt_or_ge i B.ids.length with hlt | hge
  ·obtain ⟨id, hx⟩ : ∃ x, B.ids[i]? = some x := ⟨_, List.getElem?_eq_getElem hlt⟩
   have hrow : Ql (B.ids.map Qj) i = Qj id := Qv (by simp [hx])
   have hilt : (i : Int) < (B.ids.length : Int) := by omega
   have hw := wrS i (by omega)
   have k31 := entry_pure B.p id (by omega) (fun e he => by have := l6' e he; omega)
   obtain ⟨x, al, kn, hal, hE, hk⟩ : ∃ (x : En) (al : AV) (kn : Bool), Qx al = true /\ enAV (Vy id B.p.ens) = .tup [.agg [I x.id, I x.it, I x.fr, I x.ea, I x.la, I x.bo, al], .bool kn] /\ Xk x.ea /\ Xk x.fr /\ x.fr <= 2000 := by
    cases hf : Vy id B.p.ens with
    | none => exact ⟨⟨0, 0, 0, 0, 0, 0, []⟩, .sl .nil [], false, rfl, rfl, ⟨by decide, by decide⟩, ⟨by decide, by decide⟩, by decide⟩
    | some x =>
     have hx : x ∈ B.p.ens := by
      have : ∀ l : List En, Vy id l = some x -> x ∈ l := by
       intro l
       induction l with
       | nil => intro h; cases h
       | cons y r ih =>
        intro h
        simp only [Vy] at h
        split at h
        ·cases h; simp
        ·simp [ih h]
      exact this _ hf
     have q := l10' x hx
     exact ⟨x, .sl .ro (x.al.map Qd), true, rfl, rfl, l8' x hx, ⟨q.1, by omega⟩, q.2⟩
   rw [hE] at k31
   simp only [Qa] at k31
   unfold Xk at hk
   rcases Nat.lt_or_ge i later.length with jlt | jge
   ·obtain ⟨n, hn⟩ : ∃ x, later[i]? = some x := ⟨_, List.getElem?_eq_getElem jlt⟩
    have hrown : Ql (later.map Qj) i = Qj n := Qv (by simp [hn])
    have jilt : (i : Int) < (later.length : Int) := by omega
    have hn64 := hlt64 n (List.mem_of_getElem? hn)
    have k27 := pick_pure n 200 hn64.1 hn64.2 (by omega)
    obtain ⟨q, hq⟩ : ∃ q, pickI n 200 = q := ⟨_, rfl⟩
    rw [hq] at k27
    obtain ⟨S, hS⟩ : ∃ S, IntKind.i64.wrap (mm2 true (mm2 true free B.at_) x.ea + q) = S := ⟨_, rfl⟩
    by_cases s1 : S < 0
    ·rcases hO with ⟨rfl, rfl⟩ | ⟨k, rfl, hk1, hk2, hk3⟩
     all_goals
      simp [f10, f8, f9, hlt, hilt, hrow, Qj, Qe, Qa, Zj, Yc, hE]
      refine Xn ?_
      simp [hlt, hilt, hrow, Qj, Qe, Qa, Zj, Yc, hE, hw, jlt, jilt, hrown, hq, hS, s1, rs12]
      exact ⟨k31, hal, k27⟩
    by_cases s2 : 100000000 < S
    ·simp [f10, f8, f9, hlt, hilt, hrow, Qj, Qe, Qa, Zj, Yc, hE]
     refine Xn ?_
     simp [hlt, hilt, hrow, Qj, Qe, Qa, Zj, Yc, hE, hw, jlt, jilt, hrown, hq, hS, s1, s2, rs12]
     exact ⟨k31, hal, k27⟩
    by_cases s3 : x.fr < 0
    ·simp [f10, f8, f9, hlt, hilt, hrow, Qj, Qe, Qa, Zj, Yc, hE]
     refine Xn ?_
     simp [hlt, hilt, hrow, Qj, Qe, Qa, Zj, Yc, hE, hw, jlt, jilt, hrown, hq, hS, s1, s2, s3, rs12]
     exact ⟨k31, hal, k27⟩
    have hwe : IntKind.i64.wrap (S + x.fr) = S + x.fr := by rw [Qk] <;> omega
    rcases hO with ⟨rfl, rfl⟩ | ⟨k, rfl, hk1, hk2, hk3⟩
    ·simp [f10, f8, f9, hlt, hilt, hrow, Qj, Qe, Qa, Zj, Yc, hE]
     refine Xn ?_
     simp [hlt, hilt, hrow, Qj, Qe, Qa, Zj, Yc, hE, hw, jlt, jilt, hrown, hq, hS, s1, s2, s3, hwe]
     refine ⟨k31, hal, k27, ag ?_, ⟨i + 1, [(id, S)], .own ls.length 2, ls ++ [1], _, S + x.fr, by simp, by omega, by simp [Qd], OutR.first (by omega) _, by simp at hOl |-; omega, by simp, by omega, by simp [Qe, Qa]; rfl⟩, by simp [f10]; omega⟩
     repeat (first | exact Qb _ _ | refine Qc _ rfl ?_)
    ·simp [f10, f8, f9, hlt, hilt, hrow, Qj, Qe, Qa, Zj, Yc, hE]
     refine Xn ?_
     simp [hlt, hilt, hrow, Qj, Qe, Qa, Zj, Yc, hE, hw, jlt, jilt, hrown, hq, hS, s1, s2, s3, hwe, hk2]
     refine ⟨k31, hal, k27, ⟨?_, by omega⟩, ag ?_, ⟨i + 1, O ++ [(id, S)], .own k 2, ls.set k (O.length + 1), _, S + x.fr, by simp, by omega, by simp [Qd], OutR.push hk1 hk2 _, by simp; omega, by simp, by omega, by simp [Qe, Qa]; rfl⟩, by simp [f10]; omega⟩
     ·first | (rintro row (⟨a, _, rfl⟩ | rfl) <;> rfl) | (rintro row (⟨a, b, _, rfl⟩ | rfl) <;> rfl) | (rintro row h; rcases h with ⟨a, _, rfl⟩ | rfl <;> rfl)
     ·repeat (first | exact Qb _ _ | refine Qc _ rfl ?_)
   ·have jin : ¬ (i : Int) < (later.length : Int) := by omega
    obtain ⟨S, hS⟩ : ∃ S, mm2 true (mm2 true free B.at_) x.ea = S := ⟨_, rfl⟩
    by_cases s1 : S < 0
    ·rcases hO with ⟨rfl, rfl⟩ | ⟨k, rfl, hk1, hk2, hk3⟩
     all_goals
      simp [f10, f8, f9, hlt, hilt, hrow, Qj, Qe, Qa, Zj, Yc, hE]
      refine Xn ?_
      simp [hlt, hilt, hrow, Qj, Qe, Qa, Zj, Yc, hE, hw, Nat.not_lt.2 jge, jin, hS, s1, rs12]
      exact ⟨k31, hal⟩
    by_cases s2 : 100000000 < S
    ·simp [f10, f8, f9, hlt, hilt, hrow, Qj, Qe, Qa, Zj, Yc, hE]
     refine Xn ?_
     simp [hlt, hilt, hrow, Qj, Qe, Qa, Zj, Yc, hE, hw, Nat.not_lt.2 jge, jin, hS, s1, s2, rs12]
     exact ⟨k31, hal⟩
    by_cases s3 : x.fr < 0
    ·simp [f10, f8, f9, hlt, hilt, hrow, Qj, Qe, Qa, Zj, Yc, hE]
     refine Xn ?_
     simp [hlt, hilt, hrow, Qj, Qe, Qa, Zj, Yc, hE, hw, Nat.not_lt.2 jge, jin, hS, s1, s2, s3, rs12]
     exact ⟨k31, hal⟩
    have hwe : IntKind.i64.wrap (S + x.fr) = S + x.fr := by rw [Qk] <;> omega
    rcases hO with ⟨rfl, rfl⟩ | ⟨k, rfl, hk1, hk2, hk3⟩
    ·simp [f10, f8, f9, hlt, hilt, hrow, Qj, Qe, Qa, Zj, Yc, hE]
     refine Xn ?_
     simp [hlt, hilt, hrow, Qj, Qe, Qa, Zj, Yc, hE, hw, Nat.not_lt.2 jge, jin, hS, s1, s2, s3, hwe]
     refine ⟨k31, hal, ag ?_, ⟨i + 1, [(id, S)], .own ls.length 2, ls ++ [1], _, S + x.fr, by simp, by omega, by simp [Qd], OutR.first (by omega) _, by simp at hOl |-; omega, by simp, by omega, by simp [Qe, Qa]; rfl⟩, by simp [f10]; omega⟩
     repeat (first | exact Qb _ _ | refine Qc _ rfl ?_)
    ·simp [f10, f8, f9, hlt, hilt, hrow, Qj, Qe, Qa, Zj, Yc, hE]
     refine Xn ?_
     simp [hlt, hilt, hrow, Qj, Qe, Qa, Zj, Yc, hE, hw, Nat.not_lt.2 jge, jin, hS, s1, s2, s3, hwe, hk2]
     refine ⟨k31, hal, ⟨?_, by omega⟩, ag ?_, ⟨i + 1, O ++ [(id, S)], .own k 2, ls.set k (O.length + 1), _, S + x.fr, by simp, by omega, by simp [Qd], OutR.push hk1 hk2 _, by simp; omega, by simp, by omega, by simp [Qe, Qa]; rfl⟩, by simp [f10]; omega⟩
     ·first | (rintro row (⟨a, _, rfl⟩ | rfl) <;> rfl) | (rintro row (⟨a, b, _, rfl⟩ | rfl) <;> rfl) | (rintro row h; rcases h with ⟨a, _, rfl⟩ | rfl <;> rfl)
     ·repeat (first | exact Qb _ _ | refine Qc _ rfl ?_)
  ·have hin : ¬ (i : Int) < (B.ids.length : Int) := by omega
   have k32 := fun r => hold32 b O r
   simp only [Qe, Qa] at k32
   cases hh : hldB B.p B.at_ B.ids O (B.past.filter Zq) B.at_ (-1) with
   | false =>
    rw [hh] at k32
    rcases hO with ⟨h1, rfl⟩ | ⟨k, rfl, hk1, hk2, hk3⟩
    all_goals
     simp [f10, f8, hin, Nat.not_lt.2 hge, Qe, Qa, Yc, Zj, hunS, hh, rs12]
     exact k32 _
   | true =>
    rw [hh] at k32
    obtain ⟨l', e1, e2, e3⟩ := ear_least hh
    obtain ⟨rfl, rfl⟩ := hR2 l' e1
    have e2' : (l1.length : Int) = (O.length : Int) := by omega
    rcases hO with ⟨h1, rfl⟩ | ⟨k, rfl, hk1, hk2, hk3⟩
    all_goals
     simp [f10, f8, hin, Nat.not_lt.2 hge, Qe, Qa, Yc, Zj, hunS, hh, e2, e2']
     refine ⟨k32 _, ?_⟩
     refine Qg w12_1 (Inv12b B l1 bx ls) (fun f _ => l1.length - (numOf (f 14)).toNat) ?_ ?_
     ·exact ⟨0, by simp, by omega, by simp [Qe, Qa]⟩
     ·rintro g m ⟨j, g14, hj, rfl⟩
      rcases Nat.lt_or_ge j l1.length with jlt | jge
      ·obtain ⟨y, hy⟩ : ∃ x, l1[j]? = some x := ⟨_, List.getElem?_eq_getElem jlt⟩
       obtain ⟨z, hz⟩ : ∃ x, O[j]? = some x := ⟨_, List.getElem?_eq_getElem (by omega)⟩
       have hrowy := Xu hy
       have hrowz := Xu hz
       have hle := e3 j y z hy hz
       have jilt : (j : Int) < (l1.length : Int) := by omega
       have jiltO : j < O.length := by omega
       have jilt' : (j : Int) < (O.length : Int) := by omega
       have hwj := wrS j (by omega)
       simp [g14, jlt, jilt, jiltO, jilt', hrowy, hrowz, Qe, Qa, w12_1, Zj, Int.not_lt.2 hle, hwj]
       refine ⟨ag ?_, ⟨j + 1, by simp, by omega, by simp [Qe, Qa]⟩, by omega⟩
       repeat (first | exact Qb _ _ | refine Qc _ rfl ?_)
      ·have jin : ¬ (j : Int) < (l1.length : Int) := by omega
       simp [g14, jin, Nat.not_lt.2 jge, Qe, Qa, w12_1, Zj, rs12]
end Go.Proofs.YtkcnjajklnoahaaGreatDoor
