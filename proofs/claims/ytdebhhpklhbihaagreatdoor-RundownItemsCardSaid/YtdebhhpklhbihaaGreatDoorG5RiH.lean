/-
  OWN WORK. Contracts: onairref07.Item, Timed, Permitted; onairref08.Entry.
-/
import Derived.Test.YtdebhhpklhbihaaGreatDoorG5RiG
import Derived.Test.YtdebhhpklhbihaaGreatDoorG5MM
set_option linter.unusedVariables false
set_option linter.unusedSimpArgs false
namespace Go.Proofs.YtdebhhpklhbihaaGreatDoor
open Go Go.Abs

def InvIt (p : Pl) (id : Int) (f : Nat → AV) (mm : AM) : Prop := ∃ (i : Nat), f 6 = I i ∧ i ≤ p.its.length ∧ fndI id (p.its.drop i) = fndI id p.its ∧ mm = ⟨[plRow p, [I 0, I 0, I 0, I 0, I 0]], [], fun _ => .gone, 0⟩
set_option maxRecDepth 100000 in
set_option maxHeartbeats 4000000 in
theorem item7_pure (p : Pl) (id : Int) (hl : p.its.length ≤ 1000000000) : Pure Tryz.prog gl0 128 [.agg (plRow p), I id] (itAV (fndI id p.its)) := by
  refine pureE code128 (fun _ _ _ => .junk) (by simp) ?_
  simp [sc128, plRow]
  refine vc_loopE w128_0 (InvIt p id) (fun f _ => p.its.length - (numOf (f 6)).toNat) ?_ ?_
  · exact ⟨0, by simp, Nat.zero_le _, rfl, by simp [plRow]⟩
  · rintro f mm ⟨i, h6, hi, hf, rfl⟩
    rcases Nat.lt_or_ge i p.its.length with hlt | hge
    · obtain ⟨x, hx⟩ : ∃ x, p.its[i]? = some x := ⟨_, List.getElem?_eq_getElem hlt⟩
      have hrow : rowN (p.its.map itRow) i = itRow x := rowN_eq (by simp [hx])
      have hilt : (i : Int) < (p.its.length : Int) := by omega
      have hw : IntKind.i64.wrap ((i : Int) + 1) = ((i + 1 : Nat) : Int) := by rw [wrap_in] <;> omega
      rw [drop_cons hx, fndI] at hf
      by_cases hid : x.id = id
      · rw [if_pos hid] at hf
        rw [← hf]
        simp [h6, hlt, hilt, hrow, plRow, itRow, hid, w128_0, rs128, itAV]
      · rw [if_neg hid] at hf
        simp [h6, hlt, hilt, hrow, plRow, itRow, hid, w128_0, hw]
        refine ⟨ag ?_, ⟨i + 1, by simp, by omega, hf, by simp [plRow]⟩, by omega⟩
        repeat (first | exact agree_refl _ _ | refine agree_cons _ rfl ?_)
    · obtain rfl : i = p.its.length := by omega
      rw [List.drop_length, fndI] at hf
      rw [← hf]
      simp [h6, plRow, w128_0, rs128, itAV]

set_option maxRecDepth 100000 in
theorem timed7_pure (p : Pl) (hl : p.sh.length ≤ 1000000000) : Pure Tryz.prog gl0 76 [.agg (plRow p)] (.bool (timedB p)) := by
  have h1 := rvalid3_pure p.nu p.de
  have h2 := rzvalid_pure p.of p.sh hl
  refine pureE code76 (fun _ g _ => if g = 124 then .bool (validR p.nu p.de) else .bool (validZ p.of p.sh)) (by simp) ?_
  cases hv : validR p.nu p.de with
  | false => rw [hv] at h1; simp [sc76, rs76, plRow, timedB, hv]; exact ⟨h1, h2⟩
  | true =>
    rw [hv] at h1
    cases hz : validZ p.of p.sh with
    | false => rw [hz] at h2; simp [sc76, rs76, plRow, timedB, hv, hz]; exact ⟨h1, h2⟩
    | true =>
      rw [hz] at h2
      by_cases c1 : 0 ≤ p.ep <;> by_cases c2 : p.ep ≤ 9000000000 <;> simp [sc76, rs76, plRow, timedB, hv, hz, c1, c2] <;> exact ⟨h1, h2⟩

def orcPe (p : Pl) : Nat → FuncId → List AV → AV := fun d f l =>
  if f = 128 then (match l with | [_, .int _ n] => itAV (fndI n p.its) | _ => .junk) else
  if f = 76 then .bool (timedB p) else
  if f = 78 then (match l with | [_, .int _ n] => I (secR p.nu p.de n) | _ => .junk) else
  if f = 130 then (match l with | [_, .int _ a, .int _ b] => .sl .ro ((ref6 p.cls a b).map spRow) | _ => .junk) else
  if f = 129 then (match l with | [.sl _ rows, .int _ x] => .bool (hasB (rows.map unSp) x) | _ => .junk) else
  if f = 131 then (match l with | [_, .int _ a] => .sl .ro ((wshS p.cls a).map spRow) | _ => .junk) else
  if f = 132 then (match l with | [_, .int _ x, .int _ a, .int _ b] => .bool (wthB p.of p.sh x a b) | _ => .junk) else .junk
def InvPe (p : Pl) (it : It) (h : Bool) (sec : Int) (f : Nat → AV) (mm : AM) : Prop := ∃ (i : Nat), f 15 = I i ∧ i ≤ (wshS p.cls it.ra).length ∧ f 13 = .bool (h && ((wshS p.cls it.ra).take i).all fun w => wthB p.of p.sh sec w.1 w.2) ∧ mm = ⟨[plRow p, itRow it], [], fun _ => .gone, 0⟩
theorem wshS_len (cs : List Cl) (ra : Int) : (wshS cs ra).length ≤ cs.length := by
  unfold wshS; rw [List.length_map]; exact List.length_filter_le _ _

set_option maxRecDepth 100000 in
set_option maxHeartbeats 8000000 in
theorem perm7_pure (p : Pl) (item region f0 : Int) (hc : p.cls.length ≤ 1000) (hsh : p.sh.length ≤ 1000000000) (hit : p.its.length ≤ 1000000000) : Pure Tryz.prog gl0 79 [.agg (plRow p), I item, I region, I f0] (.bool (permB p item region f0)) := by
  have k128 := item7_pure p item hit
  refine pureE code79 (orcPe p) (by simp) ?_
  cases hf : fndI item p.its with
  | none =>
    rw [hf] at k128
    have hP : permB p item region f0 = false := by simp only [permB, hf]
    rw [hP]
    simp [sc79, rs79, plRow, orcPe, hf, itAV]
    exact k128
  | some it =>
    rw [hf] at k128
    have hP : permB p item region f0 = if region < 0 ∨ 8 ≤ region ∨ f0 < 0 ∨ 100000000 < f0 then false else if it.ki = 5 then true else if timedB p = false then false else
      hasB (ref6 p.cls item region) (p.ep + secR p.nu p.de f0) && (wshS p.cls it.ra).all fun w => wthB p.of p.sh (p.ep + secR p.nu p.de f0) w.1 w.2 := by simp only [permB, hf]
    by_cases c1 : region < 0
    · rw [hP, if_pos (.inl c1)]
      simp [sc79, rs79, plRow, orcPe, hf, itAV, itRow, c1]
      exact k128
    · by_cases c2 : 8 ≤ region
      · rw [hP, if_pos (.inr (.inl c2))]
        simp [sc79, rs79, plRow, orcPe, hf, itAV, itRow, c1, c2]
        exact k128
      · by_cases c3 : f0 < 0
        · rw [hP, if_pos (.inr (.inr (.inl c3)))]
          simp [sc79, rs79, plRow, orcPe, hf, itAV, itRow, c1, c2, c3]
          exact k128
        · by_cases c4 : 100000000 < f0
          · rw [hP, if_pos (.inr (.inr (.inr c4)))]
            simp [sc79, rs79, plRow, orcPe, hf, itAV, itRow, c1, c2, c3, c4]
            exact k128
          · rw [if_neg (by omega)] at hP
            by_cases c5 : it.ki = 5
            · rw [hP, if_pos c5]
              simp only [itAV, itRow, c5] at k128
              simp [sc79, rs79, plRow, orcPe, hf, itAV, itRow, c1, c2, c3, c4, c5]
              exact k128
            · rw [if_neg c5] at hP
              have k76 := timed7_pure p hsh
              cases ht : timedB p with
              | false =>
                rw [ht] at k76
                rw [hP, if_pos ht]
                simp [sc79, rs79, plRow, orcPe, hf, itAV, itRow, c1, c2, c3, c4, c5, ht]
                exact ⟨k128, k76⟩
              | true =>
                rw [ht] at k76
                rw [if_neg (by rw [ht]; simp)] at hP
                have he : 0 ≤ p.ep ∧ p.ep ≤ 9000000000 := by
                  simp only [timedB, Bool.and_eq_true, decide_eq_true_eq] at ht; exact ht.2
                have k78 := rsecs_pure p.nu p.de f0
                have hsb := secR_bd p.nu p.de f0
                have hw1 : IntKind.i64.wrap (p.ep + secR p.nu p.de f0) = p.ep + secR p.nu p.de f0 := by rw [wrap_in] <;> omega
                obtain ⟨rt6, k130'⟩ := ref6_pure0 p.cls item region hc
                have k130 := pure_res k130' (Wk.sl _ _)
                have h6l : (ref6 p.cls item region).length ≤ 1000000 := by
                  unfold ref6
                  have h1 := refL_len (p.cls.filter (cnt6 item region)) (edS (p.cls.filter (cnt6 item region))) ((edS (p.cls.filter (cnt6 item region))).length - 1)
                  have h2 := edS_len (p.cls.filter (cnt6 item region))
                  have h3 : (p.cls.filter (cnt6 item region)).length ≤ p.cls.length := List.length_filter_le _ _
                  omega
                have k131 := wsh6_pure p.cls it.ra (by omega)
                have hwl := wshS_len p.cls it.ra
                generalize hsec : p.ep + secR p.nu p.de f0 = sec at *
                have k129 := has5_pure (ref6 p.cls item region) sec (by omega)
                simp [sc79, plRow, orcPe, hf, itAV, itRow, c1, c2, c3, c4, c5, ht, hw1, hsec]
                refine ⟨k128, k76, k78, k130, k129, k131, ?_⟩
                clear k128 k76 k78 k130 k130' k129 k131
                rw [hP]
                generalize hasB (ref6 p.cls item region) sec = hb
                refine vc_loopE w79_0 (InvPe p it hb sec) (fun f _ => (wshS p.cls it.ra).length - (numOf (f 15)).toNat) ?_ ?_
                · exact ⟨0, by simp, Nat.zero_le _, by simp, by simp [plRow, itRow]⟩
                · rintro g mm ⟨i, g15, hi, g13, rfl⟩
                  unfold InvPe
                  generalize hWs : wshS p.cls it.ra = Ws at *
                  rcases Nat.lt_or_ge i Ws.length with hlt | hge
                  · obtain ⟨w, hw⟩ : ∃ w, Ws[i]? = some w := ⟨_, List.getElem?_eq_getElem hlt⟩
                    have hrow := rowN_sp hw
                    have hilt : (i : Int) < (Ws.length : Int) := by omega
                    have hwr : IntKind.i64.wrap ((i : Int) + 1) = ((i + 1 : Nat) : Int) := by rw [wrap_in] <;> omega
                    have k132 := rwithin_pure p.of p.sh sec w.1 w.2 hsh
                    have htk : (hb && (Ws.take (i + 1)).all fun w => wthB p.of p.sh sec w.1 w.2) = ((hb && (Ws.take i).all fun w => wthB p.of p.sh sec w.1 w.2) && wthB p.of p.sh sec w.1 w.2) := by
                      rw [List.take_add_one, hw, List.all_append]
                      simp [Bool.and_assoc]
                    generalize (hb && (Ws.take i).all fun w => wthB p.of p.sh sec w.1 w.2) = acc at *
                    simp [g15, g13, w79_0, hlt, hilt, hrow, plRow, orcPe, hwr]
                    refine ⟨k132, ag ?_, ⟨i + 1, by omega, by omega, htk.symm⟩, by omega⟩
                    repeat (first | exact agree_refl _ _ | refine agree_cons _ rfl ?_)
                  · obtain rfl : i = Ws.length := by omega
                    rw [List.take_length] at g13
                    simp [g15, g13, w79_0, rs79]

def InvEn (p : Pl) (id : Int) (f : Nat → AV) (mm : AM) : Prop := ∃ (i : Nat), f 6 = I i ∧ i ≤ p.ens.length ∧ fndN id (p.ens.drop i) = fndN id p.ens ∧ mm = ⟨[plRow p, [I 0, I 0, I 0, I 0, I 0, I 0, .sl .nil []]], [], fun _ => .gone, 0⟩
set_option maxRecDepth 100000 in
set_option maxHeartbeats 4000000 in
theorem entry8_pure (p : Pl) (id : Int) (hl : p.ens.length ≤ 1000000000) : Pure Tryz.prog gl0 19 [.agg (plRow p), I id] (enAV (fndN id p.ens)) := by
  refine pureE code19 (fun _ _ _ => .junk) (by simp) ?_
  simp [sc19, plRow]
  refine vc_loopE w19_0 (InvEn p id) (fun f _ => p.ens.length - (numOf (f 6)).toNat) ?_ ?_
  · exact ⟨0, by simp, Nat.zero_le _, rfl, by simp [plRow]⟩
  · rintro f mm ⟨i, h6, hi, hf, rfl⟩
    rcases Nat.lt_or_ge i p.ens.length with hlt | hge
    · obtain ⟨x, hx⟩ : ∃ x, p.ens[i]? = some x := ⟨_, List.getElem?_eq_getElem hlt⟩
      have hrow : rowN (p.ens.map enRow) i = enRow x := rowN_eq (by simp [hx])
      have hilt : (i : Int) < (p.ens.length : Int) := by omega
      have hw : IntKind.i64.wrap ((i : Int) + 1) = ((i + 1 : Nat) : Int) := by rw [wrap_in] <;> omega
      rw [drop_cons hx, fndN] at hf
      by_cases hid : x.id = id
      · rw [if_pos hid] at hf
        rw [← hf]
        simp [h6, hlt, hilt, hrow, plRow, enRow, hid, w19_0, rs19, enAV]
      · rw [if_neg hid] at hf
        simp [h6, hlt, hilt, hrow, plRow, enRow, hid, w19_0, hw]
        refine ⟨ag ?_, ⟨i + 1, by simp, by omega, hf, by simp [plRow]⟩, by omega⟩
        repeat (first | exact agree_refl _ _ | refine agree_cons _ rfl ?_)
    · obtain rfl : i = p.ens.length := by omega
      rw [List.drop_length, fndN] at hf
      rw [← hf]
      simp [h6, plRow, w19_0, rs19, enAV]
end Go.Proofs.YtdebhhpklhbihaaGreatDoor
