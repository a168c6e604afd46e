/-
  OWN WORK. The library's sorts at this seat: the layings (as the kit's command writes them) and the contracts that share memory.
-/
import Derived.Test.YtdebhhpklhbihaaGreatDoorG7MH
import Derived.Test.YtdebhhpklhbihaaGreatDoorG7AbsS
import Derived.Test.YtdebhhpklhbihaaGreatDoorG7RwA
import Derived.Test.YtdebhhpklhbihaaGreatDoorG7SpA
import Derived.Test.YtdebhhpklhbihaaGreatDoorProg
import Derived.Shelf.SlicesG.Cmp
import Derived.Shelf.SlSortCmp.NoneTotal
import Derived.KernelRfl
set_option linter.unusedVariables false
set_option linter.unusedSimpArgs false
namespace Go.Proofs.YtdebhhpklhbihaaGreatDoor
open Go Go.Abs Go.Shelf Go.RowKit Go.Lib Go.Sort

def sortIv_ren : Go.Shelf.Ren := ⟨fun | 6 => 164 | 15 => 203 | 14 => 202 | 28 => 231 | 29 => 232 | 20 => 223 | 21 => 224 | 22 => 225 | 23 => 226 | 24 => 227 | 25 => 228 | 26 => 229 | 27 => 230 | 46 => 248 | 47 => 249 | 48 => 250 | 49 => 251 | 50 => 252 | 57 => 258 | n => n, fun | 22 => 245 | 24 => 247 | 25 => 251 | 3 => 3 | 39 => 294 | 0 => 0 | 53 => 323 | 55 => 103 | 4 => 4 | 46 => 327 | 45 => 326 | 50 => 149 | 5 => 5 | 9 => 9 | 66 => 343 | 70 => 346 | 76 => 353 | 77 => 265 | n => n, fun | n => n⟩
theorem sortIv : Go.Proofs.SlLaysF0.n6 Tryz.prog sortIv_ren := {
  mixed := by kernel_rfl,
  f6 := ⟨Tryz.f164.name, by decide, Tryz.func164.trans (congrArg some (by kernel_rfl))⟩,
  f14 := ⟨Tryz.f202.name, by decide, Tryz.func202.trans (congrArg some (by kernel_rfl))⟩,
  f15 := Tryz.func203.trans (congrArg some (by kernel_rfl)),
  f20 := ⟨Tryz.f223.name, by decide, Tryz.func223.trans (congrArg some (by kernel_rfl))⟩,
  f21 := ⟨Tryz.f224.name, by decide, Tryz.func224.trans (congrArg some (by kernel_rfl))⟩,
  f22 := ⟨Tryz.f225.name, by decide, Tryz.func225.trans (congrArg some (by kernel_rfl))⟩,
  f23 := ⟨Tryz.f226.name, by decide, Tryz.func226.trans (congrArg some (by kernel_rfl))⟩,
  f24 := ⟨Tryz.f227.name, by decide, Tryz.func227.trans (congrArg some (by kernel_rfl))⟩,
  f25 := ⟨Tryz.f228.name, by decide, Tryz.func228.trans (congrArg some (by kernel_rfl))⟩,
  f26 := ⟨Tryz.f229.name, by decide, Tryz.func229.trans (congrArg some (by kernel_rfl))⟩,
  f27 := ⟨Tryz.f230.name, by decide, Tryz.func230.trans (congrArg some (by kernel_rfl))⟩,
  f28 := Tryz.func231.trans (congrArg some (by kernel_rfl)),
  f29 := Tryz.func232.trans (congrArg some (by kernel_rfl)),
  f46 := ⟨Tryz.f248.name, by decide, Tryz.func248.trans (congrArg some (by kernel_rfl))⟩,
  f47 := Tryz.func249.trans (congrArg some (by kernel_rfl)),
  f48 := Tryz.func250.trans (congrArg some (by kernel_rfl)),
  f49 := ⟨Tryz.f251.name, by decide, Tryz.func251.trans (congrArg some (by kernel_rfl))⟩,
  f50 := ⟨Tryz.f252.name, by decide, Tryz.func252.trans (congrArg some (by kernel_rfl))⟩,
  f57 := ⟨Tryz.f258.name, by decide, Tryz.func258.trans (congrArg some (by kernel_rfl))⟩,
  t0 := Tryz.underlying0,
  a0 := Tryz.isAgg0,
  z0 := Tryz.sizeOf0,
  v0 := Tryz.zeroValue0,
  t3 := Tryz.underlying3,
  a3 := Tryz.isAgg3,
  z3 := Tryz.sizeOf3,
  v3 := Tryz.zeroValue3,
  t4 := Tryz.underlying4,
  a4 := Tryz.isAgg4,
  z4 := Tryz.sizeOf4,
  v4 := Tryz.zeroValue4,
  t5 := Tryz.underlying5,
  a5 := Tryz.isAgg5,
  z5 := Tryz.sizeOf5,
  v5 := Tryz.zeroValue5,
  t9 := Tryz.underlying9,
  a9 := Tryz.isAgg9,
  z9 := Tryz.sizeOf9,
  v9 := Tryz.zeroValue9,
  t22 := Tryz.underlying245,
  a22 := Tryz.isAgg245,
  z22 := Tryz.sizeOf245,
  v22 := Tryz.zeroValue245,
  t25 := Tryz.underlying251,
  a25 := Tryz.isAgg251,
  z25 := Tryz.sizeOf251,
  v25 := Tryz.zeroValue251,
  t39 := Tryz.underlying294,
  a39 := Tryz.isAgg294,
  z39 := Tryz.sizeOf294,
  v39 := Tryz.zeroValue294,
  t45 := Tryz.underlying326,
  a45 := Tryz.isAgg326,
  z45 := Tryz.sizeOf326,
  v45 := Tryz.zeroValue326,
  t46 := Tryz.underlying327,
  a46 := Tryz.isAgg327,
  z46 := Tryz.sizeOf327,
  v46 := Tryz.zeroValue327,
  t50 := Tryz.underlying149,
  a50 := Tryz.isAgg149,
  z50 := Tryz.sizeOf149,
  v50 := Tryz.zeroValue149,
  t53 := Tryz.underlying323,
  a53 := Tryz.isAgg323,
  z53 := Tryz.sizeOf323,
  v53 := Tryz.zeroValue323,
  t55 := Tryz.underlying103,
  a55 := Tryz.isAgg103,
  z55 := Tryz.sizeOf103,
  v55 := Tryz.zeroValue103,
  t66 := Tryz.underlying343,
  a66 := Tryz.isAgg343,
  z66 := Tryz.sizeOf343,
  v66 := Tryz.zeroValue343,
  t70 := Tryz.underlying346,
  a70 := Tryz.isAgg346,
  z70 := Tryz.sizeOf346,
  v70 := Tryz.zeroValue346,
  t76 := Tryz.underlying353,
  a76 := Tryz.isAgg353,
  z76 := Tryz.sizeOf353,
  v76 := Tryz.zeroValue353,
  t77 := Tryz.underlying265,
  a77 := Tryz.isAgg265,
  z77 := Tryz.sizeOf265,
  v77 := Tryz.zeroValue265 }
def sortInt_ren : Go.Shelf.Ren := ⟨fun | 5 => 168 | 8 => 203 | 7 => 205 | 19 => 231 | 20 => 232 | 10 => 234 | 11 => 235 | 12 => 236 | 13 => 237 | 14 => 238 | 15 => 239 | 16 => 207 | 17 => 240 | 18 => 241 | 30 => 253 | 31 => 249 | 32 => 250 | 33 => 254 | 34 => 255 | 35 => 233 | 40 => 259 | n => n, fun | 23 => 62 | 25 => 3 | 3 => 3 | 32 => 294 | 22 => 62 | 0 => 0 | 44 => 323 | 46 => 103 | 4 => 4 | 36 => 327 | 35 => 326 | 41 => 149 | 5 => 5 | 9 => 9 | 53 => 343 | 57 => 346 | 63 => 353 | 64 => 265 | n => n, fun | n => n⟩
theorem sortInt : Go.Proofs.SlLaysM.n5 Tryz.prog sortInt_ren := {
  mixed := by kernel_rfl,
  f5 := ⟨Tryz.f168.name, by decide, Tryz.func168.trans (congrArg some (by kernel_rfl))⟩,
  f7 := ⟨Tryz.f205.name, by decide, Tryz.func205.trans (congrArg some (by kernel_rfl))⟩,
  f8 := Tryz.func203.trans (congrArg some (by kernel_rfl)),
  f10 := ⟨Tryz.f234.name, by decide, Tryz.func234.trans (congrArg some (by kernel_rfl))⟩,
  f11 := ⟨Tryz.f235.name, by decide, Tryz.func235.trans (congrArg some (by kernel_rfl))⟩,
  f12 := ⟨Tryz.f236.name, by decide, Tryz.func236.trans (congrArg some (by kernel_rfl))⟩,
  f13 := ⟨Tryz.f237.name, by decide, Tryz.func237.trans (congrArg some (by kernel_rfl))⟩,
  f14 := ⟨Tryz.f238.name, by decide, Tryz.func238.trans (congrArg some (by kernel_rfl))⟩,
  f15 := ⟨Tryz.f239.name, by decide, Tryz.func239.trans (congrArg some (by kernel_rfl))⟩,
  f16 := ⟨Tryz.f207.name, by decide, Tryz.func207.trans (congrArg some (by kernel_rfl))⟩,
  f17 := ⟨Tryz.f240.name, by decide, Tryz.func240.trans (congrArg some (by kernel_rfl))⟩,
  f18 := ⟨Tryz.f241.name, by decide, Tryz.func241.trans (congrArg some (by kernel_rfl))⟩,
  f19 := Tryz.func231.trans (congrArg some (by kernel_rfl)),
  f20 := Tryz.func232.trans (congrArg some (by kernel_rfl)),
  f30 := ⟨Tryz.f253.name, by decide, Tryz.func253.trans (congrArg some (by kernel_rfl))⟩,
  f31 := Tryz.func249.trans (congrArg some (by kernel_rfl)),
  f32 := Tryz.func250.trans (congrArg some (by kernel_rfl)),
  f33 := ⟨Tryz.f254.name, by decide, Tryz.func254.trans (congrArg some (by kernel_rfl))⟩,
  f34 := ⟨Tryz.f255.name, by decide, Tryz.func255.trans (congrArg some (by kernel_rfl))⟩,
  f35 := ⟨Tryz.f233.name, by decide, Tryz.func233.trans (congrArg some (by kernel_rfl))⟩,
  f40 := ⟨Tryz.f259.name, by decide, Tryz.func259.trans (congrArg some (by kernel_rfl))⟩,
  t0 := Tryz.underlying0,
  a0 := Tryz.isAgg0,
  z0 := Tryz.sizeOf0,
  v0 := Tryz.zeroValue0,
  t3 := Tryz.underlying3,
  a3 := Tryz.isAgg3,
  z3 := Tryz.sizeOf3,
  v3 := Tryz.zeroValue3,
  t4 := Tryz.underlying4,
  a4 := Tryz.isAgg4,
  z4 := Tryz.sizeOf4,
  v4 := Tryz.zeroValue4,
  t5 := Tryz.underlying5,
  a5 := Tryz.isAgg5,
  z5 := Tryz.sizeOf5,
  v5 := Tryz.zeroValue5,
  t9 := Tryz.underlying9,
  a9 := Tryz.isAgg9,
  z9 := Tryz.sizeOf9,
  v9 := Tryz.zeroValue9,
  t22 := Tryz.underlying62,
  a22 := Tryz.isAgg62,
  z22 := Tryz.sizeOf62,
  v22 := Tryz.zeroValue62,
  t23 := Tryz.underlying62,
  a23 := Tryz.isAgg62,
  z23 := Tryz.sizeOf62,
  v23 := Tryz.zeroValue62,
  t25 := Tryz.underlying3,
  a25 := Tryz.isAgg3,
  z25 := Tryz.sizeOf3,
  v25 := Tryz.zeroValue3,
  t32 := Tryz.underlying294,
  a32 := Tryz.isAgg294,
  z32 := Tryz.sizeOf294,
  v32 := Tryz.zeroValue294,
  t35 := Tryz.underlying326,
  a35 := Tryz.isAgg326,
  z35 := Tryz.sizeOf326,
  v35 := Tryz.zeroValue326,
  t36 := Tryz.underlying327,
  a36 := Tryz.isAgg327,
  z36 := Tryz.sizeOf327,
  v36 := Tryz.zeroValue327,
  t41 := Tryz.underlying149,
  a41 := Tryz.isAgg149,
  z41 := Tryz.sizeOf149,
  v41 := Tryz.zeroValue149,
  t44 := Tryz.underlying323,
  a44 := Tryz.isAgg323,
  z44 := Tryz.sizeOf323,
  v44 := Tryz.zeroValue323,
  t46 := Tryz.underlying103,
  a46 := Tryz.isAgg103,
  z46 := Tryz.sizeOf103,
  v46 := Tryz.zeroValue103,
  t53 := Tryz.underlying343,
  a53 := Tryz.isAgg343,
  z53 := Tryz.sizeOf343,
  v53 := Tryz.zeroValue343,
  t57 := Tryz.underlying346,
  a57 := Tryz.isAgg346,
  z57 := Tryz.sizeOf346,
  v57 := Tryz.zeroValue346,
  t63 := Tryz.underlying353,
  a63 := Tryz.isAgg353,
  z63 := Tryz.sizeOf353,
  v63 := Tryz.zeroValue353,
  t64 := Tryz.underlying265,
  a64 := Tryz.isAgg265,
  z64 := Tryz.sizeOf265,
  v64 := Tryz.zeroValue265 }
def cmpInt_ren : Go.Shelf.Ren := ⟨fun | 5 => 204 | 7 => 233 | n => n, fun | 22 => 3 | 3 => 3 | 4 => 4 | n => n, fun | n => n⟩
theorem cmpInt : Go.Proofs.SlLaysC2.n5 Tryz.prog cmpInt_ren := {
  mixed := by kernel_rfl,
  f5 := ⟨Tryz.f204.name, by decide, Tryz.func204.trans (congrArg some (by kernel_rfl))⟩,
  f7 := ⟨Tryz.f233.name, by decide, Tryz.func233.trans (congrArg some (by kernel_rfl))⟩,
  t3 := Tryz.underlying3,
  a3 := Tryz.isAgg3,
  z3 := Tryz.sizeOf3,
  v3 := Tryz.zeroValue3,
  t4 := Tryz.underlying4,
  a4 := Tryz.isAgg4,
  z4 := Tryz.sizeOf4,
  v4 := Tryz.zeroValue4,
  t22 := Tryz.underlying3,
  a22 := Tryz.isAgg3,
  z22 := Tryz.sizeOf3,
  v22 := Tryz.zeroValue3 }

def encV (x : Int × Int) : List Value := [.int .i64 x.1, .int .i64 x.2]

set_option maxHeartbeats 1000000 in
theorem closure165 (x y : Int × Int) (W : World) : Calls Tryz.prog 165 #[.agg #[.int .i64 x.1, .int .i64 x.2], .agg #[.int .i64 y.1, .int .i64 y.2]] W fun e w' => e = .returned (.int .i64 (Lib.compareInt x.1 y.1)) ∧ ∃ q os', w' = grow (W.drewN q) os' := by
  have hcon := fun W' => AnyG.cmp_Compare_int cmpInt x.1 y.1 W'
  change ∀ W', Calls Tryz.prog 204 _ _ _ at hcon
  generalize Lib.compareInt x.1 y.1 = r at hcon ⊢
  go_enter Tryz.func165, Tryz.ntmps165
  go_wp2_with (go_at_call 204; refine (hcon _).mono ?_; rintro e w' ⟨rfl, rfl⟩)
  go_ret
  exact ⟨rfl, 0, _, by rw [alloc_eq_grow, alloc_eq_grow, grow_grow]; rfl⟩

theorem cmpLays165 (blk off size : Nat) (w : World) : CmpLays Tryz.prog 165 #[] encV 2 (fun x y => Lib.compareInt x.1 y.1) blk off size w :=
  fun _ _ _ _ x y => closure165 x y _

theorem ltLo (x y : Int × Int) : ltOf (fun x y : Int × Int => Lib.compareInt x.1 y.1) x y = decide (x.1 < y.1) := by
  unfold ltOf Lib.compareInt
  by_cases h1 : x.1 < y.1
  · simp [h1]
  · by_cases h2 : y.1 < x.1 <;> simp [h1, h2]
theorem swoLo : SWO (ltOf fun x y : Int × Int => Lib.compareInt x.1 y.1) where
  irrefl x := by rw [ltLo]; simp
  trans x y z h1 h2 := by rw [ltLo] at *; simp at *; omega
  ntrans x y z h1 h2 := by rw [ltLo] at *; simp at *; omega

theorem repL_two {w : World} {γ : G} (x : Int × Int) : RepL w γ (spRow x) (encV x) := .cons (.int _ _) (.cons (.int _ _) .nil)
theorem repL_one {w : World} {γ : G} {a : AV} {vs : List Value} (h : RepL w γ [a] vs) : ∃ v, vs = [v] ∧ Rep w γ a v := by
  match vs, h with
  | [v], h => exact ⟨v, rfl, h.2 0 _ _ rfl rfl⟩
  | [], h => exact absurd h.1 (by simp)
  | _ :: _ :: _, h => exact absurd h.1 (by simp)
theorem repL_int2 {w : World} {γ : G} (x : Int × Int) {vs : List Value} (h : RepL w γ (spRow x) vs) : vs = encV x := by
  match vs, h with
  | [u, v], h =>
    have h1 : Rep w γ (I x.1) u := h.2 0 _ _ rfl rfl
    have h2 : Rep w γ (I x.2) v := h.2 1 _ _ rfl rfl
    cases h1; cases h2; rfl
  | [], h => exact absurd h.1 (by simp [spRow])
  | [_], h => exact absurd h.1 (by simp [spRow])
  | _ :: _ :: _ :: _, h => exact absurd h.1 (by simp [spRow])

theorem fn_inv {w : World} {γ : G} {f : FuncId} {v : Value} (h : Rep w γ (.fn f [] []) v) : v = .func (.func f) #[] #[] := by
  cases h with
  | fn hl _ hl' _ =>
    rename_i fa ca _ _
    have e1 : fa = #[] := Array.eq_empty_of_size_eq_zero hl.symm
    have e2 : ca = #[] := Array.eq_empty_of_size_eq_zero hl'.symm
    rw [e1, e2]

theorem sortIv_eff (Y : YT) (d : List Sp) (hd : d.length ≤ 1000000000) (m : AM) (id : Nat) (post : List AV) (hB : m.boxes[id]? = some (fl2 d ++ post)) (hne : fl2 d ++ post ≠ []) (K : AV → AM → Prop)
    (hK : ∀ d' : List Sp, d'.Perm d → d'.Pairwise (fun a b => a.1 ≤ b.1) → K (.tup []) (m.wr id (fl2 d' ++ post))) :
    EffY Tryz.prog gl0 Y 164 [.bs id 0 d.length 2, .fn 165 [] []] m K := by
  refine sort_call (α := Int × Int) (d := d) (more := [.fn 165 [] []]) (sz := 2) (off := 0) code164.callable encV spRow (fun _ => rfl) (fun _ _ x => repL_two x) (fun _ _ x _ h => repL_int2 x h) (fun x v hv => by simp [encV] at hv; rcases hv with rfl | rfl <;> rfl) hB hne
    ⟨[], post, by rw [fl2_flat]; rfl, rfl⟩ (d2 := fun d' => d'.Perm d ∧ d'.Pairwise fun a b => a.1 ≤ b.1) ?_ ?_
  · intro w b cap mv γ hmv hH hblk
    obtain ⟨v, rfl, hv⟩ := repL_one hmv
    have := fn_inv hv
    subst this
    have eg : ∀ args w, (callFunc 165 args).run Tryz.prog w = .ok (.enter 165 args) w := enters_of Tryz.func165 (by kernel_rfl) rfl
    have hcon := AnyQ.slices_SortFunc sortIv 2 Tryz.isAgg247 Tryz.sizeOf247 encV (fun _ => rfl) (fun x v hv => by simp [encV] at hv; rcases hv with rfl | rfl <;> rfl) (fun x y => Lib.compareInt x.1 y.1) swoLo 165 #[] b 0 cap d.toArray w eg (cmpLays165 b 0 _ w) hH hblk (by simp; omega)
    change Calls Tryz.prog 164 _ _ _ at hcon
    refine hcon.mono ?_
    rintro e w' ⟨rfl, d', n, os, hP, hS, rfl⟩
    obtain ⟨p1, _, p3⟩ := hP
    have hsz : d'.size = d.length := by simpa using p1
    refine ⟨rfl, d'.toList, n, os, by simpa using hsz, ⟨?_, ?_⟩, by simp⟩
    · have e1 : d'.extract 0 d.toArray.size = d' := by rw [← p1]; simp
      rw [e1] at p3
      simpa using p3
    · rw [List.pairwise_iff_getElem]
      intro i j hi hj hij
      have hi' : i < d'.size := by simpa using hi
      have hj' : j < d'.size := by simpa using hj
      have := hS i j (Nat.zero_le _) hij (by simp; omega)
      rw [ltLo] at this
      simp only [getElem!_pos d' i hi', getElem!_pos d' j hj', decide_eq_false_iff_not, Int.not_lt] at this
      simpa using this
  · rintro d' hl ⟨h1, h2⟩
    rw [fl2_flat, setA_pre _ _ _ (by rw [fl2_len, fl2_len, hl])]
    exact hK d' h1 h2

theorem sortIv_none (Y : YT) (rt : Rt) (m : AM) (K : AV → AM → Prop) (hK : K (.tup []) m) : EffY Tryz.prog gl0 Y 164 [.sl rt [], .fn 165 [] []] m K := by
  refine EffY.of_calls code164.callable fun N w0 ro0 γ w vs hm hl hr => ?_
  match vs, hr with
  | [u, v], hr =>
    have h1 : Rep w γ (.sl rt []) u := hr.2 0 _ _ rfl rfl
    cases h1 with
    | @sl _ _ _ a cap b off sz cv _ _ _ _ _ _ _ =>
      have hcon := AnyF.slices_SortFunc_none { sortIv with } a cap v w
      change Calls Tryz.prog 164 _ _ _ at hcon
      refine hcon.mono ?_
      rintro e w' ⟨rfl, rfl⟩
      exact ⟨_, γ, _, m, rfl, (Ev.refl _ _).toR, hm, hl, rep_tup0, hK⟩
  | [], hr => exact absurd hr.1 (by simp)
  | [_], hr => exact absurd hr.1 (by simp)
  | _ :: _ :: _ :: _, hr => exact absurd hr.1 (by simp)

/-! ### slices.Sort at int -/
def encI (x : Int) : List Value := [.int .i64 x]
theorem flat1 (d : Array Int) : flatK encI 1 d = d.map (Value.int .i64) := by
  refine Array.ext (by simp) fun t h1 h2 => ?_
  have ht : t < d.size := by simpa using h2
  have := get_flatK encI 1 d t (by simpa using ht)
  rw [getElem!_pos _ t h1] at this
  rw [this]
  have e2 : d[t]! = d[t] := getElem!_pos d t ht
  simp [Nat.div_one, Nat.mod_one, encI, ht]

theorem sortInt_eff (Y : YT) (d : List Int) (hd : d.length ≤ 1000000000) (m : AM) (id : Nat) (post : List AV) (hB : m.boxes[id]? = some (intCells d ++ post)) (hne : intCells d ++ post ≠ []) (K : AV → AM → Prop)
    (hK : K (.tup []) (m.wr id (intCells (d.mergeSort fun x y => decide (x ≤ y)) ++ post))) :
    EffY Tryz.prog gl0 Y 168 [.bs id 0 d.length 1] m K := by
  have hflat : ∀ l : List Int, (l.map fun x => [I x]).flatten = intCells l := by
    intro l
    induction l with
    | nil => rfl
    | cons x l ih => simp [intCells] at ih ⊢; exact ih
  refine sort_call (α := Int) (d := d) (more := []) (sz := 1) (off := 0) code168.callable encI (fun x => [I x]) (fun _ => rfl) (fun _ _ x => .cons (.int _ _) .nil) (fun w γ x vs h => ?_) (fun x v hv => by simp [encI] at hv; subst hv; rfl) hB hne
    ⟨[], post, by rw [hflat]; rfl, rfl⟩ (d2 := fun d' => d' = d.mergeSort fun x y => decide (x ≤ y)) ?_ ?_
  · obtain ⟨v, rfl, hv⟩ := repL_one h
    cases hv; rfl
  · intro w b cap mv γ hmv hH hblk
    have : mv = [] := List.length_eq_zero_iff.1 hmv.1.symm
    subst this
    have hH' : Holds (Value.int .i64) w b 0 d.toArray := by
      intro j hj
      unfold HoldsK at hH
      rw [flat1] at hH
      have := hH j (by simpa using hj)
      have hj' : j < d.length := by simpa using hj
      simpa [hj'] using this
    have hcon := AnyM.slices_Sort_int sortInt b 0 cap d w hH' hblk (by omega)
    change Calls Tryz.prog 168 _ _ _ at hcon
    refine hcon.mono ?_
    rintro e w' ⟨rfl, n, os, rfl⟩
    refine ⟨rfl, _, n, os, by simp, rfl, ?_⟩
    unfold sortWorldK putRowK
    rw [flat1]
    congr 1
    unfold putRow
    refine mapBlock_congr _ _ _ _ fun c e fr _ => ?_
    unfold putCells
    apply Array.ext_getElem?
    intro k
    simp only [Array.getElem?_mapIdx, Array.size_map]
    cases c[k]? with
    | none => rfl
    | some x =>
      simp only [Option.map_some]
      congr 1
      by_cases hc : 0 ≤ k ∧ k < 0 + (d.mergeSort fun x y => decide (x ≤ y)).toArray.size
      · rw [if_pos hc, if_pos hc]
        have hk : k < (d.mergeSort fun x y => decide (x ≤ y)).toArray.size := by omega
        have hk' : k < ((d.mergeSort fun x y => decide (x ≤ y)).toArray.map (Value.int .i64)).size := by simpa using hk
        simp only [Nat.sub_zero]
        rw [getElem!_pos _ k hk, getElem!_pos _ k hk']
        simp
      · rw [if_neg hc, if_neg hc]
  · rintro d' hl rfl
    rw [hflat, setA_pre _ _ _ (by simp [intCells])]
    exact hK

theorem sortInt_none (Y : YT) (rt : Rt) (m : AM) (K : AV → AM → Prop) (hK : K (.tup []) m) : EffY Tryz.prog gl0 Y 168 [.sl rt []] m K := by
  refine EffY.of_calls code168.callable fun N w0 ro0 γ w vs hm hl hr => ?_
  obtain ⟨u, rfl, h1⟩ := repL_one hr
  cases h1 with
  | @sl _ _ _ a cap b off sz cv _ _ _ _ _ _ _ =>
    have hcon := AnyM.slices_Sort_int_none sortInt a cap w
    change Calls Tryz.prog 168 _ _ _ at hcon
    refine hcon.mono ?_
    rintro e w' ⟨rfl, rfl⟩
    exact ⟨_, γ, _, m, rfl, (Ev.refl _ _).toR, hm, hl, rep_tup0, hK⟩
end Go.Proofs.YtdebhhpklhbihaaGreatDoor
