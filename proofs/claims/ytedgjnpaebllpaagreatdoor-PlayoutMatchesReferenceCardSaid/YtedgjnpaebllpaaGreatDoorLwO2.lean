/-
  OWN WORK. Contracts: captionstream.sender and what it returns; Code.
-/
import Derived.Test.YtedgjnpaebllpaaGreatDoorLwO
set_option linter.unusedVariables false
set_option linter.unusedSimpArgs false
namespace Go.Proofs.YtedgjnpaebllpaaGreatDoor
open Go Go.Abs

/-- What a sender knows. -/
structure St where
  sees : Int
  cue : Cue
  snd : Cue
  blk : ByteArray
  sent : Int
def eqC (a b : Cue) : Bool := eqFs (cueRow a) (cueRow b)
def two : List UInt8 → Int × Int
  | x :: y :: _ => (x.toNat, y.toNat)
  | [x] => (x.toNat, 0)
  | [] => (0, 0)
def putS (k : Int) (c : Cue) (st : St) : ByteArray × St :=
  let t := two ((st.blk.extract st.sent.toNat st.blk.size).data.toList)
  (codeS k (st.sent.tdiv 2) t.1 t.2, if st.sent + 2 ≥ st.blk.size then { st with sent := st.sent + 2, sees := 2, cue := c, blk := eB } else { st with sent := st.sent + 2 })
def stepS (blk : Cue → ByteArray) (w : Option Cue) (st : St) : ByteArray × St := match w with
  | none => if st.sees = 1 then (codeS 0 0 0 0, { st with blk := eB }) else (codeS 1 0 0 0, { st with blk := eB, sees := 1 })
  | some c => if st.sees = 2 ∧ eqC st.cue c = true then (codeS 0 0 0 0, { st with blk := eB })
    else if st.blk = eB ∨ eqC st.snd c = false then putS 2 c { st with blk := blk c, sent := 0, snd := c } else putS 3 c st

def InvS (st : St) : Prop := (0 ≤ st.sent ∧ st.sent ≤ 1001) ∧ st.blk.size ≤ 1000 ∧ (st.blk = eB ∨ st.sent < st.blk.size)
def BlkOK (blk : Cue → ByteArray) (l : List Cue) : Prop := ∀ c ∈ l, (0 < (blk c).size ∧ (blk c).size ≤ 1000) ∧ Pure Tryz.prog gl0 64 [.agg (cueRow c)] (.tup [.str (blk c), I 0])

theorem eB_iff (s : ByteArray) : s = eB ↔ s.size = 0 := by
  constructor
  · rintro rfl; rfl
  · intro h; obtain ⟨⟨l⟩⟩ := s
    have : l.length = 0 := h
    have := List.length_eq_zero_iff.1 this
    subst this; rfl

theorem putS_inv (k : Int) (c : Cue) (st : St) (h : InvS st) (hb : st.sent < st.blk.size) : InvS (putS k c st).2 := by
  obtain ⟨⟨h1, h2⟩, h3, h4⟩ := h
  unfold putS
  simp only
  split
  · refine ⟨⟨by simp only; omega, by simp only; omega⟩, ?_, .inl rfl⟩
    show (0 : Nat) ≤ 1000
    omega
  · exact ⟨⟨by simp only; omega, by simp only; omega⟩, h3, .inr (by simp only; omega)⟩
theorem stepS_inv (blk : Cue → ByteArray) (l : List Cue) (hB : BlkOK blk l) (w : Option Cue) (hw : ∀ c, w = some c → c ∈ l) (st : St) (h : InvS st) : InvS (stepS blk w st).2 := by
  obtain ⟨⟨h1, h2⟩, h3, h4⟩ := h
  have he : eB.size ≤ 1000 := Nat.zero_le _
  cases w with
  | none =>
    simp only [stepS]
    split
    · exact ⟨⟨h1, h2⟩, he, .inl rfl⟩
    · exact ⟨⟨h1, h2⟩, he, .inl rfl⟩
  | some c =>
    have hc := (hB c (hw c rfl)).1
    simp only [stepS]
    split
    · exact ⟨⟨h1, h2⟩, he, .inl rfl⟩
    · split
      · exact putS_inv 2 c _ ⟨⟨Int.le_refl 0, (by decide : (0 : Int) ≤ 1001)⟩, hc.2, .inr (show (0 : Int) < (blk c).size by omega)⟩ (show (0 : Int) < (blk c).size by omega)
      · rename_i hn
        have h5 : st.sent < st.blk.size := by
          rcases h4 with h | h
          · exact absurd (.inl h) hn
          · exact h
        exact putS_inv 3 c st ⟨⟨h1, h2⟩, h3, h4⟩ h5

def boxS (rt : Rt) (l : List Cue) (st : St) (rest : List (List AV)) : List (List AV) :=
  [.sl rt (l.map cueRow)] :: [I st.sees] :: cueRow st.cue :: cueRow st.snd :: [.str st.blk] :: [I st.sent] :: rest

def orc57 (blk : Cue → ByteArray) (w : Option Cue) : Nat → FuncId → List AV → AV := fun _ f a => if f = 63 then .tup [.agg (cueRow (w.getD zCue)), .bool w.isSome]
  else if f = 64 then .tup [.str (blk (w.getD zCue)), I 0] else (match a with
  | [.int _ k, .int _ p, .int _ a, .int _ b] => .str (codeS k p a b)
  | _ => .junk)

def tl62 : SC := (.seq (.ops [⟨(some 55), (.load false 1 (.tmp 6)), none, []⟩, ⟨(some 56), (.bin .quo (.tmp 55) (.const (.int .i64 2))), none, []⟩, ⟨(some 15), (.mv (.tmp 56)), none, []⟩]) (.seq (.ops [⟨(some 16), (.alloc [(.int .u8 0), (.int .u8 0)]), none, []⟩]) (.seq (.draw [⟨(some 57), (.slA 2 1 (.tmp 16) none none), none, []⟩, ⟨(some 58), (.load false 1 (.tmp 2)), none, []⟩, ⟨(some 59), (.load false 1 (.tmp 6)), none, []⟩, ⟨(some 60), (.slS (.tmp 58) (some (.tmp 59)) none), none, []⟩] [⟨(some 61), (.cpy 1 (.tmp 57) (.tmp 60)), none, []⟩]) (.seq (.ops [⟨(some 62), (.load false 1 (.tmp 6)), none, []⟩, ⟨(some 63), (.bin .add (.tmp 62) (.const (.int .i64 2))), none, []⟩, ⟨none, (.store 1 (.tmp 6) (.tmp 63)), none, []⟩]) (.seq (.seq (.ops [⟨(some 64), (.load false 1 (.tmp 6)), none, []⟩, ⟨(some 65), (.load false 1 (.tmp 2)), none, []⟩, ⟨(some 66), (.lenS (.tmp 65)), none, []⟩, ⟨(some 67), (.bin .geq (.tmp 64) (.tmp 66)), none, []⟩]) (.cond (.tmp 67) (.drawE [.oth, .eff] [⟨(some 68), (.load true 5 (.tmp 9)), none, []⟩, ⟨none, (.store 1 (.tmp 3) (.const (.int .i64 2))), none, []⟩] [⟨none, (.store 5 (.tmp 4) (.tmp 68)), none, []⟩, ⟨none, (.store 1 (.tmp 2) (.const (.str ⟨#[]⟩))), none, []⟩]) .skip)) (.seq (.ops [⟨(some 69), (.mv (.tmp 14)), none, []⟩, ⟨(some 70), (.mv (.tmp 15)), none, []⟩, ⟨(some 71), (.iaddrA 2 1 (.tmp 16) (.const (.int .i64 0))), none, []⟩, ⟨(some 72), (.load false 1 (.tmp 71)), none, []⟩, ⟨(some 73), (.iaddrA 2 1 (.tmp 16) (.const (.int .i64 1))), none, []⟩, ⟨(some 74), (.load false 1 (.tmp 73)), none, []⟩, ⟨(some 75), (.call (.func 39) [(.tmp 69), (.tmp 70), (.tmp 72), (.tmp 74)]), none, []⟩, ⟨(some 8), (.mv (.tmp 75)), none, []⟩]) .ret))))))
def hd62 (t : SC) : SC := (.seq (.ops [⟨(some 8), (.mv (.const (.str ⟨#[]⟩))), none, []⟩]) (.seq (.ops [⟨(some 18), (.load false 1 (.tmp 1)), none, []⟩, ⟨(some 19), (.mv (.tmp 0)), none, []⟩, ⟨(some 20), (.call (.func 63) [(.tmp 18), (.tmp 19)]), none, []⟩, ⟨(some 17), (.mv (.tmp 20)), none, []⟩, ⟨(some 21), (.ext (.tmp 17) 0), none, []⟩, ⟨(some 22), (.ext (.tmp 17) 1), none, []⟩, ⟨(some 9), (.alloc [(.int .i64 0), (.int .i64 0), (.int .i64 0), (.int .i64 0), (.str ⟨#[]⟩)]), none, []⟩, ⟨none, (.store 5 (.tmp 9) (.tmp 21)), none, []⟩, ⟨(some 10), (.mv (.tmp 22)), none, []⟩]) (.seq (.ops [⟨(some 11), (.mv (.const (.str ⟨#[]⟩))), none, []⟩]) (.seq (.seq (.ops [⟨(some 23), (.mv (.tmp 10)), none, []⟩]) (.cond (.tmp 23) (.seq (.ops [⟨(some 25), (.load true 5 (.tmp 9)), none, []⟩, ⟨(some 26), (.call (.func 64) [(.tmp 25)]), none, []⟩, ⟨(some 24), (.mv (.tmp 26)), none, []⟩, ⟨(some 27), (.ext (.tmp 24) 0), none, []⟩, ⟨(some 28), (.ext (.tmp 24) 1), none, []⟩, ⟨(some 12), (.mv (.tmp 27)), none, []⟩, ⟨(some 13), (.mv (.tmp 28)), none, []⟩]) (.ops [⟨(some 29), (.mv (.tmp 12)), none, []⟩, ⟨(some 30), (.mv (.tmp 13)), none, []⟩, ⟨(some 31), (.bin .eql (.tmp 30) (.const (.int .i64 0))), none, []⟩, ⟨(some 11), (.mv (.tmp 29)), none, []⟩, ⟨(some 10), (.mv (.tmp 31)), none, []⟩])) .skip)) (.seq (.seq (.ops [⟨(some 32), (.mv (.tmp 10)), none, []⟩, ⟨(some 33), (.un .not (.tmp 32)), none, []⟩]) (.cond (.tmp 33) (.seq (.ops [⟨none, (.store 1 (.tmp 2) (.const (.str ⟨#[]⟩))), none, []⟩]) (.seq (.seq (.ops [⟨(some 34), (.load false 1 (.tmp 3)), none, []⟩, ⟨(some 35), (.bin .eql (.tmp 34) (.const (.int .i64 1))), none, []⟩]) (.cond (.tmp 35) (.seq (.ops [⟨(some 36), (.call (.func 39) [(.const (.int .i64 0)), (.const (.int .i64 0)), (.const (.int .u8 0)), (.const (.int .u8 0))]), none, []⟩, ⟨(some 8), (.mv (.tmp 36)), none, []⟩]) .ret) .skip)) (.seq (.ops [⟨none, (.store 1 (.tmp 3) (.const (.int .i64 1))), none, []⟩]) (.seq (.ops [⟨(some 37), (.call (.func 39) [(.const (.int .i64 1)), (.const (.int .i64 0)), (.const (.int .u8 0)), (.const (.int .u8 0))]), none, []⟩, ⟨(some 8), (.mv (.tmp 37)), none, []⟩]) .ret)))) .skip)) (.seq (.seq (.ops [⟨(some 38), (.load false 1 (.tmp 3)), none, []⟩, ⟨(some 39), (.bin .eql (.tmp 38) (.const (.int .i64 2))), none, []⟩, ⟨(some 40), (.mv (.tmp 39)), none, []⟩, ⟨(some 41), (.load true 5 (.tmp 4)), (some ((some 40), true)), [(.tmp 4)]⟩, ⟨(some 42), (.load true 5 (.tmp 9)), (some ((some 40), true)), [(.tmp 9)]⟩, ⟨(some 43), (.eqA false [1, 1, 1, 1, 2] (.tmp 41) (.tmp 42)), (some ((some 40), true)), [(.tmp 41), (.tmp 42)]⟩, ⟨(some 44), (.pick (.tmp 40) (.tmp 43) (.const (.bool false))), none, []⟩]) (.cond (.tmp 44) (.seq (.ops [⟨none, (.store 1 (.tmp 2) (.const (.str ⟨#[]⟩))), none, []⟩]) (.seq (.ops [⟨(some 45), (.call (.func 39) [(.const (.int .i64 0)), (.const (.int .i64 0)), (.const (.int .u8 0)), (.const (.int .u8 0))]), none, []⟩, ⟨(some 8), (.mv (.tmp 45)), none, []⟩]) .ret)) .skip)) (.seq (.ops [⟨(some 14), (.mv (.const (.int .i64 3))), none, []⟩]) (.seq (.seq (.ops [⟨(some 46), (.load false 1 (.tmp 2)), none, []⟩, ⟨(some 47), (.bin .eql (.tmp 46) (.const (.str ⟨#[]⟩))), none, []⟩, ⟨(some 48), (.mv (.tmp 47)), none, []⟩, ⟨(some 49), (.load true 5 (.tmp 5)), (some ((some 48), false)), [(.tmp 5)]⟩, ⟨(some 50), (.load true 5 (.tmp 9)), (some ((some 48), false)), [(.tmp 9)]⟩, ⟨(some 51), (.eqA true [1, 1, 1, 1, 2] (.tmp 49) (.tmp 50)), (some ((some 48), false)), [(.tmp 49), (.tmp 50)]⟩, ⟨(some 52), (.pick (.tmp 48) (.const (.bool true)) (.tmp 51)), none, []⟩]) (.cond (.tmp 52) (.drawE [.pre, .oth, .pre, .eff, .eff] [⟨(some 53), (.mv (.tmp 11)), none, []⟩, ⟨(some 54), (.load true 5 (.tmp 9)), none, []⟩, ⟨(some 14), (.mv (.const (.int .i64 2))), none, []⟩, ⟨none, (.store 1 (.tmp 2) (.tmp 53)), none, []⟩, ⟨none, (.store 1 (.tmp 6) (.const (.int .i64 0))), none, []⟩] [⟨none, (.store 5 (.tmp 5) (.tmp 54)), none, []⟩]) .skip)) t))))))))
theorem sc62_eq : sc62 = hd62 tl62 := rfl

theorem codeA_pure (k p a b : Int) : Pure Tryz.prog gl0 39 [.int .i64 k, .int .i64 p, .int .u8 a, .int .u8 b] (.str (codeS k p a b)) := code_pure k p a b

set_option maxRecDepth 100000 in
set_option maxHeartbeats 2000000 in
theorem tail57 (Y : YT) (blk : Cue → ByteArray) (l : List Cue) (c : Cue) (k : Int) (st : St) (hI : InvS st) (hb : st.sent < st.blk.size) (m : AM) (rest : List (List AV)) (hm : m.boxes = boxS .full l st (rest ++ [cueRow c])) (E : List (Nat × AV)) (K : AV → AM → Prop)
    (h2 : Abs.look E 2 = .ptr 4 0) (h3 : Abs.look E 3 = .ptr 1 0) (h4 : Abs.look E 4 = .ptr 2 0) (h6 : Abs.look E 6 = .ptr 5 0) (h9 : Abs.look E 9 = .ptr (rest.length + 6) 0) (h14 : Abs.look E 14 = I k)
    (hK : ∀ rest', K (.str (putS k c st).1) { m with boxes := boxS .full l (putS k c st).2 rest' }) : vc Tryz.prog gl0 (orc57 blk (some c)) Y tl62 ⟨envT 76 E, m⟩ (postE Tryz.prog gl0 (orc57 blk (some c)) rs62 K) := by
  obtain ⟨⟨i1, i2⟩, i3, i4⟩ := hI
  have hsz : st.sent.toNat < st.blk.size := by omega
  have w1 : IntKind.i64.wrap (st.sent.tdiv 2) = st.sent.tdiv 2 := by
    rw [Int.tdiv_eq_ediv_of_nonneg i1, wrap_in] <;> omega
  have w2 : IntKind.i64.wrap (st.sent + 2) = st.sent + 2 := by rw [wrap_in] <;> omega
  obtain ⟨x, t, hxt⟩ : ∃ x t, (st.blk.extract st.sent.toNat st.blk.size).data.toList = x :: t := by
    cases h : (st.blk.extract st.sent.toNat st.blk.size).data.toList with
    | nil =>
      have := congrArg List.length h
      simp at this
      omega
    | cons x t => exact ⟨x, t, rfl⟩
  have hset : setA [.int .u8 0, .int .u8 0] 0 (List.take 2 (List.take (st.blk.size - st.sent.toNat) (List.drop st.sent.toNat (List.map (fun b => AV.int .u8 (b.toNat : Int)) st.blk.data.toList)))) =
      [.int .u8 (two ((st.blk.extract st.sent.toNat st.blk.size).data.toList)).1, .int .u8 (two ((st.blk.extract st.sent.toNat st.blk.size).data.toList)).2] := by
    have e1 : List.take (st.blk.size - st.sent.toNat) (List.drop st.sent.toNat (List.map (fun b => AV.int .u8 (b.toNat : Int)) st.blk.data.toList)) = ((st.blk.extract st.sent.toNat st.blk.size).data.toList).map (fun b => AV.int .u8 (b.toNat : Int)) := by
      simp [ByteArray.data_extract, Array.toList_extract, List.extract_eq_take_drop, List.map_take, List.map_drop]
    rw [e1, hxt]
    cases t with
    | nil => simp [two]
    | cons y t => simp [two]
  unfold putS at hK
  generalize two ((st.blk.extract st.sent.toNat st.blk.size).data.toList) = t at hset hK
  have hc := codeA_pure k (st.sent.tdiv 2) t.1 t.2
  by_cases hend : st.sent + 2 ≥ st.blk.size
  · simp only [if_pos hend] at hK
    have hend' : (st.blk.size : Int) ≤ st.sent + 2 := hend
    simp [tl62, h2, h3, h4, h6, h9, h14, hm, boxS, cueRow, orc57, w1, w2, i1, hsz, Int.le_of_lt hb, hset, hend']
    refine vc_drawM ?_
    simp [h2, h3, h4, h6, h9, h14, hm, boxS, cueRow, orc57, w1, w2, rs62]
    exact ⟨hc, hK _⟩
  · simp only [if_neg hend] at hK
    have hend' : ¬ (st.blk.size : Int) ≤ st.sent + 2 := hend
    simp [tl62, h2, h3, h4, h6, h9, h14, hm, boxS, cueRow, orc57, w1, w2, i1, hsz, Int.le_of_lt hb, hset, hend', rs62]
    exact ⟨hc, hK _⟩

set_option maxRecDepth 100000 in
set_option maxHeartbeats 2000000 in
theorem send_eff (Y : YT) (blk : Cue → ByteArray) (l : List Cue) (rt : Rt) (hrt : rt = .full) (hl : l.length ≤ 1000000000) (hB : BlkOK blk l) (f : Int) (st : St) (hI : InvS st) (m : AM) (rest : List (List AV)) (hm : m.boxes = boxS rt l st rest) (K : AV → AM → Prop)
    (hK : ∀ rest', K (.str (stepS blk (actv f l) st).1) { m with boxes := boxS rt l (stepS blk (actv f l) st).2 rest' }) : EffY Tryz.prog gl0 Y 62 [I f, .ptr 0 0, .ptr 4 0, .ptr 1 0, .ptr 2 0, .ptr 3 0, .ptr 5 0] m K := by
  subst hrt
  have ha := active_pure l .full f hl
  have hmem : ∀ c, actv f l = some c → c ∈ l := fun c h => by
    rcases actv_mem f l none c h with h | h
    · cases h
    · exact h
  generalize actv f l = w at ha hK hmem
  refine effE code62 (orc57 blk w) (by simp) ?_
  obtain ⟨⟨i1, i2⟩, i3, i4⟩ := hI
  cases w with
  | none =>
    simp only [Option.getD_none, Option.isSome_none] at ha
    have c0 := code_pure 0 0 0 0
    have c1 := code_pure 1 0 0 0
    by_cases h1 : st.sees = 1
    · simp only [stepS, h1, if_true] at hK
      simp [sc62, rs62, hm, boxS, orc57, h1, cueRow, zCue] at ha ⊢
      exact ⟨ha, c0, by rw [h1] at *; exact hK _⟩
    · simp only [stepS, h1, if_false] at hK
      simp [sc62, rs62, hm, boxS, orc57, h1, cueRow, zCue] at ha ⊢
      exact ⟨ha, c1, hK _⟩
  | some c =>
    simp only [Option.getD_some, Option.isSome_some] at ha
    obtain ⟨⟨b1, b2⟩, hb⟩ := hB c (hmem c rfl)
    have c0 := code_pure 0 0 0 0
    by_cases hA : st.sees = 2 ∧ eqC st.cue c = true
    · simp only [stepS, if_pos hA] at hK
      obtain ⟨h1, h2⟩ := hA
      have e1 : eqFs [I st.cue.id, I st.cue.fr, I st.cue.to, I st.cue.pr, .str st.cue.tx] [I c.id, I c.fr, I c.to, I c.pr, .str c.tx] = true := h2
      simp only [cueRow] at ha hb
      simp [-eqFs, -eqF, sc62, rs62, hm, boxS, orc57, h1, cueRow, e1]
      simp only [h1] at hK
      exact ⟨ha, hb, c0, hK _⟩
    · simp only [cueRow] at ha hb
      have hA' : (st.sees = 2 ∧ eqFs [I st.cue.id, I st.cue.fr, I st.cue.to, I st.cue.pr, .str st.cue.tx] [I c.id, I c.fr, I c.to, I c.pr, .str c.tx] = false) ∨ st.sees ≠ 2 := by
        by_cases h : st.sees = 2
        · refine .inl ⟨h, ?_⟩
          cases h' : eqC st.cue c with
          | true => exact absurd ⟨h, h'⟩ hA
          | false => exact h'
        · exact .inr h
      by_cases hS : st.blk = eB ∨ eqC st.snd c = false
      · simp only [stepS, if_neg hA, if_pos hS] at hK
        have fin : ∀ E, Abs.look E 2 = .ptr 4 0 → Abs.look E 3 = .ptr 1 0 → Abs.look E 4 = .ptr 2 0 → Abs.look E 6 = .ptr 5 0 → Abs.look E 9 = .ptr (rest.length + 6) 0 → Abs.look E 14 = I 2 →
            vc Tryz.prog gl0 (orc57 blk (some c)) Y tl62 ⟨envT 76 E, { m with boxes := boxS .full l { st with blk := blk c, sent := 0, snd := c } (rest ++ [cueRow c]) }⟩ (postE Tryz.prog gl0 (orc57 blk (some c)) rs62 K) := fun E h2 h3 h4 h6 h9 h14 =>
          tail57 Y blk l c 2 { st with blk := blk c, sent := 0, snd := c } ⟨⟨Int.le_refl 0, (by decide : (0 : Int) ≤ 1001)⟩, b2, .inr (show (0 : Int) < (blk c).size by omega)⟩ (show (0 : Int) < (blk c).size by omega) _ rest rfl E K h2 h3 h4 h6 h9 h14 hK
        have hP : st.blk.toList = [] ∨ eqFs [I st.snd.id, I st.snd.fr, I st.snd.to, I st.snd.pr, .str st.snd.tx] [I c.id, I c.fr, I c.to, I c.pr, .str c.tx] = false := by
          rcases hS with h | h
          · left; rw [h]; simp [eB, ByteArray.toList_eq]
          · right; exact h
        rw [sc62_eq]
        rcases hA' with ⟨h1, e1⟩ | h1
        · simp only [h1] at fin
          simp [-eqFs, -eqF, hd62, hm, boxS, orc57, h1, cueRow, e1, hP]
          refine ⟨ha, hb, vc_drawM ?_, fun q1 q2 => ?_⟩
          · simp [-eqFs, -eqF, orc57, cueRow]
            exact fin _ rfl rfl rfl rfl rfl rfl
          · rcases hP with h | h
            · exact absurd h q1
            · rw [h] at q2; cases q2
        · simp [-eqFs, -eqF, hd62, hm, boxS, orc57, h1, cueRow, hP]
          refine ⟨ha, hb, vc_drawM ?_, fun q1 q2 => ?_⟩
          · simp [-eqFs, -eqF, orc57, cueRow]
            exact fin _ rfl rfl rfl rfl rfl rfl
          · rcases hP with h | h
            · exact absurd h q1
            · rw [h] at q2; cases q2
      · simp only [stepS, if_neg hA, if_neg hS] at hK
        have hS2 : st.blk ≠ eB ∧ eqC st.snd c = true := by
          refine ⟨fun h => hS (.inl h), ?_⟩
          cases h : eqC st.snd c with
          | true => rfl
          | false => exact absurd (.inr h) hS
        have hq : ¬ st.blk.toList = [] := fun h => hS2.1 ((eB_iff _).2 (by
          rw [ByteArray.toList_eq] at h
          have := congrArg List.length h
          simpa using this))
        have e2 : eqFs [I st.snd.id, I st.snd.fr, I st.snd.to, I st.snd.pr, .str st.snd.tx] [I c.id, I c.fr, I c.to, I c.pr, .str c.tx] = true := hS2.2
        have h5 : st.sent < st.blk.size := by
          rcases i4 with h | h
          · exact absurd h hS2.1
          · exact h
        have fin : ∀ E, Abs.look E 2 = .ptr 4 0 → Abs.look E 3 = .ptr 1 0 → Abs.look E 4 = .ptr 2 0 → Abs.look E 6 = .ptr 5 0 → Abs.look E 9 = .ptr (rest.length + 6) 0 → Abs.look E 14 = I 3 →
            vc Tryz.prog gl0 (orc57 blk (some c)) Y tl62 ⟨envT 76 E, { m with boxes := boxS .full l st (rest ++ [cueRow c]) }⟩ (postE Tryz.prog gl0 (orc57 blk (some c)) rs62 K) := fun E h2 h3 h4 h6 h9 h14 =>
          tail57 Y blk l c 3 st ⟨⟨i1, i2⟩, i3, i4⟩ h5 _ rest rfl E K h2 h3 h4 h6 h9 h14 hK
        rw [sc62_eq]
        rcases hA' with ⟨h1, e1⟩ | h1
        · simp [-eqFs, -eqF, hd62, hm, boxS, orc57, h1, cueRow, e1, hq, e2]
          refine ⟨ha, hb, ?_⟩
          have := fin
          simp only [boxS, h1, cueRow] at this
          exact this _ rfl rfl rfl rfl rfl rfl
        · simp [-eqFs, -eqF, hd62, hm, boxS, orc57, h1, cueRow, hq, e2]
          refine ⟨ha, hb, ?_⟩
          exact fin _ rfl rfl rfl rfl rfl rfl
end Go.Proofs.YtedgjnpaebllpaaGreatDoor
