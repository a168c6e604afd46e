import Derived.Test.YtkcnjajklnoahaaGreatDoorSXSeB
import Derived.Test.YtkcnjajklnoahaaGreatDoorSXMM
import Derived.Test.YtkcnjajklnoahaaGreatDoorSXSaE
set_option linter.unusedVariables false
set_option linter.unusedSimpArgs false
namespace Go.Proofs.YtkcnjajklnoahaaGreatDoor
open Go Go.Abs
end Go.Proofs.YtkcnjajklnoahaaGreatDoor
namespace Go.Proofs.YtkcnjajklnoahaaGreatDoor
open Go Go.Abs
def wthB (of : Int) (sh : List Sp) (x fr to : Int) : Bool :=
 if Vg of sh = false \/ x < 0 \/ 10000000000 < x \/ fr < 0 \/ 86400 <= fr \/ to < 0 \/ 86400 <= to then false else
 if fr < to then decide (fr <= (x + offX of sh x) % 86400) && decide ((x + offX of sh x) % 86400 < to) else decide (fr <= (x + offX of sh x) % 86400) || decide ((x + offX of sh x) % 86400 < to)
end Go.Proofs.YtkcnjajklnoahaaGreatDoor
namespace Go.Proofs.YtkcnjajklnoahaaGreatDoor
open Go Go.Abs
def has6 (s r : Int) : Bool := if 0 <= r /\ r < 8 then decide ((s / 2 ^ r.toNat) % 2 = 1) else false
def cntK (c : Cl) (k item region : Int) : Bool := decide (c.ki = k) && (Xy c && (decide (c.it = item) && has6 c.re region))
end Go.Proofs.YtkcnjajklnoahaaGreatDoor
namespace Go.Proofs.YtkcnjajklnoahaaGreatDoor
open Go Go.Abs
def hasB (l : List Sp) (x : Int) : Bool := l.any fun s => decide (s.1 <= x) && decide (x < s.2)
end Go.Proofs.YtkcnjajklnoahaaGreatDoor
namespace Go.Proofs.YtkcnjajklnoahaaGreatDoor
open Go Go.Abs
def inRow (a : Int) : List AV := [I a]
def putS : List Int -> Int -> List Int
 | [], x => [x]
 | a :: r, x => if a < x then a :: putS r x else if a = x then a :: r else x :: a :: r
end Go.Proofs.YtkcnjajklnoahaaGreatDoor
namespace Go.Proofs.YtkcnjajklnoahaaGreatDoor
open Go Go.Abs
def cnt6 (item region : Int) (c : Cl) : Bool := cntK c 1 item region || cntK c 2 item region
def edS (C : List Cl) : List Int := C.foldl (fun e c => putS (putS e c.fr) c.to) []
def refL (C : List Cl) (Ed : List Int) : Nat -> List Sp
 | 0 => []
 | j + 1 => if grX C (Ed.getD j 0) = true then Qbh (refL C Ed j) (Ed.getD j 0) (Ed.getD (j + 1) 0) else refL C Ed j
def ref6 (cs : List Cl) (item region : Int) : List Sp := refL (cs.filter (cnt6 item region)) (edS (cs.filter (cnt6 item region))) ((edS (cs.filter (cnt6 item region))).length - 1)
def unIn : List AV -> Int
 | [.int _ a] => a
 | _ => 0
@[simp] theorem unIn_in (l : List Int) : (l.map inRow).map unIn = l := by
 induction l with
 | nil => rfl
 | cons a l ih => simp only [List.map_cons, ih]; rfl
@[simp] theorem unIn_in' (l : List Int) : l.map (unIn ∘ inRow) = l := by rw [<- List.map_map]; exact unIn_in l
end Go.Proofs.YtkcnjajklnoahaaGreatDoor
namespace Go.Proofs.YtkcnjajklnoahaaGreatDoor
open Go Go.Abs
def permB (p : Pl) (item region f : Int) : Bool := match Xf item p.its with
 | none => false
 | some it => if region < 0 \/ 8 <= region \/ f < 0 \/ 100000000 < f then false else if it.ki = 5 then true else if Vx p = false then false else
  hasB (ref6 p.cls item region) (p.ep + Zr p.nu p.de f) && (Jb p.cls it.ra).all fun w => wthB p.of p.sh (p.ep + Zr p.nu p.de f) w.1 w.2
end Go.Proofs.YtkcnjajklnoahaaGreatDoor
namespace Go.Proofs.YtkcnjajklnoahaaGreatDoor
open Go Go.Abs
end Go.Proofs.YtkcnjajklnoahaaGreatDoor
namespace Go.Proofs.YtkcnjajklnoahaaGreatDoor
open Go Go.Abs
theorem addA_VS {L : List Sp} {f t : Int} (h : VS L) (hb : ∀ s ∈ L, s.2 <= f) (hft : f < t) : VS (Qbh L f t) /\ ∀ s ∈ Qbh L f t, s.2 <= t := by
 unfold Qbh
 rw [if_pos hft]
 cases hl : L.getLast? with
 | none =>
  simp only
  exact ⟨VS_cons.2 ⟨hft, fun _ h => (by cases h), VS_nil⟩, fun s hs => by simp at hs; subst hs; exact Int.le_refl _⟩
 | some s =>
  obtain ⟨D, rfl⟩ : ∃ D, L = D ++ [s] := by
   have hne : L ≠ [] := by rintro rfl; simp at hl
   refine ⟨L.dropLast, ?_⟩
   have h1 := List.dropLast_concat_getLast hne
   rw [List.getLast?_eq_some_getLast hne] at hl
   cases hl
   exact h1.symm
  obtain ⟨h1, h2, h3⟩ := VS_snoc.1 h
  have hs := hb s (by simp)
  simp only
  split
  ·rename_i e
   simp only [List.dropLast_concat]
   refine ⟨VS_snoc.2 ⟨h1, by simp only; omega, fun u hu => h3 u hu⟩, ?_⟩
   intro u hu
   rw [List.mem_append] at hu
   rcases hu with hu | hu
   ·have := hb u (by simp [hu]); omega
   ·simp at hu; subst hu; exact Int.le_refl _
  ·rename_i e
   refine ⟨VS_snoc.2 ⟨h, hft, fun u hu => ?_⟩, ?_⟩
   ·rw [List.mem_append] at hu
    rcases hu with hu | hu
    ·have := h3 u hu; simp only; omega
    ·simp at hu; subst hu; simp only; omega
   ·intro u hu
    rw [List.mem_append] at hu
    rcases hu with hu | hu
    ·have := hb u hu; omega
    ·simp at hu; subst hu; exact Int.le_refl _
theorem perm_const {p : Pl} {item region f x : Int} (hf : 0 <= f /\ f <= 100000000) (hx : 0 <= x /\ x <= 100000000) (h : Vx p = true -> Zr p.nu p.de x = Zr p.nu p.de f) : permB p item region x = permB p item region f := by
 unfold permB
 cases Xf item p.its with
 | none => rfl
 | some it =>
  simp only
  by_cases hr : region < 0 \/ 8 <= region
  ·have c1 : region < 0 \/ 8 <= region \/ x < 0 \/ 100000000 < x := by omega
   have c2 : region < 0 \/ 8 <= region \/ f < 0 \/ 100000000 < f := by omega
   rw [if_pos c1, if_pos c2]
  ·have c1 : ¬ (region < 0 \/ 8 <= region \/ x < 0 \/ 100000000 < x) := by omega
   have c2 : ¬ (region < 0 \/ 8 <= region \/ f < 0 \/ 100000000 < f) := by omega
   rw [if_neg c1, if_neg c2]
   cases ht : Vx p with
   | false => simp
   | true => rw [h ht]
def endF (p : Pl) (last f : Int) : Int := if Vx p = true then min last (Kj p.nu p.de (Zr p.nu p.de f + 1)) else last
theorem endF_ok {p : Pl} {last f : Int} (hl : last <= 100000001) (h0 : 0 <= f) (hf : f < last) : f < endF p last f /\ endF p last f <= last /\ ∀ item region x, f <= x -> x < endF p last f -> permB p item region x = permB p item region f := by
 unfold endF
 cases ht : Vx p with
 | false =>
  simp only [Bool.false_eq_true, if_false]
  exact ⟨hf, Int.le_refl _, fun item region x h1 h2 => perm_const ⟨h0, by omega⟩ ⟨by omega, by omega⟩ (fun h => by rw [ht] at h; cases h)⟩
 | true =>
  have hv : Zd p.nu p.de = true := by
   simp only [Vx, Bool.and_eq_true] at ht; exact ht.1.1
  simp only [if_true]
  have hs := secR_bd p.nu p.de f
  have hs0 := Kk (f := 0) (g := f) hv (by omega) h0 (by omega)
  have hz : Zr p.nu p.de 0 = 0 := by rw [Zr, if_pos ⟨hv, by omega, by omega⟩]; simp
  have a1 := frm_le (s := Zr p.nu p.de f + 1) (f := f) hv (by omega) ⟨h0, by omega⟩
  refine ⟨by omega, by omega, fun item region x h1 h2 => perm_const ⟨h0, by omega⟩ ⟨by omega, by omega⟩ fun _ => ?_⟩
  have a2 := frm_le (s := Zr p.nu p.de f + 1) (f := x) hv (by omega) ⟨by omega, by omega⟩
  have a3 := Kk (f := f) (g := x) hv h0 h1 (by omega)
  omega
def UpTo (p : Pl) (item region first f : Int) (L : List Sp) : Prop := VS L /\ (∀ s ∈ L, s.2 <= f) /\ (∀ x, Xl L x <-> first <= x /\ x < f /\ permB p item region x = true) /\ (L.length : Int) <= f - first
theorem UpTo.step {p : Pl} {item region first last f : Int} {L : List Sp} (h : UpTo p item region first f L) (hl : last <= 100000001) (h0 : 0 <= first) (h1 : first <= f) (hf : f < last) :
  UpTo p item region first (endF p last f) (if permB p item region f = true then Qbh L f (endF p last f) else L) := by
 obtain ⟨e1, e2, e3⟩ := endF_ok (p := p) hl (by omega) hf
 obtain ⟨v1, v2, v3, v4⟩ := h
 split
 ·rename_i hp
  obtain ⟨a1, a2⟩ := addA_VS v1 v2 e1
  have a3 := (addA_ok (f := f) (t := endF p last f) (show NE L from v1.1)).2
  have a4 := addA_len L f (endF p last f)
  refine ⟨a1, a2, fun x => ?_, by omega⟩
  rw [a3, v3]
  constructor
  ·rintro (⟨g1, g2, g3⟩ | ⟨g1, g2⟩)
   ·exact ⟨g1, by omega, g3⟩
   ·exact ⟨by omega, g2, by rw [e3 item region x g1 g2]; exact hp⟩
  ·rintro ⟨g1, g2, g3⟩
   by_cases g : x < f
   ·exact .inl ⟨g1, g, g3⟩
   ·exact .inr ⟨by omega, g2⟩
 ·rename_i hp
  refine ⟨v1, fun s hs => by have := v2 s hs; omega, fun x => ?_, by omega⟩
  rw [v3]
  constructor
  ·rintro ⟨g1, g2, g3⟩; exact ⟨g1, by omega, g3⟩
  ·rintro ⟨g1, g2, g3⟩
   by_cases g : x < f
   ·exact ⟨g1, g, g3⟩
   ·rw [e3 item region x (by omega) g2] at g3; exact absurd g3 hp
end Go.Proofs.YtkcnjajklnoahaaGreatDoor
namespace Go.Proofs.YtkcnjajklnoahaaGreatDoor
open Go Go.Abs
def Jv (p : Pl) (c : Cl) : Pl := { p with cls := p.cls ++ [c] }
theorem gapC_app (a b : Int) (c : Cl) (hc : hitG a b c = false) : ∀ (l : List Cl) (g : Int), Qah a b (l ++ [c]) g = Qah a b l g
 | [], g => by rw [List.nil_append, Kl, hc]; rfl
 | d :: l, g => by rw [List.cons_append, Kl, gapC_app a b c hc l, Kl]
theorem gapS_with (p : Pl) (c : Cl) (h : c.ki = 1) (a b : Int) : Zt (Jv p c) a b = Zt p a b := by
 have hh : ∀ x y, hitG x y c = false := fun x y => by simp [hitG, h]
 simp only [Zt, Jv]
 cases Xf a p.its with
 | none => rfl
 | some x =>
  cases Xf b p.its with
  | none => rfl
  | some y => simp only [gapC_app _ _ c (hh x.sp y.sp)]
theorem rivL_with (p : Pl) (c : Cl) (h : c.ki = 1) (it : Int) : Vl (Jv p c) it = Vl p it := by
 have hg := fun a => gapS_with p c h a it
 have hs : Vb (Jv p c) = Vb p := rfl
 unfold Vl
 rw [hs]
 show (match Xf it p.its with | none => [] | some y => _) = _
 cases Xf it p.its with
 | none => rfl
 | some y =>
  simp only [hg]
theorem runsS_with (p : Pl) (c : Cl) (h : c.ki = 1) (it : Int) : Va (Jv p c) it = Va p it := by
 have hh : hitC 3 it 0 c = false := by simp [hitC, h]
 simp only [Va, Jv, lastC_app, hh]
 rfl
theorem perm_with (p : Pl) (c : Cl) (h : c.ki = 1) (it x : Int) (hx : Wh p it 0 x) : Wh (Jv p c) it 0 x := by
 obtain ⟨y, h1, h2, h3, h4⟩ := hx
 refine ⟨y, h1, h2, h3, ?_⟩
 rcases h4 with h4 | ⟨t1, t2, t3⟩
 ·exact .inl h4
 ·have hw : Jb (Jv p c).cls y.ra = Jb p.cls y.ra := by
   simp only [Jb, Jv, List.filter_append]
   have : wshB y.ra c = false := by simp [wshB, h]
   simp [this]
  refine .inr ⟨t1, ?_, fun w hw' => t3 w (by rw [<- hw]; exact hw')⟩
  have hc : Ur (Jv p c).cls y.id 0 = Ur p.cls y.id 0 ++ [c].filter (cntB y.id 0) := by simp only [Ur, Jv, List.filter_append]
  rw [hc]
  cases hb : cntB y.id 0 c with
  | false => simpa [hb, Jv] using t2
  | true =>
   simp only [List.filter_cons, hb, if_true, List.filter_nil]
   unfold grX at t2 |-
   rw [List.reverse_append, List.reverse_singleton, List.singleton_append, List.find?_cons]
   have e : (Jv p c).ep + Zr (Jv p c).nu (Jv p c).de x = p.ep + Zr p.nu p.de x := rfl
   rw [e]
   cases hcv : covB (p.ep + Zr p.nu p.de x) c with
   | true => simp [h]
   | false => exact t2
theorem More.with (p : Pl) (c : Cl) (h : c.ki = 1) : More (Jv p c) p := ⟨rfl, rfl, rfl, runsS_with p c h, rivL_with p c h, perm_with p c h⟩
end Go.Proofs.YtkcnjajklnoahaaGreatDoor
namespace Go.Proofs.YtkcnjajklnoahaaGreatDoor
open Go Go.Abs
def g0 (ok : List Int -> Bool) (rd : Int -> Nat) : List Int -> List Int -> List Bool
 | [], _ => []
 | id :: r, acc => if rd id = 0 then ok (acc ++ [id]) :: g0 ok rd r (if ok (acc ++ [id]) = true then acc ++ [id] else acc) else false :: g0 ok rd r acc
theorem g0_len (ok : List Int -> Bool) (rd : Int -> Nat) : ∀ (l acc : List Int), (g0 ok rd l acc).length = l.length
 | [], _ => rfl
 | id :: r, acc => by rw [g0]; split <;> simp [g0_len ok rd r]
theorem selB_app (w : Bool) : ∀ (a : List Int) (K : List Bool) (b : List Int) (L : List Bool), a.length = K.length -> Qt w (a ++ b) (K ++ L) = Qt w a K ++ Qt w b L
 | [], [], _, _, _ => rfl
 | [], _ :: _, _, _, h => by simp at h
 | _ :: _, [], _, _, h => by simp at h
 | x :: a, k :: K, b, L, h => by
  simp only [List.cons_append, Qt]
  rw [selB_app w a K b L (by simpa using h)]
  split <;> simp
theorem round_g0 (ok : List Int -> Bool) (rd : Int -> Nat) : ∀ (b a : List Int) (K : List Bool), a.length = K.length -> ((List.range' a.length b.length).foldl (Ub ok rd (a ++ b) 0) (K ++ List.replicate b.length false)) = K ++ g0 ok rd b (Qt true a K)
 | [], a, K, h => by simp [g0]
 | id :: b, a, K, h => by
  rw [List.length_cons, List.range'_succ, List.foldl_cons]
  have hid : (a ++ id :: b)[a.length]? = some id := by simp
  have hK : a.length < (K ++ List.replicate (b.length + 1) false).length := by simp; omega
  have hset : ∀ x, (K ++ List.replicate (b.length + 1) false).set a.length x = (K ++ [x]) ++ List.replicate b.length false := fun x => by
   rw [List.set_append_right _ _ (by omega), h, Nat.sub_self, List.replicate_succ]; simp
  have hab : a ++ id :: b = (a ++ [id]) ++ b := by simp
  have hsel : Qt true (a ++ id :: b) ((K ++ [true]) ++ List.replicate b.length false) = Qt true a K ++ [id] := by
   rw [hab, selB_app true (a ++ [id]) (K ++ [true]) b _ (by simp [h]), selB_app true a K [id] [true] h, selB_false]
   simp [Qt]
  have hlen : ∀ x : Bool, (a ++ [id]).length = (K ++ [x]).length := fun x => by simp [h]
  have hl1 : a.length + 1 = (a ++ [id]).length := by simp
  unfold Ub
  rw [hid]
  simp only
  by_cases hr : rd id = 0
  ·rw [if_pos hr, hset true, hsel, hset, g0, if_pos hr]
   have ih := round_g0 ok rd b (a ++ [id]) (K ++ [ok (Qt true a K ++ [id])]) (hlen _)
   rw [<- hab, <- hl1] at ih
   rw [show (List.foldl (fun K i => Ub ok rd (a ++ id :: b) 0 K i)) = List.foldl (Ub ok rd (a ++ id :: b) 0) from rfl] at *
   refine ih.trans ?_
   rw [selB_app true a K [id] _ h]
   cases hb : ok (Qt true a K ++ [id]) <;> simp [Qt]
  ·rw [if_neg hr, g0, if_neg hr]
   have ih := round_g0 ok rd b (a ++ [id]) (K ++ [false]) (hlen _)
   rw [<- hab, <- hl1] at ih
   have e : K ++ List.replicate (b.length + 1) false = (K ++ [false]) ++ List.replicate b.length false := by rw [List.replicate_succ]; simp
   rw [e]
   refine ih.trans ?_
   rw [selB_app true a K [id] _ h]
   simp [Qt]
theorem round0_g0 (ok : List Int -> Bool) (rd : Int -> Nat) (ids : List Int) : Ye ok rd ids 0 (List.replicate ids.length false) = g0 ok rd ids [] := by
 have := round_g0 ok rd ids [] [] rfl
 simp only [List.length_nil, List.nil_append, Qt] at this
 rw [Ye, List.range_eq_range']
 exact this
theorem g0_filter (ok : List Int -> Bool) (rd : Int -> Nat) : ∀ (ids acc : List Int), (Qt false ids (g0 ok rd ids acc)).filter (fun id => decide (rd id = 0)) = Qt false (ids.filter fun id => decide (rd id = 0)) (g0 ok rd (ids.filter fun id => decide (rd id = 0)) acc)
 | [], acc => rfl
 | id :: r, acc => by
  by_cases h : rd id = 0
  ·rw [List.filter_cons_of_pos (by simp [h]), g0, g0, if_pos h, if_pos h]
   cases hb : ok (acc ++ [id]) with
   | true => simpa [Qt] using g0_filter ok rd r (acc ++ [id])
   | false =>
    simp only [Qt, Bool.false_eq_true, if_false, beq_self_eq_true, if_true]
    rw [List.filter_cons_of_pos (by simp [h]), g0_filter ok rd r acc]
  ·rw [List.filter_cons_of_neg (by simp [h]), g0, if_neg h]
   simp only [Qt, beq_self_eq_true, if_true]
   rw [List.filter_cons_of_neg (by simp [h]), g0_filter ok rd r acc]
def Same0 (rd : Int -> Nat) (ids : List Int) (K K' : List Bool) : Prop := ∀ (j : Nat) (id : Int), ids[j]? = some id -> rd id = 0 -> K.getD j false = K'.getD j false
theorem same0_sel (rd : Int -> Nat) : ∀ (ids : List Int) (K K' : List Bool), K.length = ids.length -> K'.length = ids.length -> Same0 rd ids K K' -> (Qt false ids K).filter (fun id => decide (rd id = 0)) = (Qt false ids K').filter (fun id => decide (rd id = 0))
 | [], K, K', _, _, _ => by simp [Qt]
 | id :: r, [], _, h, _, _ => by simp at h
 | id :: r, _ :: _, [], _, h, _ => by simp at h
 | id :: r, k :: K, k' :: K', h1, h2, h => by
  have ih := same0_sel rd r K K' (by simpa using h1) (by simpa using h2) fun j x hj hx => by simpa using h (j + 1) x (by simpa using hj) hx
  by_cases hr : rd id = 0
  ·have h0 := h 0 id rfl hr
   simp at h0
   subst h0
   simp only [Qt]
   split
   ·rw [List.filter_cons_of_pos (by simp [hr]), List.filter_cons_of_pos (by simp [hr]), ih]
   ·exact ih
  ·simp only [Qt]
   have e : ∀ (b : Bool) (l : List Int), (if (b == false) = true then id :: l else l).filter (fun id => decide (rd id = 0)) = l.filter fun id => decide (rd id = 0) := fun b l => by
    split
    ·rw [List.filter_cons_of_neg (by simp [hr])]
    ·rfl
   rw [e, e, ih]
theorem round_same0 (ok : List Int -> Bool) (rd : Int -> Nat) (ids : List Int) (r : Nat) (hr : r ≠ 0) (K : List Bool) : Same0 rd ids (Ye ok rd ids r K) K /\ (Ye ok rd ids r K).length = K.length := by
 have key : ∀ (L : List Nat) (K : List Bool), Same0 rd ids (L.foldl (Ub ok rd ids r) K) K /\ (L.foldl (Ub ok rd ids r) K).length = K.length := by
  intro L
  induction L with
  | nil => intro K; exact ⟨fun _ _ _ _ => rfl, rfl⟩
  | cons i L ih =>
   intro K
   obtain ⟨h1, h2⟩ := ih (Ub ok rd ids r K i)
   refine ⟨fun j id hj hid => ?_, by rw [List.foldl_cons, h2, stepK_len]⟩
   rw [List.foldl_cons, h1 j id hj hid]
   unfold Ub
   cases hi : ids[i]? with
   | none => rfl
   | some x =>
    simp only
    split
    ·rename_i hx
     rw [getD_set, if_neg (by rintro ⟨e, _⟩; subst e; rw [hi] at hj; cases hj; omega)]
    ·rfl
 exact key _ K
theorem booked (ok : List Int -> Bool) (rd : Int -> Nat) (ids : List Int) : (Qt false ids (Yv ok rd ids)).filter (fun id => decide (rd id = 0)) = Qt false (ids.filter fun id => decide (rd id = 0)) (Yv ok rd (ids.filter fun id => decide (rd id = 0))) := by
 obtain ⟨S, hS⟩ : ∃ S, (ids.filter fun id => decide (rd id = 0)) = S := ⟨_, rfl⟩
 have hall : ∀ (L : List Int), Yv ok rd L = Ye ok rd L 2 (Ye ok rd L 1 (g0 ok rd L [])) := fun L => by rw [Yv, round0_g0]
 have two : ∀ (L : List Int), (Qt false L (Yv ok rd L)).filter (fun id => decide (rd id = 0)) = (Qt false L (g0 ok rd L [])).filter (fun id => decide (rd id = 0)) := fun L => by
  rw [hall]
  obtain ⟨a1, a2⟩ := round_same0 ok rd L 1 (by omega) (g0 ok rd L [])
  obtain ⟨b1, b2⟩ := round_same0 ok rd L 2 (by omega) (Ye ok rd L 1 (g0 ok rd L []))
  have hg := g0_len ok rd L []
  refine same0_sel rd L _ _ (by omega) hg fun j id hj hid => ?_
  rw [b1 j id hj hid, a1 j id hj hid]
 rw [two ids, g0_filter, hS]
 have hSf : ∀ id ∈ S, rd id = 0 := fun id h => by
  rw [<- hS] at h
  simpa using (List.mem_filter.1 h).2
 have hin : ∀ (L : List Int) (K : List Bool), ∀ x ∈ Qt false L K, x ∈ L := by
  intro L
  induction L with
  | nil => intro K x hx; simp [Qt] at hx
  | cons y L ih =>
   intro K x hx
   cases K with
   | nil => simp [Qt] at hx
   | cons k K =>
    simp only [Qt] at hx
    split at hx
    ·rcases List.mem_cons.1 hx with rfl | hx
     ·simp
     ·exact List.mem_cons_of_mem _ (ih K x hx)
    ·exact List.mem_cons_of_mem _ (ih K x hx)
 have hid : ∀ K : List Bool, (Qt false S K).filter (fun id => decide (rd id = 0)) = Qt false S K := fun K => List.filter_eq_self.2 fun x hx => by simp [hSf x (hin S K x hx)]
 have := two S
 rw [hid, hid] at this
 exact this.symm
end Go.Proofs.YtkcnjajklnoahaaGreatDoor
namespace Go.Proofs.YtkcnjajklnoahaaGreatDoor
open Go Go.Abs
section
variable (P : Int -> Prop) (fr low : Int)
def OkA (t : Int) : Prop := ∀ x, t <= x -> x < t + fr -> P x
structure RfI (c run last : Int) : Prop where
 no : ∀ t, low <= t -> t + fr <= c -> ¬ OkA P fr t
 st : (run = -1 /\ last = -1 /\ ∀ x, low <= x -> x < c -> ¬ P x) \/ (low <= run /\ run < last /\ last <= c /\ (∀ x, run <= x -> x < last -> P x) /\ (run = low \/ ¬ P (run - 1)) /\ ∀ x, last <= x -> x < c -> ¬ P x)
end
end Go.Proofs.YtkcnjajklnoahaaGreatDoor
namespace Go.Proofs.YtkcnjajklnoahaaGreatDoor
open Go Go.Abs
theorem startS_max (p : Pl) (e : En) (f : Int) : Xt p e f = Xt p e (max f 0) := by
 rw [Xt, Xt]
 have : max (max f 0) 0 = max f 0 := by omega
 rw [this]
end Go.Proofs.YtkcnjajklnoahaaGreatDoor
