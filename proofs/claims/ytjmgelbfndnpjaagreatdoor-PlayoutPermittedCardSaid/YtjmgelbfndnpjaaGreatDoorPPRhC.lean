import Derived.Test.YtjmgelbfndnpjaaGreatDoorPPRhB
import Derived.Test.YtjmgelbfndnpjaaGreatDoorPPRgA
import Derived.Test.YtjmgelbfndnpjaaGreatDoorPPSeB
set_option linter.unusedVariables false
set_option linter.unusedSimpArgs false
namespace Go.Proofs.YtjmgelbfndnpjaaGreatDoor
open Go Go.Abs
theorem par_add (x r n:Nat) (h:r < n):((x+2 ^ n) / 2 ^ r) % 2=(x / 2 ^ r) % 2:=by
 obtain ⟨k,rfl⟩:∃ k,n=r+(k+1):=⟨n - r - 1,by omega⟩
 have e:2 ^ (r+(k+1))=2 ^ r*(2*2 ^ k):=by rw [Nat.pow_add,Nat.pow_succ,Nat.mul_comm (2 ^ k) 2]
 rw [e,Nat.add_mul_div_left _ _ (Nat.two_pow_pos r),Nat.add_mul_mod_self_left]
def mskN (b:Nat->Bool):Nat->Nat
 | 0=>0
 | n+1=>mskN b n+if b n then 2 ^ n else 0
theorem mskN_lt (b:Nat->Bool):∀ n,mskN b n < 2 ^ n
 | 0=>by simp [mskN]
 | n+1=>by
  have:=mskN_lt b n
  rw [mskN,Nat.pow_succ]
  split<;>omega
theorem mskS_N (b:Nat->Bool):∀ n,Ug b n=(mskN b n:Int)
 | 0=>rfl
 | n+1=>by
  rw [Ug,mskN,mskS_N b n]
  split
  ·push_cast;rfl
  ·simp
theorem mskN_bit (b:Nat->Bool) (r:Nat):∀ n,(mskN b n).testBit r=(decide (r < n)&&b r)
 | 0=>by simp [mskN]
 | n+1=>by
  have ih:=mskN_bit b r n
  have hlt:=mskN_lt b n
  rw [mskN]
  by_cases hb:b n=true
  ·rw [if_pos hb]
   rcases Nat.lt_trichotomy r n with h | h | h
   ·rw [Nat.testBit_eq_decide_div_mod_eq,par_add _ _ _ h,<- Nat.testBit_eq_decide_div_mod_eq,ih]
    simp [h,Nat.lt_succ_of_lt h]
   ·subst h
    have:(mskN b r+2 ^ r) / 2 ^ r=1:=by
     rw [Nat.add_div_right _ (Nat.two_pow_pos r),Nat.div_eq_of_lt hlt]
    rw [Nat.testBit_eq_decide_div_mod_eq,this]
    simp [hb]
   ·have:mskN b n+2 ^ n < 2 ^ r:=by
     have:2 ^ (n+1)<=2 ^ r:=Nat.pow_le_pow_right (by omega) h
     rw [Nat.pow_succ] at this;omega
    rw [Nat.testBit_lt_two_pow this]
    simp;intro h2;omega
  ·rw [if_neg hb,Nat.add_zero,ih]
   by_cases h:r=n
   ·subst h;simp [hb]
   ·have:decide (r < n)=decide (r < n+1):=decide_eq_decide.2 (by omega)
    rw [this]
def bitI (x:Int) (r:Nat):Bool:=x.toNat.testBit r
theorem mskS_bit (b:Nat->Bool) (n r:Nat):bitI (Ug b n) r=(decide (r < n)&&b r):=by
 unfold bitI;rw [mskS_N,Int.toNat_natCast,mskN_bit]
theorem Qad (b:Nat->Bool) (n:Nat) (hn:n<=8):0<=Ug b n/\Ug b n < 256:=by
 have:=mskN_lt b n
 rw [mskS_N]
 have h2:2 ^ n<=2 ^ 8:=Nat.pow_le_pow_right (by omega) hn
 omega
theorem modb (x:Int) (h:0<=x/\x < 256):(x % 2 ^ IntKind.i64.bits).toNat=x.toNat:=by
 have:(2:Int) ^ IntKind.i64.bits=18446744073709551616:=by decide
 rw [this,Int.emod_eq_of_lt h.1 (by omega)]
theorem and1X_eq (x:Int) (h:0<=x/\x < 256):and1X x=x % 2:=by
 unfold and1X
 rw [modb x h,modb 1 (by omega)]
 have:x.toNat &&& (1:Int).toNat=x.toNat % 2:=Nat.and_one_is_mod _
 rw [this,Qe]<;>omega
theorem andN_zero {x y:Int} (hx:0<=x/\x < 256) (hy:0<=y/\y < 256) (h:andN x y=0) (r:Nat) (hr:bitI x r=true):bitI y r=true:=by
 unfold andN at h
 rw [modb x hx,modb y hy] at h
 have e:(2:Nat) ^ IntKind.i64.bits - 1 - y.toNat=2 ^ 64 - (y.toNat+1):=by
  have:IntKind.i64.bits=64:=rfl
  rw [this];omega
 rw [e] at h
 have hle:x.toNat &&& (2 ^ 64 - (y.toNat+1))<=x.toNat:=Nat.and_le_left
 rw [Qe (by omega) (by omega)] at h
 have h0:x.toNat &&& (2 ^ 64 - (y.toNat+1))=0:=by omega
 have h1:(x.toNat &&& (2 ^ 64 - (y.toNat+1))).testBit r=false:=by rw [h0];simp
 unfold bitI at hr |-
 rw [Nat.testBit_and,hr,Bool.true_and,Nat.testBit_two_pow_sub_succ (by omega)] at h1
 by_cases hr64:r < 64
 ·simpa [hr64] using h1
 ·have:x.toNat < 2 ^ r:=by
   have:2 ^ 64<=2 ^ r:=Nat.pow_le_pow_right (by omega) (by omega)
   omega
  rw [Nat.testBit_lt_two_pow this] at hr;cases hr
theorem gapOK_all {l0:List Sp} {ln:Int}:∀ {b:List Ev2} {pos:Int},gapOK l0 ln pos b->∀ e∈b,pos<=e.st/\1<=e.fr/\e.st+e.fr<=ln
 | [],_,_,e,h=>by cases h
 | a::r,pos,h,e,he=>by
  obtain ⟨h1,h2,_,h4⟩:=h
  rcases List.mem_cons.1 he with rfl | he
  ·have:=gapOK_le h4;omega
  ·have:=gapOK_all h4 e he;omega
def EvOK (e:Ev2):Prop:=e.i=0/\(0<=e.re/\e.re < 256)/\e.al.length<=8796093022208
theorem fill_ok (p:Pl) (x:Int×Int):EvOK (Xu p x):=⟨rfl,Qad _ _ (by omega),by simp [Xu]⟩
theorem evt_ok (p:Pl) (e:En) (fr:Int) (h:e.al.length<=8796093022208):EvOK (evtE p e fr):=⟨rfl,Qad _ _ (by omega),Nat.le_trans (List.length_filter_le _ _) h⟩
theorem bldL_ok (p:Pl) (hp:OKP p):∀ (l:List Sp) (a:Int),∀ e∈Uw p l a,EvOK e
 | [],a,e,h=>by
  rw [Uw,List.mem_map] at h
  obtain ⟨x,_,rfl⟩:=h
  exact fill_ok p x
 | s::r,a,e,h=>by
  rw [Uw] at h
  cases hs:skipB p s a with
  | none=>rw [hs] at h;exact bldL_ok p hp r a e h
  | some x =>
   rw [hs] at h
   simp only [List.append_assoc,List.mem_append,List.mem_map,List.mem_singleton] at h
   rcases h with ⟨y,_,rfl⟩ | rfl | h
   ·exact fill_ok p y
   ·exact evt_ok p x _ (hp x (fndN_mem (skipB_some hs).1).1)
   ·exact bldL_ok p hp r _ e h
theorem vchain_all {p:Pl}:∀ {l:List Ev2} {en:Int},Uc p en l=true->∀ e∈l,Wl p e=true
 | [],_,_,e,h=>by cases h
 | a::r,en,h,e,he=>by
  rw [Uc] at h
  split at h
  ·cases h
  ·rename_i hn
   simp only [not_or,Bool.not_eq_false] at hn
   rcases List.mem_cons.1 he with rfl | he
   ·exact hn.2
   ·exact vchain_all h e he
theorem validB_all {p:Pl} {l:List Ev2} (h:validB p l=true):l≠[]/\∀ e∈l,Wl p e=true:=by
 cases l with
 | nil=>cases h
 | cons a r =>
  simp only [validB] at h
  split at h
  ·cases h
  ·exact ⟨by simp,vchain_all h⟩
theorem altOK_all {p:Pl} {e:Ev2}:∀ {l:List Sp} {last:Int},altOK p e last l=true->∀ a∈l,Xo p a.2 a.1 e.st e.fr=true
 | [],_,_,a,h=>by cases h
 | x::r,last,h,a,ha=>by
  rw [altOK] at h
  cases hf:Xe x.2 p.its with
  | none=>rw [hf] at h;cases h
  | some y =>
   rw [hf] at h
   simp only at h
   split at h
   ·cases h
   ·split at h
    ·cases h
    ·rename_i h2
     simp only [Bool.not_eq_false] at h2
     rcases List.mem_cons.1 ha with rfl | ha
     ·exact h2
     ·exact altOK_all h a ha
theorem sound_all {p:Pl} {e:Ev2} (hs:Wl p e=true) (he:EvOK e):e.re % 2=1/\(∀ r,r < 8->bitI e.re r=true->Xo p e.it r e.st e.fr=true)/\∀ a∈e.al,Xo p a.2 a.1 e.st e.fr=true:=by
 unfold Wl at hs
 cases hf:Xe e.it p.its with
 | none=>rw [hf] at hs;cases hs
 | some x =>
  rw [hf] at hs
  simp only at hs
  split at hs
  ·cases hs
  ·split at hs
   ·cases hs
   ·rename_i hn
    simp only [not_or,ne_eq,Classical.not_not] at hn
    obtain ⟨h1,h2⟩:=hn
    rw [Bool.and_eq_true] at hs
    rw [and1X_eq _ he.2.1] at h1
    refine ⟨by have:=he.2.1;omega,fun r hr hb=>?_,altOK_all hs.1⟩
    have hm:0<=alwM p e/\alwM p e < 256:=Qad _ _ (by omega)
    have:=andN_zero he.2.1 hm h2 r hb
    unfold alwM at this
    rw [mskS_bit] at this
    simp only [Bool.and_eq_true] at this
    exact this.2
end Go.Proofs.YtjmgelbfndnpjaaGreatDoor
