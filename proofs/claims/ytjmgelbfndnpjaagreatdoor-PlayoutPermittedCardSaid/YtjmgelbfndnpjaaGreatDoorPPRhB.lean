import Derived.Test.YtjmgelbfndnpjaaGreatDoorPPMN
set_option linter.unusedVariables false
set_option linter.unusedSimpArgs false
set_option maxRecDepth 100000
namespace Go.Proofs.YtjmgelbfndnpjaaGreatDoor
open Go Go.Abs
def Uf (f:Int) (e:Ev2):Bool:=decide (e.st<=f/\f < e.st+e.fr)
def Zw (e:Ev2):Prop:=(0<=e.st/\e.st<=1000000)/\(0<=e.fr/\e.fr<=1000000)/\(0<=e.i/\e.i<=1000000)/\e.al.length<=8796093022208
theorem at1b_pure (e:Ev2) (f:Int) (h:Zw e) (hf:SmallF f):Pure Tryz.prog gl0 65 [.agg (Qj e),.ep [I f] 0] (.bool (Uf f e)):=by
 refine Qn code65 (fun _ _ _=>.junk) (by simp) ?_
 obtain ⟨⟨a1,a2⟩,⟨a3,a4⟩,_⟩:=h
 obtain ⟨a5,a6⟩:=hf
 by_cases h1:e.st<=f
 ·have w1:=wu e.st (by omega) (by omega)
  have w2:=wu f (by omega) (by omega)
  have w3:=wu (f - e.st) (by omega) (by omega)
  have w4:=wu e.fr (by omega) (by omega)
  by_cases h2:0 < e.fr
  ·have:(f - e.st < e.fr)=(f < e.st+e.fr):=by apply propext;omega
   simp [sc65,rs65,Qj,h1,h2,Uf,w1,w2,w3,w4,this]
  ·have:¬ f < e.st+e.fr:=by omega
   simp [sc65,rs65,Qj,h1,h2,Uf,this]
 ·simp [sc65,rs65,Qj,h1,Uf]
def srch2 (f:Int):List Ev2->Nat->Int
 | [],_ => -1
 | e::r,i=>if Uf f e=true then i else srch2 f r (i+1)
def fnd2 (f:Int):List Ev2->Option Ev2
 | []=>none
 | e::r=>if Uf f e=true then some e else fnd2 f r
theorem srch2_none {f:Int}:∀ {L:List Ev2} {i:Nat},fnd2 f L=none->srch2 f L i = -1
 | [],_,_=>rfl
 | a::r,i,h=>by
  simp only [fnd2] at h
  split at h
  ·cases h
  ·rename_i hn;simp only [srch2,if_neg hn];exact srch2_none h
theorem srch2_some {f:Int} {a:Ev2}:∀ {L:List Ev2} {i:Nat},fnd2 f L=some a->∃ k:Nat,srch2 f L i=((i+k:Nat):Int)/\L[k]? = some a/\Uf f a=true
 | [],_,h=>by cases h
 | b::r,i,h=>by
  simp only [fnd2] at h
  split at h
  ·rename_i hb;cases h;exact ⟨0,by simp [srch2,hb],rfl,hb⟩
  ·rename_i hn
   obtain ⟨k,h1,h2,h3⟩:=srch2_some (i:=i+1) h
   exact ⟨k+1,by simp only [srch2,if_neg hn,h1];omega,by simpa using h2,h3⟩
def orcOn2 (f:Int):Nat->FuncId->List AV->AV:=fun _ _ l=>match l with
 | [.agg [_,_,.int _ st,.int _ fr,_,_,_],_]=>.bool (decide (st<=f/\f < st+fr))
 | _=>.junk
theorem index2_pure (L:List Ev2) (f:Int) (hL:L.length<=1000000000) (hs:∀ e∈L,Zw e) (hf:SmallF f):Pure Tryz.prog gl0 66 [.sl .ro (L.map Qj),.fn 65 [] [.ep [I f] 0]] (I (srch2 f L 0)):=by
 refine Qn code66 (orcOn2 f) (by simp) ?_
 simp [sc66,rs66]
 refine Ql w66_0 (fun s m=>∃ i:Nat,s 8=I i/\i<=L.length/\srch2 f (L.drop i) i=srch2 f L 0/\m=⟨[],[],fun _=>.gone,0⟩) (fun s m=>L.length - (numOf (s 8)).toNat) ?_ ?_
 ·exact ⟨0,by simp,by omega,by simp,rfl⟩
 ·rintro s m ⟨i,hi,hle,hr,rfl⟩
  rcases Nat.lt_or_ge i L.length with hlt | hge
  ·obtain ⟨a,ha⟩:∃ a,L[i]? = some a:=⟨L[i],List.getElem?_eq_getElem hlt⟩
   have hrow:Qf (L.map Qj) i=Qj a:=Qv (by simp [ha])
   have hw:=wrS i (by omega)
   rw [Qz ha] at hr
   have hp:Pure Tryz.prog gl0 65 [.agg (Qj a),.ep [I f] 0] (.bool (Uf f a)):=at1b_pure a f (hs a (List.mem_of_getElem? ha)) hf
   have ho:decide (a.st<=f/\f < a.st+a.fr)=Uf f a:=rfl
   by_cases h:Uf f a=true
   ·simp [srch2,h] at hr
    rw [h] at hp ho
    simp at ho
    simp [hi,hrow,hlt,Qj,orcOn2,w66_0,ho]
    exact ⟨hp,hr⟩
   ·simp at h
    simp [srch2,h] at hr
    rw [h] at hp ho
    have ho':decide (a.st<=f)=false\/decide (f < a.st+a.fr)=false:=by
     by_cases q:a.st<=f
     ·right;simp at ho |-;omega
     ·left;simp [q]
    simp only [decide_eq_false_iff_not] at ho
    simp [hi,hrow,hlt,Qj,orcOn2,w66_0,ho,hw]
    refine ⟨hp,ag ?_,⟨i+1,by simp,by omega,hr⟩,by omega⟩
    repeat (first | exact Qa _ _ | refine Qb _ rfl ?_)
  ·rw [List.drop_eq_nil_of_le hge] at hr
   simp [hi,Nat.not_lt.2 hge,w66_0]
   exact hr
def Ur (f:Int):Option Ev2->AV
 | none=>zeroE
 | some e=>.tup [.agg (Qj e),I (e.i+f - e.st),.bool true]
theorem at2_pure (L:List Ev2) (f:Int) (hL:L.length<=1000000000) (hs:∀ e∈L,Zw e) (hf:SmallF f):Pure Tryz.prog gl0 26 [.sl .ro (L.map Qj),I f] (Ur f (fnd2 f L)):=by
 have hix:=index2_pure L f hL hs hf
 refine Qn code26 (fun _ g l=>if g=66 then I (srch2 f L 0) else l.headD .junk) (by simp) ?_
 cases hfn:fnd2 f L with
 | none =>
  rw [srch2_none hfn] at hix |-
  simp [sc26,rs26,Ur,zeroE]
  exact hix
 | some a =>
  obtain ⟨k,h1,h2,h3⟩:=srch2_some (i:=0) hfn
  rw [h1] at hix |-
  have hlt:k < L.length:=(List.getElem?_eq_some_iff.1 h2).1
  have hrow:Qf (L.map Qj) k=Qj a:=Qv (by simp [h2])
  obtain ⟨⟨a1,a2⟩,⟨a3,a4⟩,⟨a7,a8⟩,a9⟩:=hs a (List.mem_of_getElem? h2)
  obtain ⟨a5,a6⟩:=hf
  have w1:IntKind.i64.wrap (a.i+f)=a.i+f:=by rw [Qe]<;>omega
  have w2:IntKind.i64.wrap (a.i+f - a.st)=a.i+f - a.st:=by rw [Qe]<;>omega
  rw [Nat.zero_add] at hix
  have hcn:=cloneS_pure a.al a9
  simp [sc26,rs26,Ur,hlt,hrow,Qj,w1,w2]
  refine ⟨hix,hcn,Jb [(.junk,⟨[[I f],[I a.id,I a.it,I a.st,I a.fr,I a.i,I a.re,.sl .ro (a.al.map Qd)],[I a.id,I a.it,I a.st,I a.fr,I a.i,I a.re,.sl .ro (a.al.map Qd)]],[],fun _=>.gone,0⟩)] ?_⟩
  simp [w1,w2]
open Go Go.Abs
def altOK (p:Pl) (e:Ev2):Int->List Sp->Bool
 | _,[]=>true
 | last,a::r=>match Xe a.2 p.its with
  | none=>false
  | some y=>if a.1<=last\/p.rg<=a.1\/y.fr < IntKind.i64.wrap (e.i+e.fr) then false else if Xo p a.2 a.1 e.st e.fr=false then false else altOK p e a.1 r
def alwM (p:Pl) (e:Ev2):Int:=Ug (fun i=>Xo p e.it i e.st e.fr) (min p.rg 8).toNat
def and1X (a:Int):Int:=IntKind.i64.wrap (((a % 2 ^ IntKind.i64.bits).toNat &&& ((1:Int) % 2 ^ IntKind.i64.bits).toNat:Nat):Int)
def andN (a b:Int):Int:=IntKind.i64.wrap (((a % 2 ^ IntKind.i64.bits).toNat &&& (2 ^ IntKind.i64.bits - 1 - (b % 2 ^ IntKind.i64.bits).toNat):Nat):Int)
def Wl (p:Pl) (e:Ev2):Bool:=match Xe e.it p.its with
 | none=>false
 | some x=>if e.fr < 1\/e.i < 0\/x.fr < e.fr\/IntKind.i64.wrap (x.fr - e.fr) < e.i then false else
  if and1X e.re=0\/andN e.re (alwM p e)≠0 then false else altOK p e 0 e.al&&(decide (e.id≠0)||(decide (e.it=p.fi)&&decide (e.al=[])))
def Uc (p:Pl):Int->List Ev2->Bool
 | end_,[]=>decide (end_=p.ln)
 | end_,e::r=>if e.st≠end_\/Wl p e=false then false else Uc p (IntKind.i64.wrap (end_+e.fr)) r
def validB (p:Pl) (l:List Ev2):Bool:=match l with
 | []=>false
 | e::_=>if e.st < 0 then false else Uc p e.st l
end Go.Proofs.YtjmgelbfndnpjaaGreatDoor
