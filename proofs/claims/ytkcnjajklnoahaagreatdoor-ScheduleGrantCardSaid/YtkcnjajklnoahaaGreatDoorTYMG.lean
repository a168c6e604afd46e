import Derived.Test.YtkcnjajklnoahaaGreatDoorTYME
set_option linter.unusedVariables false
set_option linter.unusedSimpArgs false
namespace Go.Abs
open Go Go.RowKit
def fillB (cs:List AV):List (Nat×Nat×AV)->Option (List AV)
 | []=>some cs
 | (off,size,a)::r=>bif bare a&&((cellsOf a).length==size)&&Nat.ble (off+size) cs.length then fillB (setA cs off (cellsOf a)) r else none
end Go.Abs
namespace Go.Abs
open Go Go.RowKit
inductive YE where
 | nil
 | cons (l:Nat) (T:List AV) (ps:List Nat) (asg body:SC) (rest:YE)
structure Rc where
 code:YE->SC->AS->Option (Exit×AS)
 fn:YE->FuncId->List AV->AM->Option (AV×AM)
section
variable (gl:Nat->AV) (orc:FuncId->List AV->AV) (R:Rc) (ye:YE)
end
section
variable (P:Program) (gl:Nat->AV) (orc:FuncId->List AV->AV) (R:Rc) (ye:YE)
abbrev Tab:=FuncId->Option (SC×List SOp×Nat)
end
section
variable {P:Program} {gl:Nat->AV} {orc:FuncId->List AV->AV}
def TabOK (P:Program) (tab:Tab):Prop:=∀ f sc rs n,tab f=some (sc,rs,n)->FCode P f sc rs n
open Classical in
def okFrom (P:Program):Nat->List (Option (SC×List SOp×Nat))->Prop
 | _,[]=>True
 | k,none::r=>okFrom P (k+1) r
 | k,some (sc,rs,n)::r=>FCode P k sc rs n/\okFrom P (k+1) r
theorem okFrom_get:∀ {l:List (Option (SC×List SOp×Nat))} {k i:Nat} {sc:SC} {rs:List SOp} {n:Nat},okFrom P k l->l.getD i none=some (sc,rs,n)->FCode P (k+i) sc rs n
 | [],_,i,_,_,_,_,h=>by simp at h
 | none::r,k,0,_,_,_,_,h=>by simp at h
 | some (sc',rs',n')::r,k,0,sc,rs,n,ho,h=>by simp at h;obtain ⟨rfl,rfl,rfl⟩:=h;exact ho.1
 | none::r,k,i+1,sc,rs,n,ho,h=>by
  have:=okFrom_get (k:=k+1) (i:=i) ho (by simpa using h)
  rwa [show k+(i+1)=k+1+i by omega]
 | some (sc',rs',n')::r,k,i+1,sc,rs,n,ho,h=>by
  have:=okFrom_get (k:=k+1) (i:=i) ho.2 (by simpa using h)
  rwa [show k+(i+1)=k+1+i by omega]
theorem tabOK_of {l:List (Option (SC×List SOp×Nat))} (h:okFrom P 0 l):TabOK P fun f=>l.getD f none:=fun f sc rs n hf=>by
 have:=okFrom_get h hf
 rwa [Nat.zero_add] at this
end
def Qn (P:Program) (f:Func):SC:=match f.body with
 | some c=>Ya P c
 | none=>.bad
def fgH : Nat -> Fg
 | 0 => .eff
 | 1 => .pre
 | _ => .oth
def drH (p : Nat) (l : List SO) : List Nat -> SC
 | [] => .draw (l.take p) (l.drop p)
 | f => .drawE (f.map fgH) (l.take p) (l.drop p)
def stripH (P : Program) : Code -> List (List Nat) -> SC × List (List Nat)
 | .skip, h => (.skip, h)
 | .region _ ops false, h => (.ops (ops.toList.map (Zd P ops)), h)
 | .region _ ops true, (p :: f) :: h => (drH p (ops.toList.map (Zd P ops)) f, h)
 | .seq a b, h => match stripH P a h with
  | (x, h) => match stripH P b h with
   | (y, h) => (.seq x y, h)
 | .cond c a b, h => match stripH P a h with
  | (x, h) => match stripH P b h with
   | (y, h) => (.cond (opd c) x y, h)
 | .block n a, h => match stripH P a h with
  | (x, h) => (.block n x, h)
 | .loop a, h => match stripH P a h with
  | (x, h) => (.loop x, h)
 | .exit n, h => (.exit n, h)
 | .label _, h => (.skip, h)
 | .scope a, h => match stripH P a h with
  | (x, h) => (.scope x, h)
 | .rangeFunc g ps a b, h => match stripH P a h with
  | (x, h) => match stripH P b h with
   | (y, h) => (.rfunc (opd g) ps.toList x y, h)
 | .ret, h => (.ret, h)
 | _, h => (.bad, h)
def scH (P : Program) (f : Func) (h : List (List Nat)) : SC := match f.body with
 | some c => (stripH P c h).1
 | none => .bad
def Uc (P:Program) (f:Func):List SOp:=resOf P f.results.toList
end Go.Abs
