import Derived.Test.YtfliagpjbbkijaaGreatDoorVAME
set_option linter.all false
namespace Go.Abs
open Go Go.RowKit
def wN(cs:PQ):List (Nat×Nat×AV)->QQ
 |[]=>some cs
 |(off,size,a)::r=>bif bare a&&((cellsOf a).length==size)&&Nat.ble (off+size) cs.length then wN (setA cs off (cellsOf a)) r else none
inductive YE where
 |nil
 |cons (l:Nat) (T:PQ) (ps:P1) (pz body:SC) (rest:YE)
structure Rc where
 code:YE->SC->AS->Option (Exit×AS)
 fn:YE->FuncId->PQ->AM->Option (AV×AM)
section
variable (gl:Nat->AV) (orc:FuncId->PQ->AV) (R:Rc) (ye:YE)
end
section
variable (P:Program) (gl:Nat->AV) (orc:FuncId->PQ->AV) (R:Rc) (ye:YE)
abbrev Tab:=FuncId->Option (SC×List aF×Nat)
end
section
variable {P:Program} {gl:Nat->AV} {orc:FuncId->PQ->AV}
def arO(P:Program)(tab:Tab):Prop:=∀f sc rs n,tab f=some (sc,rs,n)->cV P f sc rs n
open Classical in
def Di(P:Program):Nat->List (Option (SC×List aF×Nat))->Prop
 |_,[]=>True
 |k,none::r=>Di P (k+1) r
 |k,some (sc,rs,n)::r=>cV P k sc rs n/\Di P (k+1) r
def ny:∀{l:List (Option (SC×List aF×Nat))}{k i:Nat}{sc:SC}{rs:List aF}{n:Nat},Di P k l->l.getD i none=some (sc,rs,n)->cV P (k+i) sc rs n
 |[],_,i,_,_,_,_,h=>by simp at h
 |none::r,k,0,_,_,_,_,h=>by simp at h
 |some (sc',rs',n')::r,k,0,sc,rs,n,ho,h=>by simp at h;obtain⟨rfl,rfl,rfl⟩:=h;exact ho.1
 |none::r,k,i+1,sc,rs,n,ho,h=>by
  have:=ny (k:=k+1) (i:=i) ho (Pi h);rwa [show k+(i+1)=k+1+i by omega]
 |some (sc',rs',n')::r,k,i+1,sc,rs,n,ho,h=>by
  have:=ny (k:=k+1) (i:=i) ho.2 (Pi h);rwa [show k+(i+1)=k+1+i by omega]
def arP{l:List (Option (SC×List aF×Nat))}(h:Di P 0 l):arO P fun f=>l.getD f none:=fun f sc rs n hf=>by
 have:=ny h hf;rwa [zzbm]at this
end
def Vm(P:Program)(f:Func):SC:=match f.body with
 |some c=>Yj P c
 |none=>.bad
def Vn(P:Program)(f:Func):List aF:=fZ P f.results.toList
def fgH:Nat->Fg
 |0=>.eff
 |1=>.pre
 |_=>.oth
def drH(p:Nat)(l:List SO):P1->SC
 |[]=>.draw (l.take p) (l.drop p)
 |c::f=>if c<100 then .drawE ((c::f).map fgH) (l.take p) (l.drop p)else .drawZ (c-100) (f.map fgH) (l.take p) (l.drop p)
def Qcj(P:Program):Code->List (P1)->SC×List (P1)
 |.skip,h=>(.skip,h)
 |.region _ ops false,h=>(bif alK ops then .opsX (ops.toList.map (Xf P ops))else .ops (ops.toList.map (Xf P ops)),h)
 |.region _ ops true,(p::f)::h=>(drH p (ops.toList.map (Xf P ops)) f,h)
 |.seq a b,h=>match Qcj P a h with
  |(x,h)=>match Qcj P b h with
   |(y,h)=>(.seq x y,h)
 |.cond c a b,h=>match Qcj P a h with
  |(x,h)=>match Qcj P b h with
   |(y,h)=>(.cond (aB c) x y,h)
 |.block n a,h=>match Qcj P a h with
  |(x,h)=>(.block n x,h)
 |.loop a,h=>match Qcj P a h with
  |(x,h)=>(.loop x,h)
 |.exit n,h=>(.exit n,h)
 |.label _,h=>(.skip,h)
 |.scope a,h=>match Qcj P a h with
  |(x,h)=>(.scope x,h)
 |.rangeFunc g ps a b,h=>match Qcj P a h with
  |(x,h)=>match Qcj P b h with
   |(y,h)=>(.rfunc (aB g) ps.toList x y,h)
 |.ret,h=>(.ret,h)
 |_,h=>(.bad,h)
def scH(P:Program)(f:Func)(h:List (P1)):SC:=match f.body with
 |some c=>(Qcj P c h).1
 |none=>.bad
end Go.Abs
