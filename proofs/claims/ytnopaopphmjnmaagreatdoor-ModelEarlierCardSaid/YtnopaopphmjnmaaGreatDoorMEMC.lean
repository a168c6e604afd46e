import Derived.Test.YtnopaopphmjnmaaGreatDoorMEMB
set_option linter.all false
namespace Go.Abs
open Go Go.RowKit
section
variable {N:Nat} {w0:iy} {aq:Nat->Nat->Prop} {γ:G} {w:World} {B:Nat->Option (List AV)} {L:Nat->Option Nat} {P:Program} {o:Oper} {a:Act} {r:AV}
variable {dst:Option Tmp} {ty:TypeId} {pos:String} {after:Array Edge} {guard:Option (Nat×Bool)} {gl:Nat->AV} {orc:Nat->FuncId->List AV->AV} {e:bL->AV} {m:AM}
def VX(hm:au N w0 aq γ w B L){t:TypeId}{x:Operand}{f:Nat}(h1:aB w γ (e (aA x)) (a.eval x))
  (hc:(rop P gl orc e m dst (tr P ⟨dst,.field t x f,ty,pos,after,guard⟩)).1):
  Step N w0 aq P ⟨dst,.field t x f,ty,pos,after,guard⟩ a γ w B L (rop P gl orc e m dst (tr P ⟨dst,.field t x f,ty,pos,after,guard⟩)).2:=by
 simp only[tr]at hc |-
 split at hc
 case h_2=>exact hc.elim
 rename_i fields hu;split at hc
 case h_2=>exact hc.elim
 rename_i fl fK;split at hc
 case h_2=>exact hc.elim
 rename_i i d hi hd
 have main:∀(agg:Bool)(n:Nat),Uq P fl.type=agg->(agg=true->n=i.size)->(rop P gl orc e m dst (.fld agg fl.offset n (aA x))).1->
   Step N w0 aq P ⟨dst,.field t x f,ty,pos,after,guard⟩ a γ w B L (rop P gl orc e m dst (.fld agg fl.offset n (aA x))).2:=by
  intro agg n bD hn hc;simp only[rop]at hc |-
  split at hc
  case h_2=>exact hc.elim
  rename_i cs he;rw[he]at h1;obtain⟨arr,hv,hr⟩:=h1.gH;obtain⟨fL,Cx⟩:=hc;have Cy:=hr.drop fl.offset;cases agg with
  |true=>
   have AB:=hn rfl;subst AB;refine Qr hm (v:=.agg (arr.extract fl.offset (fl.offset+i.size))) ?_ ?_
   ·unfold Uq at bD;rw[hd]at bD;cases d<;>simp at bD<;>simp[execOp,hv,Instr.field,run_underlying hu,fK,asAgg,part,isAgg,run_underlying hd,sizeOf,typeInfo,hi]
   simp only[Yf,if_true];refine ak.P5 ?_;have:=Cy.take i.size;simpa[zzfp,List.extract]using this
  |false=>
   have qM:=Cx rfl;subst qM
   have aH:fl.offset<arr.size:=by
    rw[zzaq,zzcq]at fL;have:=hr.1;simp at this;omega
   have hu':arr[fl.offset]?=some arr[fl.offset]:=zzai aH;refine Qr hm (v:=arr[fl.offset]) ?_ ?_
   ·unfold Uq at bD;rw[hd]at bD;cases d<;>simp at bD<;>simp[execOp,hv,Instr.field,run_underlying hu,fK,asAgg,part,isAgg,run_underlying hd,hu']
   simp only[Yf];have:=Cy.get 0;simp[List.getD]at this |-
   simpa[aH]using this
 cases bD:Uq P fl.type with
 |true=>simp only[bD,if_true]at hc |-;exact main true _ bD (fun _=>rfl) hc
 |false=>simp only[bD]at hc |-;exact main false 1 bD (fun h=>by cases h) hc
def QA(hm:au N w0 aq γ w B L){t:TypeId}{x y:Operand}(h1:aB w γ (e (aA x)) (a.eval x))(h2:aB w γ (e (aA y)) (a.eval y))
  (hc:(rop P gl orc e m dst (tr P ⟨dst,.index t x y,ty,pos,after,guard⟩)).1):
  Step N w0 aq P ⟨dst,.index t x y,ty,pos,after,guard⟩ a γ w B L (rop P gl orc e m dst (tr P ⟨dst,.index t x y,ty,pos,after,guard⟩)).2:=by
 simp only[tr]at hc |-
 split at hc
 case h_3=>exact hc.elim
 case h_2=>
  rename_i len te hu;split at hc
  case h_2=>exact hc.elim
  rename_i j d hj hd
  have main:∀(agg:Bool)(sz:Nat),Uq P te=agg->j.size=sz->(rop P gl orc e m dst (.idxA agg len sz (aA x) (aA y))).1->
    Step N w0 aq P ⟨dst,.index t x y,ty,pos,after,guard⟩ a γ w B L (rop P gl orc e m dst (.idxA agg len sz (aA x) (aA y))).2:=by
   intro agg sz bD hsz hc;subst hsz;simp only[rop]at hc |-
   split at hc
   case h_2=>exact hc.elim
   rename_i cs k n e1 e2;rw[e1]at h1;rw[e2]at h2;obtain⟨arr,hv,hr⟩:=h1.gH;obtain⟨⟨eV,qM⟩,fL,Cx⟩:=hc;have Cy:=hr.drop (n.toNat*j.size);cases agg with
   |true=>
    refine Qr hm (v:=.agg (arr.extract (n.toNat*j.size) (n.toNat*j.size+j.size))) ?_ ?_
    ·unfold Uq at bD;rw[hd]at bD;cases d<;>simp at bD<;>simp[execOp,hv,h2.aG,Instr.index,run_underlying hu,asIntOf,eV,qM,asAgg,part,isAgg,run_underlying hd,sizeOf,typeInfo,hj]
    simp only[Yf,if_true];refine ak.P5 ?_;have:=Cy.take j.size;simpa[zzfp,List.extract]using this
   |false=>
    have aye:=Cx rfl
    have aH:n.toNat*j.size<arr.size:=by
     rw[zzaq,zzcq]at fL;have:=hr.1;simp at this;omega
    have hu':arr[n.toNat*j.size]?=some arr[n.toNat*j.size]:=zzai aH;refine Qr hm (v:=arr[n.toNat*j.size]) ?_ ?_
    ·unfold Uq at bD;rw[hd]at bD;cases d<;>simp at bD<;>simp[execOp,hv,h2.aG,Instr.index,run_underlying hu,asIntOf,eV,qM,asAgg,part,isAgg,run_underlying hd,sizeOf,typeInfo,hj,hu']
    simp only[Yf];have:=Cy.get 0;simp[List.getD]at this |-
    simpa[aH]using this
  cases bD:Uq P te with
  |true=>simp only[bD,if_true]at hc |-;exact main true _ bD rfl hc
  |false=>
   simp only[bD,zzbq,if_false]at hc |-
   split at hc
   ·rename_i h0;have zo:j.size=1:=by simpa using h0
    rw[if_pos h0];exact main false 1 bD zo hc
   exact hc.elim
 rename_i hu;simp only[rop]at hc |-
 split at hc
 case h_2=>exact hc.elim
 rename_i s k n e1 e2;rw[e1]at h1;rw[e2]at h2;obtain⟨eV,qM⟩:=hc;have ai:n.toNat<s.size:=by omega
 have hg:s[n.toNat]?=some (s.data.toList.getD n.toNat 0):=by
  have h3:n.toNat<s.data.size:=ai;have:s[n.toNat]?=some s[n.toNat]:=by simp[ai]
  rw[this];congr 1
  have h4:s.data.toList.getD n.toNat 0=s.data[n.toNat]:=by
   show(s.data.toList[n.toNat]?).getD 0=_;rw[zzce,zzai h3];rfl
  rw[h4];rfl
 refine Qr hm (v:=.int .u8 (s.data.toList.getD n.toNat 0).toNat) ?_ (.int _ _);simp[execOp,h1.cq,h2.aG,Instr.index,asIntOf,run_underlying hu,eV,hg]
def VY{op:BinOp}{k:IntKind}{x y:Int}{t:TypeId}(gq:op≠.shl/\op≠.shr)(hc:(binI op k x y).1):∃v,(binOp op t (.int k x) (.int k y)).run P w=.ok v w/\aB w γ (binI op k x y).2 v:=by
 cases op<;>simp only[binI]at hc |-<;>first
  |exact hc.elim
  |(simp at gq;done)
  |(refine⟨.bool _,?_,.bool _⟩;simp[binOp,Op.intCmp];done)
  |(refine⟨.int k _,?_,.int k _⟩;simp[binOp,Op.intArith,Op.intBits];done)
  |(refine⟨.int k _,?_,.int k _⟩;simp[binOp,Op.intDiv,hc];done)
def VZ{op:BinOp}{x y:ByteArray}{t:TypeId}(gq:op≠.shl/\op≠.shr)(hc:(binS op x y).1):∃v,(binOp op t (.string x) (.string y)).run P w=.ok v w/\aB w γ (binS op x y).2 v:=by
 cases op<;>simp only[binS]at hc |-<;>first
  |exact hc.elim
  |(simp at gq;done)
  |(refine⟨.bool _,?_,.bool _⟩;simp[binOp,Op.stringOp];done)
  |(
   refine⟨.string (x++y),?_,.str _⟩
   have h1:¬(((x.size+y.size:Nat):Int)> IntKind.i64.max):=by
     have:IntKind.i64.max=9223372036854775807:=by decide
     rw[this];omega
   simp only[binOp,Op.stringOp,if_neg h1];rfl)
def je{op:BinOp}{t:TypeId}{x y:Operand}{k k':IntKind}{p q:Int}:(eqGuard op t x y (.int k p) (.int k' q)).run P w=.ok () w:=by
 cases op<;>simp[eqGuard]
def EX{op:BinOp}{t:TypeId}{x y:Operand}{p q:ByteArray}:(eqGuard op t x y (.string p) (.string q)).run P w=.ok () w:=by
 cases op<;>simp[eqGuard]
def oO{op:BinOp}{t:TypeId}{x y:Operand}{p q:Bool}:(eqGuard op t x y (.bool p) (.bool q)).run P w=.ok () w:=by
 cases op<;>simp[eqGuard]
def EY(hm:au N w0 aq γ w B L){op:BinOp}{t t':TypeId}{x y:Operand}(h1:aB w γ (e (aA x)) (a.eval x))(h2:aB w γ (e (aA y)) (a.eval y))
  (hc:(binV op (e (aA x)) (e (aA y))).1):
  Step N w0 aq P ⟨dst,.binOp op t x y t',ty,pos,after,guard⟩ a γ w B L (binV op (e (aA x)) (e (aA y))).2:=by
 unfold binV at hc |-
 split at hc
 ·split at hc
  case h_2=>exact hc.elim
  rename_i k p k' q e1 e2;try simp only[e1,e2]
  rw[e1]at h1;rw[e2]at h2;have hq:¬q<0:=by omega
  refine Qr hm (v:=.int k (k.wrap (p*2 ^ (min q.toNat k.bits)))) ?_ (.int _ _);simp[execOp,h1.aG,h2.aG,je,binOp,Op.shift,hq]
 ·split at hc
  case h_2=>exact hc.elim
  rename_i k p k' q e1 e2;try simp only[e1,e2]
  rw[e1]at h1;rw[e2]at h2;have hq:¬q<0:=by omega
  refine Qr hm (v:=.int k (p.fdiv (2 ^ (min q.toNat k.bits)))) ?_ (.int _ _);simp[execOp,h1.aG,h2.aG,je,binOp,Op.shift,hq]
 rename_i op' aqI aqJ;split at hc
 ·rename_i k p k' q e1 e2;try simp only[e1,e2]
  rw[e1]at h1;rw[e2]at h2;obtain⟨rfl,hc⟩:=hc;obtain⟨v,hv,hr⟩:=VY (P:=P) (w:=w) (γ:=γ) (t:=t) ⟨fun h=>aqI h,fun h=>aqJ h⟩ hc;exact Qr hm (v:=v) (by simp[execOp,h1.aG,h2.aG,je,hv]) hr
 ·rename_i p q e1 e2;try simp only[e1,e2]
  rw[e1]at h1;rw[e2]at h2;obtain⟨v,hv,hr⟩:=VZ (P:=P) (w:=w) (γ:=γ) (t:=t) ⟨fun h=>aqI h,fun h=>aqJ h⟩ hc;exact Qr hm (v:=v) (by simp[execOp,h1.cq,h2.cq,EX,hv]) hr
 exact hc.elim
def run_equalIn_bool{t:TypeId}(hu:P.underlying t=some .bool)(p q:Bool)(d:Nat):(Op.equalIn (d+1) t (.bool p) (.bool q)).run P w=.ok (p==q) w:=by
 simp[Op.equalIn,run_underlying hu]
def QB(hm:au N w0 aq γ w B L){op:BinOp}{t t':TypeId}{x y:Operand}(hu:P.underlying t=some .bool)(h1:aB w γ (e (aA x)) (a.eval x))(h2:aB w γ (e (aA y)) (a.eval y))
  (hc:(binBool op (e (aA x)) (e (aA y))).1):
  Step N w0 aq P ⟨dst,.binOp op t x y t',ty,pos,after,guard⟩ a γ w B L (binBool op (e (aA x)) (e (aA y))).2:=by
 unfold binBool at hc |-
 split at hc
 ·rename_i p q e1 e2;try simp only[e1,e2]
  rw[e1]at h1;rw[e2]at h2;have:=run_equalIn_bool (P:=P) (w:=w) hu p q 9999;exact Qr hm (v:=.bool (p==q)) (by simp[execOp,h1.bA,h2.bA,oO,binOp,Op.equal,Op.maxDepth,this]) (.bool _)
 ·rename_i p q e1 e2;try simp only[e1,e2]
  rw[e1]at h1;rw[e2]at h2;have:=run_equalIn_bool (P:=P) (w:=w) hu p q 9999;exact Qr hm (v:=.bool (!(p==q))) (by simp[execOp,h1.bA,h2.bA,oO,binOp,Op.equal,Op.maxDepth,this]) (.bool _)
 exact hc.elim
def aex(hm:au N w0 aq γ w B L){op:UnOp}{t:TypeId}{x:Operand}(h1:aB w γ (e (aA x)) (a.eval x))(hc:(rop P gl orc e m dst (.un op (aA x))).1):
  Step N w0 aq P ⟨dst,.unOp op t x,ty,pos,after,guard⟩ a γ w B L (rop P gl orc e m dst (.un op (aA x))).2:=by
 simp only[rop]at hc |-
 split at hc
 ·rename_i b e1;try simp only[e1]
  rw[e1]at h1;exact Qr hm (v:=.bool (!b)) (by simp[execOp,h1.bA,Op.unary]) (.bool _)
 ·rename_i k n e1;try simp only[e1]
  rw[e1]at h1;exact Qr hm (v:=.int k (k.wrap (0-n))) (by simp[execOp,h1.aG,Op.unary,Op.intArith]) (.int _ _)
 ·rename_i k n e1;try simp only[e1]
  rw[e1]at h1;refine Qr hm ?_ (.int _ _);simp[execOp,h1.aG,Op.unary,Op.intBits]
 exact hc.elim
def QC(hm:au N w0 aq γ w B L){s d:TypeId}{x:Operand}{k0 k:IntKind}(hs:P.underlying s=some (.int k0))(hd:P.underlying d=some (.int k))(h1:aB w γ (e (aA x)) (a.eval x))(hc:(rop P gl orc e m dst (.conv k (aA x))).1):
  Step N w0 aq P ⟨dst,.convert s d x,ty,pos,after,guard⟩ a γ w B L (rop P gl orc e m dst (.conv k (aA x))).2:=by
 simp only[rop]at hc |-
 split at hc
 case h_2=>exact hc.elim
 rename_i k1 n e1;rw[e1]at h1;exact Qr hm (v:=.int k (k.wrap n)) (by simp[execOp,h1.aG,convert,run_underlying hs,run_underlying hd,Conv.intToInt]) (.int _ _)
def QD(hm:au N w0 aq γ w B L){f:FuncId}{first cap:Array Operand}(h1:∀x∈first,aB w γ (e (aA x)) (a.eval x))(h2:∀x∈cap,aB w γ (e (aA x)) (a.eval x)):
  Step N w0 aq P ⟨dst,.makeFunc (.func f) first cap,ty,pos,after,guard⟩ a γ w B L (.fn f ((first.toList.map aA).map e) ((cap.toList.map aA).map e)):=by
 refine Qr hm (v:=.func (.func f) (first.map a.eval) (cap.map a.eval)) (by simp[execOp,Instr.makeFunc]) ?_;refine .fn (by simp) (fun i c v g1 g2=>?_) (by simp) fun i c v g1 g2=>?_
 ·simp at g1 g2;obtain⟨x,hx,rfl⟩:=g1;obtain⟨x',jf,rfl⟩:=g2;rw[hx]at jf;cases jf;exact h1 x (zzdc hx)
 simp at g1 g2;obtain⟨x,hx,rfl⟩:=g1;obtain⟨x',jf,rfl⟩:=g2;rw[hx]at jf;cases jf;exact h2 x (zzdc hx)
def V0(hm:au N w0 aq γ w B L){x:Operand}{i:Nat}(h1:aB w γ (e (aA x)) (a.eval x))(hc:(rop P gl orc e m dst (.ext (aA x) i)).1):
  Step N w0 aq P ⟨dst,.extract x i,ty,pos,after,guard⟩ a γ w B L (rop P gl orc e m dst (.ext (aA x) i)).2:=by
 simp only[rop]at hc |-
 split at hc
 case h_2=>exact hc.elim
 rename_i vs e1;rw[e1]at h1;obtain⟨arr,hv,hr⟩:=h1.Ct;have ai:i<arr.size:=by have:=hr.1;simp at this;omega
 have hu:arr[i]?=some arr[i]:=zzai ai;refine Qr hm (v:=arr[i]) (by simp[execOp,hv,Instr.extract,hu]) ?_;have:=hr.get i;simpa[List.getD,ai]using this
def QE(hm:au N w0 aq γ w B L){x:Operand}(h1:aB w γ (e (aA x)) (a.eval x))(hc:(rop P gl orc e m dst (.nilc (aA x))).1):
  Step N w0 aq P ⟨dst,.nilCheck x,ty,pos,after,guard⟩ a γ w B L (rop P gl orc e m dst (.nilc (aA x))).2:=by
 simp only[rop]at hc |-
 split at hc
 ·rename_i id o' e1;try simp only[e1]
  rw[e1]at h1;have oP:=h1;obtain⟨b,hb,hv⟩:=h1.dK;exact Qr hm (v:=a.eval x) (by simp[execOp,hv]) oP
 ·rename_i row o' e1;try simp only[e1]
  rw[e1]at h1;have oP:=h1;obtain⟨b,off,cv,hv,_⟩:=h1.jc;exact Qr hm (v:=a.eval x) (by simp[execOp,hv]) oP
 ·rename_i f first cap e1
  try simp only[e1]
  rw[e1]at h1;have oP:=h1;obtain⟨fa,ca,hv,_⟩:=h1.qL;exact Qr hm (v:=a.eval x) (by simp[execOp,hv]) oP
 exact hc.elim
def V1(hm:au N w0 aq γ w B L){t:TypeId}{x:Operand}{lo hi:Option Operand}(h1:aB w γ (e (aA x)) (a.eval x))(h2:∀y∈lo,aB w γ (e (aA y)) (a.eval y))(h3:∀y∈hi,aB w γ (e (aA y)) (a.eval y))
  (hu:P.underlying t=some .string)(hc:(rop P gl orc e m dst (.slS (aA x) (lo.map aA) (hi.map aA))).1):
  Step N w0 aq P ⟨dst,.slice t x lo hi none,ty,pos,after,guard⟩ a γ w B L (rop P gl orc e m dst (.slS (aA x) (lo.map aA) (hi.map aA))).2:=by
 simp only[rop]at hc |-
 split at hc
 ·rename_i s k l k' h e1 e2 e3;rw[e1]at h1;cases lo with
  |none=>simp at e2
  |some lo=>
   cases hi with
   |none=>simp at e3
   |some hi=>
    simp at e2 e3;have r2:=h2 lo (by simp);have r3:=h3 hi (by simp);rw[e2]at r2;rw[e3]at r3;obtain⟨c1,c2,c3⟩:=hc;have c4:(0:Int)<=h:=by omega
    have c5:l<=(h.toNat:Int):=by omega
    try simp only[e1,e2,e3,zzcs]
    refine Qr hm (v:=.string (s.extract l.toNat h.toNat)) ?_ (.str _);simp[execOp,h1.cq,r2.aG,r3.aG,Instr.sliceAt,Instr.slice,Instr.sliceBounds,Instr.sliceBound,asIntOf,run_underlying hu,c1,c3,c4,c5];intro ai;exact absurd ai (by rw[Int.max_eq_left c4];omega)
 ·rename_i s k h e1 e2 e3;rw[e1]at h1;cases lo with
  |some lo=>simp at e2
  |none=>
   cases hi with
   |none=>simp at e3
   |some hi=>
    simp at e3;have r3:=h3 hi (by simp);rw[e3]at r3;obtain⟨c1,c3⟩:=hc;try simp only[e1,e3,zzcs,Option.map_none]
    refine Qr hm (v:=.string (s.extract 0 h.toNat)) ?_ (.str _);simp[execOp,h1.cq,r3.aG,Instr.sliceAt,Instr.slice,Instr.sliceBounds,Instr.sliceBound,asIntOf,run_underlying hu,c1,c3]
 ·rename_i s k l e1 e2 e3;rw[e1]at h1;cases lo with
  |none=>simp at e2
  |some lo=>
   cases hi with
   |some hi=>simp at e3
   |none=>
    simp at e2;have r2:=h2 lo (by simp);rw[e2]at r2;obtain⟨c1,c3⟩:=hc;try simp only[e1,e2,zzcs,Option.map_none]
    refine Qr hm (v:=.string (s.extract l.toNat s.size)) ?_ (.str _);simp[execOp,h1.cq,r2.aG,Instr.sliceAt,Instr.slice,Instr.sliceBounds,Instr.sliceBound,asIntOf,run_underlying hu,c1,c3]
 exact hc.elim
end
open Go Go.RowKit
section
variable {N:Nat} {w0:iy} {aq:Nat->Nat->Prop} {γ:G} {w:World} {B:Nat->Option (List AV)} {L:Nat->Option Nat} {P:Program} {o:Oper} {a:Act} {r:AV}
variable {dst:Option Tmp} {ty:TypeId} {pos:String} {after:Array Edge} {guard:Option (Nat×Bool)} {gl:Nat->AV} {orc:Nat->FuncId->List AV->AV} {e:bL->AV} {m:AM}
def kV{x:AV}{v:Value}(h:aB w γ x v)(hx:bare x=true):ak w γ (cellsOf x) v.cells.toList:=by
 cases x with
 |junk=>simp[bare]at hx
 |gd g y=>simp[bare]at hx
 |aW cs=>simp[bare]at hx
 |agg cs=>obtain⟨arr,rfl,hr⟩:=h.gH;exact hr
 |bool b=>cases h;exact ak.cons (.bool b) ak.nil
 |int k n=>cases h;exact ak.cons (.int k n) ak.nil
 |str s=>cases h;exact ak.cons (.str s) ak.nil
 |nilfn=>cases h;exact ak.cons .nilfn ak.nil
 |yld l=>cases h with|yld h=>exact ak.cons (.yld h) ak.nil
 |mp id=>cases h with|mp h=>exact ak.cons (.mp h) ak.nil
 |nilv p=>cases h;cases p<;>exact ak.cons (.nilv _) ak.nil
 |it id=>cases h with|it h=>exact ak.cons (.it h) ak.nil
 |aJ kn kvs=>simp[bare]at hx
 |mitr mid n s=>simp[bare]at hx
 |sl rt rows=>have h':=h;obtain⟨_,_,_,_,_,_,rfl,_⟩:=h.b9;exact ak.cons h' ak.nil
 |ep row o=>have h':=h;obtain⟨_,_,_,rfl,_⟩:=h.jc;exact ak.cons h' ak.nil
 |ptr id o=>have h':=h;obtain⟨_,_,rfl⟩:=h.dK;exact ak.cons h' ak.nil
 |bs id off len sz=>have h':=h;obtain⟨_,_,_,_,_,rfl,_⟩:=h.cM;exact ak.cons h' ak.nil
 |fn f first cap=>have h':=h;obtain⟨_,_,rfl,_⟩:=h.qL;exact ak.cons h' ak.nil
def vT(off:Nat):∀(l:List Value)(k:Nat)(arr:Array Value),(l.zipIdx k).foldl (fun(cs:Array Value)(p:Value×Nat)=>cs.setIfInBounds (off+p.2) p.1) arr=tM arr (off+k) l
 |[],_,_=>rfl
 |v::l,k,arr=>by
  simp only[List.zipIdx_cons,zzd,tM];exact vT off l (k+1) _
def EZ(off:Nat)(vs arr:Array Value):vs.zipIdx.foldl (fun(cs:Array Value)(p:Value×Nat)=>cs.setIfInBounds (off+p.2) p.1) arr=tM arr off vs.toList:=by
 rw[<- Array.foldl_toList,Array.toList_zipIdx];exact vT off vs.toList 0 arr
def Qbv{place:Nat->Option (Nat×Nat)}:∀(ps:List (Nat×Nat×AV))(vs:List (Nat×Value))(cs:List AV)(arr:Array Value),ps.length=vs.length->
  (∀(i:Nat)(p:Nat×Nat×AV)(q:Nat×Value),ps[i]?=some p->vs[i]?=some q->place q.1=some (p.1,p.2.1)/\aB w γ p.2.2 q.2)->ak w γ cs arr.toList->(fillA cs ps).1->
  ∃cells,Instr.fill place arr vs=some cells/\ak w γ (fillA cs ps).2 cells.toList/\cells.size=arr.size
 |[],[],cs,arr,_,_,hr,_=>⟨arr,rfl,hr,rfl⟩
 |[],_::_,_,_,h,_,_,_=>by simp at h
 |_::_,[],_,_,h,_,_,_=>by simp at h
 |(off,size,x)::ps,(i,v)::vs,cs,arr,hl,hp,hr,hc=>by
  obtain⟨h1,h2,h3,h4⟩:=hc;obtain⟨g1,g2⟩:=hp 0 _ _ rfl rfl;have hx:=kV g2 h1;have hsz:v.cells.size=size:=by have:=hx.1;simp at this;omega
  have bZ:¬(off+v.cells.size> arr.size):=by have:=hr.1;simp at this;omega
  have AD:=hx.setA (o:=off) hr;obtain⟨cells,q1,q2,q3⟩:=Qbv ps vs (setA cs off (cellsOf x)) (tM arr off v.cells.toList) (by simpa using hl) (fun j p q dU qo=>hp (j+1) p q (by simpa using dU) (by simpa using qo)) AD h4;refine⟨cells,?_,q2,by rw[q3,Vd]⟩;simp only at g1;have hz:=EZ off v.cells arr;simp only[Instr.fill,g1];rw[if_neg (by simp[hsz];omega)];rw[<- hz]at q1;exact q1
def AE:∀(fs:List Field),fs.all (fun f=>(P.info? f.type).isSome)=true->∃places,fs.mapM (fun f=>(P.info? f.type).map fun i=>(f.offset,i.size))=some places/\
  ∀i:Nat,places[i]?=(fs[i]?).bind fun f=>(P.info? f.type).map fun i=>(f.offset,i.size)
 |[],_=>⟨[],by simp,fun i=>by simp⟩
 |f::fs,h=>by
  simp at h;obtain⟨h1,h2⟩:=h;obtain⟨places,g1,g2⟩:=AE fs (by simpa using h2);obtain⟨i,hi⟩:=zzci.1 h1;refine⟨(f.offset,i.size)::places,by simp[zzhh,hi,g1],fun j=>?_⟩;cases j with
  |zero=>simp[hi]
  |succ j=>simpa using g2 j
def Qdi{α β:Type}(f:α->Option β):∀(l:List α)(l':List β),l.mapM f=some l'->l'.length=l.length/\∀(i:Nat)(x:α)(y:β),l[i]?=some x->l'[i]?=some y->f x=some y
 |[],l',h=>by simp at h;subst h;simp
 |x::l,l',h=>by
  simp only[zzhh,Option.bind_eq_bind,Option.pure_def]at h;cases hx:f x with
  |none=>simp[hx]at h
  |some y=>
   cases hr:l.mapM f with
   |none=>simp[hx,hr]at h
   |some rest=>
    simp[hx,hr]at h;subst h;obtain⟨g1,g2⟩:=Qdi f l rest hr;refine⟨by simp[g1],fun i x' y' h1 h2=>?_⟩;cases i with
    |zero=>simp at h1 h2;subst h1;subst h2;exact hx
    |succ i=>simp at h1 h2;exact g2 i x' y' h1 h2
def qP{t:TypeId}{zs:List AV}(h:zc P t=some zs):∃i z,P.info? t=some i/\i.zero=some z/\ak w γ zs z.cells.toList:=by
 unfold zc at h;cases hi:P.info? t with
 |none=>simp[hi]at h
 |some i=>
  cases hz:i.zero with
  |none=>simp[hi,hz]at h
  |some z=>
   simp[hi,hz]at h;subst h;refine⟨i,z,rfl,hz,by simp,fun j x v h1 h2=>?_⟩;simp at h1 h2;obtain⟨v',h3,rfl⟩:=h1;rw[h2]at h3;cases h3;exact nt w γ v
def J4(hm:au N w0 aq γ w B L){t:TypeId}{parts:Array (Nat×Operand)}(h1:∀p∈parts,aB w γ (e (aA p.2)) (a.eval p.2))
  (hc:(rop P gl orc e m dst (Wo P t parts)).1):
  Step N w0 aq P ⟨dst,.build t parts,ty,pos,after,guard⟩ a γ w B L (rop P gl orc e m dst (Wo P t parts)).2:=by
 unfold Wo at hc |-
 split at hc
 case h_2=>exact hc.elim
 rename_i fields zs hu hz;split at hc
 case h_2=>exact hc.elim
 rename_i ps hps;split at hc
 case isFalse=>exact hc.elim
 rename_i bP;try rw[if_pos bP]
 simp only[rop]at hc |-
 obtain⟨i,z,hi,jg,J5⟩:=qP (w:=w) (γ:=γ) hz;obtain⟨places,gK,hpg⟩:=AE (P:=P) fields.toList bP;obtain⟨aH,cp⟩:=Qdi _ _ _ hps
 obtain⟨cells,f1,f2,_⟩:=Qbv (w:=w) (γ:=γ) (place:=fun i=>places[i]?) (ps.map fun p=>(p.1,p.2.1,e p.2.2)) (parts.toList.map fun p=>(p.1,a.eval p.2)) zs z.cells (by simp[aH]) (fun j p q dU qo=>by
   simp at dU qo;obtain⟨o1,o2,o3,hp1,rfl⟩:=dU;obtain⟨x1,x2,P6,rfl⟩:=qo;have:=cp j (x1,x2) (o1,o2,o3) (by simpa using P6) hp1;simp only at this |-
   rw[hpg];cases hf:fields[x1]? with
   |none=>simp[hf]at this
   |some f=>
    cases IC:P.info? f.type with
    |none=>simp[hf,IC]at this
    |some fi=>
     simp[hf,IC]at this;obtain⟨rfl,rfl,rfl⟩:=this;exact⟨by simp[hf,IC],h1 (x1,x2) (zzdc P6)⟩) J5 hc
 have hb:P.built t (parts.map fun p=>(p.1,a.eval p.2)).toList=some cells:=by
  unfold Program.built;simp only[hi,hu,jg,gK];simpa using f1
 have aZ:=run_build (P:=P) w t (parts.map fun p=>(p.1,a.eval p.2)) cells hb;refine Qr hm (v:=.agg cells) ?_ (ak.P5 f2);simp[execOp,aZ]
def V3(hm:au N w0 aq γ w B L)(hB:∀id cells,m.boxes[id]?=some cells->B id=some cells){t:TypeId}{len:Nat}{parts:Array (Nat×Operand)}(h1:∀p∈parts,aB w γ (e (aA p.2)) (a.eval p.2))
  (hc:(rop P gl orc e m dst (tr P ⟨dst,.buildSlice t len parts,ty,pos,after,guard⟩)).1):
  Step N w0 aq P ⟨dst,.buildSlice t len parts,ty,pos,after,guard⟩ a γ w B L (rop P gl orc e m dst (tr P ⟨dst,.buildSlice t len parts,ty,pos,after,guard⟩)).2:=by
 simp only[tr]at hc |-
 split at hc
 case h_2=>exact hc.elim
 rename_i te hu;split at hc
 case h_2=>exact hc.elim
 rename_i i hi;split at hc
 case isFalse=>exact hc.elim
 rename_i bS;try rw[if_pos bS]
 simp only[zzak,beq_iff_eq,bne_iff_ne,decide_eq_true_eq]at bS;obtain⟨⟨hz,N3⟩,vR⟩:=bS;cases jg:i.zero with
 |none=>simp[jg]at hz
 |some z=>
  simp[jg]at hz;simp only[rop]at hc |-
  rw[Qah];obtain⟨fL,Cx,hc3⟩:=hc
  let ef:Array Value:=(Array.range (len*i.size)).map (z.cells[·%z.cells.size]!)
  have tO:ak w γ (List.replicate (len*i.size) .junk) ef.toList:=by
   refine⟨by simp[ef],fun j x v hj _=>?_⟩;simp[zzcn]at hj;rw[<- hj.2];exact .junk _
  obtain⟨cells,f1,f2,f3⟩:=Qbv (w:=w) (γ:=γ) (place:=fun j=>some (j*i.size,i.size)) (parts.toList.map fun p=>(p.1*i.size,i.size,e (aA p.2))) (parts.toList.map fun p=>(p.1,a.eval p.2)) _ ef (by simp) (fun j p q dU qo=>by
    simp at dU qo;obtain⟨x1,x2,P6,rfl⟩:=dU;obtain⟨y1,y2,hy1,rfl⟩:=qo;rw[P6]at hy1;cases hy1;exact⟨rfl,h1 (x1,x2) (zzdc P6)⟩) tO (by simpa[Function.comp_def]using fL)
  generalize hq:(fillA (List.replicate (len*i.size) .junk) (parts.toList.map fun p=>(p.1*i.size,i.size,e (aA p.2)))).2=A at f2
  have hq':(fillA (List.replicate (len*i.size) .junk) ((parts.toList.map fun p=>(p.1,aA p.2)).map fun p=>(p.1*i.size,i.size,e p.2))).2=A:=by
   rw[<- hq];simp[Function.comp_def]
  rw[hq']at Cx hc3;simp only[hq'];have jh:cells.size=len*i.size:=by rw[f3];simp[ef]
  have hAl:A.length=len*i.size:=by have:=f2.1;simp at this;omega
  have hb:Below w.heap.size w (w.alloc (.cells cells te)):=(Below.refl _ w).alloc (zzab _) _
  have aZ:(execOp a.eval ⟨dst,.buildSlice t len parts,ty,pos,after,guard⟩).run P w=.ok (.value (.slice (some ⟨w.heap.size,0,none⟩) len len)) (w.alloc (.cells cells te)):=by
   have V4:¬(16777216<len*i.size):=by omega
   by_cases oA:len*i.size=0
   ·have fF:ef=(Array.range (len*i.size)).map ((#[]:Array Value)[·%(#[]:Array Value).size]!):=by
     simp[ef,oA]
    rw[fF]at f1
    have ew:len=0:=by
     rcases Nat.mul_eq_zero.1 oA with h|h
     ·exact h
     exact absurd h N3
    simp[oA]at f1;simp[execOp,Instr.buildSlice,run_underlying hu,sizeOf,typeInfo,hi,oA,f1,newRow]
   simp only[execOp,Instr.buildSlice];have f1':Instr.fill (fun j=>some (j*i.size,i.size)) ((Array.range (len*i.size)).map (z.cells[·%z.cells.size]!)) (parts.toList.map fun p=>(p.1,a.eval p.2))=some cells:=f1;simp[run_underlying hu,sizeOf,typeInfo,zeroValue,hi,jg,oA,V4,f1',newRow]
  refine AA (hm.grow hb) (hm.dw hb) aZ ?_;have aH:((List.range len).map fun k=>((A.map (bF m 6)).drop (k*i.size)).take i.size).length=len:=by simp
  have iL:(w.alloc (.cells cells te)).heap[w.heap.size]?=some (.cells cells te (0,0)):=by show(w.heap.push _)[w.heap.size]?=_;simp
  have oz:∀(k j:Nat)(c:AV),Qt ((List.range len).map fun k=>((A.map (bF m 6)).drop (k*i.size)).take i.size) k j=some c->∃c' u,A[k*i.size+j]?=some c'/\c=bF m 6 c'/\cells[k*i.size+j]?=some u/\cells.getD (k*i.size+j) undef=u/\aB w γ c' u:=fun k j c h=>by
   unfold Qt at h;rcases zzaa k len with hk|hk
   ·simp[hk]at h;rw[zzbj]at h;split at h
    ·simp at h;obtain⟨c',qq,rfl⟩:=h;have ai:k*i.size+j<cells.size:=by rw[jh,<- hAl];exact(zza.1 qq).1
     have hu':cells[k*i.size+j]?=some cells[k*i.size+j]:=zzai ai;exact⟨c',_,qq,rfl,hu',by simp[ai],f2.2 _ _ _ qq (by simp[ai])⟩
    cases h
   simp[zzbl.2 hk]at h
  have qs:qp (w.alloc (.cells cells te)) (γ.grow w.heap.size (w.alloc (.cells cells te)).heap.size) ((List.range len).map fun k=>((A.map (bF m 6)).drop (k*i.size)).take i.size) (some ⟨w.heap.size,0,none⟩) len w.heap.size 0 i.size
    (fun k j=>cells.getD (k*i.size+j) undef):=by
   refine⟨by simp,fun h=>(by cases h),fun _=>⟨rfl,by simp⟩,fun row ah=>?_,fun k j c h=>?_,fun k j c h=>?_⟩
   ·simp at ah;obtain⟨k,hk,rfl⟩:=ah;have:(k+1)*i.size<=len*i.size:=zzb _ hk;rw[zzbp,zzdo]at this;simp;omega
   ·obtain⟨c',u,g1,rfl,g3,g4,g5⟩:=oz k j c h;rw[zzbu,aL iL,g3,g4];refine⟨rfl,.inr ⟨zzab _,by simp⟩,uw g5 (zzbh.1 Cx c' (zzac g1))⟩
   obtain⟨c',u,g1,rfl,g3,g4,g5⟩:=oz k j c h;rw[g4]
   have:=kU hm hB (ro':=γ.ro) (fun _ _ h=>h) 6 c' u g5 fun hp=>by
    have:A.any (Yk 6)=true:=zzbx.2 ⟨c',zzac g1,hp⟩;rw[hc3]at this;cases this
   exact this.mono (hm.dw hb).dg
  have:=qs.mk' (rt:=.full) aH.symm;rwa [aH]at this
end
open Go Go.RowKit
section
variable {N:Nat} {w0:iy} {aq:Nat->Nat->Prop} {γ:G} {w:World} {B:Nat->Option (List AV)} {L:Nat->Option Nat} {P:Program} {o:Oper} {a:Act} {r:AV}
variable {dst:Option Tmp} {ty:TypeId} {pos:String} {after:Array Edge} {guard:Option (Nat×Bool)} {gl:Nat->AV} {orc:Nat->FuncId->List AV->AV} {e:bL->AV} {m:AM}
def ak.zq{cs:List AV}{vs:List Value}(h:ak w γ cs vs):aB w γ (.aW cs) (.tuple vs.toArray):=.aW (by simpa using h.1) fun i c v h1 h2=>h.2 i c v h1 (by simpa using h2)
def aB.ux{rt:Rt}{rows:List (List AV)}{v:Value}(h:aB w γ (.sl rt rows) v)(hf:VR rt=true):aB w γ (.sl .full rows) v:=by
 cases h with
 |sl b off sz cv hcap hnil ha hsz hc hr aS=>
  refine .sl b off sz cv hcap hnil ha hsz hc hr ?_;cases rt with
  |full=>exact aS
  |nil=>
   show _=_;have:=hnil aS;omega
  |_=>simp[VR]at hf
def QF{t te:TypeId}{op:BinOp}(hu:P.underlying t=some (.slice te)){p:Option Addr}{n c:Nat}(gq:op=.eql\/op=.neq):(binOp op t (.slice p n c) (.slice none 0 0)).run P w=.ok (.bool (if op=.eql then p.isNone else !p.isNone)) w:=by
 have h:∀d,(Op.equalIn (d+1) t (.slice p n c) (.slice none 0 0)).run P w=.ok p.isNone w:=fun d=>by
  unfold Op.equalIn;cases p<;>simp[run_underlying hu]
 have h':(Op.equal t (.slice p n c) (.slice none 0 0)).run P w=.ok p.isNone w:=h 9999;rcases gq with rfl|rfl<;>simp[binOp,h']
def QG(hm:au N w0 aq γ w B L){op:BinOp}{t te t':TypeId}{x y:Operand}(hu:P.underlying t=some (.slice te))(h1:aB w γ (e (aA x)) (a.eval x))(hc:(rop P gl orc e m dst (mD op x y)).1):
  Step N w0 aq P ⟨dst,.binOp op t x y t',ty,pos,after,guard⟩ a γ w B L (rop P gl orc e m dst (mD op x y)).2:=by
 have key:∀neg:Bool,(op=.eql/\neg=false\/op=.neq/\neg=true)->y=.const (.slice none 0 0)->(rop P gl orc e m dst (.nilS neg (aA x))).1->Step N w0 aq P ⟨dst,.binOp op t x y t',ty,pos,after,guard⟩ a γ w B L (rop P gl orc e m dst (.nilS neg (aA x))).2:=by
  clear hc;intro neg gq hy hc;subst hy;have alC:op=.eql\/op=.neq:=gq.imp And.left And.left
  have run:∀p n c,a.eval x=.slice p n c->(execOp a.eval ⟨dst,.binOp op t x (.const (.slice none 0 0)) t',ty,pos,after,guard⟩).run P w=.ok (.value (.bool (if neg then !p.isNone else p.isNone))) w:=fun p n c hv=>by
   have:=QF (P:=P) (w:=w) (op:=op) hu (p:=p) (n:=n) (c:=c) alC;have J6:a.eval (.const (.slice none 0 0))=.slice none 0 0:=rfl;rcases gq with⟨rfl,rfl⟩|⟨rfl,rfl⟩<;>simp at this<;>simp[execOp,hv,J6,eqGuard,this]
  simp only[rop]at hc |-
  split at hc
  ·rename_i rows e1;rw[e1]at h1;obtain⟨a',cap,b,off,sz,cv,hv,_,aS⟩:=h1.b9;have:a'=none:=aS;subst this;refine Qr hm (run _ _ _ hv) ?_;cases neg<;>exact .bool _
  ·rename_i rows e1;rw[e1]at h1;obtain⟨a',cap,b,off,sz,cv,hv,_,aS⟩:=h1.b9;have:a'≠none:=aS;refine Qr hm (run _ _ _ hv) ?_;cases a' with
   |none=>exact absurd rfl this
   |some a'=>cases neg<;>exact .bool _
  ·rename_i rt row rows qM nA e1;rw[e1]at h1;obtain⟨a',cap,b,off,sz,cv,hv,s1,aS⟩:=h1.b9;have:=(s1.at_ (by simp)).1;subst this;refine Qr hm (run _ _ _ hv) ?_;cases neg<;>exact .bool _
  ·rename_i id off len sz e1;rw[e1]at h1;obtain⟨b,cap,arr,J3,hb,hv,_⟩:=h1.cM;refine Qr hm (run _ _ _ hv) ?_;cases neg<;>exact .bool _
  exact hc.elim
 unfold mD at hc |-
 split at hc
 ·exact key false (.inl ⟨rfl,rfl⟩) rfl hc
 ·exact key true (.inr ⟨rfl,rfl⟩) rfl hc
 exact hc.elim
def V5{v:Value}(h:aB w γ (.nilv true) v):v=.pointer none:=by cases h;rfl
def J7{t te:TypeId}{op:BinOp}(hu:P.underlying t=some (.pointer te)){p:Option Addr}(gq:op=.eql\/op=.neq):(binOp op t (.pointer p) (.pointer none)).run P w=.ok (.bool (if op=.eql then p.isNone else !p.isNone)) w:=by
 have h:∀d,(Op.equalIn (d+1) t (.pointer p) (.pointer none)).run P w=.ok p.isNone w:=fun d=>by
  unfold Op.equalIn;cases p<;>simp[run_underlying hu]
 have h':(Op.equal t (.pointer p) (.pointer none)).run P w=.ok p.isNone w:=h 9999;rcases gq with rfl|rfl<;>simp[binOp,h']
def QH(hm:au N w0 aq γ w B L){op:BinOp}{t te t':TypeId}{x y:Operand}(hu:P.underlying t=some (.pointer te))(h1:aB w γ (e (aA x)) (a.eval x))(hc:(rop P gl orc e m dst (Qcr op x y)).1):
  Step N w0 aq P ⟨dst,.binOp op t x y t',ty,pos,after,guard⟩ a γ w B L (rop P gl orc e m dst (Qcr op x y)).2:=by
 have key:∀neg:Bool,(op=.eql/\neg=false\/op=.neq/\neg=true)->y=.const (.pointer none)->(rop P gl orc e m dst (.nilP neg (aA x))).1->Step N w0 aq P ⟨dst,.binOp op t x y t',ty,pos,after,guard⟩ a γ w B L (rop P gl orc e m dst (.nilP neg (aA x))).2:=by
  clear hc;intro neg gq hy hc;subst hy;have alC:op=.eql\/op=.neq:=gq.imp And.left And.left
  have run:∀p,a.eval x=.pointer p->(execOp a.eval ⟨dst,.binOp op t x (.const (.pointer none)) t',ty,pos,after,guard⟩).run P w=.ok (.value (.bool (if neg then !p.isNone else p.isNone))) w:=fun p hv=>by
   have:=J7 (P:=P) (w:=w) (op:=op) hu (p:=p) alC;have J6:a.eval (.const (.pointer none))=.pointer none:=rfl;rcases gq with⟨rfl,rfl⟩|⟨rfl,rfl⟩<;>simp at this<;>simp[execOp,hv,J6,eqGuard,this]
  simp only[rop]at hc |-
  split at hc
  ·rename_i id o e1;rw[e1]at h1;obtain⟨b,hb,hv⟩:=h1.dK;refine Qr hm (run _ hv) ?_;cases neg<;>exact .bool _
  ·rename_i row o e1;rw[e1]at h1;obtain⟨b,off,cv,hv,_⟩:=h1.jc;refine Qr hm (run _ hv) ?_;cases neg<;>exact .bool _
  ·rename_i e1;rw[e1]at h1;have hv:a.eval x=.pointer none:=V5 h1;refine Qr hm (run _ hv) ?_;cases neg<;>exact .bool _
  exact hc.elim
 unfold Qcr at hc |-
 split at hc
 ·exact key false (.inl ⟨rfl,rfl⟩) rfl hc
 ·exact key true (.inr ⟨rfl,rfl⟩) rfl hc
 exact hc.elim
def vU:∀{rows:List (List AV)}{l:List UInt8},Wm rows=some l->∃ns:List Int,rows=ns.map (fun n=>[.int .u8 n])/\l=ns.map fun n=>UInt8.ofNat n.toNat
 |[],l,h=>⟨[],rfl,by simpa[Wm]using h.symm⟩
 |row::rows,l,h=>by
  simp only[Wm]at h;cases hb:byteOf row with
  |none=>simp[hb]at h
  |some x=>
   cases hr:Wm rows with
   |none=>simp[hb,hr]at h
   |some l'=>
    simp[hb,hr]at h;obtain⟨ns,h1,h2⟩:=vU hr;unfold byteOf at hb;split at hb
    ·rename_i n;simp at hb;exact⟨n::ns,by simp[h1],by simp[<- h,h2,hb]⟩
    cases hb
def vV(ns:List Int):∀s:ByteArray,ns.foldl (fun r n=>r.push (UInt8.ofNat n.toNat)) s=⟨s.data++(ns.map fun n=>UInt8.ofNat n.toNat).toArray⟩:=by
 induction ns with
 |nil=>intro s;simp
 |cons n ns ih=>intro s;rw[zzd,ih];simp[ByteArray.push]
def V6(hm:au N w0 aq γ w B L){s d te:TypeId}{x:Operand}(hs:P.underlying s=some (.slice te))(hd:P.underlying d=some .string)(ht:P.underlying te=some (.int .u8))(h1:aB w γ (e (aA x)) (a.eval x))(qs:∃rt rows,e (aA x)=.sl rt rows)(hc:(rop P gl orc e m dst (.b2s (aA x))).1):
  Step N w0 aq P ⟨dst,.convert s d x,ty,pos,after,guard⟩ a γ w B L (rop P gl orc e m dst (.b2s (aA x))).2:=by
 simp only[rop]at hc |-
 split at hc
 case h_3=>exact hc.elim
 case h_2=>
  rename_i e1;obtain⟨rt,rows,e2⟩:=qs;rw[e2]at e1;cases e1
 rename_i rt rows e1;rw[e1]at h1;try simp only[e1]
 split at hc
 case h_2=>exact hc.elim
 rename_i l hl;try simp only[hl]
 obtain⟨ns,rfl,rfl⟩:=vU hl;obtain⟨p,cap,b,off,sz,cv,hv,s1,_⟩:=h1.b9;cases p with
 |none=>
  have h0:ns=[]:=by
   have:=s1.hnil rfl;have h2:=s1.hcap;simp at h2;exact zzav (by omega)
  subst h0;refine Qr hm (v:=.string ⟨#[]⟩) ?_ (.str _);simp[execOp,hv,convert,run_underlying hs,run_underlying hd,run_underlying ht,Conv.bytesToString];rfl
 |some p=>
  have V7:(loadCells p ns.length).run P w=.ok (ns.map (Value.int .u8)).toArray w:=by
   have:=run_loadCells_list (P:=P) (w:=w) p (ns.map (Value.int .u8)) fun j v hj=>?_
   ·simpa using this
   simp at hj;obtain⟨n,hn,rfl⟩:=hj;have aK:ns.map (fun n=>[AV.int .u8 n])≠[]:=by rintro h;simp at h;subst h;simp at hn
   obtain⟨e2,_⟩:=s1.at_ aK;cases e2
   have avY:sz=1:=by
    cases ns with
    |nil=>simp at hn
    |cons n' ns=>have:=s1.hsz [.int .u8 n'] (by simp);simpa using this.symm
   subst avY;have oz:Qt (ns.map fun n=>[AV.int .u8 n]) j 0=some (.int .u8 n):=by simp[Qt,hn]
   have c1:=(s1.cell j 0 _ oz).1;have c2:=(s1.rep j 0 _ oz).aG;rw[bw];rw[c2]at c1;simpa using c1
  refine Qr hm (v:=.string ⟨(ns.map fun n=>UInt8.ofNat n.toNat).toArray⟩) ?_ (.str _);have aZ:=run_bytesToString w p ns.length cap ns V7;rw[vV]at aZ
  have:(⟨ByteArray.empty.data++(ns.map fun n=>UInt8.ofNat n.toNat).toArray⟩:ByteArray)=⟨(ns.map fun n=>UInt8.ofNat n.toNat).toArray⟩:=by
   have:ByteArray.empty.data=#[]:=rfl;rw[this];simp
  rw[this]at aZ;simp[execOp,hv,convert,run_underlying hs,run_underlying hd,run_underlying ht,aZ]
end
open Go Go.RowKit
section
variable {N:Nat} {w0:iy} {aq:Nat->Nat->Prop} {γ:G} {w:World} {B:Nat->Option (List AV)} {L:Nat->Option Nat} {P:Program} {o:Oper} {a:Act} {r:AV}
variable {dst:Option Tmp} {ty:TypeId} {pos:String} {after:Array Edge} {guard:Option (Nat×Bool)} {gl:Nat->AV} {orc:Nat->FuncId->List AV->AV} {e:bL->AV} {m:AM}
def nB{t:TypeId}{k:Nat}(h:ET P t=some k):(P.underlying t=some .bool/\k=0)\/(∃i,P.underlying t=some (.int i)/\k=1)\/(P.underlying t=some .string/\k=2):=by
 unfold ET at h;split at h
 ·cases h;exact .inl ⟨by assumption,rfl⟩
 ·cases h;exact .inr (.inl ⟨_,by assumption,rfl⟩)
 ·cases h;exact .inr (.inr ⟨by assumption,rfl⟩)
 cases h
def aey{t:TypeId}{k d:Nat}(hk:ET P t=some k){x y:AV}{u v:Value}(hx:aB w γ x u)(hy:aB w γ y v)(hf:kindF k x y=true):(Op.equalIn (d+1) t u v).run P w=.ok (eqF x y) w:=by
 rcases nB hk with⟨hu,rfl⟩|⟨i,hu,rfl⟩|⟨hu,rfl⟩
 ·cases x<;>cases y<;>simp[kindF]at hf;rw[hx.bA,hy.bA];exact run_equalIn_bool' w d t _ _ hu
 ·cases x<;>cases y<;>simp[kindF]at hf;subst hf;rw[hx.aG,hy.aG];exact run_equalIn_int w d t _ _ _ _ hu
 cases x<;>cases y<;>simp[kindF]at hf;rw[hx.cq,hy.cq];exact run_equalIn_string w d t _ _ hu
def vW{t:TypeId}{k i:Nat}(hk:ET P t=some k){xs:Array Value}{v:Value}(h:xs[i]?=some v):(part t xs i).run P w=.ok v w:=by
 rcases nB hk with⟨hu,_⟩|⟨_,hu,_⟩|⟨hu,_⟩<;>simp[part,isAgg,run_underlying hu,h]
def vX{d:Nat}{xs ys:Array Value}:∀(fs:List Field)(i:Nat)(ks:List Nat)(as bs:List AV),Tb P fs i=some ks->Qcv ks as bs=true->
  (∀(j:Nat)(c:AV),as[j]?=some c->∃v,xs[i+j]?=some v/\aB w γ c v)->(∀(j:Nat)(c:AV),bs[j]?=some c->∃v,ys[i+j]?=some v/\aB w γ c v)->
  (Op.eqFields (d+1) xs ys fs).run P w=.ok (eqFs as bs) w
 |[],i,ks,as,bs,hk,hf,_,_=>by
  cases hk;cases as<;>cases bs<;>simp[Qcv]at hf;simp[Op.eqFields,eqFs]
 |f::fs,i,ks,as,bs,hk,hf,hx,hy=>by
  simp only[Tb]at hk;split at hk
  case h_2=>cases hk
  rename_i k ks' h0 h1 h2;cases hk;simp only[zzak,beq_iff_eq,bne_iff_ne]at h0;cases as with
  |nil=>cases bs<;>simp[Qcv]at hf
  |cons c as=>
   cases bs with
   |nil=>simp[Qcv]at hf
   |cons c' bs=>
    simp only[Qcv,zzak]at hf;obtain⟨u,hu1,J8⟩:=hx 0 c rfl;obtain⟨v,hv1,uy⟩:=hy 0 c' rfl;have ih:=vX (d:=d) (xs:=xs) (ys:=ys) fs (i+1) ks' as bs h2 hf.2 (fun j c hj=>by have:=hx (j+1) c (by simpa using hj);rwa [show i+1+j=i+(j+1) by omega]) (fun j c hj=>by have:=hy (j+1) c (by simpa using hj);rwa [show i+1+j=i+(j+1) by omega]);have p1:=vW (w:=w) h1 hu1;have p2:=vW (w:=w) h1 hv1;have p3:=aey (d:=d) h1 J8 uy hf.1;simp only[zzco]at p1 p2;simp only[Op.eqFields,ne_eq,h0.2,not_false_eq_true,if_true,Sem.run_bind,h0.1,p1,p2,p3,Result.andThen_ok,Sem.run_ite];cases hc:eqF c c'<;>simp[eqFs,hc,ih]
def V9(hm:au N w0 aq γ w B L){op:BinOp}{t t':TypeId}{fs:Array Field}{x y:Operand}(hu:P.underlying t=some (.struct fs))(h1:aB w γ (e (aA x)) (a.eval x))(h2:aB w γ (e (aA y)) (a.eval y))
  (hc:(rop P gl orc e m dst (zl P t fs.toList op x y)).1):
  Step N w0 aq P ⟨dst,.binOp op t x y t',ty,pos,after,guard⟩ a γ w B L (rop P gl orc e m dst (zl P t fs.toList op x y)).2:=by
 have main:∀(neg:Bool)(ks:List Nat),Tb P fs.toList 0=some ks->(P.stoodInHeld t||P.eqGuardType P.depth t)=false->(op=if neg then .neq else .eql)->(rop P gl orc e m dst (.eqA neg ks (aA x) (aA y))).1->
   Step N w0 aq P ⟨dst,.binOp op t x y t',ty,pos,after,guard⟩ a γ w B L (rop P gl orc e m dst (.eqA neg ks (aA x) (aA y))).2:=by
  clear hc;intro neg ks hk hg gq hc;simp only[rop]at hc |-
  split at hc
  case h_2=>exact hc.elim
  rename_i xs ys e1 e2;rw[e1]at h1;rw[e2]at h2;try simp only[e1,e2]
  obtain⟨ax,hv1,r1⟩:=h1.gH;obtain⟨ay,uy,r2⟩:=h2.gH;simp only[zzew]at hg;have hf:P.fieldsOf t=fs:=by simp[Program.fieldsOf,hu]
  have cp:∀{cs:List AV}{arr:Array Value},ak w γ cs arr.toList->∀(j:Nat)(c:AV),cs[j]?=some c->∃v,arr[0+j]?=some v/\aB w γ c v:=fun{cs arr}hr j c hj=>by
   have h0:=(zza.1 hj).1;have h3:=hr.1;have ai:j<arr.size:=by simp at h3;omega
   exact⟨arr[j],by simp[ai],hr.2 j c _ hj (by simp[ai])⟩
  have aZ:(Op.equalIn 10000 t (.agg ax) (.agg ay)).run P w=.ok (eqFs xs ys) w:=by
   rw[run_equalIn_struct w 9999 t ax ay (by rw[hf];exact hu) hg.1,hf];exact vX (d:=9998) fs.toList 0 ks xs ys hk hc (cp r1) (cp r2)
  have Wa:=run_eqGuard_agg (P:=P) w op t x y ax ay hg.2;cases neg with
  |false=>
   simp at gq;subst gq;refine Qr hm (v:=.bool (eqFs xs ys)) ?_ (.bool _);simp[execOp,hv1,uy,Wa,run_eql_struct,aZ]
  |true=>
   simp at gq;subst gq;refine Qr hm (v:=.bool (!(eqFs xs ys))) ?_ (.bool _);simp[execOp,hv1,uy,Wa,run_neq_struct,aZ]
 unfold zl at hc |-
 split at hc
 ·rename_i ks h3 h4;exact main false ks h3 h4 rfl hc
 ·rename_i ks h3 h4;exact main true ks h3 h4 rfl hc
 exact hc.elim
def nC{isS:Bool}{len cap:Nat}{lo hi:Option Operand}{l h:Int}(hl:loOf ((lo.map aA).map e)=some l)(hh:hiOf len ((hi.map aA).map e)=some h)(h2:∀y∈lo,aB w γ (e (aA y)) (a.eval y))(h3:∀y∈hi,aB w γ (e (aA y)) (a.eval y))
  (c0:0<=l)(c1:l<=h)(c2:h<=len)(c3:len<=cap):(Instr.sliceBounds isS len cap (lo.map a.eval) (hi.map a.eval) none).run P w=.ok (l.toNat,h.toNat,cap) w:=by
 have k1:lo=none/\l=0\/∃y k,lo=some y/\a.eval y=.int k l:=by
  cases lo with
  |none=>simp[loOf]at hl;exact .inl ⟨rfl,hl.symm⟩
  |some y=>
   have:=h2 y (by simp);simp only[zzcs]at hl;cases he:e (aA y)<;>rw[he]at hl<;>simp[loOf]at hl;subst hl;rw[he]at this;exact .inr ⟨y,_,rfl,this.aG⟩
 have k2:hi=none/\h=len\/∃y k,hi=some y/\a.eval y=.int k h:=by
  cases hi with
  |none=>simp[hiOf]at hh;exact .inl ⟨rfl,hh.symm⟩
  |some y=>
   have:=h3 y (by simp);simp only[zzcs]at hh;cases he:e (aA y)<;>rw[he]at hh<;>simp[hiOf]at hh;subst hh;rw[he]at this;exact .inr ⟨y,_,rfl,this.aG⟩
 have c4:0<=h:=by omega
 have c5:h<=(cap:Int):=by omega
 have c6:l<=(h.toNat:Int):=by omega
 rcases k1 with⟨rfl,rfl⟩|⟨y,k,rfl,hy⟩<;>obtain⟨rfl,rfl⟩|⟨y',k',rfl,hy'⟩:=k2
 ·simp[Instr.sliceBounds]
 ·simp[Instr.sliceBounds,Instr.sliceBound,asIntOf,hy',c4,c5]
 ·simp[Instr.sliceBounds,Instr.sliceBound,asIntOf,hy,c0,c1]
 have c7:¬(max h 0<l):=by omega
 have c8:l<=max h 0:=by omega
 simp[Instr.sliceBounds,Instr.sliceBound,asIntOf,hy,hy',c0,c4,c5,c8]
def oQ{rows:List (List AV)}{l k i j:Nat}{c:AV}(h:Qt ((rows.drop l).take k) i j=some c):Qt rows (l+i) j=some c/\i<k:=by
 unfold Qt at*
 rw[zzbj]at h;split at h
 ·rename_i hi;rw[zzbk]at h;exact⟨h,hi⟩
 simp at h
def Wb(hm:au N w0 aq γ w B L){t te:TypeId}{i:TypeInfo}{x:Operand}{lo hi:Option Operand}(hu:P.underlying t=some (.slice te))(ee:P.info? te=some i)
  (h1:aB w γ (e (aA x)) (a.eval x))(h2:∀y∈lo,aB w γ (e (aA y)) (a.eval y))(h3:∀y∈hi,aB w γ (e (aA y)) (a.eval y))
  (hc:(rop P gl orc e m dst (.slL i.size (aA x) (lo.map aA) (hi.map aA))).1):
  Step N w0 aq P ⟨dst,.slice t x lo hi none,ty,pos,after,guard⟩ a γ w B L (rop P gl orc e m dst (.slL i.size (aA x) (lo.map aA) (hi.map aA))).2:=by
 simp only[rop]at hc |-
 split at hc
 ·rename_i rt rows e1;rw[e1]at h1;try simp only[e1]
  split at hc
  case h_2=>exact hc.elim
  rename_i l h hl hh;try simp only[hl,hh]
  obtain⟨⟨c0,c1,c2⟩,hsz⟩:=hc;obtain⟨p,cap,b,off,sz,cv,hv,s1,_⟩:=h1.b9;replace s1:=s1.fix (sz:=i.size) hsz;have hb:=nC (P:=P) (w:=w) (a:=a) (isS:=true) (cap:=cap) hl hh h2 h3 c0 c1 c2 s1.hcap;have aH:((rows.drop l.toNat).take (h.toNat-l.toNat)).length=h.toNat-l.toNat:=by simp;omega
  have hcap:=s1.hcap;refine Qr hm (v:=.slice (if cap=l.toNat then p else p.map (·.add (l.toNat*i.size))) (h.toNat-l.toNat) (cap-l.toNat)) ?_ ?_
  ·simp[execOp,Instr.sliceAt,Instr.slice,run_underlying hu,hv,hb,sizeOf,typeInfo,ee]
  have main:aB w γ (.sl .ro ((rows.drop l.toNat).take (h.toNat-l.toNat))) (.slice (if cap=l.toNat then p else p.map (·.add (l.toNat*i.size))) ((rows.drop l.toNat).take (h.toNat-l.toNat)).length (cap-l.toNat)):=?_
  ·rw[aH]at main;exact main
  refine .sl b (off+l.toNat*i.size) i.size (fun k j=>cv (l.toNat+k) j) (by rw[aH];omega) (fun hn=>?_) (fun hn=>?_) (fun row hr=>hsz row (zzdp (zzcb hr))) (fun k j c hk=>?_) (fun k j c hk=>?_) trivial
  ·have:p=none:=by
    split at hn
    ·exact hn
    simpa using hn
   have:=s1.hnil this;omega
  ·have aK:rows≠[]:=by rintro rfl;simp at hn
   obtain⟨hp,ai⟩:=s1.at_ aK
   have hlh:l.toNat<h.toNat:=by
    rcases zzaa l.toNat h.toNat with h'|h'
    ·exact h'
    exact absurd (zzav (by rw[aH];omega)) hn
   refine⟨?_,ai⟩;rw[if_neg (by omega),hp];simp[bw]
  ·obtain⟨g1,_⟩:=oQ hk;obtain⟨g2,g3,g4⟩:=s1.cell _ j c g1;rw[zzbp,<- zzam]at g2 g3;exact⟨g2,g3,g4⟩
  obtain⟨g1,_⟩:=oQ hk;exact s1.rep _ j c g1
 ·rename_i id off len gF e1;rw[e1]at h1;try simp only[e1]
  split at hc
  case h_2=>exact hc.elim
  rename_i l h hl hh;try simp only[hl,hh]
  obtain⟨⟨c0,c1,c2⟩,rfl⟩:=hc;obtain⟨b,cap,arr,J3,hβ,hv,bZ,hblk,hs⟩:=h1.cM;have hb:=nC (P:=P) (w:=w) (a:=a) (isS:=true) (cap:=cap) hl hh h2 h3 c0 c1 c2 bZ;refine Qr hm (v:=.slice (if cap=l.toNat then some ⟨b,off,none⟩else(some ⟨b,off,none⟩:Option Addr).map (·.add (l.toNat*i.size))) (h.toNat-l.toNat) (cap-l.toNat)) ?_ ?_
  ·simp[execOp,Instr.sliceAt,Instr.slice,run_underlying hu,hv,hb,sizeOf,typeInfo,ee]
  split
  ·rename_i hor
   have ha:(if cap=l.toNat then some (⟨b,off,none⟩:Addr)else(some ⟨b,off,none⟩:Option Addr).map (·.add (l.toNat*i.size)))=some ⟨b,off+l.toNat*i.size,none⟩:=by
    obtain h'|h':=hor
    ·rw[if_neg (by omega)];simp[bw]
    subst h';split<;>simp[bw]
   rw[ha];refine .bs hβ (by omega) hblk ?_;have:(l.toNat+(cap-l.toNat))*i.size=cap*i.size:=by congr 1;omega
   rw[zzbp]at this;omega
  have hz:h.toNat-l.toNat=0:=by omega
  rw[hz]
  have:aB w γ (.sl .nn []) (.slice (if cap=l.toNat then some (⟨b,off,none⟩:Addr)else(some ⟨b,off,none⟩:Option Addr).map (·.add (l.toNat*i.size))) ([]:List (List AV)).length (cap-l.toNat)):=
   .sl b off i.size (fun _ _=>undef) (zzbz _) (fun hn=>by split at hn<;>simp at hn) (fun hn=>absurd rfl hn) (fun _ h=>by cases h) (fun i j c h=>by simp[Qt]at h) (fun i j c h=>by simp[Qt]at h) (by
    show _≠none;split<;>simp)
  exact this
 exact hc.elim
def vY(hm:au N w0 aq γ w B L)(hB:∀id cells,m.boxes[id]?=some cells->B id=some cells){id b:Nat}(hb:γ.β id=some b){arr:Array Value}{te:TypeId}(hh:w.heap[b]?=some (.cells arr te (0,0))){k:Nat}{c:AV}
  (hk:(m.boxes.getD id [])[k]?=some c):∃u,arr[k]?=some u/\aB w γ c u/\u.oneCell'=true:=by
 cases eD:m.boxes[id]? with
 |none=>simp[List.getD,eD]at hk
 |some cells=>
  have:m.boxes.getD id []=cells:=by simp[List.getD,eD]
  rw[this]at hk;obtain⟨bT,e',g2,g3,g4⟩:=hm.box id cells b (hB id cells eD) hb;rw[hh]at g2;cases g2;have h1:=(zza.1 hk).1;have h2:=g3.1;have cB:k<arr.size:=by simp at h2;omega
  exact⟨arr[k],zzai cB,g3.2 _ c _ hk (by simp[cB]),g4 _ (by simp)⟩
def Wc(hm:au N w0 aq γ w B L)(hB:∀id cells,m.boxes[id]?=some cells->B id=some cells){id b:Nat}(hb:γ.β id=some b){arr:Array Value}{te:TypeId}(hh:w.heap[b]?=some (.cells arr te (0,0))):
  (m.boxes.getD id []).length<=arr.size:=by
 rcases zzcl (m.boxes.getD id []).length with h|h
 ·omega
 obtain⟨u,h1,_⟩:=vY hm hB hb hh (k:=(m.boxes.getD id []).length-1) (zzad (by omega));have:=(zzbw.1 h1).1;omega
def Wf(hm:au N w0 aq γ w B L)(hB:∀id cells,m.boxes[id]?=some cells->B id=some cells){t te:TypeId}{n:Nat}{i:TypeInfo}{x:Operand}{lo hi:Option Operand}(hu:P.underlying t=some (.array n te))(ee:P.info? te=some i)
  (h1:aB w γ (e (aA x)) (a.eval x))(h2:∀y∈lo,aB w γ (e (aA y)) (a.eval y))(h3:∀y∈hi,aB w γ (e (aA y)) (a.eval y))
  (hc:(rop P gl orc e m dst (.slA n i.size (aA x) (lo.map aA) (hi.map aA))).1):
  Step N w0 aq P ⟨dst,.slice t x lo hi none,ty,pos,after,guard⟩ a γ w B L (rop P gl orc e m dst (.slA n i.size (aA x) (lo.map aA) (hi.map aA))).2:=by
 simp only[rop]at hc |-
 split at hc
 case h_2=>exact hc.elim
 rename_i id o' e1;rw[e1]at h1;try simp only[e1]
 split at hc
 case h_2=>exact hc.elim
 rename_i l h hl hh;try simp only[hl,hh]
 obtain⟨⟨c0,c1,c2⟩,cH,aN⟩:=hc;obtain⟨b,hβ,hv⟩:=h1.dK;have eD:m.boxes[id]?=some (m.boxes.getD id []):=by simp[aN]
 obtain⟨arr,J3,hblk,g3,g4⟩:=hm.box id _ b (hB id _ eD) hβ;have bZ:=g3.1;simp only[zzbi]at bZ;have hb:=nC (P:=P) (w:=w) (a:=a) (isS:=false) (cap:=n) hl hh h2 h3 c0 c1 c2 (zzab n);refine Qr hm (v:=.slice (some (if n=l.toNat then⟨b,o',none⟩else⟨b,o'+l.toNat*i.size,none⟩)) (h.toNat-l.toNat) (n-l.toNat)) ?_ ?_
 ·simp[execOp,Instr.sliceAt,Instr.sureAddr,run_underlying hu,hv,hb,sizeOf,typeInfo,ee,bw]
 split
 ·rename_i hor
  have ha:(if n=l.toNat then(⟨b,o',none⟩:Addr)else⟨b,o'+l.toNat*i.size,none⟩)=⟨b,o'+l.toNat*i.size,none⟩:=by
   obtain h'|h':=hor
   ·rw[if_neg (by omega)]
   subst h';split<;>simp
  rw[ha];refine .bs hβ (by omega) hblk ?_;have:(l.toNat+(n-l.toNat))*i.size=n*i.size:=by congr 1;omega
  rw[zzbp]at this;omega
 have hz:h.toNat-l.toNat=0:=by omega
 rw[hz]
 have:aB w γ (.sl .nn []) (.slice (some (if n=l.toNat then⟨b,o',none⟩else⟨b,o'+l.toNat*i.size,none⟩)) ([]:List (List AV)).length (n-l.toNat)):=
  .sl b 0 i.size (fun _ _=>undef) (zzbz _) (fun hn=>by cases hn) (fun hn=>absurd rfl hn) (fun _ h=>by cases h) (fun i j c h=>by simp[Qt]at h) (fun i j c h=>by simp[Qt]at h) (by
   show _≠none;simp)
 exact this
def QI(hm:au N w0 aq γ w B L)(hB:∀id cells,m.boxes[id]?=some cells->B id=some cells){s d te:TypeId}{x:Operand}(hs:P.underlying s=some (.slice te))(hd:P.underlying d=some .string)(ht:P.underlying te=some (.int .u8))
  (h1:aB w γ (e (aA x)) (a.eval x)){id off len sz:Nat}(e1:e (aA x)=.bs id off len sz){l:List UInt8}(hl:Wm (aV 1 len ((m.boxes.getD id []).drop off))=some l):
  Step N w0 aq P ⟨dst,.convert s d x,ty,pos,after,guard⟩ a γ w B L (.str ⟨l.toArray⟩):=by
 rw[e1]at h1;obtain⟨b,cap,arr,J3,hβ,hv,bZ,hblk,_⟩:=h1.cM;obtain⟨ns,eu,rfl⟩:=vU hl;have aH:len=ns.length:=by have:=congrArg List.length eu;simpa[Qej]using this
 have V7:(loadCells ⟨b,off,none⟩ ns.length).run P w=.ok (ns.map (Value.int .u8)).toArray w:=by
  have:=run_loadCells_list (P:=P) (w:=w) ⟨b,off,none⟩ (ns.map (Value.int .u8)) fun j v hj=>?_
  ·simpa using this
  simp at hj;obtain⟨n,hn,rfl⟩:=hj;have oz:Qt (aV 1 len ((m.boxes.getD id []).drop off)) j 0=some (.int .u8 n):=by rw[eu];simp[Qt,hn]
  obtain⟨_,_,h3⟩:=Wp oz;rw[zzbk]at h3;obtain⟨u,h4,h5,_⟩:=vY hm hB hβ hblk h3;rw[h5.aG]at h4;rw[bw,aL hblk];simpa using h4
 refine Qr hm (v:=.string ⟨(ns.map fun n=>UInt8.ofNat n.toNat).toArray⟩) ?_ (.str _);have aZ:=run_bytesToString w ⟨b,off,none⟩ ns.length cap ns V7;rw[vV]at aZ
 have:(⟨ByteArray.empty.data++(ns.map fun n=>UInt8.ofNat n.toNat).toArray⟩:ByteArray)=⟨(ns.map fun n=>UInt8.ofNat n.toNat).toArray⟩:=by
  have:ByteArray.empty.data=#[]:=rfl;rw[this];simp
 rw[this]at aZ;rw[aH]at hv;simp[execOp,hv,convert,run_underlying hs,run_underlying hd,run_underlying ht,aZ]
end
open Go Go.RowKit
section
variable {N:Nat} {w0:iy} {aq:Nat->Nat->Prop} {γ:G} {w:World} {B:Nat->Option (List AV)} {L:Nat->Option Nat} {P:Program} {o:Oper} {a:Act} {r:AV}
variable {dst:Option Tmp} {ty:TypeId} {pos:String} {after:Array Edge} {guard:Option (Nat×Bool)} {gl:Nat->AV} {orc:Nat->FuncId->List AV->AV} {e:bL->AV} {m:AM}
def alD(P:Program)(k:TypeId)(kn:Nat):Prop:=(kn=0/\P.underlying k=some (.int .i64))\/
 (∃fs ks,P.underlying k=some (.struct fs)/\Tb P fs.toList 0=some ks/\(∀x∈ks,x=1)/\fs.size=kn/\kn≠0/\P.stoodInHeld k=false)
def kW{t:TypeId}{kn:Nat}{z:AV}(h:EU P t=some (kn,z)):∃k v i zv,P.underlying t=some (.map k v)/\alD P k kn/\P.info? v=some i/\i.zero=some zv/\z=Av zv:=by
 unfold EU at h;split at h
 case h_2=>cases h
 rename_i k v hu;split at h
 ·rename_i i hk hi;cases hz:i.zero with
  |none=>simp[hz]at h
  |some zv=>simp[hz]at h;obtain⟨rfl,rfl⟩:=h;exact⟨k,v,i,zv,hu,.inl ⟨rfl,hk⟩,hi,hz,rfl⟩
 ·rename_i fs i hk hi;cases IE:Tb P fs.toList 0 with
  |none=>simp[IE]at h
  |some ks=>
   simp only[IE]at h;by_cases hc:(ks.all (·==1)&&(fs.size !=0)&&!(P.stoodInHeld k))=true
   ·rw[if_pos hc]at h;simp only[zzak,zzbh,beq_iff_eq,bne_iff_ne,Bool.not_eq_true']at hc;cases hz:i.zero with
    |none=>rw[hz]at h;cases h
    |some zv=>
     rw[hz]at h;simp only[zzcs,Option.some.injEq,Prod.mk.injEq]at h;obtain⟨rfl,rfl⟩:=h;exact⟨k,v,i,zv,hu,.inr ⟨fs,ks,hk,IE,hc.1.1,rfl,hc.1.2,hc.2⟩,hi,hz,rfl⟩
   rw[if_neg hc]at h;cases h
 cases h
def E3:∀{cs:List AV}{ns:List Int},intsA cs=some ns->cs=ns.map (AV.int .i64)
 |[],ns,h=>by cases h;rfl
 |c::cs,ns,h=>by
  cases c<;>try(simp[intsA]at h;done)
  rename_i k n;cases k<;>try(simp[intsA]at h;done)
  simp only[intsA]at h;split at h
  ·rename_i ns' h';cases h;rw[E3 h'];rfl
  cases h
def Cz{kn:Nat}{av:AV}{ns:List Int}(h:keyA kn av=some ns):av=keyAV kn ns/\ES kn ns:=by
 cases kn with
 |zero=>
  cases av<;>try(simp[keyA]at h;done)
  rename_i k n;cases k<;>try(simp[keyA]at h;done)
  cases h;exact⟨rfl,rfl⟩
 |succ kn=>
  cases av<;>try(simp[keyA]at h;done)
  rename_i cs;simp only[keyA]at h;split at h
  case h_2=>cases h
  rename_i ns' h';split at h
  case isFalse=>cases h
  cases h;exact⟨by rw[E3 h'];rfl,by assumption⟩
def QJ{ns:List Int}:∀{vs:List Value},ak w γ (ns.map (AV.int .i64)) vs->vs=ns.map (Value.int .i64):=by
 induction ns with
 |nil=>intro vs h;exact zzav (by have:=h.1;simpa using this.symm)
 |cons n ns ih=>
  intro vs h;cases vs with
  |nil=>have:=h.1;simp at this
  |cons v vs=>
   have h0:=(h.2 0 (.int .i64 n) v rfl rfl).aG;rw[h0,ih (vs:=vs) ⟨by have:=h.1;simpa using this,fun i a u h1 h2=>h.2 (i+1) a u (by simpa using h1) (by simpa using h2)⟩];rfl
def vZ(w:World)(γ:G):∀ns:List Int,ak w γ (ns.map (AV.int .i64)) (ns.map (Value.int .i64))
 |[]=>ak.nil
 |n::ns=>ak.cons (.int .i64 n) (vZ w γ ns)
def qQ{kn:Nat}{ns:List Int}{v:Value}(hk:ES kn ns)(h:aB w γ (keyAV kn ns) v):v=Yu kn ns:=by
 cases kn with
 |zero=>
  match ns,hk with
  |[n],_=>exact h.aG
 |succ kn=>
  obtain⟨arr,rfl,hr⟩:=aB.gH (cs:=ns.map (AV.int .i64)) h;have:=QJ hr;simp only[Yu];congr 1;apply Array.ext';simpa using this
def AF{kn:Nat}{ns:List Int}(hk:ES kn ns):aB w γ (keyAV kn ns) (Yu kn ns):=by
 cases kn with
 |zero=>
  match ns,hk with
  |[n],_=>exact .int .i64 n
 |succ kn=>
  have:=(vZ w γ ns);exact .agg (by simp) fun i c v h1 h2=>this.2 i c v h1 (by simpa using h2)
def v7:∀{fs:List Field}{i:Nat}{ks:List Nat},Tb P fs i=some ks->ks.length=fs.length
 |[],_,ks,h=>by cases h;rfl
 |f::fs,i,ks,h=>by
  simp only[Tb]at h;split at h
  case h_2=>cases h
  rename_i k ks' h0 h1 h2;cases h;simp[v7 h2]
def si:∀{ks:List Nat}{as bs:List Int},(∀x∈ks,x=1)->as.length=ks.length->bs.length=ks.length->Qcv ks (as.map (AV.int .i64)) (bs.map (AV.int .i64))=true
 |[],[],[],_,_,_=>rfl
 |k::ks,a::as,b::bs,h,h1,h2=>by
  have:=h k (by simp);subst this;simp only[zzay,Qcv,kindF,decide_true,zzdq];exact si (fun x hx=>h x (by simp[hx])) (by simpa using h1) (by simpa using h2)
 |[],_::_,_,_,h,_=>by simp at h
 |[],_,_::_,_,_,h=>by simp at h
 |_::_,[],_,_,h,_=>by simp at h
 |_::_,_,[],_,_,h=>by simp at h
def AG:∀{as bs:List Int},as.length=bs.length->eqFs (as.map (AV.int .i64)) (bs.map (AV.int .i64))=decide (as=bs)
 |[],[],_=>rfl
 |a::as,b::bs,h=>by
  simp only[zzay,eqFs,eqF,AG (as:=as) (bs:=bs) (by simpa using h)];by_cases h1:a=b<;>by_cases h2:as=bs<;>simp[h1,h2]
 |[],_::_,h=>by simp at h
 |_::_,[],h=>by simp at h
def QK{k:TypeId}{kn:Nat}{fs:Array Field}{ks:List Nat}(hu:P.underlying k=some (.struct fs))(hk:Tb P fs.toList 0=some ks)(h1:∀x∈ks,x=1)(hs:fs.size=kn)(hg:P.stoodInHeld k=false){as bs:List Int}(ha:as.length=kn)(hb:bs.length=kn):
  (Op.equal k (.agg (as.map (Value.int .i64)).toArray) (.agg (bs.map (Value.int .i64)).toArray)).run P w=.ok (decide (as=bs)) w:=by
 have hf:P.fieldsOf k=fs:=by simp[Program.fieldsOf,hu]
 have hl:=v7 hk;simp only[zzbi]at hl;show(Op.equalIn 10000 k _ _).run P w=_;rw[run_equalIn_struct w 9999 k _ _ (by rw[hf];exact hu) hg,hf];rw[vX (w:=w) (γ:=G0 fun _ _=>False) (d:=9998) fs.toList 0 ks (as.map (AV.int .i64)) (bs.map (AV.int .i64)) hk (si h1 (by omega) (by omega)) ?_ ?_,AG (by omega)]
 ·intro j c hj;simp at hj;obtain⟨n,hn,rfl⟩:=hj;exact⟨.int .i64 n,by simp[hn],.int .i64 n⟩
 intro j c hj;simp at hj;obtain⟨n,hn,rfl⟩:=hj;exact⟨.int .i64 n,by simp[hn],.int .i64 n⟩
def Wg{n:Int}:∀{kvs:List (List Int×AV)}{es:List MapEntry}(i:Nat),kvs.length=es.length->(∀(j:Nat)(k:List Int)(c:AV)(x:MapEntry),kvs[j]?=some (k,c)->es[j]?=some x->ES 0 k/\x.key=Yu 0 k/\aB w γ c x.val)->
  (Xk [n] kvs i=none->Instr.findNow (.int .i64) (.int .i64 n) es i=some none)/\
  (∀j c,Xk [n] kvs i=some (j,c)->∃v,Instr.findNow (.int .i64) (.int .i64 n) es i=some (some (j,v))/\aB w γ c v/\i<=j/\j<i+kvs.length/\kvs[j-i]?=some ([n],c))
 |[],[],i,_,_=>⟨fun _=>rfl,fun j c h=>by cases h⟩
 |[],_::_,_,h,_=>by simp at h
 |_::_,[],_,h,_=>by simp at h
 |(k,c)::kvs,x::es,i,hl,hk=>by
  obtain⟨g0,g1,g2⟩:=hk 0 k c x rfl rfl;obtain⟨ih1,ih2⟩:=Wg (n:=n) (kvs:=kvs) (es:=es) (i+1) (by simpa using hl) fun j k' c' x' q1 q2=>hk (j+1) k' c' x' (by simpa using q1) (by simpa using q2)
  match k,g0 with
  |[k],_=>
   simp only[Yu]at g1;by_cases hnk:n=k
   ·subst hnk;have hf:Instr.findNow (.int .i64) (.int .i64 n) (x::es) i=some (some (i,x.val)):=by simp[Instr.findNow,Instr.sameNow,g1]
    refine⟨fun h=>by simp[Xk]at h,fun j c' h=>?_⟩;simp[Xk]at h;obtain⟨rfl,rfl⟩:=h;exact⟨x.val,hf,g2,zzab _,by simp,by simp⟩
   have avZ:(n==k)=false:=by simpa using hnk
   have hf:Instr.findNow (.int .i64) (.int .i64 n) (x::es) i=Instr.findNow (.int .i64) (.int .i64 n) es (i+1):=by simp[Instr.findNow,Instr.sameNow,g1,avZ]
   rw[hf];have av0:¬[n]=[k]:=by simpa using hnk
   simp only[Xk,if_neg av0];refine⟨ih1,fun j c' h=>?_⟩;obtain⟨v,q1,q2,q3,q4,q5⟩:=ih2 j c' h;refine⟨v,q1,q2,by omega,by simp;omega,?_⟩;rw[show j-i=(j-(i+1))+1 by omega];simpa using q5
def Wr{kt:TypeId}{kn:Nat}{n:List Int}(N4:∀k',ES kn k'->(Op.equal kt (Yu kn n) (Yu kn k')).run P w=.ok (decide (n=k')) w):∀{kvs:List (List Int×AV)}{es:List MapEntry}(i:Nat),kvs.length=es.length->
  (∀(j:Nat)(k:List Int)(c:AV)(x:MapEntry),kvs[j]?=some (k,c)->es[j]?=some x->ES kn k/\x.key=Yu kn k/\aB w γ c x.val)->
  (Xk n kvs i=none->(Instr.findAsking kt (Yu kn n) es i).run P w=.ok none w)/\
  (∀j c,Xk n kvs i=some (j,c)->∃v,(Instr.findAsking kt (Yu kn n) es i).run P w=.ok (some (j,v)) w/\aB w γ c v/\i<=j/\j<i+kvs.length/\kvs[j-i]?=some (n,c))
 |[],[],i,_,_=>⟨fun _=>by simp[Instr.findAsking],fun j c h=>by cases h⟩
 |[],_::_,_,h,_=>by simp at h
 |_::_,[],_,h,_=>by simp at h
 |(k,c)::kvs,x::es,i,hl,hk=>by
  obtain⟨g0,g1,g2⟩:=hk 0 k c x rfl rfl;obtain⟨ih1,ih2⟩:=Wr N4 (kvs:=kvs) (es:=es) (i+1) (by simpa using hl) fun j k' c' x' q1 q2=>hk (j+1) k' c' x' (by simpa using q1) (by simpa using q2);have hq:=N4 k g0;rw[<- g1]at hq;by_cases hnk:n=k
  ·subst hnk;simp only[decide_true]at hq;have hf:(Instr.findAsking kt (Yu kn n) (x::es) i).run P w=.ok (some (i,x.val)) w:=by simp[Instr.findAsking,hq]
   refine⟨fun h=>by simp[Xk]at h,fun j c' h=>?_⟩;simp[Xk]at h;obtain⟨rfl,rfl⟩:=h;exact⟨x.val,hf,g2,zzab _,by simp,by simp⟩
  simp only[hnk,decide_false]at hq;have hf:(Instr.findAsking kt (Yu kn n) (x::es) i).run P w=(Instr.findAsking kt (Yu kn n) es (i+1)).run P w:=by simp[Instr.findAsking,hq]
  rw[hf];simp only[Xk,if_neg hnk];refine⟨ih1,fun j c' h=>?_⟩;obtain⟨v,q1,q2,q3,q4,q5⟩:=ih2 j c' h;refine⟨v,q1,q2,by omega,by simp;omega,?_⟩;rw[show j-i=(j-(i+1))+1 by omega];simpa using q5
def CA{kt:TypeId}{kn:Nat}{n:List Int}(hkt:alD P kt kn)(hn:ES kn n){kvs:List (List Int×AV)}{es:List MapEntry}(hl:kvs.length=es.length)
  (hk:∀(j:Nat)(k:List Int)(c:AV)(x:MapEntry),kvs[j]?=some (k,c)->es[j]?=some x->ES kn k/\x.key=Yu kn k/\aB w γ c x.val):
  (Xk n kvs 0=none->(Instr.findKey kt (Yu kn n) es).run P w=.ok none w)/\
  (∀j c,Xk n kvs 0=some (j,c)->∃v,(Instr.findKey kt (Yu kn n) es).run P w=.ok (some (j,v)) w/\aB w γ c v/\j<kvs.length/\kvs[j]?=some (n,c)):=by
 obtain⟨rfl,hu⟩|⟨fs,ks,hu,IE,h1,hs,h0,hg⟩:=hkt
 ·match n,hn with
  |[n],_=>
   obtain⟨f1,f2⟩:=Wg (w:=w) (γ:=γ) (n:=n) 0 hl hk;refine⟨fun h=>MapKept.run_findKey hu (f1 h),fun j c h=>?_⟩;obtain⟨v,q1,q2,_,q4,q5⟩:=f2 j c h;exact⟨v,MapKept.run_findKey hu q1,q2,by omega,by simpa using q5⟩
 cases kn with
 |zero=>exact absurd rfl h0
 |succ kn=>
  obtain⟨f1,f2⟩:=Wr (w:=w) (γ:=γ) (P:=P) (kt:=kt) (n:=n) (kn:=kn+1) (fun k' zn=>QK hu IE h1 hs hg hn zn) 0 hl hk;have e1:(Instr.findKey kt (Yu (kn+1) n) es).run P w=(Instr.findAsking kt (Yu (kn+1) n) es).run P w:=run_findKey_eq w (by simp[hu]) _ _;rw[e1];refine⟨f1,fun j c h=>?_⟩;obtain⟨v,q1,q2,_,q4,q5⟩:=f2 j c h;exact⟨v,q1,q2,by omega,by simpa using q5⟩
def run_checkKey{b:Bool}{k:TypeId}{kn:Nat}{n:List Int}(hk:alD P k kn)(hn:ES kn n):(Instr.checkKey b 10000 k (Yu kn n)).run P w=.ok () w:=by
 obtain⟨rfl,hu⟩|⟨fs,ks,hu,IE,h1,hs,h0,hg⟩:=hk
 ·match n,hn with
  |[n],_=>
   have h:∀d,(Instr.checkKey b (d+1) k (.int .i64 n)).run P w=.ok () w:=fun d=>by
    unfold Instr.checkKey;simp[run_underlying hu]
   exact h 9999
 cases kn with
 |zero=>exact absurd rfl h0
 |succ kn=>
  have h:∀d,(Instr.checkKey b (d+1+1) k (.agg (n.map (Value.int .i64)).toArray)).run P w=.ok () w:=fun d=>by
   rw[Instr.checkKey];simp only[Sem.run_bind,run_underlying hu,Result.andThen_ok];rw[<- Array.forIn_toList];have sj:n.length=kn+1:=hn
   have ha:∀j,0<=j->j<0+fs.toList.length->∃n',(n.map (Value.int .i64)).toArray[j]?=some (.int .i64 n'):=fun j _ hj=>by
    simp at hj;exact⟨n[j]'(by omega),by simp[show j<n.length by omega]⟩
   generalize(n.map (Value.int .i64)).toArray=arr at ha;generalize fs.toList=Lf at IE ha;generalize(0:Nat)=i0 at IE ha;clear hs hu sj hn h0 hg;induction Lf generalizing i0 ks with
   |nil=>simp
   |cons f Lf ih=>
    simp only[Tb]at IE;split at IE
    case h_2=>cases IE
    rename_i k' ks' h0 cQ cV;cases IE;simp only[zzak,beq_iff_eq,bne_iff_ne]at h0;have ih:=ih ks' (fun x hx=>h1 x (by simp[hx])) (i0+1) cV fun j dU qo=>ha j (by omega) (by simp;omega);obtain⟨n',sj⟩:=ha i0 (zzab _) (by simp);have hp:=vW (P:=P) (w:=w) cQ sj
    have hc:(Instr.checkKey b (d+1) f.type (.int .i64 n')).run P w=.ok () w:=by
     rcases nB cQ with⟨hu,_⟩|⟨_,hu,_⟩|⟨hu,_⟩<;>simp[Instr.checkKey,run_underlying hu]
    simp only[List.forIn_cons,Sem.run_bind,h0.2,ne_eq,not_false_eq_true,if_true,h0.1,hp,hc,Result.andThen_ok,Sem.run_pure];exact ih
  exact h 9998
def oR{α:Type}:∀{l:List α}{x y:α},(x,y)∈l.zip l->x=y/\x∈l
 |[],_,_,h=>by simp at h
 |a::l,x,y,h=>by
  rw[zzdg]at h;rcases zzaw.1 h with h|h
  ·cases h;exact⟨rfl,by simp⟩
  obtain⟨h1,h2⟩:=oR h;exact⟨h1,by simp[h2]⟩
def zu(d:Nat)(n:List Int):Instr.sameBits (d+1+1) (.agg (n.map (Value.int .i64)).toArray) (.agg (n.map (Value.int .i64)).toArray)=true:=by
 simp only[Instr.sameBits,beq_self_eq_true,zzdq,zzbh];rintro⟨x,y⟩ hxy
 have h:x=y/\x∈n.map (Value.int .i64):=by
  try simp only[List.toList_toArray]at hxy
  exact oR hxy
 obtain⟨rfl,h2⟩:=h;obtain⟨k,_,rfl⟩:=zzbc.1 h2;simp[Instr.sameBits]
def oS{old new:Value}{kn:Nat}{n:List Int}(hn:ES kn n)(h1:old=Yu kn n)(h2:new=Yu kn n):(Instr.keyThatStays old new).run P w=.ok new w:=by
 subst h1;subst h2;cases kn with
 |zero=>
  match n,hn with
  |[n],_=>simp[Instr.keyThatStays,Instr.sameBits,Yu]
 |succ kn=>
  have:=zu 9998 n;simp[Instr.keyThatStays,Yu,this]
def au.ji(hm:au N w0 aq γ w B L){id kn:Nat}{kvs:List (List Int×AV)}{v:Value}(h1:aB w γ (.mp id) v)(hB:B id=some [.aJ kn kvs]):
  ∃b es,γ.mm id=some b/\v=.map (some b)/\w.heap[b]?=some (.map es es.size)/\kvs.length=es.size/\
   ∀(i:Nat)(k:List Int)(a:AV)(e:MapEntry),kvs[i]?=some (k,a)->es[i]?=some e->ES kn k/\e.key=Yu kn k/\e.born=i/\aB w γ a e.val:=by
 cases h1 with
 |mp h=>
  rename_i b;obtain⟨_,_,_,_,_,_,_,a,o,q1,q2,q3⟩:=hm.mm id b h;rw[hB]at q1;cases q1;cases o<;>try exact q3.elim
  rename_i es clock;obtain⟨rfl,q4,q5⟩:=q3;exact⟨b,es,h,rfl,q2,q4,q5⟩
def au.N5(hm:au N w0 aq γ w B L){id mid n:Nat}{seen:List Nat}{v:Value}(h1:aB w γ (.it id) v)(hB:B id=some [.mitr mid n seen]):
  ∃b mb,γ.mm id=some b/\v=.pointer (some ⟨b,0,none⟩)/\w.heap[b]?=some (.mapIter (some mb) n seen.toArray n)/\γ.mm mid=some mb:=by
 cases h1 with
 |it h=>
  rename_i b;obtain⟨_,_,_,_,_,_,_,a,o,q1,q2,q3⟩:=hm.mm id b h;rw[hB]at q1;cases q1;cases o<;>try exact q3.elim
  rename_i mp NZ sn st;cases mp<;>try exact q3.elim
  rename_i mb;obtain⟨q4,rfl,rfl,rfl⟩:=q3;exact⟨b,mb,h,rfl,by simpa using q2,q4⟩
def Qep{kn:Nat}{kvs:List (List Int×AV)}{es:Array MapEntry}(hl:kvs.length=es.size)(hk:∀(i:Nat)(k:List Int)(a:AV)(e:MapEntry),kvs[i]?=some (k,a)->es[i]?=some e->ES kn k/\e.key=Yu kn k/\e.born=i/\aB w γ a e.val){i:Nat}(hi:i<es.size):es[i].born=i:=by
 have:=hk i (kvs[i]'(by omega)).1 (kvs[i]'(by omega)).2 es[i] (by simp[show i<kvs.length by omega]) (by simp[hi]);exact this.2.2.1
def v8{id:Nat}{x:AV}(hB:∀id cells,m.boxes[id]?=some cells->B id=some cells)(h:m.boxes.getD id []=[x]):B id=some [x]:=hB id _ (by
 cases hh:m.boxes[id]? with
 |none=>simp[List.getD,hh]at h
 |some c=>simp[List.getD,hh]at h;rw[h])
def QL(hm:au N w0 aq γ w B L)(hB:∀id cells,m.boxes[id]?=some cells->B id=some cells){t:TypeId}{kn:Nat}{z:AV}{x k:Operand}{ok:Bool}(ht:EU P t=some (kn,z))(h1:aB w γ (e (aA x)) (a.eval x))(h2:aB w γ (e (aA k)) (a.eval k))
  (hc:(rop P gl orc e m dst (.look kn ok z (aA x) (aA k))).1):
  Step N w0 aq P ⟨dst,.lookup t x k ok,ty,pos,after,guard⟩ a γ w B L (rop P gl orc e m dst (.look kn ok z (aA x) (aA k))).2:=by
 simp only[rop]at hc |-
 split at hc
 case h_2=>exact hc.elim
 rename_i id n e1 e2;rw[e1]at h1;obtain⟨e3,hn⟩:=Cz e2;rw[e3]at h2;try simp only[e1,e2]
 split at hc
 case h_2=>exact hc.elim
 rename_i Aw kvs fE;simp only at hc;subst hc;try simp only[fE]
 obtain⟨kt,vt,i,zv,hu,hk,hi,hz,rfl⟩:=kW ht;obtain⟨b,es,hb,hv,q2,q3,q4⟩:=hm.ji h1 (v8 hB fE)
 obtain⟨f1,f2⟩:=CA (w:=w) (γ:=γ) (P:=P) hk hn (kvs:=kvs) (es:=es.toList) (by simpa using q3) fun j k' c x' g1 g2=>by
  obtain⟨p1,p2,_,p3⟩:=q4 j k' c x' g1 (by simpa using g2);exact⟨p1,p2,p3⟩
 have cp:=MapKept.run_getObj_map (P:=P) q2;have gL:∀b,(Instr.checkKey b 10000 kt (Yu Aw n)).run P w=.ok () w:=fun b=>run_checkKey hk hn;have hkv:=qQ hn h2;cases hf:Xk n kvs 0 with
 |none=>
  have QM:=f1 hf
  have aZ:(execOp a.eval ⟨dst,.lookup t x k ok,ty,pos,after,guard⟩).run P w=.ok (.value (if ok then .tuple #[zv,.bool false]else zv)) w:=by
   simp[execOp,Instr.lookup,run_underlying hu,hv,hkv,cp,gL,QM,zeroValue,typeInfo,hi,hz]
  refine Qr hm aZ ?_;cases ok
  ·exact Kb w γ zv
  exact(ak.cons (Kb w γ zv) (ak.cons (.bool false) ak.nil)).zq
 |some p=>
  obtain⟨j,c⟩:=p;obtain⟨vv,QM,g2,_⟩:=f2 j c hf
  have aZ:(execOp a.eval ⟨dst,.lookup t x k ok,ty,pos,after,guard⟩).run P w=.ok (.value (if ok then .tuple #[vv,.bool true]else vv)) w:=by
   simp[execOp,Instr.lookup,run_underlying hu,hv,hkv,cp,gL,QM]
  refine Qr hm aZ ?_;cases ok
  ·exact g2
  exact(ak.cons g2 (ak.cons (.bool true) ak.nil)).zq
def QN(hm:au N w0 aq γ w B L)(hB:∀id cells,m.boxes[id]?=some cells->B id=some cells){x:Operand}(h1:aB w γ (e (aA x)) (a.eval x))
  (hc:(rop P gl orc e m dst (.entr (aA x))).1):
  Step N w0 aq P ⟨dst,.entry x,ty,pos,after,guard⟩ a γ w B L (rop P gl orc e m dst (.entr (aA x))).2:=by
 simp only[rop]at hc |-
 split at hc
 case h_2=>exact hc.elim
 rename_i id e1;rw[e1]at h1;try simp only[e1]
 split at hc
 case h_2=>exact hc.elim
 rename_i mid n seen fE;try simp only[fE]
 split at hc
 case h_2=>exact hc.elim
 rename_i kn kvs i eD lU;try simp only[eD,lU]
 obtain⟨D9,bJ⟩:=hc;obtain⟨b,mb,hb,hv,q1,q2⟩:=hm.N5 h1 (v8 hB fE);obtain⟨b',es,cL,CB,q3,q4,q5⟩:=hm.ji (v:=.map (some mb)) (.mp q2) (v8 hB eD);cases CB;have hie:i<es.size:=by omega
 have WA:=Qep q4 q5 hie
 obtain⟨ini,av1⟩:∃ini,seen=ini++[i]:=by
  rw[zzfa]at lU;exact lU
 have aqK:seen.toArray=ini.toArray.push es[i].born:=by rw[WA,av1];simp
 have we:(es.toList.map (·.born)).Nodup:=by
  have:es.toList.map (·.born)=List.range es.size:=by
   apply zzee
   ·simp
   intro j h1 h2;simp at h1;simp[Qep q4 q5 h1]
  rw[this];exact zzdk
 have aZ:=run_entry_at (P:=P) w b mb n ini.toArray es es.size es[i] (by rw[<- aqK,q1];congr 2;omega) q3 (by simp) we;obtain⟨p1,p2,_,p3⟩:=q5 i (kvs[i]'(by omega)).1 (kvs[i]'(by omega)).2 es[i] (by simp[show i<kvs.length by omega]) (by simp[hie]);have Wa:kvs.getD i ([],.junk)=kvs[i]'(by omega):=by simp[List.getD,show i<kvs.length by omega]
 rw[Wa];refine Qr hm (v:=.tuple #[es[i].key,es[i].val]) (by simp[execOp,hv,aZ]) ?_;rw[p2];exact(ak.cons (AF p1) (ak.cons p3 ak.nil)).zq
end
open Go Go.RowKit
section
variable {N:Nat} {w0:iy} {aq:Nat->Nat->Prop} {γ:G} {w:World} {B:Nat->Option (List AV)} {L:Nat->Option Nat} {P:Program} {o:Oper} {a:Act} {r:AV}
variable {dst:Option Tmp} {ty:TypeId} {pos:String} {after:Array Edge} {guard:Option (Nat×Bool)} {gl:Nat->AV} {orc:Nat->FuncId->List AV->AV} {e:bL->AV} {m:AM}
def AH{xs:Array Operand}(h:∀x∈xs,aB w γ (e (aA x)) (a.eval x)):ak w γ ((xs.toList.map aA).map e) (xs.map a.eval).toList:=by
 refine⟨by simp,fun i c v h1 h2=>?_⟩;simp at h1 h2;obtain⟨x,hx,rfl⟩:=h1;obtain⟨x',jf,rfl⟩:=h2;rw[hx]at jf;cases jf;exact h x (zzdc hx)
def Qeb{f:FuncId}{args:Array Value}(h:bC P f):(callFunc f args).run P w=.ok (.enter f args) w:=by
 obtain⟨fn,h1,h2,h3⟩:=h;have Ea:¬fn.body=none:=by intro h;simp[h]at h2
 have h3':¬fn.name= "runtime.NumGoroutine":=by simpa using h3
 simp[callFunc,h1,Ea,h3']
def QO(hm:au N w0 aq γ w B L)(hB:∀id cells,m.boxes[id]?=some cells->B id=some cells)(lT:∀g,aB w γ.dg (gl g) (.pointer (some ⟨g,0,none⟩))){f:Operand}{args:Array Operand}{ts:Array TypeId}
  (h1:aB w γ (e (aA f)) (a.eval f))(h2:∀x∈args,aB w γ (e (aA x)) (a.eval x))(hc:(rop P gl orc e m dst (.call (aA f) (args.toList.map aA))).1):
  Step N w0 aq P ⟨dst,.call ⟨.value f,args,ts⟩,ty,pos,after,guard⟩ a γ w B L (rop P gl orc e m dst (.call (aA f) (args.toList.map aA))).2:=by
 simp only[rop]at hc |-
 split at hc
 case h_2=>exact hc.elim
 rename_i g first cap e1
 try simp only[e1]
 rw[e1]at h1;obtain⟨fa,ca,hv,r1,r2⟩:=h1.qL;have oK:=(r1.append (AH h2)).append r2;generalize orc (dst.getD 0) g ((first++(args.toList.map aA).map e++cap).map (bF m 6))=x at hc
 have aZ:bC P g->(execOp a.eval ⟨dst,.call ⟨.value f,args,ts⟩,ty,pos,after,guard⟩).run P w=.ok (.enter g ((fa.toList++(args.map a.eval).toList++ca.toList).toArray)) w:=fun qt=>by
  simp[execOp,resolve,hv,Deferred.ofValue,invoke,Qeb qt]
 have pure:∀r,(Pure P gl g ((first++(args.toList.map aA).map e++cap).map (bF m 6)) r/\((first++(args.toList.map aA).map e++cap).any (Yk 6)=true->flat r=true))->Step N w0 aq P ⟨dst,.call ⟨.value f,args,ts⟩,ty,pos,after,guard⟩ a γ w B L r:=fun r⟨hp,fK⟩rd next Q hk=>
  EV (aZ hp.1) (JX hm hB lT oK hp fK fun v w' γ' h3 h4 h5=>hk v w' γ' h3 h4 h5)
 cases x with
 |gd b r=>
  intro rd next Q hk
  refine EV (aZ hc.1) ((hc.2 N w0 aq γ w B L _ hm hB lT oK).mono ?_);rintro en w' ⟨v,γ',rfl,h3,h4,h5⟩;exact hk v w' γ' h3 h4 h5
 |_=>exact pure _ hc
def QS(hm:au N w0 aq γ w B L){x:Operand}{t:TypeId}(hu:P.underlying t=some .string)(h1:aB w γ (e (aA x)) (a.eval x))(hc:(rop P gl orc e m dst (.lenS (aA x))).1):
  Step N w0 aq P ⟨dst,.call ⟨.builtin .len,#[x],#[t]⟩,ty,pos,after,guard⟩ a γ w B L (rop P gl orc e m dst (.lenS (aA x))).2:=by
 simp only[rop]at hc |-
 split at hc
 case h_2=>exact hc.elim
 rename_i s e1;rw[e1]at h1;exact Qr hm (v:=.int .i64 s.size) (by simp[execOp,resolve,invoke,builtin,Builtin.len_,run_underlying hu,h1.cq,goInt]) (.int _ _)
def WB(hm:au N w0 aq γ w B L){x:Operand}{t te:TypeId}(hu:P.underlying t=some (.slice te))(h1:aB w γ (e (aA x)) (a.eval x))(hc:(rop P gl orc e m dst (.len (aA x))).1):
  Step N w0 aq P ⟨dst,.call ⟨.builtin .len,#[x],#[t]⟩,ty,pos,after,guard⟩ a γ w B L (rop P gl orc e m dst (.len (aA x))).2:=by
 simp only[rop]at hc |-
 split at hc
 case h_3=>exact hc.elim
 case h_2=>
  rename_i id off len sz e1;rw[e1]at h1;try simp only[e1]
  obtain⟨b,cap,arr,J3,hb,hv,_⟩:=h1.cM;exact Qr hm (v:=.int .i64 len) (by simp[execOp,resolve,invoke,builtin,Builtin.len_,run_underlying hu,hv,goInt]) (.int _ _)
 rename_i rt rows e1;rw[e1]at h1;try simp only[e1]
 obtain⟨a',cap,b,off,sz,cv,hv,_⟩:=h1.b9;exact Qr hm (v:=.int .i64 rows.length) (by simp[execOp,resolve,invoke,builtin,Builtin.len_,run_underlying hu,hv,goInt]) (.int _ _)
def aez(hm:au N w0 aq γ w B L){x y:Operand}{ts:Array TypeId}(h1:aB w γ (e (aA x)) (a.eval x))(h2:aB w γ (e (aA y)) (a.eval y))(hc:(rop P gl orc e m dst (.mn (aA x) (aA y))).1):
  Step N w0 aq P ⟨dst,.call ⟨.builtin .min,#[x,y],ts⟩,ty,pos,after,guard⟩ a γ w B L (rop P gl orc e m dst (.mn (aA x) (aA y))).2:=by
 simp only[rop]at hc |-
 split at hc
 case h_2=>exact hc.elim
 rename_i k p k' q e1 e2;rw[e1]at h1;rw[e2]at h2;exact Qr hm (v:=.int k (if q<p then q else p)) (by simp[execOp,resolve,invoke,builtin,Builtin.min_,Builtin.min2,h1.aG,h2.aG]) (.int _ _)
def aeA(hm:au N w0 aq γ w B L){x y:Operand}{ts:Array TypeId}(h1:aB w γ (e (aA x)) (a.eval x))(h2:aB w γ (e (aA y)) (a.eval y))(hc:(rop P gl orc e m dst (.mx (aA x) (aA y))).1):
  Step N w0 aq P ⟨dst,.call ⟨.builtin .max,#[x,y],ts⟩,ty,pos,after,guard⟩ a γ w B L (rop P gl orc e m dst (.mx (aA x) (aA y))).2:=by
 simp only[rop]at hc |-
 split at hc
 case h_2=>exact hc.elim
 rename_i k p k' q e1 e2;rw[e1]at h1;rw[e2]at h2;exact Qr hm (v:=.int k (if p<q then q else p)) (by simp[execOp,resolve,invoke,builtin,Builtin.max_,Builtin.max2,h1.aG,h2.aG]) (.int _ _)
def E4(hm:au N w0 aq γ w B L){big:Bool}{x y z:Operand}{ts:Array TypeId}(h1:aB w γ (e (aA x)) (a.eval x))(h2:aB w γ (e (aA y)) (a.eval y))(h3:aB w γ (e (aA z)) (a.eval z))(hc:(rop P gl orc e m dst (.mm3 big (aA x) (aA y) (aA z))).1):
  Step N w0 aq P ⟨dst,.call ⟨.builtin (if big=true then .max else .min),#[x,y,z],ts⟩,ty,pos,after,guard⟩ a γ w B L (rop P gl orc e m dst (.mm3 big (aA x) (aA y) (aA z))).2:=by
 simp only[rop]at hc |-
 split at hc
 case h_2=>exact hc.elim
 rename_i k p k' q k'' r e1 e2 e3;rw[e1]at h1;rw[e2]at h2;rw[e3]at h3;cases big
 ·exact Qr hm (v:=.int k (VT false (VT false p q) r)) (by simp[execOp,resolve,invoke,builtin,Builtin.min_,Builtin.min2,h1.aG,h2.aG,h3.aG,VT]) (.int _ _)
 exact Qr hm (v:=.int k (VT true (VT true p q) r)) (by simp[execOp,resolve,invoke,builtin,Builtin.max_,Builtin.max2,h1.aG,h2.aG,h3.aG,VT]) (.int _ _)
def Jw{n b:Nat}(hb:b≠0)(h:(3*n+4000)*b<=562949953421312):n<=9223372036854775807:=by
 have:(3*n+4000)*1<=(3*n+4000)*b:=Nat.mul_le_mul_left _ (Nat.one_le_iff_ne_zero.2 hb);omega
def WC(hm:au N w0 aq γ w B L){s x:Operand}{t te:TypeId}{i:TypeInfo}{z:Value}(hu:P.underlying t=some (.slice te))(hi:P.info? te=some i)(hz:i.zero=some z)(dV:i.bytes≠0)
  (h1:aB w γ (e (aA s)) (a.eval s))(h2:aB w γ (e (aA x)) (a.eval x))(hc:(rop P gl orc e m dst (.app i.size i.bytes (aA s) (aA x))).1):
  Step N w0 aq P ⟨dst,.call ⟨.builtin .append,#[s,x],#[t,t]⟩,ty,pos,after,guard⟩ a γ w B L (rop P gl orc e m dst (.app i.size i.bytes (aA s) (aA x))).2:=by
 simp only[rop]at hc |-
 split at hc
 case h_2=>exact hc.elim
 rename_i rt rows JZ aC e1 e2;rw[e1]at h1;rw[e2]at h2;obtain⟨hfu,hr,cH⟩:=hc;replace h1:=h1.ux hfu;obtain⟨v,w',γ',g1,g2,g3,g4⟩:=alB (ty:=ty) hm hu hi hz h1 h2 hr cH (Jw dV cH);exact AA g3 g2 (by simp[execOp,resolve,invoke,builtin,g1]) g4
def Qde(hm:au N w0 aq γ w B L)(hB:∀id cells,m.boxes[id]?=some cells->B id=some cells)(lT:∀g,aB w γ.dg (gl g) (.pointer (some ⟨g,0,none⟩)))
  (he:∀x∈o.op.operands,aB w γ (e (aA x)) (a.eval x))(hc:(rop P gl orc e m o.dst (tr P o)).1):Step N w0 aq P o a γ w B L (rop P gl orc e m o.dst (tr P o)).2:=by
 obtain⟨dst,op,ty,pos,after,guard⟩:=o;cases op with
 |move x=>exact Qr hm (by simp[execOp]) (he x (by simp[Op.operands]))
 |assign x=>exact Qr hm (by simp[execOp]) (he x (by simp[Op.operands]))
 |pick c x y=>exact P8 hm (he c (by simp[Op.operands])) (he x (by simp[Op.operands])) (he y (by simp[Op.operands])) hc
 |load t x=>exact P9 hm hB (he x (by simp[Op.operands])) hc
 |fieldAddr t x f=>exact J1 hm (he x (by simp[Op.operands])) hc
 |field t x f=>exact VX hm (he x (by simp[Op.operands])) hc
 |indexAddr t x y=>exact J2 hm (he x (by simp[Op.operands])) (he y (by simp[Op.operands])) hc
 |index t x y=>exact QA hm (he x (by simp[Op.operands])) (he y (by simp[Op.operands])) hc
 |binOp op t x y t'=>
  have h1:=he x (by simp[Op.operands]);have h2:=he y (by simp[Op.operands]);simp only[tr]at hc |-
  split at hc
  ·rename_i hu;exact QB hm hu h1 h2 hc
  ·exact EY hm h1 h2 hc
  ·exact EY hm h1 h2 hc
  ·rename_i te hu;exact QG hm hu h1 hc
  ·rename_i te hu;exact QH hm hu h1 hc
  ·rename_i fs hu;exact V9 hm hu h1 h2 hc
  exact hc.elim
 |unOp op t x=>exact aex hm (he x (by simp[Op.operands])) hc
 |convert s d x=>
  have h1:=he x (by simp[Op.operands]);simp only[tr]at hc |-
  split at hc
  ·rename_i k0 k hs hd;exact QC hm hs hd h1 hc
  ·rename_i te hs hd;split at hc
   ·rename_i ht;cases hx:e (aA x)with
    |sl rt rows=>exact V6 hm hs hd ht h1 ⟨rt,rows,hx⟩ hc
    |bs id off len sz=>
     simp only[rop,hx]at hc |-
     split at hc
     ·rename_i l hl;try simp only[hl]
      exact QI hm hB hs hd ht h1 hx hl
     exact hc.elim
    |_=>simp[rop,hx]at hc
   exact hc.elim
  exact hc.elim
 |lookup t x k ok=>
  have h1:=he x (by simp[Op.operands]);have h2:=he k (by simp[Op.operands]);simp only[tr]at hc |-
  split at hc
  ·rename_i v z ht;exact QL hm hB ht h1 h2 hc
  exact hc.elim
 |entry x=>exact QN hm hB (he x (by simp[Op.operands])) hc
 |next x s=>cases s<;>exact hc.elim
 |build t parts=>exact J4 hm (fun p hp=>he p.2 (by simp[Op.operands];exact⟨p.1,hp⟩)) hc
 |buildSlice t len parts=>exact V3 hm hB (fun p hp=>he p.2 (by simp[Op.operands];exact⟨p.1,hp⟩)) hc
 |makeFunc fn first cap=>
  cases fn with
  |func f=>exact QD hm (fun x hx=>he x (by simp[Op.operands,hx])) (fun x hx=>he x (by simp[Op.operands,hx]))
  |_=>exact hc.elim
 |extract x i=>exact V0 hm (he x (by simp[Op.operands])) hc
 |nilCheck x=>exact QE hm (he x (by simp[Op.operands])) hc
 |slice t x lo hi mx=>
  cases mx with
  |none=>
   simp only[tr]at hc |-
   split at hc
   ·rename_i hu;exact V1 hm (he x (by simp[Op.operands])) (fun y hy=>he y (by simp at hy;simp[Op.operands,hy])) (fun y hy=>he y (by simp at hy;simp[Op.operands,hy])) hu hc
   ·rename_i te hu;split at hc
    ·rename_i i ee;exact Wb hm hu ee (he x (by simp[Op.operands])) (fun y hy=>he y (by simp at hy;simp[Op.operands,hy])) (fun y hy=>he y (by simp at hy;simp[Op.operands,hy])) hc
    exact hc.elim
   ·rename_i n te hu;split at hc
    ·rename_i i ee;exact Wf hm hB hu ee (he x (by simp[Op.operands])) (fun y hy=>he y (by simp at hy;simp[Op.operands,hy])) (fun y hy=>he y (by simp at hy;simp[Op.operands,hy])) hc
    exact hc.elim
   exact hc.elim
  |some mx=>exact hc.elim
 |call c=>
  obtain⟨callee,args,ts⟩:=c;have nD:∀x∈args,aB w γ (e (aA x)) (a.eval x):=fun x hx=>he x (by simp[Op.operands,Call.operands,hx]);cases callee with
  |value f=>exact QO hm hB lT (he f (by simp[Op.operands,Call.operands])) nD hc
  |invoke recv name=>exact hc.elim
  |builtin b=>
   cases b<;>first|exact hc.elim|skip
   case append=>
    simp only[tr,Zt]at hc |-
    split at hc
    case h_2=>exact hc.elim
    rename_i s x t t' ha ht;split at hc
    case h_2=>exact hc.elim
    rename_i te J3 hu hu';split at hc
    case h_2=>exact hc.elim
    rename_i i hi;split at hc
    case isFalse=>exact hc.elim
    rename_i bS;try rw[if_pos bS]
    simp only[zzak,beq_iff_eq,bne_iff_ne]at bS;obtain⟨⟨⟨rfl,hz⟩,_⟩,dV⟩:=bS;obtain rfl:args=#[s,x]:=by cases args;simp_all
    obtain rfl:ts=#[t,t]:=by cases ts;simp_all
    cases jg:i.zero with
    |none=>simp[jg]at hz
    |some z=>exact WC hm hu hi jg dV (nD s (by simp)) (nD x (by simp)) hc
   case copy=>
    simp only[tr,Zt]at hc;repeat' split at hc
    all_goals exact hc.elim
   case clear=>
    simp only[tr,Zt]at hc;repeat' split at hc
    all_goals exact hc.elim
   case len=>
    simp only[tr,Zt]at hc |-
    split at hc
    case h_2=>exact hc.elim
    rename_i x t ha ht;obtain rfl:args=#[x]:=by cases args;simp_all
    obtain rfl:ts=#[t]:=by cases ts;simp_all
    split at hc
    ·rename_i hu;exact QS hm hu (nD x (by simp)) hc
    ·rename_i te hu;exact WB hm hu (nD x (by simp)) hc
    exact hc.elim
   case max=>
    simp only[tr,Zt]at hc |-
    split at hc
    case h_3=>exact hc.elim
    ·rename_i x y ha;obtain rfl:args=#[x,y]:=by cases args;simp_all
     exact aeA hm (nD x (by simp)) (nD y (by simp)) hc
    rename_i x y z ha;obtain rfl:args=#[x,y,z]:=by cases args;simp_all
    exact E4 (big:=true) hm (nD x (by simp)) (nD y (by simp)) (nD z (by simp)) hc
   case min=>
    simp only[tr,Zt]at hc |-
    split at hc
    case h_3=>exact hc.elim
    ·rename_i x y ha;obtain rfl:args=#[x,y]:=by cases args;simp_all
     exact aez hm (nD x (by simp)) (nD y (by simp)) hc
    rename_i x y z ha;obtain rfl:args=#[x,y,z]:=by cases args;simp_all
    exact E4 (big:=false) hm (nD x (by simp)) (nD y (by simp)) (nD z (by simp)) hc
 |makeMap t r=>cases r<;>first|exact hc.elim|(simp only[tr]at hc;split at hc<;>exact hc.elim)
 |makeSlice t l c=>
  simp only[tr]at hc;repeat' split at hc
  all_goals exact hc.elim
 |_=>first|exact hc.elim|(simp only[tr]at hc;split at hc<;>exact hc.elim)
end
end Go.Abs
