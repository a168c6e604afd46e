import Derived.Test.YtnopaopphmjnmaaGreatDoorMQMB
set_option linter.all false
namespace Go.Abs
open Go Go.RowKit
section
variable {N:Nat} {w0:fF} {aq:Nat->Nat->Prop} {γ:G} {w:World} {B:Nat->Option (List AV)} {L:Nat->Option Nat} {P:Program} {o:Oper} {a:Act} {r:AV}
variable {dst:Option Tmp} {ty:TypeId} {pos:String} {after:Array Edge} {guard:Option (Nat×Bool)} {gl:Nat->AV} {orc:Nat->FuncId->List AV->AV} {e:bN->AV} {m:AM}
def W6(hm:au N w0 aq γ w B L){t:TypeId}{x:Operand}{f:Nat}(h1:aC w γ (e (aB x)) (a.eval x))
  (hc:(rop P gl orc e m dst (tr P ⟨dst,.field t x f,ty,pos,after,guard⟩)).1):
  Step N w0 aq P ⟨dst,.field t x f,ty,pos,after,guard⟩ a γ w B L (rop P gl orc e m dst (tr P ⟨dst,.field t x f,ty,pos,after,guard⟩)).2:=by
 simp only[tr]at hc |-
 split at hc
 case h_2=>exact hc.elim
 rename_i fields hu;split at hc
 case h_2=>exact hc.elim
 rename_i fl eG;split at hc
 case h_2=>exact hc.elim
 rename_i i d hi hd
 have main:∀(agg:Bool)(n:Nat),Jh P fl.type=agg->(agg=true->n=i.size)->(rop P gl orc e m dst (.fld agg fl.offset n (aB x))).1->
   Step N w0 aq P ⟨dst,.field t x f,ty,pos,after,guard⟩ a γ w B L (rop P gl orc e m dst (.fld agg fl.offset n (aB x))).2:=by
  intro agg n bG hn hc;simp only[rop]at hc |-
  split at hc
  case h_2=>exact hc.elim
  rename_i cs he;rw[he]at h1;obtain⟨arr,hv,hr⟩:=h1.gJ;obtain⟨fN,zJ⟩:=hc;have zK:=hr.drop fl.offset;cases agg with
  |true=>
   have A0:=hn rfl;subst A0;refine Qs hm (v:=.agg (arr.extract fl.offset (fl.offset+i.size))) ?_ ?_
   ·unfold Jh at bG;rw[hd]at bG;cases d<;>simp at bG<;>simp[execOp,hv,Instr.field,run_underlying hu,eG,asAgg,part,isAgg,run_underlying hd,sizeOf,typeInfo,hi]
   simp only[Yd,if_true];refine ak.Q8 ?_;have:=zK.take i.size;simpa[zzfv,List.extract]using this
  |false=>
   have qV:=zJ rfl;subst qV
   have aH:fl.offset<arr.size:=by
    rw[zzaq,zzcr]at fN;have:=hr.1;simp at this;omega
   have hu':arr[fl.offset]?=some arr[fl.offset]:=zzaj aH;refine Qs hm (v:=arr[fl.offset]) ?_ ?_
   ·unfold Jh at bG;rw[hd]at bG;cases d<;>simp at bG<;>simp[execOp,hv,Instr.field,run_underlying hu,eG,asAgg,part,isAgg,run_underlying hd,hu']
   simp only[Yd];have:=zK.get 0;simp[List.getD]at this |-
   simpa[aH]using this
 cases bG:Jh P fl.type with
 |true=>simp only[bG,if_true]at hc |-;exact main true _ bG (fun _=>rfl) hc
 |false=>simp only[bG]at hc |-;exact main false 1 bG (fun h=>by cases h) hc
def Rg(hm:au N w0 aq γ w B L){t:TypeId}{x y:Operand}(h1:aC w γ (e (aB x)) (a.eval x))(h2:aC w γ (e (aB y)) (a.eval y))
  (hc:(rop P gl orc e m dst (tr P ⟨dst,.index t x y,ty,pos,after,guard⟩)).1):
  Step N w0 aq P ⟨dst,.index t x y,ty,pos,after,guard⟩ a γ w B L (rop P gl orc e m dst (tr P ⟨dst,.index t x y,ty,pos,after,guard⟩)).2:=by
 simp only[tr]at hc |-
 split at hc
 case h_3=>exact hc.elim
 case h_2=>
  rename_i len te hu;split at hc
  case h_2=>exact hc.elim
  rename_i j d hj hd
  have main:∀(agg:Bool)(sz:Nat),Jh P te=agg->j.size=sz->(rop P gl orc e m dst (.idxA agg len sz (aB x) (aB y))).1->
    Step N w0 aq P ⟨dst,.index t x y,ty,pos,after,guard⟩ a γ w B L (rop P gl orc e m dst (.idxA agg len sz (aB x) (aB y))).2:=by
   intro agg sz bG hsz hc;subst hsz;simp only[rop]at hc |-
   split at hc
   case h_2=>exact hc.elim
   rename_i cs k n e1 e2;rw[e1]at h1;rw[e2]at h2;obtain⟨arr,hv,hr⟩:=h1.gJ;obtain⟨⟨eZ,qV⟩,fN,zJ⟩:=hc;have zK:=hr.drop (n.toNat*j.size);cases agg with
   |true=>
    refine Qs hm (v:=.agg (arr.extract (n.toNat*j.size) (n.toNat*j.size+j.size))) ?_ ?_
    ·unfold Jh at bG;rw[hd]at bG;cases d<;>simp at bG<;>simp[execOp,hv,h2.aI,Instr.index,run_underlying hu,asIntOf,eZ,qV,asAgg,part,isAgg,run_underlying hd,sizeOf,typeInfo,hj]
    simp only[Yd,if_true];refine ak.Q8 ?_;have:=zK.take j.size;simpa[zzfv,List.extract]using this
   |false=>
    have azv:=zJ rfl
    have aH:n.toNat*j.size<arr.size:=by
     rw[zzaq,zzcr]at fN;have:=hr.1;simp at this;omega
    have hu':arr[n.toNat*j.size]?=some arr[n.toNat*j.size]:=zzaj aH;refine Qs hm (v:=arr[n.toNat*j.size]) ?_ ?_
    ·unfold Jh at bG;rw[hd]at bG;cases d<;>simp at bG<;>simp[execOp,hv,h2.aI,Instr.index,run_underlying hu,asIntOf,eZ,qV,asAgg,part,isAgg,run_underlying hd,sizeOf,typeInfo,hj,hu']
    simp only[Yd];have:=zK.get 0;simp[List.getD]at this |-
    simpa[aH]using this
  cases bG:Jh P te with
  |true=>simp only[bG,if_true]at hc |-;exact main true _ bG rfl hc
  |false=>
   simp only[bG,zzbp,if_false]at hc |-
   split at hc
   ·rename_i h0;have zL:j.size=1:=by simpa using h0
    rw[if_pos h0];exact main false 1 bG zL hc
   exact hc.elim
 rename_i hu;simp only[rop]at hc |-
 split at hc
 case h_2=>exact hc.elim
 rename_i s k n e1 e2;rw[e1]at h1;rw[e2]at h2;obtain⟨eZ,qV⟩:=hc;have ai:n.toNat<s.size:=zE
 have hg:s[n.toNat]?=some (s.data.toList.getD n.toNat 0):=by
  have h3:n.toNat<s.data.size:=ai;have:s[n.toNat]?=some s[n.toNat]:=by simp[ai]
  rw[this];congr 1
  have h4:s.data.toList.getD n.toNat 0=s.data[n.toNat]:=by
   show(s.data.toList[n.toNat]?).getD 0=_;rw[zzce,zzaj h3];rfl
  rw[h4];rfl
 refine Qs hm (v:=.int .u8 (s.data.toList.getD n.toNat 0).toNat) ?_ (.int _ _);simp[execOp,h1.cB,h2.aI,Instr.index,asIntOf,run_underlying hu,eZ,hg]
def W7{op:BinOp}{k:IntKind}{x y:Int}{t:TypeId}(eR:op≠.shl/\op≠.shr)(hc:(binI op k x y).1):∃v,(binOp op t (.int k x) (.int k y)).run P w=.ok v w/\aC w γ (binI op k x y).2 v:=by
 cases op<;>simp only[binI]at hc |-<;>first
  |exact hc.elim
  |(simp at eR;done)
  |(refine⟨.bool _,?_,.bool _⟩;simp[binOp,Op.intCmp];done)
  |(refine⟨.int k _,?_,.int k _⟩;simp[binOp,Op.intArith,Op.intBits];done)
  |(refine⟨.int k _,?_,.int k _⟩;simp[binOp,Op.intDiv,hc];done)
def W8{op:BinOp}{x y:ByteArray}{t:TypeId}(eR:op≠.shl/\op≠.shr)(hc:(binS op x y).1):∃v,(binOp op t (.string x) (.string y)).run P w=.ok v w/\aC w γ (binS op x y).2 v:=by
 cases op<;>simp only[binS]at hc |-<;>first
  |exact hc.elim
  |(simp at eR;done)
  |(refine⟨.bool _,?_,.bool _⟩;simp[binOp,Op.stringOp];done)
  |(
   refine⟨.string (x++y),?_,.str _⟩
   have h1:¬(((x.size+y.size:Nat):Int)> IntKind.i64.max):=by
     have:IntKind.i64.max=9223372036854775807:=by decide
     rw[this];omega
   simp only[binOp,Op.stringOp,if_neg h1];rfl)
def jj{op:BinOp}{t:TypeId}{x y:Operand}{k k':IntKind}{p q:Int}:(eqGuard op t x y (.int k p) (.int k' q)).run P w=.ok () w:=by
 cases op<;>simp[eqGuard]
def FA{op:BinOp}{t:TypeId}{x y:Operand}{p q:ByteArray}:(eqGuard op t x y (.string p) (.string q)).run P w=.ok () w:=by
 cases op<;>simp[eqGuard]
def oU{op:BinOp}{t:TypeId}{x y:Operand}{p q:Bool}:(eqGuard op t x y (.bool p) (.bool q)).run P w=.ok () w:=by
 cases op<;>simp[eqGuard]
def FB(hm:au N w0 aq γ w B L){op:BinOp}{t t':TypeId}{x y:Operand}(h1:aC w γ (e (aB x)) (a.eval x))(h2:aC w γ (e (aB y)) (a.eval y))
  (hc:(binV op (e (aB x)) (e (aB y))).1):
  Step N w0 aq P ⟨dst,.binOp op t x y t',ty,pos,after,guard⟩ a γ w B L (binV op (e (aB x)) (e (aB y))).2:=by
 unfold binV at hc |-
 split at hc
 ·split at hc
  case h_2=>exact hc.elim
  rename_i k p k' q e1 e2;try simp only[e1,e2]
  rw[e1]at h1;rw[e2]at h2;have hq:¬q<0:=zE
  refine Qs hm (v:=.int k (k.wrap (p*2 ^ (min q.toNat k.bits)))) ?_ (.int _ _);simp[execOp,h1.aI,h2.aI,jj,binOp,Op.shift,hq]
 ·split at hc
  case h_2=>exact hc.elim
  rename_i k p k' q e1 e2;try simp only[e1,e2]
  rw[e1]at h1;rw[e2]at h2;have hq:¬q<0:=zE
  refine Qs hm (v:=.int k (p.fdiv (2 ^ (min q.toNat k.bits)))) ?_ (.int _ _);simp[execOp,h1.aI,h2.aI,jj,binOp,Op.shift,hq]
 rename_i op' arC arD;split at hc
 ·rename_i k p k' q e1 e2;try simp only[e1,e2]
  rw[e1]at h1;rw[e2]at h2;obtain⟨rfl,hc⟩:=hc;obtain⟨v,hv,hr⟩:=W7 (P:=P) (w:=w) (γ:=γ) (t:=t) ⟨fun h=>arC h,fun h=>arD h⟩ hc;exact Qs hm (v:=v) (by simp[execOp,h1.aI,h2.aI,jj,hv]) hr
 ·rename_i p q e1 e2;try simp only[e1,e2]
  rw[e1]at h1;rw[e2]at h2;obtain⟨v,hv,hr⟩:=W8 (P:=P) (w:=w) (γ:=γ) (t:=t) ⟨fun h=>arC h,fun h=>arD h⟩ hc;exact Qs hm (v:=v) (by simp[execOp,h1.cB,h2.cB,FA,hv]) hr
 exact hc.elim
def run_equalIn_bool{t:TypeId}(hu:P.underlying t=some .bool)(p q:Bool)(d:Nat):(Op.equalIn (d+1) t (.bool p) (.bool q)).run P w=.ok (p==q) w:=by
 simp[Op.equalIn,run_underlying hu]
def Rh(hm:au N w0 aq γ w B L){op:BinOp}{t t':TypeId}{x y:Operand}(hu:P.underlying t=some .bool)(h1:aC w γ (e (aB x)) (a.eval x))(h2:aC w γ (e (aB y)) (a.eval y))
  (hc:(binBool op (e (aB x)) (e (aB y))).1):
  Step N w0 aq P ⟨dst,.binOp op t x y t',ty,pos,after,guard⟩ a γ w B L (binBool op (e (aB x)) (e (aB y))).2:=by
 unfold binBool at hc |-
 split at hc
 ·rename_i p q e1 e2;try simp only[e1,e2]
  rw[e1]at h1;rw[e2]at h2;have:=run_equalIn_bool (P:=P) (w:=w) hu p q 9999;exact Qs hm (v:=.bool (p==q)) (by simp[execOp,h1.bB,h2.bB,oU,binOp,Op.equal,Op.maxDepth,this]) (.bool _)
 ·rename_i p q e1 e2;try simp only[e1,e2]
  rw[e1]at h1;rw[e2]at h2;have:=run_equalIn_bool (P:=P) (w:=w) hu p q 9999;exact Qs hm (v:=.bool (!(p==q))) (by simp[execOp,h1.bB,h2.bB,oU,binOp,Op.equal,Op.maxDepth,this]) (.bool _)
 exact hc.elim
def ae8(hm:au N w0 aq γ w B L){op:UnOp}{t:TypeId}{x:Operand}(h1:aC w γ (e (aB x)) (a.eval x))(hc:(rop P gl orc e m dst (.un op (aB x))).1):
  Step N w0 aq P ⟨dst,.unOp op t x,ty,pos,after,guard⟩ a γ w B L (rop P gl orc e m dst (.un op (aB x))).2:=by
 simp only[rop]at hc |-
 split at hc
 ·rename_i b e1;try simp only[e1]
  rw[e1]at h1;exact Qs hm (v:=.bool (!b)) (by simp[execOp,h1.bB,Op.unary]) (.bool _)
 ·rename_i k n e1;try simp only[e1]
  rw[e1]at h1;exact Qs hm (v:=.int k (k.wrap (0-n))) (by simp[execOp,h1.aI,Op.unary,Op.intArith]) (.int _ _)
 ·rename_i k n e1;try simp only[e1]
  rw[e1]at h1;refine Qs hm ?_ (.int _ _);simp[execOp,h1.aI,Op.unary,Op.intBits]
 exact hc.elim
def Ri(hm:au N w0 aq γ w B L){s d:TypeId}{x:Operand}{k0 k:IntKind}(hs:P.underlying s=some (.int k0))(hd:P.underlying d=some (.int k))(h1:aC w γ (e (aB x)) (a.eval x))(hc:(rop P gl orc e m dst (.conv k (aB x))).1):
  Step N w0 aq P ⟨dst,.convert s d x,ty,pos,after,guard⟩ a γ w B L (rop P gl orc e m dst (.conv k (aB x))).2:=by
 simp only[rop]at hc |-
 split at hc
 case h_2=>exact hc.elim
 rename_i k1 n e1;rw[e1]at h1;exact Qs hm (v:=.int k (k.wrap n)) (by simp[execOp,h1.aI,convert,run_underlying hs,run_underlying hd,Conv.intToInt]) (.int _ _)
def Rj(hm:au N w0 aq γ w B L){f:FuncId}{first cap:Array Operand}(h1:∀x∈first,aC w γ (e (aB x)) (a.eval x))(h2:∀x∈cap,aC w γ (e (aB x)) (a.eval x)):
  Step N w0 aq P ⟨dst,.makeFunc (.func f) first cap,ty,pos,after,guard⟩ a γ w B L (.fn f ((first.toList.map aB).map e) ((cap.toList.map aB).map e)):=by
 refine Qs hm (v:=.func (.func f) (first.map a.eval) (cap.map a.eval)) (by simp[execOp,Instr.makeFunc]) ?_;refine .fn zd (fun i c v g1 g2=>?_) zd fun i c v g1 g2=>?_
 ·simp at g1 g2;obtain⟨x,hx,rfl⟩:=g1;obtain⟨x',iD,rfl⟩:=g2;rw[hx]at iD;cases iD;exact h1 x (zzdc hx)
 simp at g1 g2;obtain⟨x,hx,rfl⟩:=g1;obtain⟨x',iD,rfl⟩:=g2;rw[hx]at iD;cases iD;exact h2 x (zzdc hx)
def W9(hm:au N w0 aq γ w B L){x:Operand}{i:Nat}(h1:aC w γ (e (aB x)) (a.eval x))(hc:(rop P gl orc e m dst (.ext (aB x) i)).1):
  Step N w0 aq P ⟨dst,.extract x i,ty,pos,after,guard⟩ a γ w B L (rop P gl orc e m dst (.ext (aB x) i)).2:=by
 simp only[rop]at hc |-
 split at hc
 case h_2=>exact hc.elim
 rename_i vs e1;rw[e1]at h1;obtain⟨arr,hv,hr⟩:=h1.CQ;have ai:i<arr.size:=by have:=hr.1;simp at this;omega
 have hu:arr[i]?=some arr[i]:=zzaj ai;refine Qs hm (v:=arr[i]) (by simp[execOp,hv,Instr.extract,hu]) ?_;have:=hr.get i;simpa[List.getD,ai]using this
def Rk(hm:au N w0 aq γ w B L){x:Operand}(h1:aC w γ (e (aB x)) (a.eval x))(hc:(rop P gl orc e m dst (.nilc (aB x))).1):
  Step N w0 aq P ⟨dst,.nilCheck x,ty,pos,after,guard⟩ a γ w B L (rop P gl orc e m dst (.nilc (aB x))).2:=by
 simp only[rop]at hc |-
 split at hc
 ·rename_i id o' e1;try simp only[e1]
  rw[e1]at h1;have oV:=h1;obtain⟨b,hb,hv⟩:=h1.dO;exact Qs hm (v:=a.eval x) (by simp[execOp,hv]) oV
 ·rename_i row o' e1;try simp only[e1]
  rw[e1]at h1;have oV:=h1;obtain⟨b,off,cv,hv,_⟩:=h1.jg;exact Qs hm (v:=a.eval x) (by simp[execOp,hv]) oV
 ·rename_i f first cap e1
  try simp only[e1]
  rw[e1]at h1;have oV:=h1;obtain⟨fa,ca,hv,_⟩:=h1.qU;exact Qs hm (v:=a.eval x) (by simp[execOp,hv]) oV
 exact hc.elim
def XA(hm:au N w0 aq γ w B L){t:TypeId}{x:Operand}{lo hi:Option Operand}(h1:aC w γ (e (aB x)) (a.eval x))(h2:∀y∈lo,aC w γ (e (aB y)) (a.eval y))(h3:∀y∈hi,aC w γ (e (aB y)) (a.eval y))
  (hu:P.underlying t=some .string)(hc:(rop P gl orc e m dst (.slS (aB x) (lo.map aB) (hi.map aB))).1):
  Step N w0 aq P ⟨dst,.slice t x lo hi none,ty,pos,after,guard⟩ a γ w B L (rop P gl orc e m dst (.slS (aB x) (lo.map aB) (hi.map aB))).2:=by
 simp only[rop]at hc |-
 split at hc
 ·rename_i s k l k' h e1 e2 e3;rw[e1]at h1;cases lo with
  |none=>simp at e2
  |some lo=>
   cases hi with
   |none=>simp at e3
   |some hi=>
    simp at e2 e3;have r2:=h2 lo zd;have r3:=h3 hi zd;rw[e2]at r2;rw[e3]at r3;obtain⟨c1,c2,c3⟩:=hc;have c4:(0:Int)<=h:=zE
    have c5:l<=(h.toNat:Int):=zE
    try simp only[e1,e2,e3,zzcw]
    refine Qs hm (v:=.string (s.extract l.toNat h.toNat)) ?_ (.str _);simp[execOp,h1.cB,r2.aI,r3.aI,Instr.sliceAt,Instr.slice,Instr.sliceBounds,Instr.sliceBound,asIntOf,run_underlying hu,c1,c3,c4,c5];intro ai;exact absurd ai (by rw[Int.max_eq_left c4];omega)
 ·rename_i s k h e1 e2 e3;rw[e1]at h1;cases lo with
  |some lo=>simp at e2
  |none=>
   cases hi with
   |none=>simp at e3
   |some hi=>
    simp at e3;have r3:=h3 hi zd;rw[e3]at r3;obtain⟨c1,c3⟩:=hc;try simp only[e1,e3,zzcw,Option.map_none]
    refine Qs hm (v:=.string (s.extract 0 h.toNat)) ?_ (.str _);simp[execOp,h1.cB,r3.aI,Instr.sliceAt,Instr.slice,Instr.sliceBounds,Instr.sliceBound,asIntOf,run_underlying hu,c1,c3]
 ·rename_i s k l e1 e2 e3;rw[e1]at h1;cases lo with
  |none=>simp at e2
  |some lo=>
   cases hi with
   |some hi=>simp at e3
   |none=>
    simp at e2;have r2:=h2 lo zd;rw[e2]at r2;obtain⟨c1,c3⟩:=hc;try simp only[e1,e2,zzcw,Option.map_none]
    refine Qs hm (v:=.string (s.extract l.toNat s.size)) ?_ (.str _);simp[execOp,h1.cB,r2.aI,Instr.sliceAt,Instr.slice,Instr.sliceBounds,Instr.sliceBound,asIntOf,run_underlying hu,c1,c3]
 exact hc.elim
end
open Go Go.RowKit
section
variable {N:Nat} {w0:fF} {aq:Nat->Nat->Prop} {γ:G} {w:World} {B:Nat->Option (List AV)} {L:Nat->Option Nat} {P:Program} {o:Oper} {a:Act} {r:AV}
variable {dst:Option Tmp} {ty:TypeId} {pos:String} {after:Array Edge} {guard:Option (Nat×Bool)} {gl:Nat->AV} {orc:Nat->FuncId->List AV->AV} {e:bN->AV} {m:AM}
def kV{x:AV}{v:Value}(h:aC w γ x v)(hx:bare x=true):ak w γ (cellsOf x) v.cells.toList:=by
 cases x with
 |junk=>simp[bare]at hx
 |gd g y=>simp[bare]at hx
 |aZ cs=>simp[bare]at hx
 |agg cs=>obtain⟨arr,rfl,hr⟩:=h.gJ;exact hr
 |bool b=>cases h;exact ak.cons (.bool b) ak.nil
 |int k n=>cases h;exact ak.cons (.int k n) ak.nil
 |str s=>cases h;exact ak.cons (.str s) ak.nil
 |nilfn=>cases h;exact ak.cons .nilfn ak.nil
 |yld l=>cases h with|yld h=>exact ak.cons (.yld h) ak.nil
 |mp id=>cases h with|mp h=>exact ak.cons (.mp h) ak.nil
 |nilv p=>cases h;cases p<;>exact ak.cons (.nilv _) ak.nil
 |it id=>cases h with|it h=>exact ak.cons (.it h) ak.nil
 |aL kn kvs=>simp[bare]at hx
 |mitr mid n s=>simp[bare]at hx
 |sl rt rows=>have h':=h;obtain⟨_,_,_,_,_,_,rfl,_⟩:=h.cm;exact ak.cons h' ak.nil
 |ep row o=>have h':=h;obtain⟨_,_,_,rfl,_⟩:=h.jg;exact ak.cons h' ak.nil
 |ptr id o=>have h':=h;obtain⟨_,_,rfl⟩:=h.dO;exact ak.cons h' ak.nil
 |bs id off len sz=>have h':=h;obtain⟨_,_,_,_,_,rfl,_⟩:=h.cQ;exact ak.cons h' ak.nil
 |fn f first cap=>have h':=h;obtain⟨_,_,rfl,_⟩:=h.qU;exact ak.cons h' ak.nil
def wq(off:Nat):∀(l:List Value)(k:Nat)(arr:Array Value),(l.zipIdx k).foldl (fun(cs:Array Value)(p:Value×Nat)=>cs.setIfInBounds (off+p.2) p.1) arr=tZ arr (off+k) l
 |[],_,_=>rfl
 |v::l,k,arr=>by
  simp only[List.zipIdx_cons,zzd,tZ];exact wq off l (k+1) _
def FC(off:Nat)(vs arr:Array Value):vs.zipIdx.foldl (fun(cs:Array Value)(p:Value×Nat)=>cs.setIfInBounds (off+p.2) p.1) arr=tZ arr off vs.toList:=by
 rw[<- Array.foldl_toList,Array.toList_zipIdx];exact wq off vs.toList 0 arr
def Qbt{place:Nat->Option (Nat×Nat)}:∀(ps:List (Nat×Nat×AV))(vs:List (Nat×Value))(cs:List AV)(arr:Array Value),ps.length=vs.length->
  (∀(i:Nat)(p:Nat×Nat×AV)(q:Nat×Value),ps[i]?=some p->vs[i]?=some q->place q.1=some (p.1,p.2.1)/\aC w γ p.2.2 q.2)->ak w γ cs arr.toList->(fillA cs ps).1->
  ∃cells,Instr.fill place arr vs=some cells/\ak w γ (fillA cs ps).2 cells.toList/\cells.size=arr.size
 |[],[],cs,arr,_,_,hr,_=>⟨arr,rfl,hr,rfl⟩
 |[],_::_,_,_,h,_,_,_=>by simp at h
 |_::_,[],_,_,h,_,_,_=>by simp at h
 |(off,size,x)::ps,(i,v)::vs,cs,arr,hl,hp,hr,hc=>by
  obtain⟨h1,h2,h3,h4⟩:=hc;obtain⟨g1,g2⟩:=hp 0 _ _ rfl rfl;have hx:=kV g2 h1;have hsz:v.cells.size=size:=by have:=hx.1;simp at this;omega
  have cw:¬(off+v.cells.size> arr.size):=by have:=hr.1;simp at this;omega
  have A1:=hx.setA (o:=off) hr;obtain⟨cells,q1,q2,q3⟩:=Qbt ps vs (setA cs off (cellsOf x)) (tZ arr off v.cells.toList) (by simpa using hl) (fun j p q ek oD=>hp (j+1) p q (by simpa using ek) (by simpa using oD)) A1 h4;refine⟨cells,?_,q2,by rw[q3,Vd]⟩;simp only at g1;have hz:=FC off v.cells arr;simp only[Instr.fill,g1];rw[if_neg (by simp[hsz];omega)];rw[<- hz]at q1;exact q1
def A2:∀(fs:List Field),fs.all (fun f=>(P.info? f.type).isSome)=true->∃places,fs.mapM (fun f=>(P.info? f.type).map fun i=>(f.offset,i.size))=some places/\
  ∀i:Nat,places[i]?=(fs[i]?).bind fun f=>(P.info? f.type).map fun i=>(f.offset,i.size)
 |[],_=>⟨[],zd,fun i=>zd⟩
 |f::fs,h=>by
  simp at h;obtain⟨h1,h2⟩:=h;obtain⟨places,g1,g2⟩:=A2 fs (by simpa using h2);obtain⟨i,hi⟩:=zzci.1 h1;refine⟨(f.offset,i.size)::places,by simp[zzho,hi,g1],fun j=>?_⟩;cases j with
  |zero=>simp[hi]
  |succ j=>simpa using g2 j
def Qdi{α β:Type}(f:α->Option β):∀(l:List α)(l':List β),l.mapM f=some l'->l'.length=l.length/\∀(i:Nat)(x:α)(y:β),l[i]?=some x->l'[i]?=some y->f x=some y
 |[],l',h=>by simp at h;subst h;simp
 |x::l,l',h=>by
  simp only[zzho,Option.bind_eq_bind,Option.pure_def]at h;cases hx:f x with
  |none=>simp[hx]at h
  |some y=>
   cases hr:l.mapM f with
   |none=>simp[hx,hr]at h
   |some rest=>
    simp[hx,hr]at h;subst h;obtain⟨g1,g2⟩:=Qdi f l rest hr;refine⟨by simp[g1],fun i x' y' h1 h2=>?_⟩;cases i with
    |zero=>simp at h1 h2;subst h1;subst h2;exact hx
    |succ i=>simp at h1 h2;exact g2 i x' y' h1 h2
def jk{t:TypeId}{zs:List AV}(h:zc P t=some zs):∃i z,P.info? t=some i/\i.zero=some z/\ak w γ zs z.cells.toList:=by
 unfold zc at h;cases hi:P.info? t with
 |none=>simp[hi]at h
 |some i=>
  cases hz:i.zero with
  |none=>simp[hi,hz]at h
  |some z=>
   simp[hi,hz]at h;subst h;refine⟨i,z,rfl,hz,zd,fun j x v h1 h2=>?_⟩;simp at h1 h2;obtain⟨v',h3,rfl⟩:=h1;rw[h2]at h3;cases h3;exact nA w γ v
def K0(hm:au N w0 aq γ w B L){t:TypeId}{parts:Array (Nat×Operand)}(h1:∀p∈parts,aC w γ (e (aB p.2)) (a.eval p.2))
  (hc:(rop P gl orc e m dst (Wt P t parts)).1):
  Step N w0 aq P ⟨dst,.build t parts,ty,pos,after,guard⟩ a γ w B L (rop P gl orc e m dst (Wt P t parts)).2:=by
 unfold Wt at hc |-
 split at hc
 case h_2=>exact hc.elim
 rename_i fields zs hu hz;split at hc
 case h_2=>exact hc.elim
 rename_i ps hps;split at hc
 case isFalse=>exact hc.elim
 rename_i bF;try rw[if_pos bF]
 simp only[rop]at hc |-
 obtain⟨i,z,hi,jm,K1⟩:=jk (w:=w) (γ:=γ) hz;obtain⟨places,gM,hpg⟩:=A2 (P:=P) fields.toList bF;obtain⟨aH,cA⟩:=Qdi _ _ _ hps
 obtain⟨cells,f1,f2,_⟩:=Qbt (w:=w) (γ:=γ) (place:=fun i=>places[i]?) (ps.map fun p=>(p.1,p.2.1,e p.2.2)) (parts.toList.map fun p=>(p.1,a.eval p.2)) zs z.cells (by simp[aH]) (fun j p q ek oD=>by
   simp at ek oD;obtain⟨o1,o2,o3,hp1,rfl⟩:=ek;obtain⟨x1,x2,Q9,rfl⟩:=oD;have:=cA j (x1,x2) (o1,o2,o3) (by simpa using Q9) hp1;simp only at this |-
   rw[hpg];cases hf:fields[x1]? with
   |none=>simp[hf]at this
   |some f=>
    cases CU:P.info? f.type with
    |none=>simp[hf,CU]at this
    |some fi=>
     simp[hf,CU]at this;obtain⟨rfl,rfl,rfl⟩:=this;exact⟨by simp[hf,CU],h1 (x1,x2) (zzdc Q9)⟩) K1 hc
 have hb:P.built t (parts.map fun p=>(p.1,a.eval p.2)).toList=some cells:=by
  unfold Program.built;simp only[hi,hu,jm,gM];simpa using f1
 have bn:=run_build (P:=P) w t (parts.map fun p=>(p.1,a.eval p.2)) cells hb;refine Qs hm (v:=.agg cells) ?_ (ak.Q8 f2);simp[execOp,bn]
def XB(hm:au N w0 aq γ w B L)(hB:∀id cells,m.boxes[id]?=some cells->B id=some cells){t:TypeId}{len:Nat}{parts:Array (Nat×Operand)}(h1:∀p∈parts,aC w γ (e (aB p.2)) (a.eval p.2))
  (hc:(rop P gl orc e m dst (tr P ⟨dst,.buildSlice t len parts,ty,pos,after,guard⟩)).1):
  Step N w0 aq P ⟨dst,.buildSlice t len parts,ty,pos,after,guard⟩ a γ w B L (rop P gl orc e m dst (tr P ⟨dst,.buildSlice t len parts,ty,pos,after,guard⟩)).2:=by
 simp only[tr]at hc |-
 split at hc
 case h_2=>exact hc.elim
 rename_i te hu;split at hc
 case h_2=>exact hc.elim
 rename_i i hi;split at hc
 case isFalse=>exact hc.elim
 rename_i bU;try rw[if_pos bU]
 simp only[zzak,beq_iff_eq,bne_iff_ne,decide_eq_true_eq]at bU;obtain⟨⟨hz,OC⟩,wj⟩:=bU;cases jm:i.zero with
 |none=>simp[jm]at hz
 |some z=>
  simp[jm]at hz;simp only[rop]at hc |-
  rw[Qai];obtain⟨fN,zJ,hc3⟩:=hc
  let eu:Array Value:=(Array.range (len*i.size)).map (z.cells[·%z.cells.size]!)
  have ud:ak w γ (List.replicate (len*i.size) .junk) eu.toList:=by
   refine⟨by simp[eu],fun j x v hj _=>?_⟩;simp[zzcp]at hj;rw[<- hj.2];exact .junk _
  obtain⟨cells,f1,f2,f3⟩:=Qbt (w:=w) (γ:=γ) (place:=fun j=>some (j*i.size,i.size)) (parts.toList.map fun p=>(p.1*i.size,i.size,e (aB p.2))) (parts.toList.map fun p=>(p.1,a.eval p.2)) _ eu zd (fun j p q ek oD=>by
    simp at ek oD;obtain⟨x1,x2,Q9,rfl⟩:=ek;obtain⟨y1,y2,hy1,rfl⟩:=oD;rw[Q9]at hy1;cases hy1;exact⟨rfl,h1 (x1,x2) (zzdc Q9)⟩) ud (by simpa[Function.comp_def]using fN)
  generalize hq:(fillA (List.replicate (len*i.size) .junk) (parts.toList.map fun p=>(p.1*i.size,i.size,e (aB p.2)))).2=A at f2
  have Rl:(fillA (List.replicate (len*i.size) .junk) ((parts.toList.map fun p=>(p.1,aB p.2)).map fun p=>(p.1*i.size,i.size,e p.2))).2=A:=by
   rw[<- hq];simp[Function.comp_def]
  rw[Rl]at zJ hc3;simp only[Rl];have qZ:cells.size=len*i.size:=by rw[f3];simp[eu]
  have hAl:A.length=len*i.size:=by have:=f2.1;simp at this;omega
  have hb:Below w.heap.size w (w.alloc (.cells cells te)):=(Below.refl _ w).alloc (zzab _) _
  have bn:(execOp a.eval ⟨dst,.buildSlice t len parts,ty,pos,after,guard⟩).run P w=.ok (.value (.slice (some ⟨w.heap.size,0,none⟩) len len)) (w.alloc (.cells cells te)):=by
   have XC:¬(16777216<len*i.size):=zE
   by_cases kW:len*i.size=0
   ·have fJ:eu=(Array.range (len*i.size)).map ((#[]:Array Value)[·%(#[]:Array Value).size]!):=by
     simp[eu,kW]
    rw[fJ]at f1
    have ez:len=0:=by
     rcases Nat.mul_eq_zero.1 kW with h|h
     ·exact h
     exact absurd h OC
    simp[kW]at f1;simp[execOp,Instr.buildSlice,run_underlying hu,sizeOf,typeInfo,hi,kW,f1,newRow]
   simp only[execOp,Instr.buildSlice];have f1':Instr.fill (fun j=>some (j*i.size,i.size)) ((Array.range (len*i.size)).map (z.cells[·%z.cells.size]!)) (parts.toList.map fun p=>(p.1,a.eval p.2))=some cells:=f1;simp[run_underlying hu,sizeOf,typeInfo,zeroValue,hi,jm,kW,XC,f1',newRow]
  refine AZ (hm.grow hb) (hm.dA hb) bn ?_;have aH:((List.range len).map fun k=>((A.map (bJ m 6)).drop (k*i.size)).take i.size).length=len:=zd
  have iP:(w.alloc (.cells cells te)).heap[w.heap.size]?=some (.cells cells te (0,0)):=by show(w.heap.push _)[w.heap.size]?=_;simp
  have oE:∀(k j:Nat)(c:AV),Qv ((List.range len).map fun k=>((A.map (bJ m 6)).drop (k*i.size)).take i.size) k j=some c->∃c' u,A[k*i.size+j]?=some c'/\c=bJ m 6 c'/\cells[k*i.size+j]?=some u/\cells.getD (k*i.size+j) undef=u/\aC w γ c' u:=fun k j c h=>by
   unfold Qv at h;rcases zzaa k len with hk|hk
   ·simp[hk]at h;rw[zzbl]at h;split at h
    ·simp at h;obtain⟨c',oW,rfl⟩:=h;have ai:k*i.size+j<cells.size:=by rw[qZ,<- hAl];exact(zza.1 oW).1
     have hu':cells[k*i.size+j]?=some cells[k*i.size+j]:=zzaj ai;exact⟨c',_,oW,rfl,hu',by simp[ai],f2.2 _ _ _ oW (by simp[ai])⟩
    cases h
   simp[zzbo.2 hk]at h
  have qA:qz (w.alloc (.cells cells te)) (γ.grow w.heap.size (w.alloc (.cells cells te)).heap.size) ((List.range len).map fun k=>((A.map (bJ m 6)).drop (k*i.size)).take i.size) (some ⟨w.heap.size,0,none⟩) len w.heap.size 0 i.size
    (fun k j=>cells.getD (k*i.size+j) undef):=by
   refine⟨zd,fun h=>(by cases h),fun _=>⟨rfl,zd⟩,fun row ah=>?_,fun k j c h=>?_,fun k j c h=>?_⟩
   ·simp at ah;obtain⟨k,hk,rfl⟩:=ah;have:(k+1)*i.size<=len*i.size:=zzbc _ hk;rw[zzbr,zzds]at this;simp;omega
   ·obtain⟨c',u,g1,rfl,g3,g4,g5⟩:=oE k j c h;rw[zzbw,aO iP,g3,g4];refine⟨rfl,.inr ⟨zzab _,zd⟩,uH g5 (zzbh.1 zJ c' (zzac g1))⟩
   obtain⟨c',u,g1,rfl,g3,g4,g5⟩:=oE k j c h;rw[g4]
   have:=kU hm hB (ro':=γ.ro) (fun _ _ h=>h) 6 c' u g5 fun hp=>by
    have:A.any (Yl 6)=true:=zzbx.2 ⟨c',zzac g1,hp⟩;rw[hc3]at this;cases this
   exact this.mono (hm.dA hb).cT
  have:=qA.mk' (rt:=.full) aH.symm;rwa [aH]at this
end
open Go Go.RowKit
section
variable {N:Nat} {w0:fF} {aq:Nat->Nat->Prop} {γ:G} {w:World} {B:Nat->Option (List AV)} {L:Nat->Option Nat} {P:Program} {o:Oper} {a:Act} {r:AV}
variable {dst:Option Tmp} {ty:TypeId} {pos:String} {after:Array Edge} {guard:Option (Nat×Bool)} {gl:Nat->AV} {orc:Nat->FuncId->List AV->AV} {e:bN->AV} {m:AM}
def ak.zM{cs:List AV}{vs:List Value}(h:ak w γ cs vs):aC w γ (.aZ cs) (.tuple vs.toArray):=.aZ (by simpa using h.1) fun i c v h1 h2=>h.2 i c v h1 (by simpa using h2)
def aC.uI{rt:Rt}{rows:List (List AV)}{v:Value}(h:aC w γ (.sl rt rows) v)(hf:WZ rt=true):aC w γ (.sl .full rows) v:=by
 cases h with
 |sl b off sz cv hcap hnil ha hsz hc hr aT=>
  refine .sl b off sz cv hcap hnil ha hsz hc hr ?_;cases rt with
  |full=>exact aT
  |nil=>
   show _=_;have:=hnil aT;omega
  |_=>simp[WZ]at hf
def Rm{t te:TypeId}{op:BinOp}(hu:P.underlying t=some (.slice te)){p:Option Addr}{n c:Nat}(eR:op=.eql\/op=.neq):(binOp op t (.slice p n c) (.slice none 0 0)).run P w=.ok (.bool (if op=.eql then p.isNone else !p.isNone)) w:=by
 have h:∀d,(Op.equalIn (d+1) t (.slice p n c) (.slice none 0 0)).run P w=.ok p.isNone w:=fun d=>by
  unfold Op.equalIn;cases p<;>simp[run_underlying hu]
 have h':(Op.equal t (.slice p n c) (.slice none 0 0)).run P w=.ok p.isNone w:=h 9999;rcases eR with rfl|rfl<;>simp[binOp,h']
def Rn(hm:au N w0 aq γ w B L){op:BinOp}{t te t':TypeId}{x y:Operand}(hu:P.underlying t=some (.slice te))(h1:aC w γ (e (aB x)) (a.eval x))(hc:(rop P gl orc e m dst (mE op x y)).1):
  Step N w0 aq P ⟨dst,.binOp op t x y t',ty,pos,after,guard⟩ a γ w B L (rop P gl orc e m dst (mE op x y)).2:=by
 have key:∀neg:Bool,(op=.eql/\neg=false\/op=.neq/\neg=true)->y=.const (.slice none 0 0)->(rop P gl orc e m dst (.nilS neg (aB x))).1->Step N w0 aq P ⟨dst,.binOp op t x y t',ty,pos,after,guard⟩ a γ w B L (rop P gl orc e m dst (.nilS neg (aB x))).2:=by
  clear hc;intro neg eR hy hc;subst hy;have amu:op=.eql\/op=.neq:=eR.imp And.left And.left
  have run:∀p n c,a.eval x=.slice p n c->(execOp a.eval ⟨dst,.binOp op t x (.const (.slice none 0 0)) t',ty,pos,after,guard⟩).run P w=.ok (.value (.bool (if neg then !p.isNone else p.isNone))) w:=fun p n c hv=>by
   have:=Rm (P:=P) (w:=w) (op:=op) hu (p:=p) (n:=n) (c:=c) amu;have K2:a.eval (.const (.slice none 0 0))=.slice none 0 0:=rfl;rcases eR with⟨rfl,rfl⟩|⟨rfl,rfl⟩<;>simp at this<;>simp[execOp,hv,K2,eqGuard,this]
  simp only[rop]at hc |-
  split at hc
  ·rename_i rows e1;rw[e1]at h1;obtain⟨a',cap,b,off,sz,cv,hv,_,aT⟩:=h1.cm;have:a'=none:=aT;subst this;refine Qs hm (run _ _ _ hv) ?_;cases neg<;>exact .bool _
  ·rename_i rows e1;rw[e1]at h1;obtain⟨a',cap,b,off,sz,cv,hv,_,aT⟩:=h1.cm;have:a'≠none:=aT;refine Qs hm (run _ _ _ hv) ?_;cases a' with
   |none=>exact absurd rfl this
   |some a'=>cases neg<;>exact .bool _
  ·rename_i rt row rows qV qY e1;rw[e1]at h1;obtain⟨a',cap,b,off,sz,cv,hv,s1,aT⟩:=h1.cm;have:=(s1.at_ zd).1;subst this;refine Qs hm (run _ _ _ hv) ?_;cases neg<;>exact .bool _
  ·rename_i id off len sz e1;rw[e1]at h1;obtain⟨b,cap,arr,zn,hb,hv,_⟩:=h1.cQ;refine Qs hm (run _ _ _ hv) ?_;cases neg<;>exact .bool _
  exact hc.elim
 unfold mE at hc |-
 split at hc
 ·exact key false (.inl ⟨rfl,rfl⟩) rfl hc
 ·exact key true (.inr ⟨rfl,rfl⟩) rfl hc
 exact hc.elim
def XD{v:Value}(h:aC w γ (.nilv true) v):v=.pointer none:=by cases h;rfl
def K3{t te:TypeId}{op:BinOp}(hu:P.underlying t=some (.pointer te)){p:Option Addr}(eR:op=.eql\/op=.neq):(binOp op t (.pointer p) (.pointer none)).run P w=.ok (.bool (if op=.eql then p.isNone else !p.isNone)) w:=by
 have h:∀d,(Op.equalIn (d+1) t (.pointer p) (.pointer none)).run P w=.ok p.isNone w:=fun d=>by
  unfold Op.equalIn;cases p<;>simp[run_underlying hu]
 have h':(Op.equal t (.pointer p) (.pointer none)).run P w=.ok p.isNone w:=h 9999;rcases eR with rfl|rfl<;>simp[binOp,h']
def Ro(hm:au N w0 aq γ w B L){op:BinOp}{t te t':TypeId}{x y:Operand}(hu:P.underlying t=some (.pointer te))(h1:aC w γ (e (aB x)) (a.eval x))(hc:(rop P gl orc e m dst (Qcs op x y)).1):
  Step N w0 aq P ⟨dst,.binOp op t x y t',ty,pos,after,guard⟩ a γ w B L (rop P gl orc e m dst (Qcs op x y)).2:=by
 have key:∀neg:Bool,(op=.eql/\neg=false\/op=.neq/\neg=true)->y=.const (.pointer none)->(rop P gl orc e m dst (.nilP neg (aB x))).1->Step N w0 aq P ⟨dst,.binOp op t x y t',ty,pos,after,guard⟩ a γ w B L (rop P gl orc e m dst (.nilP neg (aB x))).2:=by
  clear hc;intro neg eR hy hc;subst hy;have amu:op=.eql\/op=.neq:=eR.imp And.left And.left
  have run:∀p,a.eval x=.pointer p->(execOp a.eval ⟨dst,.binOp op t x (.const (.pointer none)) t',ty,pos,after,guard⟩).run P w=.ok (.value (.bool (if neg then !p.isNone else p.isNone))) w:=fun p hv=>by
   have:=K3 (P:=P) (w:=w) (op:=op) hu (p:=p) amu;have K2:a.eval (.const (.pointer none))=.pointer none:=rfl;rcases eR with⟨rfl,rfl⟩|⟨rfl,rfl⟩<;>simp at this<;>simp[execOp,hv,K2,eqGuard,this]
  simp only[rop]at hc |-
  split at hc
  ·rename_i id o e1;rw[e1]at h1;obtain⟨b,hb,hv⟩:=h1.dO;refine Qs hm (run _ hv) ?_;cases neg<;>exact .bool _
  ·rename_i row o e1;rw[e1]at h1;obtain⟨b,off,cv,hv,_⟩:=h1.jg;refine Qs hm (run _ hv) ?_;cases neg<;>exact .bool _
  ·rename_i e1;rw[e1]at h1;have hv:a.eval x=.pointer none:=XD h1;refine Qs hm (run _ hv) ?_;cases neg<;>exact .bool _
  exact hc.elim
 unfold Qcs at hc |-
 split at hc
 ·exact key false (.inl ⟨rfl,rfl⟩) rfl hc
 ·exact key true (.inr ⟨rfl,rfl⟩) rfl hc
 exact hc.elim
def wz:∀{rows:List (List AV)}{l:List UInt8},Wp rows=some l->∃ns:List Int,rows=ns.map (fun n=>[.int .u8 n])/\l=ns.map fun n=>UInt8.ofNat n.toNat
 |[],l,h=>⟨[],rfl,by simpa[Wp]using h.symm⟩
 |row::rows,l,h=>by
  simp only[Wp]at h;cases hb:byteOf row with
  |none=>simp[hb]at h
  |some x=>
   cases hr:Wp rows with
   |none=>simp[hb,hr]at h
   |some l'=>
    simp[hb,hr]at h;obtain⟨ns,h1,h2⟩:=wz hr;unfold byteOf at hb;split at hb
    ·rename_i n;simp at hb;exact⟨n::ns,by simp[h1],by simp[<- h,h2,hb]⟩
    cases hb
def wA(ns:List Int):∀s:ByteArray,ns.foldl (fun r n=>r.push (UInt8.ofNat n.toNat)) s=⟨s.data++(ns.map fun n=>UInt8.ofNat n.toNat).toArray⟩:=by
 induction ns with
 |nil=>intro s;simp
 |cons n ns ih=>intro s;rw[zzd,ih];simp[ByteArray.push]
def XE(hm:au N w0 aq γ w B L){s d te:TypeId}{x:Operand}(hs:P.underlying s=some (.slice te))(hd:P.underlying d=some .string)(ht:P.underlying te=some (.int .u8))(h1:aC w γ (e (aB x)) (a.eval x))(qA:∃rt rows,e (aB x)=.sl rt rows)(hc:(rop P gl orc e m dst (.b2s (aB x))).1):
  Step N w0 aq P ⟨dst,.convert s d x,ty,pos,after,guard⟩ a γ w B L (rop P gl orc e m dst (.b2s (aB x))).2:=by
 simp only[rop]at hc |-
 split at hc
 case h_3=>exact hc.elim
 case h_2=>
  rename_i e1;obtain⟨rt,rows,e2⟩:=qA;rw[e2]at e1;cases e1
 rename_i rt rows e1;rw[e1]at h1;try simp only[e1]
 split at hc
 case h_2=>exact hc.elim
 rename_i l hl;try simp only[hl]
 obtain⟨ns,rfl,rfl⟩:=wz hl;obtain⟨p,cap,b,off,sz,cv,hv,s1,_⟩:=h1.cm;cases p with
 |none=>
  have h0:ns=[]:=by
   have:=s1.hnil rfl;have h2:=s1.hcap;simp at h2;exact zzav zE
  subst h0;refine Qs hm (v:=.string ⟨#[]⟩) ?_ (.str _);simp[execOp,hv,convert,run_underlying hs,run_underlying hd,run_underlying ht,Conv.bytesToString];rfl
 |some p=>
  have XF:(loadCells p ns.length).run P w=.ok (ns.map (Value.int .u8)).toArray w:=by
   have:=run_loadCells_list (P:=P) (w:=w) p (ns.map (Value.int .u8)) fun j v hj=>?_
   ·simpa using this
   simp at hj;obtain⟨n,hn,rfl⟩:=hj;have aM:ns.map (fun n=>[AV.int .u8 n])≠[]:=by rintro h;simp at h;subst h;simp at hn
   obtain⟨e2,_⟩:=s1.at_ aM;cases e2
   have aw4:sz=1:=by
    cases ns with
    |nil=>simp at hn
    |cons n' ns=>have:=s1.hsz [.int .u8 n'] zd;simpa using this.symm
   subst aw4;have oE:Qv (ns.map fun n=>[AV.int .u8 n]) j 0=some (.int .u8 n):=by simp[Qv,hn]
   have c1:=(s1.cell j 0 _ oE).1;have c2:=(s1.rep j 0 _ oE).aI;rw[bA];rw[c2]at c1;simpa using c1
  refine Qs hm (v:=.string ⟨(ns.map fun n=>UInt8.ofNat n.toNat).toArray⟩) ?_ (.str _);have bn:=run_bytesToString w p ns.length cap ns XF;rw[wA]at bn
  have:(⟨ByteArray.empty.data++(ns.map fun n=>UInt8.ofNat n.toNat).toArray⟩:ByteArray)=⟨(ns.map fun n=>UInt8.ofNat n.toNat).toArray⟩:=by
   have:ByteArray.empty.data=#[]:=rfl;rw[this];simp
  rw[this]at bn;simp[execOp,hv,convert,run_underlying hs,run_underlying hd,run_underlying ht,bn]
end
open Go Go.RowKit
section
variable {N:Nat} {w0:fF} {aq:Nat->Nat->Prop} {γ:G} {w:World} {B:Nat->Option (List AV)} {L:Nat->Option Nat} {P:Program} {o:Oper} {a:Act} {r:AV}
variable {dst:Option Tmp} {ty:TypeId} {pos:String} {after:Array Edge} {guard:Option (Nat×Bool)} {gl:Nat->AV} {orc:Nat->FuncId->List AV->AV} {e:bN->AV} {m:AM}
def nD{t:TypeId}{k:Nat}(h:Fv P t=some k):(P.underlying t=some .bool/\k=0)\/(∃i,P.underlying t=some (.int i)/\k=1)\/(P.underlying t=some .string/\k=2):=by
 unfold Fv at h;split at h
 ·cases h;exact .inl ⟨by assumption,rfl⟩
 ·cases h;exact .inr (.inl ⟨_,by assumption,rfl⟩)
 ·cases h;exact .inr (.inr ⟨by assumption,rfl⟩)
 cases h
def ae9{t:TypeId}{k d:Nat}(hk:Fv P t=some k){x y:AV}{u v:Value}(hx:aC w γ x u)(hy:aC w γ y v)(hf:kindF k x y=true):(Op.equalIn (d+1) t u v).run P w=.ok (eqF x y) w:=by
 rcases nD hk with⟨hu,rfl⟩|⟨i,hu,rfl⟩|⟨hu,rfl⟩
 ·cases x<;>cases y<;>simp[kindF]at hf;rw[hx.bB,hy.bB];exact run_equalIn_bool' w d t _ _ hu
 ·cases x<;>cases y<;>simp[kindF]at hf;subst hf;rw[hx.aI,hy.aI];exact run_equalIn_int w d t _ _ _ _ hu
 cases x<;>cases y<;>simp[kindF]at hf;rw[hx.cB,hy.cB];exact run_equalIn_string w d t _ _ hu
def wB{t:TypeId}{k i:Nat}(hk:Fv P t=some k){xs:Array Value}{v:Value}(h:xs[i]?=some v):(part t xs i).run P w=.ok v w:=by
 rcases nD hk with⟨hu,_⟩|⟨_,hu,_⟩|⟨hu,_⟩<;>simp[part,isAgg,run_underlying hu,h]
def wC{d:Nat}{xs ys:Array Value}:∀(fs:List Field)(i:Nat)(ks:List Nat)(as bs:List AV),TU P fs i=some ks->Qcx ks as bs=true->
  (∀(j:Nat)(c:AV),as[j]?=some c->∃v,xs[i+j]?=some v/\aC w γ c v)->(∀(j:Nat)(c:AV),bs[j]?=some c->∃v,ys[i+j]?=some v/\aC w γ c v)->
  (Op.eqFields (d+1) xs ys fs).run P w=.ok (eqFs as bs) w
 |[],i,ks,as,bs,hk,hf,_,_=>by
  cases hk;cases as<;>cases bs<;>simp[Qcx]at hf;simp[Op.eqFields,eqFs]
 |f::fs,i,ks,as,bs,hk,hf,hx,hy=>by
  simp only[TU]at hk;split at hk
  case h_2=>cases hk
  rename_i k ks' h0 h1 h2;cases hk;simp only[zzak,beq_iff_eq,bne_iff_ne]at h0;cases as with
  |nil=>cases bs<;>simp[Qcx]at hf
  |cons c as=>
   cases bs with
   |nil=>simp[Qcx]at hf
   |cons c' bs=>
    simp only[Qcx,zzak]at hf;obtain⟨u,hu1,K4⟩:=hx 0 c rfl;obtain⟨v,hv1,uJ⟩:=hy 0 c' rfl;have ih:=wC (d:=d) (xs:=xs) (ys:=ys) fs (i+1) ks' as bs h2 hf.2 (fun j c hj=>by have:=hx (j+1) c (by simpa using hj);rwa [show i+1+j=i+(j+1) by omega]) (fun j c hj=>by have:=hy (j+1) c (by simpa using hj);rwa [show i+1+j=i+(j+1) by omega]);have p1:=wB (w:=w) h1 hu1;have p2:=wB (w:=w) h1 hv1;have p3:=ae9 (d:=d) h1 K4 uJ hf.1;simp only[zzcq]at p1 p2;simp only[Op.eqFields,ne_eq,h0.2,not_false_eq_true,if_true,Sem.run_bind,h0.1,p1,p2,p3,Result.andThen_ok,Sem.run_ite];cases hc:eqF c c'<;>simp[eqFs,hc,ih]
def XG(hm:au N w0 aq γ w B L){op:BinOp}{t t':TypeId}{fs:Array Field}{x y:Operand}(hu:P.underlying t=some (.struct fs))(h1:aC w γ (e (aB x)) (a.eval x))(h2:aC w γ (e (aB y)) (a.eval y))
  (hc:(rop P gl orc e m dst (zG P t fs.toList op x y)).1):
  Step N w0 aq P ⟨dst,.binOp op t x y t',ty,pos,after,guard⟩ a γ w B L (rop P gl orc e m dst (zG P t fs.toList op x y)).2:=by
 have main:∀(neg:Bool)(ks:List Nat),TU P fs.toList 0=some ks->(P.stoodInHeld t||P.eqGuardType P.depth t)=false->(op=if neg then .neq else .eql)->(rop P gl orc e m dst (.eqA neg ks (aB x) (aB y))).1->
   Step N w0 aq P ⟨dst,.binOp op t x y t',ty,pos,after,guard⟩ a γ w B L (rop P gl orc e m dst (.eqA neg ks (aB x) (aB y))).2:=by
  clear hc;intro neg ks hk hg eR hc;simp only[rop]at hc |-
  split at hc
  case h_2=>exact hc.elim
  rename_i xs ys e1 e2;rw[e1]at h1;rw[e2]at h2;try simp only[e1,e2]
  obtain⟨ax,hv1,r1⟩:=h1.gJ;obtain⟨ay,uJ,r2⟩:=h2.gJ;simp only[zzez]at hg;have hf:P.fieldsOf t=fs:=by simp[Program.fieldsOf,hu]
  have cA:∀{cs:List AV}{arr:Array Value},ak w γ cs arr.toList->∀(j:Nat)(c:AV),cs[j]?=some c->∃v,arr[0+j]?=some v/\aC w γ c v:=fun{cs arr}hr j c hj=>by
   have h0:=(zza.1 hj).1;have h3:=hr.1;have ai:j<arr.size:=by simp at h3;omega
   exact⟨arr[j],by simp[ai],hr.2 j c _ hj (by simp[ai])⟩
  have bn:(Op.equalIn 10000 t (.agg ax) (.agg ay)).run P w=.ok (eqFs xs ys) w:=by
   rw[run_equalIn_struct w 9999 t ax ay (by rw[hf];exact hu) hg.1,hf];exact wC (d:=9998) fs.toList 0 ks xs ys hk hc (cA r1) (cA r2)
  have XH:=run_eqGuard_agg (P:=P) w op t x y ax ay hg.2;cases neg with
  |false=>
   simp at eR;subst eR;refine Qs hm (v:=.bool (eqFs xs ys)) ?_ (.bool _);simp[execOp,hv1,uJ,XH,run_eql_struct,bn]
  |true=>
   simp at eR;subst eR;refine Qs hm (v:=.bool (!(eqFs xs ys))) ?_ (.bool _);simp[execOp,hv1,uJ,XH,run_neq_struct,bn]
 unfold zG at hc |-
 split at hc
 ·rename_i ks h3 h4;exact main false ks h3 h4 rfl hc
 ·rename_i ks h3 h4;exact main true ks h3 h4 rfl hc
 exact hc.elim
def nE{isS:Bool}{len cap:Nat}{lo hi:Option Operand}{l h:Int}(hl:loOf ((lo.map aB).map e)=some l)(hh:hiOf len ((hi.map aB).map e)=some h)(h2:∀y∈lo,aC w γ (e (aB y)) (a.eval y))(h3:∀y∈hi,aC w γ (e (aB y)) (a.eval y))
  (c0:0<=l)(c1:l<=h)(c2:h<=len)(c3:len<=cap):(Instr.sliceBounds isS len cap (lo.map a.eval) (hi.map a.eval) none).run P w=.ok (l.toNat,h.toNat,cap) w:=by
 have k1:lo=none/\l=0\/∃y k,lo=some y/\a.eval y=.int k l:=by
  cases lo with
  |none=>simp[loOf]at hl;exact .inl ⟨rfl,hl.symm⟩
  |some y=>
   have:=h2 y zd;simp only[zzcw]at hl;cases he:e (aB y)<;>rw[he]at hl<;>simp[loOf]at hl;subst hl;rw[he]at this;exact .inr ⟨y,_,rfl,this.aI⟩
 have k2:hi=none/\h=len\/∃y k,hi=some y/\a.eval y=.int k h:=by
  cases hi with
  |none=>simp[hiOf]at hh;exact .inl ⟨rfl,hh.symm⟩
  |some y=>
   have:=h3 y zd;simp only[zzcw]at hh;cases he:e (aB y)<;>rw[he]at hh<;>simp[hiOf]at hh;subst hh;rw[he]at this;exact .inr ⟨y,_,rfl,this.aI⟩
 have c4:0<=h:=zE
 have c5:h<=(cap:Int):=zE
 have c6:l<=(h.toNat:Int):=zE
 rcases k1 with⟨rfl,rfl⟩|⟨y,k,rfl,hy⟩<;>obtain⟨rfl,rfl⟩|⟨y',k',rfl,hy'⟩:=k2
 ·simp[Instr.sliceBounds]
 ·simp[Instr.sliceBounds,Instr.sliceBound,asIntOf,hy',c4,c5]
 ·simp[Instr.sliceBounds,Instr.sliceBound,asIntOf,hy,c0,c1]
 have c7:¬(max h 0<l):=zE
 have c8:l<=max h 0:=zE
 simp[Instr.sliceBounds,Instr.sliceBound,asIntOf,hy,hy',c0,c4,c5,c8]
def oZ{rows:List (List AV)}{l k i j:Nat}{c:AV}(h:Qv ((rows.drop l).take k) i j=some c):Qv rows (l+i) j=some c/\i<k:=by
 unfold Qv at*
 rw[zzbl]at h;split at h
 ·rename_i hi;rw[zzbm]at h;exact⟨h,hi⟩
 simp at h
def XI(hm:au N w0 aq γ w B L){t te:TypeId}{i:TypeInfo}{x:Operand}{lo hi:Option Operand}(hu:P.underlying t=some (.slice te))(di:P.info? te=some i)
  (h1:aC w γ (e (aB x)) (a.eval x))(h2:∀y∈lo,aC w γ (e (aB y)) (a.eval y))(h3:∀y∈hi,aC w γ (e (aB y)) (a.eval y))
  (hc:(rop P gl orc e m dst (.slL i.size (aB x) (lo.map aB) (hi.map aB))).1):
  Step N w0 aq P ⟨dst,.slice t x lo hi none,ty,pos,after,guard⟩ a γ w B L (rop P gl orc e m dst (.slL i.size (aB x) (lo.map aB) (hi.map aB))).2:=by
 simp only[rop]at hc |-
 split at hc
 ·rename_i rt rows e1;rw[e1]at h1;try simp only[e1]
  split at hc
  case h_2=>exact hc.elim
  rename_i l h hl hh;try simp only[hl,hh]
  obtain⟨⟨c0,c1,c2⟩,hsz⟩:=hc;obtain⟨p,cap,b,off,sz,cv,hv,s1,_⟩:=h1.cm;replace s1:=s1.fix (sz:=i.size) hsz;have hb:=nE (P:=P) (w:=w) (a:=a) (isS:=true) (cap:=cap) hl hh h2 h3 c0 c1 c2 s1.hcap;have aH:((rows.drop l.toNat).take (h.toNat-l.toNat)).length=h.toNat-l.toNat:=by simp;omega
  have hcap:=s1.hcap;refine Qs hm (v:=.slice (if cap=l.toNat then p else p.map (·.add (l.toNat*i.size))) (h.toNat-l.toNat) (cap-l.toNat)) ?_ ?_
  ·simp[execOp,Instr.sliceAt,Instr.slice,run_underlying hu,hv,hb,sizeOf,typeInfo,di]
  have main:aC w γ (.sl .ro ((rows.drop l.toNat).take (h.toNat-l.toNat))) (.slice (if cap=l.toNat then p else p.map (·.add (l.toNat*i.size))) ((rows.drop l.toNat).take (h.toNat-l.toNat)).length (cap-l.toNat)):=?_
  ·rw[aH]at main;exact main
  refine .sl b (off+l.toNat*i.size) i.size (fun k j=>cv (l.toNat+k) j) (by rw[aH];omega) (fun hn=>?_) (fun hn=>?_) (fun row hr=>hsz row (zzdt (zzcb hr))) (fun k j c hk=>?_) (fun k j c hk=>?_) trivial
  ·have:p=none:=by
    split at hn
    ·exact hn
    simpa using hn
   have:=s1.hnil this;omega
  ·have aM:rows≠[]:=by rintro rfl;simp at hn
   obtain⟨hp,ai⟩:=s1.at_ aM
   have hlh:l.toNat<h.toNat:=by
    rcases zzaa l.toNat h.toNat with h'|h'
    ·exact h'
    exact absurd (zzav (by rw[aH];omega)) hn
   refine⟨?_,ai⟩;rw[if_neg zE,hp];simp[bA]
  ·obtain⟨g1,_⟩:=oZ hk;obtain⟨g2,g3,g4⟩:=s1.cell _ j c g1;rw[zzbr,<- zzao]at g2 g3;exact⟨g2,g3,g4⟩
  obtain⟨g1,_⟩:=oZ hk;exact s1.rep _ j c g1
 ·rename_i id off len gH e1;rw[e1]at h1;try simp only[e1]
  split at hc
  case h_2=>exact hc.elim
  rename_i l h hl hh;try simp only[hl,hh]
  obtain⟨⟨c0,c1,c2⟩,rfl⟩:=hc;obtain⟨b,cap,arr,zn,hβ,hv,cw,hblk,hs⟩:=h1.cQ;have hb:=nE (P:=P) (w:=w) (a:=a) (isS:=true) (cap:=cap) hl hh h2 h3 c0 c1 c2 cw;refine Qs hm (v:=.slice (if cap=l.toNat then some ⟨b,off,none⟩else(some ⟨b,off,none⟩:Option Addr).map (·.add (l.toNat*i.size))) (h.toNat-l.toNat) (cap-l.toNat)) ?_ ?_
  ·simp[execOp,Instr.sliceAt,Instr.slice,run_underlying hu,hv,hb,sizeOf,typeInfo,di]
  split
  ·rename_i hor
   have ha:(if cap=l.toNat then some (⟨b,off,none⟩:Addr)else(some ⟨b,off,none⟩:Option Addr).map (·.add (l.toNat*i.size)))=some ⟨b,off+l.toNat*i.size,none⟩:=by
    obtain h'|h':=hor
    ·rw[if_neg zE];simp[bA]
    subst h';split<;>simp[bA]
   rw[ha];refine .bs hβ zE hblk ?_;have:(l.toNat+(cap-l.toNat))*i.size=cap*i.size:=by congr 1;omega
   rw[zzbr]at this;omega
  have hz:h.toNat-l.toNat=0:=zE
  rw[hz]
  have:aC w γ (.sl .nn []) (.slice (if cap=l.toNat then some (⟨b,off,none⟩:Addr)else(some ⟨b,off,none⟩:Option Addr).map (·.add (l.toNat*i.size))) ([]:List (List AV)).length (cap-l.toNat)):=
   .sl b off i.size (fun _ _=>undef) (zzbt _) (fun hn=>by split at hn<;>simp at hn) (fun hn=>absurd rfl hn) (fun _ h=>by cases h) (fun i j c h=>by simp[Qv]at h) (fun i j c h=>by simp[Qv]at h) (by
    show _≠none;split<;>simp)
  exact this
 exact hc.elim
def wD(hm:au N w0 aq γ w B L)(hB:∀id cells,m.boxes[id]?=some cells->B id=some cells){id b:Nat}(hb:γ.β id=some b){arr:Array Value}{te:TypeId}(hh:w.heap[b]?=some (.cells arr te (0,0))){k:Nat}{c:AV}
  (hk:(m.boxes.getD id [])[k]?=some c):∃u,arr[k]?=some u/\aC w γ c u/\u.oneCell'=true:=by
 cases fI:m.boxes[id]? with
 |none=>simp[List.getD,fI]at hk
 |some cells=>
  have:m.boxes.getD id []=cells:=by simp[List.getD,fI]
  rw[this]at hk;obtain⟨bR,e',g2,g3,g4⟩:=hm.box id cells b (hB id cells fI) hb;rw[hh]at g2;cases g2;have h1:=(zza.1 hk).1;have h2:=g3.1;have ck:k<arr.size:=by simp at h2;omega
  exact⟨arr[k],zzaj ck,g3.2 _ c _ hk (by simp[ck]),g4 _ zd⟩
def XJ(hm:au N w0 aq γ w B L)(hB:∀id cells,m.boxes[id]?=some cells->B id=some cells){id b:Nat}(hb:γ.β id=some b){arr:Array Value}{te:TypeId}(hh:w.heap[b]?=some (.cells arr te (0,0))):
  (m.boxes.getD id []).length<=arr.size:=by
 rcases zzcn (m.boxes.getD id []).length with h|h
 ·omega
 obtain⟨u,h1,_⟩:=wD hm hB hb hh (k:=(m.boxes.getD id []).length-1) (zzae zE);have:=(zzby.1 h1).1;omega
def XK(hm:au N w0 aq γ w B L)(hB:∀id cells,m.boxes[id]?=some cells->B id=some cells){t te:TypeId}{n:Nat}{i:TypeInfo}{x:Operand}{lo hi:Option Operand}(hu:P.underlying t=some (.array n te))(di:P.info? te=some i)
  (h1:aC w γ (e (aB x)) (a.eval x))(h2:∀y∈lo,aC w γ (e (aB y)) (a.eval y))(h3:∀y∈hi,aC w γ (e (aB y)) (a.eval y))
  (hc:(rop P gl orc e m dst (.slA n i.size (aB x) (lo.map aB) (hi.map aB))).1):
  Step N w0 aq P ⟨dst,.slice t x lo hi none,ty,pos,after,guard⟩ a γ w B L (rop P gl orc e m dst (.slA n i.size (aB x) (lo.map aB) (hi.map aB))).2:=by
 simp only[rop]at hc |-
 split at hc
 case h_2=>exact hc.elim
 rename_i id o' e1;rw[e1]at h1;try simp only[e1]
 split at hc
 case h_2=>exact hc.elim
 rename_i l h hl hh;try simp only[hl,hh]
 obtain⟨⟨c0,c1,c2⟩,bX,aK⟩:=hc;obtain⟨b,hβ,hv⟩:=h1.dO;have fI:m.boxes[id]?=some (m.boxes.getD id []):=by simp[aK]
 obtain⟨arr,zn,hblk,g3,g4⟩:=hm.box id _ b (hB id _ fI) hβ;have cw:=g3.1;simp only[zzbk]at cw;have hb:=nE (P:=P) (w:=w) (a:=a) (isS:=false) (cap:=n) hl hh h2 h3 c0 c1 c2 (zzab n);refine Qs hm (v:=.slice (some (if n=l.toNat then⟨b,o',none⟩else⟨b,o'+l.toNat*i.size,none⟩)) (h.toNat-l.toNat) (n-l.toNat)) ?_ ?_
 ·simp[execOp,Instr.sliceAt,Instr.sureAddr,run_underlying hu,hv,hb,sizeOf,typeInfo,di,bA]
 split
 ·rename_i hor
  have ha:(if n=l.toNat then(⟨b,o',none⟩:Addr)else⟨b,o'+l.toNat*i.size,none⟩)=⟨b,o'+l.toNat*i.size,none⟩:=by
   obtain h'|h':=hor
   ·rw[if_neg zE]
   subst h';split<;>simp
  rw[ha];refine .bs hβ zE hblk ?_;have:(l.toNat+(n-l.toNat))*i.size=n*i.size:=by congr 1;omega
  rw[zzbr]at this;omega
 have hz:h.toNat-l.toNat=0:=zE
 rw[hz]
 have:aC w γ (.sl .nn []) (.slice (some (if n=l.toNat then⟨b,o',none⟩else⟨b,o'+l.toNat*i.size,none⟩)) ([]:List (List AV)).length (n-l.toNat)):=
  .sl b 0 i.size (fun _ _=>undef) (zzbt _) (fun hn=>by cases hn) (fun hn=>absurd rfl hn) (fun _ h=>by cases h) (fun i j c h=>by simp[Qv]at h) (fun i j c h=>by simp[Qv]at h) (by
   show _≠none;simp)
 exact this
def Rp(hm:au N w0 aq γ w B L)(hB:∀id cells,m.boxes[id]?=some cells->B id=some cells){s d te:TypeId}{x:Operand}(hs:P.underlying s=some (.slice te))(hd:P.underlying d=some .string)(ht:P.underlying te=some (.int .u8))
  (h1:aC w γ (e (aB x)) (a.eval x)){id off len sz:Nat}(e1:e (aB x)=.bs id off len sz){l:List UInt8}(hl:Wp (bh 1 len ((m.boxes.getD id []).drop off))=some l):
  Step N w0 aq P ⟨dst,.convert s d x,ty,pos,after,guard⟩ a γ w B L (.str ⟨l.toArray⟩):=by
 rw[e1]at h1;obtain⟨b,cap,arr,zn,hβ,hv,cw,hblk,_⟩:=h1.cQ;obtain⟨ns,ey,rfl⟩:=wz hl;have aH:len=ns.length:=by have:=congrArg List.length ey;simpa[Qei]using this
 have XF:(loadCells ⟨b,off,none⟩ ns.length).run P w=.ok (ns.map (Value.int .u8)).toArray w:=by
  have:=run_loadCells_list (P:=P) (w:=w) ⟨b,off,none⟩ (ns.map (Value.int .u8)) fun j v hj=>?_
  ·simpa using this
  simp at hj;obtain⟨n,hn,rfl⟩:=hj;have oE:Qv (bh 1 len ((m.boxes.getD id []).drop off)) j 0=some (.int .u8 n):=by rw[ey];simp[Qv,hn]
  obtain⟨_,_,h3⟩:=Wu oE;rw[zzbm]at h3;obtain⟨u,h4,h5,_⟩:=wD hm hB hβ hblk h3;rw[h5.aI]at h4;rw[bA,aO hblk];simpa using h4
 refine Qs hm (v:=.string ⟨(ns.map fun n=>UInt8.ofNat n.toNat).toArray⟩) ?_ (.str _);have bn:=run_bytesToString w ⟨b,off,none⟩ ns.length cap ns XF;rw[wA]at bn
 have:(⟨ByteArray.empty.data++(ns.map fun n=>UInt8.ofNat n.toNat).toArray⟩:ByteArray)=⟨(ns.map fun n=>UInt8.ofNat n.toNat).toArray⟩:=by
  have:ByteArray.empty.data=#[]:=rfl;rw[this];simp
 rw[this]at bn;rw[aH]at hv;simp[execOp,hv,convert,run_underlying hs,run_underlying hd,run_underlying ht,bn]
end
open Go Go.RowKit
section
variable {N:Nat} {w0:fF} {aq:Nat->Nat->Prop} {γ:G} {w:World} {B:Nat->Option (List AV)} {L:Nat->Option Nat} {P:Program} {o:Oper} {a:Act} {r:AV}
variable {dst:Option Tmp} {ty:TypeId} {pos:String} {after:Array Edge} {guard:Option (Nat×Bool)} {gl:Nat->AV} {orc:Nat->FuncId->List AV->AV} {e:bN->AV} {m:AM}
def amv(P:Program)(k:TypeId)(kn:Nat):Prop:=(kn=0/\P.underlying k=some (.int .i64))\/
 (∃fs ks,P.underlying k=some (.struct fs)/\TU P fs.toList 0=some ks/\(∀x∈ks,x=1)/\fs.size=kn/\kn≠0/\P.stoodInHeld k=false)
def kX{t:TypeId}{kn:Nat}{z:AV}(h:Fw P t=some (kn,z)):∃k v i zv,P.underlying t=some (.map k v)/\amv P k kn/\P.info? v=some i/\i.zero=some zv/\z=AU zv:=by
 unfold Fw at h;split at h
 case h_2=>cases h
 rename_i k v hu;split at h
 ·rename_i i hk hi;cases hz:i.zero with
  |none=>simp[hz]at h
  |some zv=>simp[hz]at h;obtain⟨rfl,rfl⟩:=h;exact⟨k,v,i,zv,hu,.inl ⟨rfl,hk⟩,hi,hz,rfl⟩
 ·rename_i fs i hk hi;cases JG:TU P fs.toList 0 with
  |none=>simp[JG]at h
  |some ks=>
   simp only[JG]at h;by_cases hc:(ks.all (·==1)&&(fs.size !=0)&&!(P.stoodInHeld k))=true
   ·rw[if_pos hc]at h;simp only[zzak,zzbh,beq_iff_eq,bne_iff_ne,Bool.not_eq_true']at hc;cases hz:i.zero with
    |none=>rw[hz]at h;cases h
    |some zv=>
     rw[hz]at h;simp only[zzcw,Option.some.injEq,Prod.mk.injEq]at h;obtain⟨rfl,rfl⟩:=h;exact⟨k,v,i,zv,hu,.inr ⟨fs,ks,hk,JG,hc.1.1,rfl,hc.1.2,hc.2⟩,hi,hz,rfl⟩
   rw[if_neg hc]at h;cases h
 cases h
def FD:∀{cs:List AV}{ns:List Int},intsA cs=some ns->cs=ns.map (AV.int .i64)
 |[],ns,h=>by cases h;rfl
 |c::cs,ns,h=>by
  cases c<;>try(simp[intsA]at h;done)
  rename_i k n;cases k<;>try(simp[intsA]at h;done)
  simp only[intsA]at h;split at h
  ·rename_i ns' h';cases h;rw[FD h'];rfl
  cases h
def CV{kn:Nat}{av:AV}{ns:List Int}(h:keyA kn av=some ns):av=keyAV kn ns/\Fu kn ns:=by
 cases kn with
 |zero=>
  cases av<;>try(simp[keyA]at h;done)
  rename_i k n;cases k<;>try(simp[keyA]at h;done)
  cases h;exact⟨rfl,rfl⟩
 |succ kn=>
  cases av<;>try(simp[keyA]at h;done)
  rename_i cs;simp only[keyA]at h;split at h
  case h_2=>cases h
  rename_i ns' h';split at h
  case isFalse=>cases h
  cases h;exact⟨by rw[FD h'];rfl,by assumption⟩
def Rq{ns:List Int}:∀{vs:List Value},ak w γ (ns.map (AV.int .i64)) vs->vs=ns.map (Value.int .i64):=by
 induction ns with
 |nil=>intro vs h;exact zzav (by have:=h.1;simpa using this.symm)
 |cons n ns ih=>
  intro vs h;cases vs with
  |nil=>have:=h.1;simp at this
  |cons v vs=>
   have h0:=(h.2 0 (.int .i64 n) v rfl rfl).aI;rw[h0,ih (vs:=vs) ⟨by have:=h.1;simpa using this,fun i a u h1 h2=>h.2 (i+1) a u (by simpa using h1) (by simpa using h2)⟩];rfl
def wE(w:World)(γ:G):∀ns:List Int,ak w γ (ns.map (AV.int .i64)) (ns.map (Value.int .i64))
 |[]=>ak.nil
 |n::ns=>ak.cons (.int .i64 n) (wE w γ ns)
def rf{kn:Nat}{ns:List Int}{v:Value}(hk:Fu kn ns)(h:aC w γ (keyAV kn ns) v):v=Yr kn ns:=by
 cases kn with
 |zero=>
  match ns,hk with
  |[n],_=>exact h.aI
 |succ kn=>
  obtain⟨arr,rfl,hr⟩:=aC.gJ (cs:=ns.map (AV.int .i64)) h;have:=Rq hr;simp only[Yr];congr 1;apply Array.ext';simpa using this
def A3{kn:Nat}{ns:List Int}(hk:Fu kn ns):aC w γ (keyAV kn ns) (Yr kn ns):=by
 cases kn with
 |zero=>
  match ns,hk with
  |[n],_=>exact .int .i64 n
 |succ kn=>
  have:=(wE w γ ns);exact .agg zd fun i c v h1 h2=>this.2 i c v h1 (by simpa using h2)
def wG:∀{fs:List Field}{i:Nat}{ks:List Nat},TU P fs i=some ks->ks.length=fs.length
 |[],_,ks,h=>by cases h;rfl
 |f::fs,i,ks,h=>by
  simp only[TU]at h;split at h
  case h_2=>cases h
  rename_i k ks' h0 h1 h2;cases h;simp[wG h2]
def sE:∀{ks:List Nat}{as bs:List Int},(∀x∈ks,x=1)->as.length=ks.length->bs.length=ks.length->Qcx ks (as.map (AV.int .i64)) (bs.map (AV.int .i64))=true
 |[],[],[],_,_,_=>rfl
 |k::ks,a::as,b::bs,h,h1,h2=>by
  have:=h k zd;subst this;simp only[zzay,Qcx,kindF,decide_true,zzdu];exact sE (fun x hx=>h x (by simp[hx])) (by simpa using h1) (by simpa using h2)
 |[],_::_,_,_,h,_=>by simp at h
 |[],_,_::_,_,_,h=>by simp at h
 |_::_,[],_,_,h,_=>by simp at h
 |_::_,_,[],_,_,h=>by simp at h
def A4:∀{as bs:List Int},as.length=bs.length->eqFs (as.map (AV.int .i64)) (bs.map (AV.int .i64))=decide (as=bs)
 |[],[],_=>rfl
 |a::as,b::bs,h=>by
  simp only[zzay,eqFs,eqF,A4 (as:=as) (bs:=bs) (by simpa using h)];by_cases h1:a=b<;>by_cases h2:as=bs<;>simp[h1,h2]
 |[],_::_,h=>by simp at h
 |_::_,[],h=>by simp at h
def Rr{k:TypeId}{kn:Nat}{fs:Array Field}{ks:List Nat}(hu:P.underlying k=some (.struct fs))(hk:TU P fs.toList 0=some ks)(h1:∀x∈ks,x=1)(hs:fs.size=kn)(hg:P.stoodInHeld k=false){as bs:List Int}(ha:as.length=kn)(hb:bs.length=kn):
  (Op.equal k (.agg (as.map (Value.int .i64)).toArray) (.agg (bs.map (Value.int .i64)).toArray)).run P w=.ok (decide (as=bs)) w:=by
 have hf:P.fieldsOf k=fs:=by simp[Program.fieldsOf,hu]
 have hl:=wG hk;simp only[zzbk]at hl;show(Op.equalIn 10000 k _ _).run P w=_;rw[run_equalIn_struct w 9999 k _ _ (by rw[hf];exact hu) hg,hf];rw[wC (w:=w) (γ:=G0 fun _ _=>False) (d:=9998) fs.toList 0 ks (as.map (AV.int .i64)) (bs.map (AV.int .i64)) hk (sE h1 zE zE) ?_ ?_,A4 zE]
 ·intro j c hj;simp at hj;obtain⟨n,hn,rfl⟩:=hj;exact⟨.int .i64 n,by simp[hn],.int .i64 n⟩
 intro j c hj;simp at hj;obtain⟨n,hn,rfl⟩:=hj;exact⟨.int .i64 n,by simp[hn],.int .i64 n⟩
def XL{n:Int}:∀{kvs:List (List Int×AV)}{es:List MapEntry}(i:Nat),kvs.length=es.length->(∀(j:Nat)(k:List Int)(c:AV)(x:MapEntry),kvs[j]?=some (k,c)->es[j]?=some x->Fu 0 k/\x.key=Yr 0 k/\aC w γ c x.val)->
  (Xl [n] kvs i=none->Instr.findNow (.int .i64) (.int .i64 n) es i=some none)/\
  (∀j c,Xl [n] kvs i=some (j,c)->∃v,Instr.findNow (.int .i64) (.int .i64 n) es i=some (some (j,v))/\aC w γ c v/\i<=j/\j<i+kvs.length/\kvs[j-i]?=some ([n],c))
 |[],[],i,_,_=>⟨fun _=>rfl,fun j c h=>by cases h⟩
 |[],_::_,_,h,_=>by simp at h
 |_::_,[],_,h,_=>by simp at h
 |(k,c)::kvs,x::es,i,hl,hk=>by
  obtain⟨g0,g1,g2⟩:=hk 0 k c x rfl rfl;obtain⟨ih1,ih2⟩:=XL (n:=n) (kvs:=kvs) (es:=es) (i+1) (by simpa using hl) fun j k' c' x' q1 q2=>hk (j+1) k' c' x' (by simpa using q1) (by simpa using q2)
  match k,g0 with
  |[k],_=>
   simp only[Yr]at g1;by_cases hnk:n=k
   ·subst hnk;have hf:Instr.findNow (.int .i64) (.int .i64 n) (x::es) i=some (some (i,x.val)):=by simp[Instr.findNow,Instr.sameNow,g1]
    refine⟨fun h=>by simp[Xl]at h,fun j c' h=>?_⟩;simp[Xl]at h;obtain⟨rfl,rfl⟩:=h;exact⟨x.val,hf,g2,zzab _,zd,zd⟩
   have aw5:(n==k)=false:=by simpa using hnk
   have hf:Instr.findNow (.int .i64) (.int .i64 n) (x::es) i=Instr.findNow (.int .i64) (.int .i64 n) es (i+1):=by simp[Instr.findNow,Instr.sameNow,g1,aw5]
   rw[hf];have aw6:¬[n]=[k]:=by simpa using hnk
   simp only[Xl,if_neg aw6];refine⟨ih1,fun j c' h=>?_⟩;obtain⟨v,q1,q2,q3,q4,q5⟩:=ih2 j c' h;refine⟨v,q1,q2,zE,by simp;omega,?_⟩;rw[show j-i=(j-(i+1))+1 by omega];simpa using q5
def XM{kt:TypeId}{kn:Nat}{n:List Int}(A5:∀k',Fu kn k'->(Op.equal kt (Yr kn n) (Yr kn k')).run P w=.ok (decide (n=k')) w):∀{kvs:List (List Int×AV)}{es:List MapEntry}(i:Nat),kvs.length=es.length->
  (∀(j:Nat)(k:List Int)(c:AV)(x:MapEntry),kvs[j]?=some (k,c)->es[j]?=some x->Fu kn k/\x.key=Yr kn k/\aC w γ c x.val)->
  (Xl n kvs i=none->(Instr.findAsking kt (Yr kn n) es i).run P w=.ok none w)/\
  (∀j c,Xl n kvs i=some (j,c)->∃v,(Instr.findAsking kt (Yr kn n) es i).run P w=.ok (some (j,v)) w/\aC w γ c v/\i<=j/\j<i+kvs.length/\kvs[j-i]?=some (n,c))
 |[],[],i,_,_=>⟨fun _=>by simp[Instr.findAsking],fun j c h=>by cases h⟩
 |[],_::_,_,h,_=>by simp at h
 |_::_,[],_,h,_=>by simp at h
 |(k,c)::kvs,x::es,i,hl,hk=>by
  obtain⟨g0,g1,g2⟩:=hk 0 k c x rfl rfl;obtain⟨ih1,ih2⟩:=XM A5 (kvs:=kvs) (es:=es) (i+1) (by simpa using hl) fun j k' c' x' q1 q2=>hk (j+1) k' c' x' (by simpa using q1) (by simpa using q2);have hq:=A5 k g0;rw[<- g1]at hq;by_cases hnk:n=k
  ·subst hnk;simp only[decide_true]at hq;have hf:(Instr.findAsking kt (Yr kn n) (x::es) i).run P w=.ok (some (i,x.val)) w:=by simp[Instr.findAsking,hq]
   refine⟨fun h=>by simp[Xl]at h,fun j c' h=>?_⟩;simp[Xl]at h;obtain⟨rfl,rfl⟩:=h;exact⟨x.val,hf,g2,zzab _,zd,zd⟩
  simp only[hnk,decide_false]at hq;have hf:(Instr.findAsking kt (Yr kn n) (x::es) i).run P w=(Instr.findAsking kt (Yr kn n) es (i+1)).run P w:=by simp[Instr.findAsking,hq]
  rw[hf];simp only[Xl,if_neg hnk];refine⟨ih1,fun j c' h=>?_⟩;obtain⟨v,q1,q2,q3,q4,q5⟩:=ih2 j c' h;refine⟨v,q1,q2,zE,by simp;omega,?_⟩;rw[show j-i=(j-(i+1))+1 by omega];simpa using q5
def CW{kt:TypeId}{kn:Nat}{n:List Int}(hkt:amv P kt kn)(hn:Fu kn n){kvs:List (List Int×AV)}{es:List MapEntry}(hl:kvs.length=es.length)
  (hk:∀(j:Nat)(k:List Int)(c:AV)(x:MapEntry),kvs[j]?=some (k,c)->es[j]?=some x->Fu kn k/\x.key=Yr kn k/\aC w γ c x.val):
  (Xl n kvs 0=none->(Instr.findKey kt (Yr kn n) es).run P w=.ok none w)/\
  (∀j c,Xl n kvs 0=some (j,c)->∃v,(Instr.findKey kt (Yr kn n) es).run P w=.ok (some (j,v)) w/\aC w γ c v/\j<kvs.length/\kvs[j]?=some (n,c)):=by
 obtain⟨rfl,hu⟩|⟨fs,ks,hu,JG,h1,hs,h0,hg⟩:=hkt
 ·match n,hn with
  |[n],_=>
   obtain⟨f1,f2⟩:=XL (w:=w) (γ:=γ) (n:=n) 0 hl hk;refine⟨fun h=>MapKept.run_findKey hu (f1 h),fun j c h=>?_⟩;obtain⟨v,q1,q2,_,q4,q5⟩:=f2 j c h;exact⟨v,MapKept.run_findKey hu q1,q2,zE,by simpa using q5⟩
 cases kn with
 |zero=>exact absurd rfl h0
 |succ kn=>
  obtain⟨f1,f2⟩:=XM (w:=w) (γ:=γ) (P:=P) (kt:=kt) (n:=n) (kn:=kn+1) (fun k' zI=>Rr hu JG h1 hs hg hn zI) 0 hl hk;have e1:(Instr.findKey kt (Yr (kn+1) n) es).run P w=(Instr.findAsking kt (Yr (kn+1) n) es).run P w:=run_findKey_eq w (by simp[hu]) _ _;rw[e1];refine⟨f1,fun j c h=>?_⟩;obtain⟨v,q1,q2,_,q4,q5⟩:=f2 j c h;exact⟨v,q1,q2,zE,by simpa using q5⟩
def run_checkKey{b:Bool}{k:TypeId}{kn:Nat}{n:List Int}(hk:amv P k kn)(hn:Fu kn n):(Instr.checkKey b 10000 k (Yr kn n)).run P w=.ok () w:=by
 obtain⟨rfl,hu⟩|⟨fs,ks,hu,JG,h1,hs,h0,hg⟩:=hk
 ·match n,hn with
  |[n],_=>
   have h:∀d,(Instr.checkKey b (d+1) k (.int .i64 n)).run P w=.ok () w:=fun d=>by
    unfold Instr.checkKey;simp[run_underlying hu]
   exact h 9999
 cases kn with
 |zero=>exact absurd rfl h0
 |succ kn=>
  have h:∀d,(Instr.checkKey b (d+1+1) k (.agg (n.map (Value.int .i64)).toArray)).run P w=.ok () w:=fun d=>by
   rw[Instr.checkKey];simp only[Sem.run_bind,run_underlying hu,Result.andThen_ok];rw[<- Array.forIn_toList];have qB:n.length=kn+1:=hn
   have ha:∀j,0<=j->j<0+fs.toList.length->∃n',(n.map (Value.int .i64)).toArray[j]?=some (.int .i64 n'):=fun j _ hj=>by
    simp at hj;exact⟨n[j]' zE,by simp[show j<n.length by omega]⟩
   generalize(n.map (Value.int .i64)).toArray=arr at ha;generalize fs.toList=Lf at JG ha;generalize(0:Nat)=i0 at JG ha;clear hs hu qB hn h0 hg;induction Lf generalizing i0 ks with
   |nil=>simp
   |cons f Lf ih=>
    simp only[TU]at JG;split at JG
    case h_2=>cases JG
    rename_i k' ks' h0 dw dD;cases JG;simp only[zzak,beq_iff_eq,bne_iff_ne]at h0;have ih:=ih ks' (fun x hx=>h1 x (by simp[hx])) (i0+1) dD fun j ek oD=>ha j zE (by simp;omega);obtain⟨n',qB⟩:=ha i0 (zzab _) zd;have hp:=wB (P:=P) (w:=w) dw qB
    have hc:(Instr.checkKey b (d+1) f.type (.int .i64 n')).run P w=.ok () w:=by
     rcases nD dw with⟨hu,_⟩|⟨_,hu,_⟩|⟨hu,_⟩<;>simp[Instr.checkKey,run_underlying hu]
    simp only[List.forIn_cons,Sem.run_bind,h0.2,ne_eq,not_false_eq_true,if_true,h0.1,hp,hc,Result.andThen_ok,Sem.run_pure];exact ih
  exact h 9998
def o6{α:Type}:∀{l:List α}{x y:α},(x,y)∈l.zip l->x=y/\x∈l
 |[],_,_,h=>by simp at h
 |a::l,x,y,h=>by
  rw[zzdf]at h;rcases zzat.1 h with h|h
  ·cases h;exact⟨rfl,zd⟩
  obtain⟨h1,h2⟩:=o6 h;exact⟨h1,by simp[h2]⟩
def zN(d:Nat)(n:List Int):Instr.sameBits (d+1+1) (.agg (n.map (Value.int .i64)).toArray) (.agg (n.map (Value.int .i64)).toArray)=true:=by
 simp only[Instr.sameBits,beq_self_eq_true,zzdu,zzbh];rintro⟨x,y⟩ hxy
 have h:x=y/\x∈n.map (Value.int .i64):=by
  try simp only[List.toList_toArray]at hxy
  exact o6 hxy
 obtain⟨rfl,h2⟩:=h;obtain⟨k,_,rfl⟩:=zzax.1 h2;simp[Instr.sameBits]
def o7{old new:Value}{kn:Nat}{n:List Int}(hn:Fu kn n)(h1:old=Yr kn n)(h2:new=Yr kn n):(Instr.keyThatStays old new).run P w=.ok new w:=by
 subst h1;subst h2;cases kn with
 |zero=>
  match n,hn with
  |[n],_=>simp[Instr.keyThatStays,Instr.sameBits,Yr]
 |succ kn=>
  have:=zN 9998 n;simp[Instr.keyThatStays,Yr,this]
def au.jo(hm:au N w0 aq γ w B L){id kn:Nat}{kvs:List (List Int×AV)}{v:Value}(h1:aC w γ (.mp id) v)(hB:B id=some [.aL kn kvs]):
  ∃b es,γ.mm id=some b/\v=.map (some b)/\w.heap[b]?=some (.map es es.size)/\kvs.length=es.size/\
   ∀(i:Nat)(k:List Int)(a:AV)(e:MapEntry),kvs[i]?=some (k,a)->es[i]?=some e->Fu kn k/\e.key=Yr kn k/\e.born=i/\aC w γ a e.val:=by
 cases h1 with
 |mp h=>
  rename_i b;obtain⟨_,_,_,_,_,_,_,a,o,q1,q2,q3⟩:=hm.mm id b h;rw[hB]at q1;cases q1;cases o<;>try exact q3.elim
  rename_i es clock;obtain⟨rfl,q4,q5⟩:=q3;exact⟨b,es,h,rfl,q2,q4,q5⟩
def au.OD(hm:au N w0 aq γ w B L){id mid n:Nat}{seen:List Nat}{v:Value}(h1:aC w γ (.it id) v)(hB:B id=some [.mitr mid n seen]):
  ∃b mb,γ.mm id=some b/\v=.pointer (some ⟨b,0,none⟩)/\w.heap[b]?=some (.mapIter (some mb) n seen.toArray n)/\γ.mm mid=some mb:=by
 cases h1 with
 |it h=>
  rename_i b;obtain⟨_,_,_,_,_,_,_,a,o,q1,q2,q3⟩:=hm.mm id b h;rw[hB]at q1;cases q1;cases o<;>try exact q3.elim
  rename_i mp Oy sn st;cases mp<;>try exact q3.elim
  rename_i mb;obtain⟨q4,rfl,rfl,rfl⟩:=q3;exact⟨b,mb,h,rfl,by simpa using q2,q4⟩
def Qep{kn:Nat}{kvs:List (List Int×AV)}{es:Array MapEntry}(hl:kvs.length=es.size)(hk:∀(i:Nat)(k:List Int)(a:AV)(e:MapEntry),kvs[i]?=some (k,a)->es[i]?=some e->Fu kn k/\e.key=Yr kn k/\e.born=i/\aC w γ a e.val){i:Nat}(hi:i<es.size):es[i].born=i:=by
 have:=hk i (kvs[i]' zE).1 (kvs[i]' zE).2 es[i] (by simp[show i<kvs.length by omega]) (by simp[hi]);exact this.2.2.1
def wH{id:Nat}{x:AV}(hB:∀id cells,m.boxes[id]?=some cells->B id=some cells)(h:m.boxes.getD id []=[x]):B id=some [x]:=hB id _ (by
 cases hh:m.boxes[id]? with
 |none=>simp[List.getD,hh]at h
 |some c=>simp[List.getD,hh]at h;rw[h])
def Ru(hm:au N w0 aq γ w B L)(hB:∀id cells,m.boxes[id]?=some cells->B id=some cells){t:TypeId}{kn:Nat}{z:AV}{x k:Operand}{ok:Bool}(ht:Fw P t=some (kn,z))(h1:aC w γ (e (aB x)) (a.eval x))(h2:aC w γ (e (aB k)) (a.eval k))
  (hc:(rop P gl orc e m dst (.look kn ok z (aB x) (aB k))).1):
  Step N w0 aq P ⟨dst,.lookup t x k ok,ty,pos,after,guard⟩ a γ w B L (rop P gl orc e m dst (.look kn ok z (aB x) (aB k))).2:=by
 simp only[rop]at hc |-
 split at hc
 case h_2=>exact hc.elim
 rename_i id n e1 e2;rw[e1]at h1;obtain⟨e3,hn⟩:=CV e2;rw[e3]at h2;try simp only[e1,e2]
 split at hc
 case h_2=>exact hc.elim
 rename_i AW kvs fH;simp only at hc;subst hc;try simp only[fH]
 obtain⟨kt,vt,i,zv,hu,hk,hi,hz,rfl⟩:=kX ht;obtain⟨b,es,hb,hv,q2,q3,q4⟩:=hm.jo h1 (wH hB fH)
 obtain⟨f1,f2⟩:=CW (w:=w) (γ:=γ) (P:=P) hk hn (kvs:=kvs) (es:=es.toList) (by simpa using q3) fun j k' c x' g1 g2=>by
  obtain⟨p1,p2,_,p3⟩:=q4 j k' c x' g1 (by simpa using g2);exact⟨p1,p2,p3⟩
 have cA:=MapKept.run_getObj_map (P:=P) q2;have kY:∀b,(Instr.checkKey b 10000 kt (Yr AW n)).run P w=.ok () w:=fun b=>run_checkKey hk hn;have hkv:=rf hn h2;cases hf:Xl n kvs 0 with
 |none=>
  have Rv:=f1 hf
  have bn:(execOp a.eval ⟨dst,.lookup t x k ok,ty,pos,after,guard⟩).run P w=.ok (.value (if ok then .tuple #[zv,.bool false]else zv)) w:=by
   simp[execOp,Instr.lookup,run_underlying hu,hv,hkv,cA,kY,Rv,zeroValue,typeInfo,hi,hz]
  refine Qs hm bn ?_;cases ok
  ·exact Ke w γ zv
  exact(ak.cons (Ke w γ zv) (ak.cons (.bool false) ak.nil)).zM
 |some p=>
  obtain⟨j,c⟩:=p;obtain⟨vv,Rv,g2,_⟩:=f2 j c hf
  have bn:(execOp a.eval ⟨dst,.lookup t x k ok,ty,pos,after,guard⟩).run P w=.ok (.value (if ok then .tuple #[vv,.bool true]else vv)) w:=by
   simp[execOp,Instr.lookup,run_underlying hu,hv,hkv,cA,kY,Rv]
  refine Qs hm bn ?_;cases ok
  ·exact g2
  exact(ak.cons g2 (ak.cons (.bool true) ak.nil)).zM
def Rw(hm:au N w0 aq γ w B L)(hB:∀id cells,m.boxes[id]?=some cells->B id=some cells){x:Operand}(h1:aC w γ (e (aB x)) (a.eval x))
  (hc:(rop P gl orc e m dst (.entr (aB x))).1):
  Step N w0 aq P ⟨dst,.entry x,ty,pos,after,guard⟩ a γ w B L (rop P gl orc e m dst (.entr (aB x))).2:=by
 simp only[rop]at hc |-
 split at hc
 case h_2=>exact hc.elim
 rename_i id e1;rw[e1]at h1;try simp only[e1]
 split at hc
 case h_2=>exact hc.elim
 rename_i mid n seen fH;try simp only[fH]
 split at hc
 case h_2=>exact hc.elim
 rename_i kn kvs i fI gN;try simp only[fI,gN]
 obtain⟨EG,bL⟩:=hc;obtain⟨b,mb,hb,hv,q1,q2⟩:=hm.OD h1 (wH hB fH);obtain⟨b',es,cO,CX,q3,q4,q5⟩:=hm.jo (v:=.map (some mb)) (.mp q2) (wH hB fI);cases CX;have hie:i<es.size:=zE
 have XN:=Qep q4 q5 hie
 obtain⟨ini,aw7⟩:∃ini,seen=ini++[i]:=by
  rw[zzfh]at gN;exact gN
 have arE:seen.toArray=ini.toArray.push es[i].born:=by rw[XN,aw7];simp
 have qC:(es.toList.map (·.born)).Nodup:=by
  have:es.toList.map (·.born)=List.range es.size:=by
   apply zzeh
   ·simp
   intro j h1 h2;simp at h1;simp[Qep q4 q5 h1]
  rw[this];exact zzdl
 have bn:=run_entry_at (P:=P) w b mb n ini.toArray es es.size es[i] (by rw[<- arE,q1];congr 2;omega) q3 zd qC;obtain⟨p1,p2,_,p3⟩:=q5 i (kvs[i]' zE).1 (kvs[i]' zE).2 es[i] (by simp[show i<kvs.length by omega]) (by simp[hie]);have XH:kvs.getD i ([],.junk)=kvs[i]'zE:=by simp[List.getD,show i<kvs.length by omega]
 rw[XH];refine Qs hm (v:=.tuple #[es[i].key,es[i].val]) (by simp[execOp,hv,bn]) ?_;rw[p2];exact(ak.cons (A3 p1) (ak.cons p3 ak.nil)).zM
end
open Go Go.RowKit
section
variable {N:Nat} {w0:fF} {aq:Nat->Nat->Prop} {γ:G} {w:World} {B:Nat->Option (List AV)} {L:Nat->Option Nat} {P:Program} {o:Oper} {a:Act} {r:AV}
variable {dst:Option Tmp} {ty:TypeId} {pos:String} {after:Array Edge} {guard:Option (Nat×Bool)} {gl:Nat->AV} {orc:Nat->FuncId->List AV->AV} {e:bN->AV} {m:AM}
def A6{xs:Array Operand}(h:∀x∈xs,aC w γ (e (aB x)) (a.eval x)):ak w γ ((xs.toList.map aB).map e) (xs.map a.eval).toList:=by
 refine⟨zd,fun i c v h1 h2=>?_⟩;simp at h1 h2;obtain⟨x,hx,rfl⟩:=h1;obtain⟨x',iD,rfl⟩:=h2;rw[hx]at iD;cases iD;exact h x (zzdc hx)
def Qeb{f:FuncId}{args:Array Value}(h:bD P f):(callFunc f args).run P w=.ok (.enter f args) w:=by
 obtain⟨fn,h1,h2,h3⟩:=h;have EH:¬fn.body=none:=by intro h;simp[h]at h2
 have h3':¬fn.name= "runtime.NumGoroutine":=by simpa using h3
 simp[callFunc,h1,EH,h3']
def Rx(hm:au N w0 aq γ w B L)(hB:∀id cells,m.boxes[id]?=some cells->B id=some cells)(ji:∀g,aC w γ.cT (gl g) (.pointer (some ⟨g,0,none⟩))){f:Operand}{args:Array Operand}{ts:Array TypeId}
  (h1:aC w γ (e (aB f)) (a.eval f))(h2:∀x∈args,aC w γ (e (aB x)) (a.eval x))(hc:(rop P gl orc e m dst (.call (aB f) (args.toList.map aB))).1):
  Step N w0 aq P ⟨dst,.call ⟨.value f,args,ts⟩,ty,pos,after,guard⟩ a γ w B L (rop P gl orc e m dst (.call (aB f) (args.toList.map aB))).2:=by
 simp only[rop]at hc |-
 split at hc
 case h_2=>exact hc.elim
 rename_i g first cap e1
 try simp only[e1]
 rw[e1]at h1;obtain⟨fa,ca,hv,r1,r2⟩:=h1.qU;have oR:=(r1.append (A6 h2)).append r2;generalize orc (dst.getD 0) g ((first++(args.toList.map aB).map e++cap).map (bJ m 6))=x at hc
 have bn:bD P g->(execOp a.eval ⟨dst,.call ⟨.value f,args,ts⟩,ty,pos,after,guard⟩).run P w=.ok (.enter g ((fa.toList++(args.map a.eval).toList++ca.toList).toArray)) w:=fun oF=>by
  simp[execOp,resolve,hv,Deferred.ofValue,invoke,Qeb oF]
 have pure:∀r,(Pure P gl g ((first++(args.toList.map aB).map e++cap).map (bJ m 6)) r/\((first++(args.toList.map aB).map e++cap).any (Yl 6)=true->flat r=true))->Step N w0 aq P ⟨dst,.call ⟨.value f,args,ts⟩,ty,pos,after,guard⟩ a γ w B L r:=fun r⟨hp,eG⟩rd next Q hk=>
  Fx (bn hp.1) (KV hm hB ji oR hp eG fun v w' γ' h3 h4 h5=>hk v w' γ' h3 h4 h5)
 cases x with
 |gd b r=>
  intro rd next Q hk
  refine Fx (bn hc.1) ((hc.2 N w0 aq γ w B L _ hm hB ji oR).mono ?_);rintro en w' ⟨v,γ',rfl,h3,h4,h5⟩;exact hk v w' γ' h3 h4 h5
 |_=>exact pure _ hc
def Ry(hm:au N w0 aq γ w B L){x:Operand}{t:TypeId}(hu:P.underlying t=some .string)(h1:aC w γ (e (aB x)) (a.eval x))(hc:(rop P gl orc e m dst (.lenS (aB x))).1):
  Step N w0 aq P ⟨dst,.call ⟨.builtin .len,#[x],#[t]⟩,ty,pos,after,guard⟩ a γ w B L (rop P gl orc e m dst (.lenS (aB x))).2:=by
 simp only[rop]at hc |-
 split at hc
 case h_2=>exact hc.elim
 rename_i s e1;rw[e1]at h1;exact Qs hm (v:=.int .i64 s.size) (by simp[execOp,resolve,invoke,builtin,Builtin.len_,run_underlying hu,h1.cB,goInt]) (.int _ _)
def XO(hm:au N w0 aq γ w B L){x:Operand}{t te:TypeId}(hu:P.underlying t=some (.slice te))(h1:aC w γ (e (aB x)) (a.eval x))(hc:(rop P gl orc e m dst (.len (aB x))).1):
  Step N w0 aq P ⟨dst,.call ⟨.builtin .len,#[x],#[t]⟩,ty,pos,after,guard⟩ a γ w B L (rop P gl orc e m dst (.len (aB x))).2:=by
 simp only[rop]at hc |-
 split at hc
 case h_3=>exact hc.elim
 case h_2=>
  rename_i id off len sz e1;rw[e1]at h1;try simp only[e1]
  obtain⟨b,cap,arr,zn,hb,hv,_⟩:=h1.cQ;exact Qs hm (v:=.int .i64 len) (by simp[execOp,resolve,invoke,builtin,Builtin.len_,run_underlying hu,hv,goInt]) (.int _ _)
 rename_i rt rows e1;rw[e1]at h1;try simp only[e1]
 obtain⟨a',cap,b,off,sz,cv,hv,_⟩:=h1.cm;exact Qs hm (v:=.int .i64 rows.length) (by simp[execOp,resolve,invoke,builtin,Builtin.len_,run_underlying hu,hv,goInt]) (.int _ _)
def afa(hm:au N w0 aq γ w B L){x y:Operand}{ts:Array TypeId}(h1:aC w γ (e (aB x)) (a.eval x))(h2:aC w γ (e (aB y)) (a.eval y))(hc:(rop P gl orc e m dst (.mn (aB x) (aB y))).1):
  Step N w0 aq P ⟨dst,.call ⟨.builtin .min,#[x,y],ts⟩,ty,pos,after,guard⟩ a γ w B L (rop P gl orc e m dst (.mn (aB x) (aB y))).2:=by
 simp only[rop]at hc |-
 split at hc
 case h_2=>exact hc.elim
 rename_i k p k' q e1 e2;rw[e1]at h1;rw[e2]at h2;exact Qs hm (v:=.int k (if q<p then q else p)) (by simp[execOp,resolve,invoke,builtin,Builtin.min_,Builtin.min2,h1.aI,h2.aI]) (.int _ _)
def afb(hm:au N w0 aq γ w B L){x y:Operand}{ts:Array TypeId}(h1:aC w γ (e (aB x)) (a.eval x))(h2:aC w γ (e (aB y)) (a.eval y))(hc:(rop P gl orc e m dst (.mx (aB x) (aB y))).1):
  Step N w0 aq P ⟨dst,.call ⟨.builtin .max,#[x,y],ts⟩,ty,pos,after,guard⟩ a γ w B L (rop P gl orc e m dst (.mx (aB x) (aB y))).2:=by
 simp only[rop]at hc |-
 split at hc
 case h_2=>exact hc.elim
 rename_i k p k' q e1 e2;rw[e1]at h1;rw[e2]at h2;exact Qs hm (v:=.int k (if p<q then q else p)) (by simp[execOp,resolve,invoke,builtin,Builtin.max_,Builtin.max2,h1.aI,h2.aI]) (.int _ _)
def FE(hm:au N w0 aq γ w B L){big:Bool}{x y z:Operand}{ts:Array TypeId}(h1:aC w γ (e (aB x)) (a.eval x))(h2:aC w γ (e (aB y)) (a.eval y))(h3:aC w γ (e (aB z)) (a.eval z))(hc:(rop P gl orc e m dst (.mm3 big (aB x) (aB y) (aB z))).1):
  Step N w0 aq P ⟨dst,.call ⟨.builtin (if big=true then .max else .min),#[x,y,z],ts⟩,ty,pos,after,guard⟩ a γ w B L (rop P gl orc e m dst (.mm3 big (aB x) (aB y) (aB z))).2:=by
 simp only[rop]at hc |-
 split at hc
 case h_2=>exact hc.elim
 rename_i k p k' q k'' r e1 e2 e3;rw[e1]at h1;rw[e2]at h2;rw[e3]at h3;cases big
 ·exact Qs hm (v:=.int k (W0 false (W0 false p q) r)) (by simp[execOp,resolve,invoke,builtin,Builtin.min_,Builtin.min2,h1.aI,h2.aI,h3.aI,W0]) (.int _ _)
 exact Qs hm (v:=.int k (W0 true (W0 true p q) r)) (by simp[execOp,resolve,invoke,builtin,Builtin.max_,Builtin.max2,h1.aI,h2.aI,h3.aI,W0]) (.int _ _)
def Jz{n b:Nat}(hb:b≠0)(h:(3*n+4000)*b<=562949953421312):n<=9223372036854775807:=by
 have:(3*n+4000)*1<=(3*n+4000)*b:=Nat.mul_le_mul_left _ (Nat.one_le_iff_ne_zero.2 hb);omega
def XP(hm:au N w0 aq γ w B L){s x:Operand}{t te:TypeId}{i:TypeInfo}{z:Value}(hu:P.underlying t=some (.slice te))(hi:P.info? te=some i)(hz:i.zero=some z)(dV:i.bytes≠0)
  (h1:aC w γ (e (aB s)) (a.eval s))(h2:aC w γ (e (aB x)) (a.eval x))(hc:(rop P gl orc e m dst (.app i.size i.bytes (aB s) (aB x))).1):
  Step N w0 aq P ⟨dst,.call ⟨.builtin .append,#[s,x],#[t,t]⟩,ty,pos,after,guard⟩ a γ w B L (rop P gl orc e m dst (.app i.size i.bytes (aB s) (aB x))).2:=by
 simp only[rop]at hc |-
 split at hc
 case h_2=>exact hc.elim
 rename_i rt rows KX aD e1 e2;rw[e1]at h1;rw[e2]at h2;obtain⟨hfu,hr,bX⟩:=hc;replace h1:=h1.uI hfu;obtain⟨v,w',γ',g1,g2,g3,g4⟩:=amt (ty:=ty) hm hu hi hz h1 h2 hr bX (Jz dV bX);exact AZ g3 g2 (by simp[execOp,resolve,invoke,builtin,g1]) g4
def Qde(hm:au N w0 aq γ w B L)(hB:∀id cells,m.boxes[id]?=some cells->B id=some cells)(ji:∀g,aC w γ.cT (gl g) (.pointer (some ⟨g,0,none⟩)))
  (he:∀x∈o.op.operands,aC w γ (e (aB x)) (a.eval x))(hc:(rop P gl orc e m o.dst (tr P o)).1):Step N w0 aq P o a γ w B L (rop P gl orc e m o.dst (tr P o)).2:=by
 obtain⟨dst,op,ty,pos,after,guard⟩:=o;cases op with
 |move x=>exact Qs hm (by simp[execOp]) (he x (by simp[Op.operands]))
 |assign x=>exact Qs hm (by simp[execOp]) (he x (by simp[Op.operands]))
 |pick c x y=>exact Rb hm (he c (by simp[Op.operands])) (he x (by simp[Op.operands])) (he y (by simp[Op.operands])) hc
 |load t x=>exact Rf hm hB (he x (by simp[Op.operands])) hc
 |fieldAddr t x f=>exact KY hm (he x (by simp[Op.operands])) hc
 |field t x f=>exact W6 hm (he x (by simp[Op.operands])) hc
 |indexAddr t x y=>exact KZ hm (he x (by simp[Op.operands])) (he y (by simp[Op.operands])) hc
 |index t x y=>exact Rg hm (he x (by simp[Op.operands])) (he y (by simp[Op.operands])) hc
 |binOp op t x y t'=>
  have h1:=he x (by simp[Op.operands]);have h2:=he y (by simp[Op.operands]);simp only[tr]at hc |-
  split at hc
  ·rename_i hu;exact Rh hm hu h1 h2 hc
  ·exact FB hm h1 h2 hc
  ·exact FB hm h1 h2 hc
  ·rename_i te hu;exact Rn hm hu h1 hc
  ·rename_i te hu;exact Ro hm hu h1 hc
  ·rename_i fs hu;exact XG hm hu h1 h2 hc
  exact hc.elim
 |unOp op t x=>exact ae8 hm (he x (by simp[Op.operands])) hc
 |convert s d x=>
  have h1:=he x (by simp[Op.operands]);simp only[tr]at hc |-
  split at hc
  ·rename_i k0 k hs hd;exact Ri hm hs hd h1 hc
  ·rename_i te hs hd;split at hc
   ·rename_i ht;cases hx:e (aB x)with
    |sl rt rows=>exact XE hm hs hd ht h1 ⟨rt,rows,hx⟩ hc
    |bs id off len sz=>
     simp only[rop,hx]at hc |-
     split at hc
     ·rename_i l hl;try simp only[hl]
      exact Rp hm hB hs hd ht h1 hx hl
     exact hc.elim
    |_=>simp[rop,hx]at hc
   exact hc.elim
  exact hc.elim
 |lookup t x k ok=>
  have h1:=he x (by simp[Op.operands]);have h2:=he k (by simp[Op.operands]);simp only[tr]at hc |-
  split at hc
  ·rename_i v z ht;exact Ru hm hB ht h1 h2 hc
  exact hc.elim
 |entry x=>exact Rw hm hB (he x (by simp[Op.operands])) hc
 |next x s=>cases s<;>exact hc.elim
 |build t parts=>exact K0 hm (fun p hp=>he p.2 (by simp[Op.operands];exact⟨p.1,hp⟩)) hc
 |buildSlice t len parts=>exact XB hm hB (fun p hp=>he p.2 (by simp[Op.operands];exact⟨p.1,hp⟩)) hc
 |makeFunc fn first cap=>
  cases fn with
  |func f=>exact Rj hm (fun x hx=>he x (by simp[Op.operands,hx])) (fun x hx=>he x (by simp[Op.operands,hx]))
  |_=>exact hc.elim
 |extract x i=>exact W9 hm (he x (by simp[Op.operands])) hc
 |nilCheck x=>exact Rk hm (he x (by simp[Op.operands])) hc
 |slice t x lo hi mx=>
  cases mx with
  |none=>
   simp only[tr]at hc |-
   split at hc
   ·rename_i hu;exact XA hm (he x (by simp[Op.operands])) (fun y hy=>he y (by simp at hy;simp[Op.operands,hy])) (fun y hy=>he y (by simp at hy;simp[Op.operands,hy])) hu hc
   ·rename_i te hu;split at hc
    ·rename_i i di;exact XI hm hu di (he x (by simp[Op.operands])) (fun y hy=>he y (by simp at hy;simp[Op.operands,hy])) (fun y hy=>he y (by simp at hy;simp[Op.operands,hy])) hc
    exact hc.elim
   ·rename_i n te hu;split at hc
    ·rename_i i di;exact XK hm hB hu di (he x (by simp[Op.operands])) (fun y hy=>he y (by simp at hy;simp[Op.operands,hy])) (fun y hy=>he y (by simp at hy;simp[Op.operands,hy])) hc
    exact hc.elim
   exact hc.elim
  |some mx=>exact hc.elim
 |call c=>
  obtain⟨callee,args,ts⟩:=c;have nF:∀x∈args,aC w γ (e (aB x)) (a.eval x):=fun x hx=>he x (by simp[Op.operands,Call.operands,hx]);cases callee with
  |value f=>exact Rx hm hB ji (he f (by simp[Op.operands,Call.operands])) nF hc
  |invoke recv name=>exact hc.elim
  |builtin b=>
   cases b<;>first|exact hc.elim|skip
   case append=>
    simp only[tr,Zv]at hc |-
    split at hc
    case h_2=>exact hc.elim
    rename_i s x t t' ha ht;split at hc
    case h_2=>exact hc.elim
    rename_i te zn hu hu';split at hc
    case h_2=>exact hc.elim
    rename_i i hi;split at hc
    case isFalse=>exact hc.elim
    rename_i bU;try rw[if_pos bU]
    simp only[zzak,beq_iff_eq,bne_iff_ne]at bU;obtain⟨⟨⟨rfl,hz⟩,_⟩,dV⟩:=bU;obtain rfl:args=#[s,x]:=by cases args;simp_all
    obtain rfl:ts=#[t,t]:=by cases ts;simp_all
    cases jm:i.zero with
    |none=>simp[jm]at hz
    |some z=>exact XP hm hu hi jm dV (nF s zd) (nF x zd) hc
   case copy=>
    simp only[tr,Zv]at hc;repeat' split at hc
    all_goals exact hc.elim
   case clear=>
    simp only[tr,Zv]at hc;repeat' split at hc
    all_goals exact hc.elim
   case len=>
    simp only[tr,Zv]at hc |-
    split at hc
    case h_2=>exact hc.elim
    rename_i x t ha ht;obtain rfl:args=#[x]:=by cases args;simp_all
    obtain rfl:ts=#[t]:=by cases ts;simp_all
    split at hc
    ·rename_i hu;exact Ry hm hu (nF x zd) hc
    ·rename_i te hu;exact XO hm hu (nF x zd) hc
    exact hc.elim
   case max=>
    simp only[tr,Zv]at hc |-
    split at hc
    case h_3=>exact hc.elim
    ·rename_i x y ha;obtain rfl:args=#[x,y]:=by cases args;simp_all
     exact afb hm (nF x zd) (nF y zd) hc
    rename_i x y z ha;obtain rfl:args=#[x,y,z]:=by cases args;simp_all
    exact FE (big:=true) hm (nF x zd) (nF y zd) (nF z zd) hc
   case min=>
    simp only[tr,Zv]at hc |-
    split at hc
    case h_3=>exact hc.elim
    ·rename_i x y ha;obtain rfl:args=#[x,y]:=by cases args;simp_all
     exact afa hm (nF x zd) (nF y zd) hc
    rename_i x y z ha;obtain rfl:args=#[x,y,z]:=by cases args;simp_all
    exact FE (big:=false) hm (nF x zd) (nF y zd) (nF z zd) hc
 |makeMap t r=>cases r<;>first|exact hc.elim|(simp only[tr]at hc;split at hc<;>exact hc.elim)
 |makeSlice t l c=>
  simp only[tr]at hc;repeat' split at hc
  all_goals exact hc.elim
 |_=>first|exact hc.elim|(simp only[tr]at hc;split at hc<;>exact hc.elim)
end
end Go.Abs
