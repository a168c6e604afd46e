import Derived.Test.YtnopaopphmjnmaaGreatDoorMLMB
set_option linter.all false
namespace Go.Abs
open Go Go.RowKit
section
variable {N:Nat} {w0:ir} {aq:Nat->Nat->Prop} {γ:G} {w:World} {B:Nat->Option (List AV)} {L:Nat->Option Nat} {P:Program} {o:Oper} {a:Act} {r:AV}
variable {dst:Option Tmp} {ty:TypeId} {pos:String} {after:Array Edge} {guard:Option (Nat×Bool)} {gl:Nat->AV} {orc:Nat->FuncId->List AV->AV} {e:bK->AV} {m:AM}
def VZ(hm:au N w0 aq γ w B L){t:TypeId}{x:Operand}{f:Nat}(h1:aB w γ (e (aA x)) (a.eval x))
  (hc:(rop P gl orc e m dst (tr P ⟨dst,.field t x f,ty,pos,after,guard⟩)).1):
  Step N w0 aq P ⟨dst,.field t x f,ty,pos,after,guard⟩ a γ w B L (rop P gl orc e m dst (tr P ⟨dst,.field t x f,ty,pos,after,guard⟩)).2:=by
 simp only[tr]at hc |-
 split at hc
 case h_2=>exact hc.elim
 rename_i fields hu;split at hc
 case h_2=>exact hc.elim
 rename_i fl gh;split at hc
 case h_2=>exact hc.elim
 rename_i i d hi hd
 have main:∀(agg:Bool)(n:Nat),Ja P fl.type=agg->(agg=true->n=i.size)->(rop P gl orc e m dst (.fld agg fl.offset n (aA x))).1->
   Step N w0 aq P ⟨dst,.field t x f,ty,pos,after,guard⟩ a γ w B L (rop P gl orc e m dst (.fld agg fl.offset n (aA x))).2:=by
  intro agg n bE hn hc;simp only[rop]at hc |-
  split at hc
  case h_2=>exact hc.elim
  rename_i cs he;rw[he]at h1;obtain⟨arr,hv,hr⟩:=h1.gC;obtain⟨fE,Cu⟩:=hc;have Cv:=hr.drop fl.offset;cases agg with
  |true=>
   have Az:=hn rfl;subst Az;refine Qr hm (v:=.agg (arr.extract fl.offset (fl.offset+i.size))) ?_ ?_
   ·unfold Ja at bE;rw[hd]at bE;cases d<;>simp at bE<;>simp[execOp,hv,Instr.field,run_underlying hu,gh,asAgg,part,isAgg,run_underlying hd,sizeOf,typeInfo,hi]
   simp only[Ya,if_true];refine ak.PO ?_;have:=Cv.take i.size;simpa[zzfs,List.extract]using this
  |false=>
   have qI:=Cu rfl;subst qI
   have aH:fl.offset<arr.size:=by
    rw[zzaq,zzcr]at fE;have:=hr.1;simp at this;omega
   have hu':arr[fl.offset]?=some arr[fl.offset]:=zzaj aH;refine Qr hm (v:=arr[fl.offset]) ?_ ?_
   ·unfold Ja at bE;rw[hd]at bE;cases d<;>simp at bE<;>simp[execOp,hv,Instr.field,run_underlying hu,gh,asAgg,part,isAgg,run_underlying hd,hu']
   simp only[Ya];have:=Cv.get 0;simp[List.getD]at this |-
   simpa[aH]using this
 cases bE:Ja P fl.type with
 |true=>simp only[bE,if_true]at hc |-;exact main true _ bE (fun _=>rfl) hc
 |false=>simp only[bE]at hc |-;exact main false 1 bE (fun h=>by cases h) hc
def PW(hm:au N w0 aq γ w B L){t:TypeId}{x y:Operand}(h1:aB w γ (e (aA x)) (a.eval x))(h2:aB w γ (e (aA y)) (a.eval y))
  (hc:(rop P gl orc e m dst (tr P ⟨dst,.index t x y,ty,pos,after,guard⟩)).1):
  Step N w0 aq P ⟨dst,.index t x y,ty,pos,after,guard⟩ a γ w B L (rop P gl orc e m dst (tr P ⟨dst,.index t x y,ty,pos,after,guard⟩)).2:=by
 simp only[tr]at hc |-
 split at hc
 case h_3=>exact hc.elim
 case h_2=>
  rename_i len te hu;split at hc
  case h_2=>exact hc.elim
  rename_i j d hj hd
  have main:∀(agg:Bool)(sz:Nat),Ja P te=agg->j.size=sz->(rop P gl orc e m dst (.idxA agg len sz (aA x) (aA y))).1->
    Step N w0 aq P ⟨dst,.index t x y,ty,pos,after,guard⟩ a γ w B L (rop P gl orc e m dst (.idxA agg len sz (aA x) (aA y))).2:=by
   intro agg sz bE hsz hc;subst hsz;simp only[rop]at hc |-
   split at hc
   case h_2=>exact hc.elim
   rename_i cs k n e1 e2;rw[e1]at h1;rw[e2]at h2;obtain⟨arr,hv,hr⟩:=h1.gC;obtain⟨⟨eN,qI⟩,fE,Cu⟩:=hc;have Cv:=hr.drop (n.toNat*j.size);cases agg with
   |true=>
    refine Qr hm (v:=.agg (arr.extract (n.toNat*j.size) (n.toNat*j.size+j.size))) ?_ ?_
    ·unfold Ja at bE;rw[hd]at bE;cases d<;>simp at bE<;>simp[execOp,hv,h2.aG,Instr.index,run_underlying hu,asIntOf,eN,qI,asAgg,part,isAgg,run_underlying hd,sizeOf,typeInfo,hj]
    simp only[Ya,if_true];refine ak.PO ?_;have:=Cv.take j.size;simpa[zzfs,List.extract]using this
   |false=>
    have aye:=Cu rfl
    have aH:n.toNat*j.size<arr.size:=by
     rw[zzaq,zzcr]at fE;have:=hr.1;simp at this;omega
    have hu':arr[n.toNat*j.size]?=some arr[n.toNat*j.size]:=zzaj aH;refine Qr hm (v:=arr[n.toNat*j.size]) ?_ ?_
    ·unfold Ja at bE;rw[hd]at bE;cases d<;>simp at bE<;>simp[execOp,hv,h2.aG,Instr.index,run_underlying hu,asIntOf,eN,qI,asAgg,part,isAgg,run_underlying hd,sizeOf,typeInfo,hj,hu']
    simp only[Ya];have:=Cv.get 0;simp[List.getD]at this |-
    simpa[aH]using this
  cases bE:Ja P te with
  |true=>simp only[bE,if_true]at hc |-;exact main true _ bE rfl hc
  |false=>
   simp only[bE,zzbq,if_false]at hc |-
   split at hc
   ·rename_i h0;have zl:j.size=1:=by simpa using h0
    rw[if_pos h0];exact main false 1 bE zl hc
   exact hc.elim
 rename_i hu;simp only[rop]at hc |-
 split at hc
 case h_2=>exact hc.elim
 rename_i s k n e1 e2;rw[e1]at h1;rw[e2]at h2;obtain⟨eN,qI⟩:=hc;have ai:n.toNat<s.size:=by omega
 have hg:s[n.toNat]?=some (s.data.toList.getD n.toNat 0):=by
  have h3:n.toNat<s.data.size:=ai;have:s[n.toNat]?=some s[n.toNat]:=by simp[ai]
  rw[this];congr 1
  have h4:s.data.toList.getD n.toNat 0=s.data[n.toNat]:=by
   show(s.data.toList[n.toNat]?).getD 0=_;rw[zzcd,zzaj h3];rfl
  rw[h4];rfl
 refine Qr hm (v:=.int .u8 (s.data.toList.getD n.toNat 0).toNat) ?_ (.int _ _);simp[execOp,h1.cq,h2.aG,Instr.index,asIntOf,run_underlying hu,eN,hg]
def V0{op:BinOp}{k:IntKind}{x y:Int}{t:TypeId}(gi:op≠.shl/\op≠.shr)(hc:(binI op k x y).1):∃v,(binOp op t (.int k x) (.int k y)).run P w=.ok v w/\aB w γ (binI op k x y).2 v:=by
 cases op<;>simp only[binI]at hc |-<;>first
  |exact hc.elim
  |(simp at gi;done)
  |(refine⟨.bool _,?_,.bool _⟩;simp[binOp,Op.intCmp];done)
  |(refine⟨.int k _,?_,.int k _⟩;simp[binOp,Op.intArith,Op.intBits];done)
  |(refine⟨.int k _,?_,.int k _⟩;simp[binOp,Op.intDiv,hc];done)
def V1{op:BinOp}{x y:ByteArray}{t:TypeId}(gi:op≠.shl/\op≠.shr)(hc:(binS op x y).1):∃v,(binOp op t (.string x) (.string y)).run P w=.ok v w/\aB w γ (binS op x y).2 v:=by
 cases op<;>simp only[binS]at hc |-<;>first
  |exact hc.elim
  |(simp at gi;done)
  |(refine⟨.bool _,?_,.bool _⟩;simp[binOp,Op.stringOp];done)
  |(
   refine⟨.string (x++y),?_,.str _⟩
   have h1:¬(((x.size+y.size:Nat):Int)> IntKind.i64.max):=by
     have:IntKind.i64.max=9223372036854775807:=by decide
     rw[this];omega
   simp only[binOp,Op.stringOp,if_neg h1];rfl)
def iY{op:BinOp}{t:TypeId}{x y:Operand}{k k':IntKind}{p q:Int}:(eqGuard op t x y (.int k p) (.int k' q)).run P w=.ok () w:=by
 cases op<;>simp[eqGuard]
def ES{op:BinOp}{t:TypeId}{x y:Operand}{p q:ByteArray}:(eqGuard op t x y (.string p) (.string q)).run P w=.ok () w:=by
 cases op<;>simp[eqGuard]
def oN{op:BinOp}{t:TypeId}{x y:Operand}{p q:Bool}:(eqGuard op t x y (.bool p) (.bool q)).run P w=.ok () w:=by
 cases op<;>simp[eqGuard]
def ET(hm:au N w0 aq γ w B L){op:BinOp}{t t':TypeId}{x y:Operand}(h1:aB w γ (e (aA x)) (a.eval x))(h2:aB w γ (e (aA y)) (a.eval y))
  (hc:(binV op (e (aA x)) (e (aA y))).1):
  Step N w0 aq P ⟨dst,.binOp op t x y t',ty,pos,after,guard⟩ a γ w B L (binV op (e (aA x)) (e (aA y))).2:=by
 unfold binV at hc |-
 split at hc
 ·split at hc
  case h_2=>exact hc.elim
  rename_i k p k' q e1 e2;try simp only[e1,e2]
  rw[e1]at h1;rw[e2]at h2;have hq:¬q<0:=by omega
  refine Qr hm (v:=.int k (k.wrap (p*2 ^ (min q.toNat k.bits)))) ?_ (.int _ _);simp[execOp,h1.aG,h2.aG,iY,binOp,Op.shift,hq]
 ·split at hc
  case h_2=>exact hc.elim
  rename_i k p k' q e1 e2;try simp only[e1,e2]
  rw[e1]at h1;rw[e2]at h2;have hq:¬q<0:=by omega
  refine Qr hm (v:=.int k (p.fdiv (2 ^ (min q.toNat k.bits)))) ?_ (.int _ _);simp[execOp,h1.aG,h2.aG,iY,binOp,Op.shift,hq]
 rename_i op' aqB aqC;split at hc
 ·rename_i k p k' q e1 e2;try simp only[e1,e2]
  rw[e1]at h1;rw[e2]at h2;obtain⟨rfl,hc⟩:=hc;obtain⟨v,hv,hr⟩:=V0 (P:=P) (w:=w) (γ:=γ) (t:=t) ⟨fun h=>aqB h,fun h=>aqC h⟩ hc;exact Qr hm (v:=v) (by simp[execOp,h1.aG,h2.aG,iY,hv]) hr
 ·rename_i p q e1 e2;try simp only[e1,e2]
  rw[e1]at h1;rw[e2]at h2;obtain⟨v,hv,hr⟩:=V1 (P:=P) (w:=w) (γ:=γ) (t:=t) ⟨fun h=>aqB h,fun h=>aqC h⟩ hc;exact Qr hm (v:=v) (by simp[execOp,h1.cq,h2.cq,ES,hv]) hr
 exact hc.elim
def run_equalIn_bool{t:TypeId}(hu:P.underlying t=some .bool)(p q:Bool)(d:Nat):(Op.equalIn (d+1) t (.bool p) (.bool q)).run P w=.ok (p==q) w:=by
 simp[Op.equalIn,run_underlying hu]
def PX(hm:au N w0 aq γ w B L){op:BinOp}{t t':TypeId}{x y:Operand}(hu:P.underlying t=some .bool)(h1:aB w γ (e (aA x)) (a.eval x))(h2:aB w γ (e (aA y)) (a.eval y))
  (hc:(binBool op (e (aA x)) (e (aA y))).1):
  Step N w0 aq P ⟨dst,.binOp op t x y t',ty,pos,after,guard⟩ a γ w B L (binBool op (e (aA x)) (e (aA y))).2:=by
 unfold binBool at hc |-
 split at hc
 ·rename_i p q e1 e2;try simp only[e1,e2]
  rw[e1]at h1;rw[e2]at h2;have:=run_equalIn_bool (P:=P) (w:=w) hu p q 9999;exact Qr hm (v:=.bool (p==q)) (by simp[execOp,h1.bA,h2.bA,oN,binOp,Op.equal,Op.maxDepth,this]) (.bool _)
 ·rename_i p q e1 e2;try simp only[e1,e2]
  rw[e1]at h1;rw[e2]at h2;have:=run_equalIn_bool (P:=P) (w:=w) hu p q 9999;exact Qr hm (v:=.bool (!(p==q))) (by simp[execOp,h1.bA,h2.bA,oN,binOp,Op.equal,Op.maxDepth,this]) (.bool _)
 exact hc.elim
def aev(hm:au N w0 aq γ w B L){op:UnOp}{t:TypeId}{x:Operand}(h1:aB w γ (e (aA x)) (a.eval x))(hc:(rop P gl orc e m dst (.un op (aA x))).1):
  Step N w0 aq P ⟨dst,.unOp op t x,ty,pos,after,guard⟩ a γ w B L (rop P gl orc e m dst (.un op (aA x))).2:=by
 simp only[rop]at hc |-
 split at hc
 ·rename_i b e1;try simp only[e1]
  rw[e1]at h1;exact Qr hm (v:=.bool (!b)) (by simp[execOp,h1.bA,Op.unary]) (.bool _)
 ·rename_i k n e1;try simp only[e1]
  rw[e1]at h1;exact Qr hm (v:=.int k (k.wrap (0-n))) (by simp[execOp,h1.aG,Op.unary,Op.intArith]) (.int _ _)
 ·rename_i k n e1;try simp only[e1]
  rw[e1]at h1;refine Qr hm ?_ (.int _ _);simp[execOp,h1.aG,Op.unary,Op.intBits]
 exact hc.elim
def PY(hm:au N w0 aq γ w B L){s d:TypeId}{x:Operand}{k0 k:IntKind}(hs:P.underlying s=some (.int k0))(hd:P.underlying d=some (.int k))(h1:aB w γ (e (aA x)) (a.eval x))(hc:(rop P gl orc e m dst (.conv k (aA x))).1):
  Step N w0 aq P ⟨dst,.convert s d x,ty,pos,after,guard⟩ a γ w B L (rop P gl orc e m dst (.conv k (aA x))).2:=by
 simp only[rop]at hc |-
 split at hc
 case h_2=>exact hc.elim
 rename_i k1 n e1;rw[e1]at h1;exact Qr hm (v:=.int k (k.wrap n)) (by simp[execOp,h1.aG,convert,run_underlying hs,run_underlying hd,Conv.intToInt]) (.int _ _)
def PZ(hm:au N w0 aq γ w B L){f:FuncId}{first cap:Array Operand}(h1:∀x∈first,aB w γ (e (aA x)) (a.eval x))(h2:∀x∈cap,aB w γ (e (aA x)) (a.eval x)):
  Step N w0 aq P ⟨dst,.makeFunc (.func f) first cap,ty,pos,after,guard⟩ a γ w B L (.fn f ((first.toList.map aA).map e) ((cap.toList.map aA).map e)):=by
 refine Qr hm (v:=.func (.func f) (first.map a.eval) (cap.map a.eval)) (by simp[execOp,Instr.makeFunc]) ?_;refine .fn (by simp) (fun i c v g1 g2=>?_) (by simp) fun i c v g1 g2=>?_
 ·simp at g1 g2;obtain⟨x,hx,rfl⟩:=g1;obtain⟨x',kL,rfl⟩:=g2;rw[hx]at kL;cases kL;exact h1 x (zzda hx)
 simp at g1 g2;obtain⟨x,hx,rfl⟩:=g1;obtain⟨x',kL,rfl⟩:=g2;rw[hx]at kL;cases kL;exact h2 x (zzda hx)
def V3(hm:au N w0 aq γ w B L){x:Operand}{i:Nat}(h1:aB w γ (e (aA x)) (a.eval x))(hc:(rop P gl orc e m dst (.ext (aA x) i)).1):
  Step N w0 aq P ⟨dst,.extract x i,ty,pos,after,guard⟩ a γ w B L (rop P gl orc e m dst (.ext (aA x) i)).2:=by
 simp only[rop]at hc |-
 split at hc
 case h_2=>exact hc.elim
 rename_i vs e1;rw[e1]at h1;obtain⟨arr,hv,hr⟩:=h1.Cq;have ai:i<arr.size:=by have:=hr.1;simp at this;omega
 have hu:arr[i]?=some arr[i]:=zzaj ai;refine Qr hm (v:=arr[i]) (by simp[execOp,hv,Instr.extract,hu]) ?_;have:=hr.get i;simpa[List.getD,ai]using this
def P0(hm:au N w0 aq γ w B L){x:Operand}(h1:aB w γ (e (aA x)) (a.eval x))(hc:(rop P gl orc e m dst (.nilc (aA x))).1):
  Step N w0 aq P ⟨dst,.nilCheck x,ty,pos,after,guard⟩ a γ w B L (rop P gl orc e m dst (.nilc (aA x))).2:=by
 simp only[rop]at hc |-
 split at hc
 ·rename_i id o' e1;try simp only[e1]
  rw[e1]at h1;have oO:=h1;obtain⟨b,hb,hv⟩:=h1.dF;exact Qr hm (v:=a.eval x) (by simp[execOp,hv]) oO
 ·rename_i row o' e1;try simp only[e1]
  rw[e1]at h1;have oO:=h1;obtain⟨b,off,cv,hv,_⟩:=h1.iW;exact Qr hm (v:=a.eval x) (by simp[execOp,hv]) oO
 ·rename_i f first cap e1
  try simp only[e1]
  rw[e1]at h1;have oO:=h1;obtain⟨fa,ca,hv,_⟩:=h1.qH;exact Qr hm (v:=a.eval x) (by simp[execOp,hv]) oO
 exact hc.elim
def V4(hm:au N w0 aq γ w B L){t:TypeId}{x:Operand}{lo hi:Option Operand}(h1:aB w γ (e (aA x)) (a.eval x))(h2:∀y∈lo,aB w γ (e (aA y)) (a.eval y))(h3:∀y∈hi,aB w γ (e (aA y)) (a.eval y))
  (hu:P.underlying t=some .string)(hc:(rop P gl orc e m dst (.slS (aA x) (lo.map aA) (hi.map aA))).1):
  Step N w0 aq P ⟨dst,.slice t x lo hi none,ty,pos,after,guard⟩ a γ w B L (rop P gl orc e m dst (.slS (aA x) (lo.map aA) (hi.map aA))).2:=by
 simp only[rop]at hc |-
 split at hc
 ·rename_i s k l k' h e1 e2 e3;rw[e1]at h1;cases lo with
  |none=>simp at e2
  |some lo=>
   cases hi with
   |none=>simp at e3
   |some hi=>
    simp at e2 e3;have r2:=h2 lo (by simp);have r3:=h3 hi (by simp);rw[e2]at r2;rw[e3]at r3;obtain⟨c1,c2,c3⟩:=hc;have c4:(0:Int)<=h:=by omega
    have c5:l<=(h.toNat:Int):=by omega
    try simp only[e1,e2,e3,zzcv]
    refine Qr hm (v:=.string (s.extract l.toNat h.toNat)) ?_ (.str _);simp[execOp,h1.cq,r2.aG,r3.aG,Instr.sliceAt,Instr.slice,Instr.sliceBounds,Instr.sliceBound,asIntOf,run_underlying hu,c1,c3,c4,c5];intro ai;exact absurd ai (by rw[Int.max_eq_left c4];omega)
 ·rename_i s k h e1 e2 e3;rw[e1]at h1;cases lo with
  |some lo=>simp at e2
  |none=>
   cases hi with
   |none=>simp at e3
   |some hi=>
    simp at e3;have r3:=h3 hi (by simp);rw[e3]at r3;obtain⟨c1,c3⟩:=hc;try simp only[e1,e3,zzcv,Option.map_none]
    refine Qr hm (v:=.string (s.extract 0 h.toNat)) ?_ (.str _);simp[execOp,h1.cq,r3.aG,Instr.sliceAt,Instr.slice,Instr.sliceBounds,Instr.sliceBound,asIntOf,run_underlying hu,c1,c3]
 ·rename_i s k l e1 e2 e3;rw[e1]at h1;cases lo with
  |none=>simp at e2
  |some lo=>
   cases hi with
   |some hi=>simp at e3
   |none=>
    simp at e2;have r2:=h2 lo (by simp);rw[e2]at r2;obtain⟨c1,c3⟩:=hc;try simp only[e1,e2,zzcv,Option.map_none]
    refine Qr hm (v:=.string (s.extract l.toNat s.size)) ?_ (.str _);simp[execOp,h1.cq,r2.aG,Instr.sliceAt,Instr.slice,Instr.sliceBounds,Instr.sliceBound,asIntOf,run_underlying hu,c1,c3]
 exact hc.elim
end
open Go Go.RowKit
section
variable {N:Nat} {w0:ir} {aq:Nat->Nat->Prop} {γ:G} {w:World} {B:Nat->Option (List AV)} {L:Nat->Option Nat} {P:Program} {o:Oper} {a:Act} {r:AV}
variable {dst:Option Tmp} {ty:TypeId} {pos:String} {after:Array Edge} {guard:Option (Nat×Bool)} {gl:Nat->AV} {orc:Nat->FuncId->List AV->AV} {e:bK->AV} {m:AM}
def kM{x:AV}{v:Value}(h:aB w γ x v)(hx:bare x=true):ak w γ (cellsOf x) v.cells.toList:=by
 cases x with
 |junk=>simp[bare]at hx
 |gd g y=>simp[bare]at hx
 |aW cs=>simp[bare]at hx
 |agg cs=>obtain⟨arr,rfl,hr⟩:=h.gC;exact hr
 |bool b=>cases h;exact ak.cons (.bool b) ak.nil
 |int k n=>cases h;exact ak.cons (.int k n) ak.nil
 |str s=>cases h;exact ak.cons (.str s) ak.nil
 |nilfn=>cases h;exact ak.cons .nilfn ak.nil
 |yld l=>cases h with|yld h=>exact ak.cons (.yld h) ak.nil
 |mp id=>cases h with|mp h=>exact ak.cons (.mp h) ak.nil
 |nilv p=>cases h;cases p<;>exact ak.cons (.nilv _) ak.nil
 |it id=>cases h with|it h=>exact ak.cons (.it h) ak.nil
 |aJ kn kvs=>simp[bare]at hx
 |mitr mid n s=>simp[bare]at hx
 |sl rt rows=>have h':=h;obtain⟨_,_,_,_,_,_,rfl,_⟩:=h.bY;exact ak.cons h' ak.nil
 |ep row o=>have h':=h;obtain⟨_,_,_,rfl,_⟩:=h.iW;exact ak.cons h' ak.nil
 |ptr id o=>have h':=h;obtain⟨_,_,rfl⟩:=h.dF;exact ak.cons h' ak.nil
 |bs id off len sz=>have h':=h;obtain⟨_,_,_,_,_,rfl,_⟩:=h.cI;exact ak.cons h' ak.nil
 |fn f first cap=>have h':=h;obtain⟨_,_,rfl,_⟩:=h.qH;exact ak.cons h' ak.nil
def vQ(off:Nat):∀(l:List Value)(k:Nat)(arr:Array Value),(l.zipIdx k).foldl (fun(cs:Array Value)(p:Value×Nat)=>cs.setIfInBounds (off+p.2) p.1) arr=tG arr (off+k) l
 |[],_,_=>rfl
 |v::l,k,arr=>by
  simp only[List.zipIdx_cons,zzcz,tG];exact vQ off l (k+1) _
def EU(off:Nat)(vs arr:Array Value):vs.zipIdx.foldl (fun(cs:Array Value)(p:Value×Nat)=>cs.setIfInBounds (off+p.2) p.1) arr=tG arr off vs.toList:=by
 rw[<- Array.foldl_toList,Array.toList_zipIdx];exact vQ off vs.toList 0 arr
def Qbo{place:Nat->Option (Nat×Nat)}:∀(ps:List (Nat×Nat×AV))(vs:List (Nat×Value))(cs:List AV)(arr:Array Value),ps.length=vs.length->
  (∀(i:Nat)(p:Nat×Nat×AV)(q:Nat×Value),ps[i]?=some p->vs[i]?=some q->place q.1=some (p.1,p.2.1)/\aB w γ p.2.2 q.2)->ak w γ cs arr.toList->(fillA cs ps).1->
  ∃cells,Instr.fill place arr vs=some cells/\ak w γ (fillA cs ps).2 cells.toList/\cells.size=arr.size
 |[],[],cs,arr,_,_,hr,_=>⟨arr,rfl,hr,rfl⟩
 |[],_::_,_,_,h,_,_,_=>by simp at h
 |_::_,[],_,_,h,_,_,_=>by simp at h
 |(off,size,x)::ps,(i,v)::vs,cs,arr,hl,hp,hr,hc=>by
  obtain⟨h1,h2,h3,h4⟩:=hc;obtain⟨g1,g2⟩:=hp 0 _ _ rfl rfl;have hx:=kM g2 h1;have hsz:v.cells.size=size:=by have:=hx.1;simp at this;omega
  have ck:¬(off+v.cells.size> arr.size):=by have:=hr.1;simp at this;omega
  have AA:=hx.setA (o:=off) hr;obtain⟨cells,q1,q2,q3⟩:=Qbo ps vs (setA cs off (cellsOf x)) (tG arr off v.cells.toList) (by simpa using hl) (fun j p q ek ql=>hp (j+1) p q (by simpa using ek) (by simpa using ql)) AA h4;refine⟨cells,?_,q2,by rw[q3,Vb]⟩;simp only at g1;have hz:=EU off v.cells arr;simp only[Instr.fill,g1];rw[if_neg (by simp[hsz];omega)];rw[<- hz]at q1;exact q1
def AB:∀(fs:List Field),fs.all (fun f=>(P.info? f.type).isSome)=true->∃places,fs.mapM (fun f=>(P.info? f.type).map fun i=>(f.offset,i.size))=some places/\
  ∀i:Nat,places[i]?=(fs[i]?).bind fun f=>(P.info? f.type).map fun i=>(f.offset,i.size)
 |[],_=>⟨[],by simp,fun i=>by simp⟩
 |f::fs,h=>by
  simp at h;obtain⟨h1,h2⟩:=h;obtain⟨places,g1,g2⟩:=AB fs (by simpa using h2);obtain⟨i,hi⟩:=zzcj.1 h1;refine⟨(f.offset,i.size)::places,by simp[zzhm,hi,g1],fun j=>?_⟩;cases j with
  |zero=>simp[hi]
  |succ j=>simpa using g2 j
def Qcy{α β:Type}(f:α->Option β):∀(l:List α)(l':List β),l.mapM f=some l'->l'.length=l.length/\∀(i:Nat)(x:α)(y:β),l[i]?=some x->l'[i]?=some y->f x=some y
 |[],l',h=>by simp at h;subst h;simp
 |x::l,l',h=>by
  simp only[zzhm,Option.bind_eq_bind,Option.pure_def]at h;cases hx:f x with
  |none=>simp[hx]at h
  |some y=>
   cases hr:l.mapM f with
   |none=>simp[hx,hr]at h
   |some rest=>
    simp[hx,hr]at h;subst h;obtain⟨g1,g2⟩:=Qcy f l rest hr;refine⟨by simp[g1],fun i x' y' h1 h2=>?_⟩;cases i with
    |zero=>simp at h1 h2;subst h1;subst h2;exact hx
    |succ i=>simp at h1 h2;exact g2 i x' y' h1 h2
def qM{t:TypeId}{zs:List AV}(h:zc P t=some zs):∃i z,P.info? t=some i/\i.zero=some z/\ak w γ zs z.cells.toList:=by
 unfold zc at h;cases hi:P.info? t with
 |none=>simp[hi]at h
 |some i=>
  cases hz:i.zero with
  |none=>simp[hi,hz]at h
  |some z=>
   simp[hi,hz]at h;subst h;refine⟨i,z,rfl,hz,by simp,fun j x v h1 h2=>?_⟩;simp at h1 h2;obtain⟨v',h3,rfl⟩:=h1;rw[h2]at h3;cases h3;exact nk w γ v
def JV(hm:au N w0 aq γ w B L){t:TypeId}{parts:Array (Nat×Operand)}(h1:∀p∈parts,aB w γ (e (aA p.2)) (a.eval p.2))
  (hc:(rop P gl orc e m dst (Wj P t parts)).1):
  Step N w0 aq P ⟨dst,.build t parts,ty,pos,after,guard⟩ a γ w B L (rop P gl orc e m dst (Wj P t parts)).2:=by
 unfold Wj at hc |-
 split at hc
 case h_2=>exact hc.elim
 rename_i fields zs hu hz;split at hc
 case h_2=>exact hc.elim
 rename_i ps hps;split at hc
 case isFalse=>exact hc.elim
 rename_i bR;try rw[if_pos bR]
 simp only[rop]at hc |-
 obtain⟨i,z,hi,iZ,JW⟩:=qM (w:=w) (γ:=γ) hz;obtain⟨places,gG,hpg⟩:=AB (P:=P) fields.toList bR;obtain⟨aH,cp⟩:=Qcy _ _ _ hps
 obtain⟨cells,f1,f2,_⟩:=Qbo (w:=w) (γ:=γ) (place:=fun i=>places[i]?) (ps.map fun p=>(p.1,p.2.1,e p.2.2)) (parts.toList.map fun p=>(p.1,a.eval p.2)) zs z.cells (by simp[aH]) (fun j p q ek ql=>by
   simp at ek ql;obtain⟨o1,o2,o3,hp1,rfl⟩:=ek;obtain⟨x1,x2,PR,rfl⟩:=ql;have:=cp j (x1,x2) (o1,o2,o3) (by simpa using PR) hp1;simp only at this |-
   rw[hpg];cases hf:fields[x1]? with
   |none=>simp[hf]at this
   |some f=>
    cases AD:P.info? f.type with
    |none=>simp[hf,AD]at this
    |some fi=>
     simp[hf,AD]at this;obtain⟨rfl,rfl,rfl⟩:=this;exact⟨by simp[hf,AD],h1 (x1,x2) (zzda PR)⟩) JW hc
 have hb:P.built t (parts.map fun p=>(p.1,a.eval p.2)).toList=some cells:=by
  unfold Program.built;simp only[hi,hu,iZ,gG];simpa using f1
 have aZ:=run_build (P:=P) w t (parts.map fun p=>(p.1,a.eval p.2)) cells hb;refine Qr hm (v:=.agg cells) ?_ (ak.PO f2);simp[execOp,aZ]
def V5(hm:au N w0 aq γ w B L)(hB:∀id cells,m.boxes[id]?=some cells->B id=some cells){t:TypeId}{len:Nat}{parts:Array (Nat×Operand)}(h1:∀p∈parts,aB w γ (e (aA p.2)) (a.eval p.2))
  (hc:(rop P gl orc e m dst (tr P ⟨dst,.buildSlice t len parts,ty,pos,after,guard⟩)).1):
  Step N w0 aq P ⟨dst,.buildSlice t len parts,ty,pos,after,guard⟩ a γ w B L (rop P gl orc e m dst (tr P ⟨dst,.buildSlice t len parts,ty,pos,after,guard⟩)).2:=by
 simp only[tr]at hc |-
 split at hc
 case h_2=>exact hc.elim
 rename_i te hu;split at hc
 case h_2=>exact hc.elim
 rename_i i hi;split at hc
 case isFalse=>exact hc.elim
 rename_i bS;try rw[if_pos bS]
 simp only[zzak,beq_iff_eq,bne_iff_ne,decide_eq_true_eq]at bS;obtain⟨⟨hz,NQ⟩,vO⟩:=bS;cases iZ:i.zero with
 |none=>simp[iZ]at hz
 |some z=>
  simp[iZ]at hz;simp only[rop]at hc |-
  rw[Qad];obtain⟨fE,Cu,hc3⟩:=hc
  let dW:Array Value:=(Array.range (len*i.size)).map (z.cells[·%z.cells.size]!)
  have tI:ak w γ (List.replicate (len*i.size) .junk) dW.toList:=by
   refine⟨by simp[dW],fun j x v hj _=>?_⟩;simp[zzcp]at hj;rw[<- hj.2];exact .junk _
  obtain⟨cells,f1,f2,f3⟩:=Qbo (w:=w) (γ:=γ) (place:=fun j=>some (j*i.size,i.size)) (parts.toList.map fun p=>(p.1*i.size,i.size,e (aA p.2))) (parts.toList.map fun p=>(p.1,a.eval p.2)) _ dW (by simp) (fun j p q ek ql=>by
    simp at ek ql;obtain⟨x1,x2,PR,rfl⟩:=ek;obtain⟨y1,y2,hy1,rfl⟩:=ql;rw[PR]at hy1;cases hy1;exact⟨rfl,h1 (x1,x2) (zzda PR)⟩) tI (by simpa[Function.comp_def]using fE)
  generalize hq:(fillA (List.replicate (len*i.size) .junk) (parts.toList.map fun p=>(p.1*i.size,i.size,e (aA p.2)))).2=A at f2
  have P3:(fillA (List.replicate (len*i.size) .junk) ((parts.toList.map fun p=>(p.1,aA p.2)).map fun p=>(p.1*i.size,i.size,e p.2))).2=A:=by
   rw[<- hq];simp[Function.comp_def]
  rw[P3]at Cu hc3;simp only[P3];have qN:cells.size=len*i.size:=by rw[f3];simp[dW]
  have hAl:A.length=len*i.size:=by have:=f2.1;simp at this;omega
  have hb:Below w.heap.size w (w.alloc (.cells cells te)):=(Below.refl _ w).alloc (zzab _) _
  have aZ:(execOp a.eval ⟨dst,.buildSlice t len parts,ty,pos,after,guard⟩).run P w=.ok (.value (.slice (some ⟨w.heap.size,0,none⟩) len len)) (w.alloc (.cells cells te)):=by
   have V6:¬(16777216<len*i.size):=by omega
   by_cases oy:len*i.size=0
   ·have fu:dW=(Array.range (len*i.size)).map ((#[]:Array Value)[·%(#[]:Array Value).size]!):=by
     simp[dW,oy]
    rw[fu]at f1
    have dZ:len=0:=by
     rcases Nat.mul_eq_zero.1 oy with h|h
     ·exact h
     exact absurd h NQ
    simp[oy]at f1;simp[execOp,Instr.buildSlice,run_underlying hu,sizeOf,typeInfo,hi,oy,f1,newRow]
   simp only[execOp,Instr.buildSlice];have f1':Instr.fill (fun j=>some (j*i.size,i.size)) ((Array.range (len*i.size)).map (z.cells[·%z.cells.size]!)) (parts.toList.map fun p=>(p.1,a.eval p.2))=some cells:=f1;simp[run_underlying hu,sizeOf,typeInfo,zeroValue,hi,iZ,oy,V6,f1',newRow]
  refine Ay (hm.grow hb) (hm.di hb) aZ ?_;have aH:((List.range len).map fun k=>((A.map (bF m 6)).drop (k*i.size)).take i.size).length=len:=by simp
  have ja:(w.alloc (.cells cells te)).heap[w.heap.size]?=some (.cells cells te (0,0)):=by show(w.heap.push _)[w.heap.size]?=_;simp
  have ow:∀(k j:Nat)(c:AV),Qt ((List.range len).map fun k=>((A.map (bF m 6)).drop (k*i.size)).take i.size) k j=some c->∃c' u,A[k*i.size+j]?=some c'/\c=bF m 6 c'/\cells[k*i.size+j]?=some u/\cells.getD (k*i.size+j) undef=u/\aB w γ c' u:=fun k j c h=>by
   unfold Qt at h;rcases zzaa k len with hk|hk
   ·simp[hk]at h;rw[zzbj]at h;split at h
    ·simp at h;obtain⟨c',qn,rfl⟩:=h;have ai:k*i.size+j<cells.size:=by rw[qN,<- hAl];exact(zza.1 qn).1
     have hu':cells[k*i.size+j]?=some cells[k*i.size+j]:=zzaj ai;exact⟨c',_,qn,rfl,hu',by simp[ai],f2.2 _ _ _ qn (by simp[ai])⟩
    cases h
   simp[zzbm.2 hk]at h
  have gP:qm (w.alloc (.cells cells te)) (γ.grow w.heap.size (w.alloc (.cells cells te)).heap.size) ((List.range len).map fun k=>((A.map (bF m 6)).drop (k*i.size)).take i.size) (some ⟨w.heap.size,0,none⟩) len w.heap.size 0 i.size
    (fun k j=>cells.getD (k*i.size+j) undef):=by
   refine⟨by simp,fun h=>(by cases h),fun _=>⟨rfl,by simp⟩,fun row ah=>?_,fun k j c h=>?_,fun k j c h=>?_⟩
   ·simp at ah;obtain⟨k,hk,rfl⟩:=ah;have:(k+1)*i.size<=len*i.size:=zzba _ hk;rw[zzbp,zzdl]at this;simp;omega
   ·obtain⟨c',u,g1,rfl,g3,g4,g5⟩:=ow k j c h;rw[zzbv,aM ja,g3,g4];refine⟨rfl,.inr ⟨zzab _,by simp⟩,uf g5 (zzbh.1 Cu c' (zzad g1))⟩
   obtain⟨c',u,g1,rfl,g3,g4,g5⟩:=ow k j c h;rw[g4]
   have:=kK hm hB (ro':=γ.ro) (fun _ _ h=>h) 6 c' u g5 fun hp=>by
    have:A.any (Yj 6)=true:=zzbz.2 ⟨c',zzad g1,hp⟩;rw[hc3]at this;cases this
   exact this.mono (hm.di hb).cT
  have:=gP.mk' (rt:=.full) aH.symm;rwa [aH]at this
end
open Go Go.RowKit
section
variable {N:Nat} {w0:ir} {aq:Nat->Nat->Prop} {γ:G} {w:World} {B:Nat->Option (List AV)} {L:Nat->Option Nat} {P:Program} {o:Oper} {a:Act} {r:AV}
variable {dst:Option Tmp} {ty:TypeId} {pos:String} {after:Array Edge} {guard:Option (Nat×Bool)} {gl:Nat->AV} {orc:Nat->FuncId->List AV->AV} {e:bK->AV} {m:AM}
def ak.zm{cs:List AV}{vs:List Value}(h:ak w γ cs vs):aB w γ (.aW cs) (.tuple vs.toArray):=.aW (by simpa using h.1) fun i c v h1 h2=>h.2 i c v h1 (by simpa using h2)
def aB.ug{rt:Rt}{rows:List (List AV)}{v:Value}(h:aB w γ (.sl rt rows) v)(hf:VU rt=true):aB w γ (.sl .full rows) v:=by
 cases h with
 |sl b off sz cv hcap hnil ha hsz hc hr aR=>
  refine .sl b off sz cv hcap hnil ha hsz hc hr ?_;cases rt with
  |full=>exact aR
  |nil=>
   show _=_;have:=hnil aR;omega
  |_=>simp[VU]at hf
def P4{t te:TypeId}{op:BinOp}(hu:P.underlying t=some (.slice te)){p:Option Addr}{n c:Nat}(gi:op=.eql\/op=.neq):(binOp op t (.slice p n c) (.slice none 0 0)).run P w=.ok (.bool (if op=.eql then p.isNone else !p.isNone)) w:=by
 have h:∀d,(Op.equalIn (d+1) t (.slice p n c) (.slice none 0 0)).run P w=.ok p.isNone w:=fun d=>by
  unfold Op.equalIn;cases p<;>simp[run_underlying hu]
 have h':(Op.equal t (.slice p n c) (.slice none 0 0)).run P w=.ok p.isNone w:=h 9999;rcases gi with rfl|rfl<;>simp[binOp,h']
def P5(hm:au N w0 aq γ w B L){op:BinOp}{t te t':TypeId}{x y:Operand}(hu:P.underlying t=some (.slice te))(h1:aB w γ (e (aA x)) (a.eval x))(hc:(rop P gl orc e m dst (mz op x y)).1):
  Step N w0 aq P ⟨dst,.binOp op t x y t',ty,pos,after,guard⟩ a γ w B L (rop P gl orc e m dst (mz op x y)).2:=by
 have key:∀neg:Bool,(op=.eql/\neg=false\/op=.neq/\neg=true)->y=.const (.slice none 0 0)->(rop P gl orc e m dst (.nilS neg (aA x))).1->Step N w0 aq P ⟨dst,.binOp op t x y t',ty,pos,after,guard⟩ a γ w B L (rop P gl orc e m dst (.nilS neg (aA x))).2:=by
  clear hc;intro neg gi hy hc;subst hy;have alC:op=.eql\/op=.neq:=gi.imp And.left And.left
  have run:∀p n c,a.eval x=.slice p n c->(execOp a.eval ⟨dst,.binOp op t x (.const (.slice none 0 0)) t',ty,pos,after,guard⟩).run P w=.ok (.value (.bool (if neg then !p.isNone else p.isNone))) w:=fun p n c hv=>by
   have:=P4 (P:=P) (w:=w) (op:=op) hu (p:=p) (n:=n) (c:=c) alC;have JX:a.eval (.const (.slice none 0 0))=.slice none 0 0:=rfl;rcases gi with⟨rfl,rfl⟩|⟨rfl,rfl⟩<;>simp at this<;>simp[execOp,hv,JX,eqGuard,this]
  simp only[rop]at hc |-
  split at hc
  ·rename_i rows e1;rw[e1]at h1;obtain⟨a',cap,b,off,sz,cv,hv,_,aR⟩:=h1.bY;have:a'=none:=aR;subst this;refine Qr hm (run _ _ _ hv) ?_;cases neg<;>exact .bool _
  ·rename_i rows e1;rw[e1]at h1;obtain⟨a',cap,b,off,sz,cv,hv,_,aR⟩:=h1.bY;have:a'≠none:=aR;refine Qr hm (run _ _ _ hv) ?_;cases a' with
   |none=>exact absurd rfl this
   |some a'=>cases neg<;>exact .bool _
  ·rename_i rt row rows qI qL e1;rw[e1]at h1;obtain⟨a',cap,b,off,sz,cv,hv,s1,aR⟩:=h1.bY;have:=(s1.at_ (by simp)).1;subst this;refine Qr hm (run _ _ _ hv) ?_;cases neg<;>exact .bool _
  ·rename_i id off len sz e1;rw[e1]at h1;obtain⟨b,cap,arr,JU,hb,hv,_⟩:=h1.cI;refine Qr hm (run _ _ _ hv) ?_;cases neg<;>exact .bool _
  exact hc.elim
 unfold mz at hc |-
 split at hc
 ·exact key false (.inl ⟨rfl,rfl⟩) rfl hc
 ·exact key true (.inr ⟨rfl,rfl⟩) rfl hc
 exact hc.elim
def V7{v:Value}(h:aB w γ (.nilv true) v):v=.pointer none:=by cases h;rfl
def JY{t te:TypeId}{op:BinOp}(hu:P.underlying t=some (.pointer te)){p:Option Addr}(gi:op=.eql\/op=.neq):(binOp op t (.pointer p) (.pointer none)).run P w=.ok (.bool (if op=.eql then p.isNone else !p.isNone)) w:=by
 have h:∀d,(Op.equalIn (d+1) t (.pointer p) (.pointer none)).run P w=.ok p.isNone w:=fun d=>by
  unfold Op.equalIn;cases p<;>simp[run_underlying hu]
 have h':(Op.equal t (.pointer p) (.pointer none)).run P w=.ok p.isNone w:=h 9999;rcases gi with rfl|rfl<;>simp[binOp,h']
def P6(hm:au N w0 aq γ w B L){op:BinOp}{t te t':TypeId}{x y:Operand}(hu:P.underlying t=some (.pointer te))(h1:aB w γ (e (aA x)) (a.eval x))(hc:(rop P gl orc e m dst (Qch op x y)).1):
  Step N w0 aq P ⟨dst,.binOp op t x y t',ty,pos,after,guard⟩ a γ w B L (rop P gl orc e m dst (Qch op x y)).2:=by
 have key:∀neg:Bool,(op=.eql/\neg=false\/op=.neq/\neg=true)->y=.const (.pointer none)->(rop P gl orc e m dst (.nilP neg (aA x))).1->Step N w0 aq P ⟨dst,.binOp op t x y t',ty,pos,after,guard⟩ a γ w B L (rop P gl orc e m dst (.nilP neg (aA x))).2:=by
  clear hc;intro neg gi hy hc;subst hy;have alC:op=.eql\/op=.neq:=gi.imp And.left And.left
  have run:∀p,a.eval x=.pointer p->(execOp a.eval ⟨dst,.binOp op t x (.const (.pointer none)) t',ty,pos,after,guard⟩).run P w=.ok (.value (.bool (if neg then !p.isNone else p.isNone))) w:=fun p hv=>by
   have:=JY (P:=P) (w:=w) (op:=op) hu (p:=p) alC;have JX:a.eval (.const (.pointer none))=.pointer none:=rfl;rcases gi with⟨rfl,rfl⟩|⟨rfl,rfl⟩<;>simp at this<;>simp[execOp,hv,JX,eqGuard,this]
  simp only[rop]at hc |-
  split at hc
  ·rename_i id o e1;rw[e1]at h1;obtain⟨b,hb,hv⟩:=h1.dF;refine Qr hm (run _ hv) ?_;cases neg<;>exact .bool _
  ·rename_i row o e1;rw[e1]at h1;obtain⟨b,off,cv,hv,_⟩:=h1.iW;refine Qr hm (run _ hv) ?_;cases neg<;>exact .bool _
  ·rename_i e1;rw[e1]at h1;have hv:a.eval x=.pointer none:=V7 h1;refine Qr hm (run _ hv) ?_;cases neg<;>exact .bool _
  exact hc.elim
 unfold Qch at hc |-
 split at hc
 ·exact key false (.inl ⟨rfl,rfl⟩) rfl hc
 ·exact key true (.inr ⟨rfl,rfl⟩) rfl hc
 exact hc.elim
def vR:∀{rows:List (List AV)}{l:List UInt8},Wh rows=some l->∃ns:List Int,rows=ns.map (fun n=>[.int .u8 n])/\l=ns.map fun n=>UInt8.ofNat n.toNat
 |[],l,h=>⟨[],rfl,by simpa[Wh]using h.symm⟩
 |row::rows,l,h=>by
  simp only[Wh]at h;cases hb:byteOf row with
  |none=>simp[hb]at h
  |some x=>
   cases hr:Wh rows with
   |none=>simp[hb,hr]at h
   |some l'=>
    simp[hb,hr]at h;obtain⟨ns,h1,h2⟩:=vR hr;unfold byteOf at hb;split at hb
    ·rename_i n;simp at hb;exact⟨n::ns,by simp[h1],by simp[<- h,h2,hb]⟩
    cases hb
def vS(ns:List Int):∀s:ByteArray,ns.foldl (fun r n=>r.push (UInt8.ofNat n.toNat)) s=⟨s.data++(ns.map fun n=>UInt8.ofNat n.toNat).toArray⟩:=by
 induction ns with
 |nil=>intro s;simp
 |cons n ns ih=>intro s;rw[zzcz,ih];simp[ByteArray.push]
def V9(hm:au N w0 aq γ w B L){s d te:TypeId}{x:Operand}(hs:P.underlying s=some (.slice te))(hd:P.underlying d=some .string)(ht:P.underlying te=some (.int .u8))(h1:aB w γ (e (aA x)) (a.eval x))(gP:∃rt rows,e (aA x)=.sl rt rows)(hc:(rop P gl orc e m dst (.b2s (aA x))).1):
  Step N w0 aq P ⟨dst,.convert s d x,ty,pos,after,guard⟩ a γ w B L (rop P gl orc e m dst (.b2s (aA x))).2:=by
 simp only[rop]at hc |-
 split at hc
 case h_3=>exact hc.elim
 case h_2=>
  rename_i e1;obtain⟨rt,rows,e2⟩:=gP;rw[e2]at e1;cases e1
 rename_i rt rows e1;rw[e1]at h1;try simp only[e1]
 split at hc
 case h_2=>exact hc.elim
 rename_i l hl;try simp only[hl]
 obtain⟨ns,rfl,rfl⟩:=vR hl;obtain⟨p,cap,b,off,sz,cv,hv,s1,_⟩:=h1.bY;cases p with
 |none=>
  have h0:ns=[]:=by
   have:=s1.hnil rfl;have h2:=s1.hcap;simp at h2;exact zzav (by omega)
  subst h0;refine Qr hm (v:=.string ⟨#[]⟩) ?_ (.str _);simp[execOp,hv,convert,run_underlying hs,run_underlying hd,run_underlying ht,Conv.bytesToString];rfl
 |some p=>
  have Wa:(loadCells p ns.length).run P w=.ok (ns.map (Value.int .u8)).toArray w:=by
   have:=run_loadCells_list (P:=P) (w:=w) p (ns.map (Value.int .u8)) fun j v hj=>?_
   ·simpa using this
   simp at hj;obtain⟨n,hn,rfl⟩:=hj;have aK:ns.map (fun n=>[AV.int .u8 n])≠[]:=by rintro h;simp at h;subst h;simp at hn
   obtain⟨e2,_⟩:=s1.at_ aK;cases e2
   have avR:sz=1:=by
    cases ns with
    |nil=>simp at hn
    |cons n' ns=>have:=s1.hsz [.int .u8 n'] (by simp);simpa using this.symm
   subst avR;have ow:Qt (ns.map fun n=>[AV.int .u8 n]) j 0=some (.int .u8 n):=by simp[Qt,hn]
   have c1:=(s1.cell j 0 _ ow).1;have c2:=(s1.rep j 0 _ ow).aG;rw[bw];rw[c2]at c1;simpa using c1
  refine Qr hm (v:=.string ⟨(ns.map fun n=>UInt8.ofNat n.toNat).toArray⟩) ?_ (.str _);have aZ:=run_bytesToString w p ns.length cap ns Wa;rw[vS]at aZ
  have:(⟨ByteArray.empty.data++(ns.map fun n=>UInt8.ofNat n.toNat).toArray⟩:ByteArray)=⟨(ns.map fun n=>UInt8.ofNat n.toNat).toArray⟩:=by
   have:ByteArray.empty.data=#[]:=rfl;rw[this];simp
  rw[this]at aZ;simp[execOp,hv,convert,run_underlying hs,run_underlying hd,run_underlying ht,aZ]
end
open Go Go.RowKit
section
variable {N:Nat} {w0:ir} {aq:Nat->Nat->Prop} {γ:G} {w:World} {B:Nat->Option (List AV)} {L:Nat->Option Nat} {P:Program} {o:Oper} {a:Act} {r:AV}
variable {dst:Option Tmp} {ty:TypeId} {pos:String} {after:Array Edge} {guard:Option (Nat×Bool)} {gl:Nat->AV} {orc:Nat->FuncId->List AV->AV} {e:bK->AV} {m:AM}
def nt{t:TypeId}{k:Nat}(h:EN P t=some k):(P.underlying t=some .bool/\k=0)\/(∃i,P.underlying t=some (.int i)/\k=1)\/(P.underlying t=some .string/\k=2):=by
 unfold EN at h;split at h
 ·cases h;exact .inl ⟨by assumption,rfl⟩
 ·cases h;exact .inr (.inl ⟨_,by assumption,rfl⟩)
 ·cases h;exact .inr (.inr ⟨by assumption,rfl⟩)
 cases h
def aew{t:TypeId}{k d:Nat}(hk:EN P t=some k){x y:AV}{u v:Value}(hx:aB w γ x u)(hy:aB w γ y v)(hf:kindF k x y=true):(Op.equalIn (d+1) t u v).run P w=.ok (eqF x y) w:=by
 rcases nt hk with⟨hu,rfl⟩|⟨i,hu,rfl⟩|⟨hu,rfl⟩
 ·cases x<;>cases y<;>simp[kindF]at hf;rw[hx.bA,hy.bA];exact run_equalIn_bool' w d t _ _ hu
 ·cases x<;>cases y<;>simp[kindF]at hf;subst hf;rw[hx.aG,hy.aG];exact run_equalIn_int w d t _ _ _ _ hu
 cases x<;>cases y<;>simp[kindF]at hf;rw[hx.cq,hy.cq];exact run_equalIn_string w d t _ _ hu
def vT{t:TypeId}{k i:Nat}(hk:EN P t=some k){xs:Array Value}{v:Value}(h:xs[i]?=some v):(part t xs i).run P w=.ok v w:=by
 rcases nt hk with⟨hu,_⟩|⟨_,hu,_⟩|⟨hu,_⟩<;>simp[part,isAgg,run_underlying hu,h]
def vU{d:Nat}{xs ys:Array Value}:∀(fs:List Field)(i:Nat)(ks:List Nat)(as bs:List AV),Te P fs i=some ks->Qcm ks as bs=true->
  (∀(j:Nat)(c:AV),as[j]?=some c->∃v,xs[i+j]?=some v/\aB w γ c v)->(∀(j:Nat)(c:AV),bs[j]?=some c->∃v,ys[i+j]?=some v/\aB w γ c v)->
  (Op.eqFields (d+1) xs ys fs).run P w=.ok (eqFs as bs) w
 |[],i,ks,as,bs,hk,hf,_,_=>by
  cases hk;cases as<;>cases bs<;>simp[Qcm]at hf;simp[Op.eqFields,eqFs]
 |f::fs,i,ks,as,bs,hk,hf,hx,hy=>by
  simp only[Te]at hk;split at hk
  case h_2=>cases hk
  rename_i k ks' h0 h1 h2;cases hk;simp only[zzak,beq_iff_eq,bne_iff_ne]at h0;cases as with
  |nil=>cases bs<;>simp[Qcm]at hf
  |cons c as=>
   cases bs with
   |nil=>simp[Qcm]at hf
   |cons c' bs=>
    simp only[Qcm,zzak]at hf;obtain⟨u,hu1,JZ⟩:=hx 0 c rfl;obtain⟨v,hv1,se⟩:=hy 0 c' rfl;have ih:=vU (d:=d) (xs:=xs) (ys:=ys) fs (i+1) ks' as bs h2 hf.2 (fun j c hj=>by have:=hx (j+1) c (by simpa using hj);rwa [show i+1+j=i+(j+1) by omega]) (fun j c hj=>by have:=hy (j+1) c (by simpa using hj);rwa [show i+1+j=i+(j+1) by omega]);have p1:=vT (w:=w) h1 hu1;have p2:=vT (w:=w) h1 hv1;have p3:=aew (d:=d) h1 JZ se hf.1;simp only[zzcq]at p1 p2;simp only[Op.eqFields,ne_eq,h0.2,not_false_eq_true,if_true,Sem.run_bind,h0.1,p1,p2,p3,Result.andThen_ok,Sem.run_ite];cases hc:eqF c c'<;>simp[eqFs,hc,ih]
def Wb(hm:au N w0 aq γ w B L){op:BinOp}{t t':TypeId}{fs:Array Field}{x y:Operand}(hu:P.underlying t=some (.struct fs))(h1:aB w γ (e (aA x)) (a.eval x))(h2:aB w γ (e (aA y)) (a.eval y))
  (hc:(rop P gl orc e m dst (zi P t fs.toList op x y)).1):
  Step N w0 aq P ⟨dst,.binOp op t x y t',ty,pos,after,guard⟩ a γ w B L (rop P gl orc e m dst (zi P t fs.toList op x y)).2:=by
 have main:∀(neg:Bool)(ks:List Nat),Te P fs.toList 0=some ks->(P.stoodInHeld t||P.eqGuardType P.depth t)=false->(op=if neg then .neq else .eql)->(rop P gl orc e m dst (.eqA neg ks (aA x) (aA y))).1->
   Step N w0 aq P ⟨dst,.binOp op t x y t',ty,pos,after,guard⟩ a γ w B L (rop P gl orc e m dst (.eqA neg ks (aA x) (aA y))).2:=by
  clear hc;intro neg ks hk hg gi hc;simp only[rop]at hc |-
  split at hc
  case h_2=>exact hc.elim
  rename_i xs ys e1 e2;rw[e1]at h1;rw[e2]at h2;try simp only[e1,e2]
  obtain⟨ax,hv1,r1⟩:=h1.gC;obtain⟨ay,se,r2⟩:=h2.gC;simp only[zzeu]at hg;have hf:P.fieldsOf t=fs:=by simp[Program.fieldsOf,hu]
  have cp:∀{cs:List AV}{arr:Array Value},ak w γ cs arr.toList->∀(j:Nat)(c:AV),cs[j]?=some c->∃v,arr[0+j]?=some v/\aB w γ c v:=fun{cs arr}hr j c hj=>by
   have h0:=(zza.1 hj).1;have h3:=hr.1;have ai:j<arr.size:=by simp at h3;omega
   exact⟨arr[j],by simp[ai],hr.2 j c _ hj (by simp[ai])⟩
  have aZ:(Op.equalIn 10000 t (.agg ax) (.agg ay)).run P w=.ok (eqFs xs ys) w:=by
   rw[run_equalIn_struct w 9999 t ax ay (by rw[hf];exact hu) hg.1,hf];exact vU (d:=9998) fs.toList 0 ks xs ys hk hc (cp r1) (cp r2)
  have Wc:=run_eqGuard_agg (P:=P) w op t x y ax ay hg.2;cases neg with
  |false=>
   simp at gi;subst gi;refine Qr hm (v:=.bool (eqFs xs ys)) ?_ (.bool _);simp[execOp,hv1,se,Wc,run_eql_struct,aZ]
  |true=>
   simp at gi;subst gi;refine Qr hm (v:=.bool (!(eqFs xs ys))) ?_ (.bool _);simp[execOp,hv1,se,Wc,run_neq_struct,aZ]
 unfold zi at hc |-
 split at hc
 ·rename_i ks h3 h4;exact main false ks h3 h4 rfl hc
 ·rename_i ks h3 h4;exact main true ks h3 h4 rfl hc
 exact hc.elim
def nx{isS:Bool}{len cap:Nat}{lo hi:Option Operand}{l h:Int}(hl:loOf ((lo.map aA).map e)=some l)(hh:hiOf len ((hi.map aA).map e)=some h)(h2:∀y∈lo,aB w γ (e (aA y)) (a.eval y))(h3:∀y∈hi,aB w γ (e (aA y)) (a.eval y))
  (c0:0<=l)(c1:l<=h)(c2:h<=len)(c3:len<=cap):(Instr.sliceBounds isS len cap (lo.map a.eval) (hi.map a.eval) none).run P w=.ok (l.toNat,h.toNat,cap) w:=by
 have k1:lo=none/\l=0\/∃y k,lo=some y/\a.eval y=.int k l:=by
  cases lo with
  |none=>simp[loOf]at hl;exact .inl ⟨rfl,hl.symm⟩
  |some y=>
   have:=h2 y (by simp);simp only[zzcv]at hl;cases he:e (aA y)<;>rw[he]at hl<;>simp[loOf]at hl;subst hl;rw[he]at this;exact .inr ⟨y,_,rfl,this.aG⟩
 have k2:hi=none/\h=len\/∃y k,hi=some y/\a.eval y=.int k h:=by
  cases hi with
  |none=>simp[hiOf]at hh;exact .inl ⟨rfl,hh.symm⟩
  |some y=>
   have:=h3 y (by simp);simp only[zzcv]at hh;cases he:e (aA y)<;>rw[he]at hh<;>simp[hiOf]at hh;subst hh;rw[he]at this;exact .inr ⟨y,_,rfl,this.aG⟩
 have c4:0<=h:=by omega
 have c5:h<=(cap:Int):=by omega
 have c6:l<=(h.toNat:Int):=by omega
 rcases k1 with⟨rfl,rfl⟩|⟨y,k,rfl,hy⟩<;>obtain⟨rfl,rfl⟩|⟨y',k',rfl,hy'⟩:=k2
 ·simp[Instr.sliceBounds]
 ·simp[Instr.sliceBounds,Instr.sliceBound,asIntOf,hy',c4,c5]
 ·simp[Instr.sliceBounds,Instr.sliceBound,asIntOf,hy,c0,c1]
 have c7:¬(max h 0<l):=by omega
 have c8:l<=max h 0:=by omega
 simp[Instr.sliceBounds,Instr.sliceBound,asIntOf,hy,hy',c0,c4,c5,c8]
def oP{rows:List (List AV)}{l k i j:Nat}{c:AV}(h:Qt ((rows.drop l).take k) i j=some c):Qt rows (l+i) j=some c/\i<k:=by
 unfold Qt at*
 rw[zzbj]at h;split at h
 ·rename_i hi;rw[zzbk]at h;exact⟨h,hi⟩
 simp at h
def Wf(hm:au N w0 aq γ w B L){t te:TypeId}{i:TypeInfo}{x:Operand}{lo hi:Option Operand}(hu:P.underlying t=some (.slice te))(dV:P.info? te=some i)
  (h1:aB w γ (e (aA x)) (a.eval x))(h2:∀y∈lo,aB w γ (e (aA y)) (a.eval y))(h3:∀y∈hi,aB w γ (e (aA y)) (a.eval y))
  (hc:(rop P gl orc e m dst (.slL i.size (aA x) (lo.map aA) (hi.map aA))).1):
  Step N w0 aq P ⟨dst,.slice t x lo hi none,ty,pos,after,guard⟩ a γ w B L (rop P gl orc e m dst (.slL i.size (aA x) (lo.map aA) (hi.map aA))).2:=by
 simp only[rop]at hc |-
 split at hc
 ·rename_i rt rows e1;rw[e1]at h1;try simp only[e1]
  split at hc
  case h_2=>exact hc.elim
  rename_i l h hl hh;try simp only[hl,hh]
  obtain⟨⟨c0,c1,c2⟩,hsz⟩:=hc;obtain⟨p,cap,b,off,sz,cv,hv,s1,_⟩:=h1.bY;replace s1:=s1.fix (sz:=i.size) hsz;have hb:=nx (P:=P) (w:=w) (a:=a) (isS:=true) (cap:=cap) hl hh h2 h3 c0 c1 c2 s1.hcap;have aH:((rows.drop l.toNat).take (h.toNat-l.toNat)).length=h.toNat-l.toNat:=by simp;omega
  have hcap:=s1.hcap;refine Qr hm (v:=.slice (if cap=l.toNat then p else p.map (·.add (l.toNat*i.size))) (h.toNat-l.toNat) (cap-l.toNat)) ?_ ?_
  ·simp[execOp,Instr.sliceAt,Instr.slice,run_underlying hu,hv,hb,sizeOf,typeInfo,dV]
  have main:aB w γ (.sl .ro ((rows.drop l.toNat).take (h.toNat-l.toNat))) (.slice (if cap=l.toNat then p else p.map (·.add (l.toNat*i.size))) ((rows.drop l.toNat).take (h.toNat-l.toNat)).length (cap-l.toNat)):=?_
  ·rw[aH]at main;exact main
  refine .sl b (off+l.toNat*i.size) i.size (fun k j=>cv (l.toNat+k) j) (by rw[aH];omega) (fun hn=>?_) (fun hn=>?_) (fun row hr=>hsz row (zzdm (zzca hr))) (fun k j c hk=>?_) (fun k j c hk=>?_) trivial
  ·have:p=none:=by
    split at hn
    ·exact hn
    simpa using hn
   have:=s1.hnil this;omega
  ·have aK:rows≠[]:=by rintro rfl;simp at hn
   obtain⟨hp,ai⟩:=s1.at_ aK
   have hlh:l.toNat<h.toNat:=by
    rcases zzaa l.toNat h.toNat with h'|h'
    ·exact h'
    exact absurd (zzav (by rw[aH];omega)) hn
   refine⟨?_,ai⟩;rw[if_neg (by omega),hp];simp[bw]
  ·obtain⟨g1,_⟩:=oP hk;obtain⟨g2,g3,g4⟩:=s1.cell _ j c g1;rw[zzbp,<- zzan]at g2 g3;exact⟨g2,g3,g4⟩
  obtain⟨g1,_⟩:=oP hk;exact s1.rep _ j c g1
 ·rename_i id off len gz e1;rw[e1]at h1;try simp only[e1]
  split at hc
  case h_2=>exact hc.elim
  rename_i l h hl hh;try simp only[hl,hh]
  obtain⟨⟨c0,c1,c2⟩,rfl⟩:=hc;obtain⟨b,cap,arr,JU,hβ,hv,ck,hblk,hs⟩:=h1.cI;have hb:=nx (P:=P) (w:=w) (a:=a) (isS:=true) (cap:=cap) hl hh h2 h3 c0 c1 c2 ck;refine Qr hm (v:=.slice (if cap=l.toNat then some ⟨b,off,none⟩else(some ⟨b,off,none⟩:Option Addr).map (·.add (l.toNat*i.size))) (h.toNat-l.toNat) (cap-l.toNat)) ?_ ?_
  ·simp[execOp,Instr.sliceAt,Instr.slice,run_underlying hu,hv,hb,sizeOf,typeInfo,dV]
  split
  ·rename_i hor
   have ha:(if cap=l.toNat then some (⟨b,off,none⟩:Addr)else(some ⟨b,off,none⟩:Option Addr).map (·.add (l.toNat*i.size)))=some ⟨b,off+l.toNat*i.size,none⟩:=by
    obtain h'|h':=hor
    ·rw[if_neg (by omega)];simp[bw]
    subst h';split<;>simp[bw]
   rw[ha];refine .bs hβ (by omega) hblk ?_;have:(l.toNat+(cap-l.toNat))*i.size=cap*i.size:=by congr 1;omega
   rw[zzbp]at this;omega
  have hz:h.toNat-l.toNat=0:=by omega
  rw[hz]
  have:aB w γ (.sl .nn []) (.slice (if cap=l.toNat then some (⟨b,off,none⟩:Addr)else(some ⟨b,off,none⟩:Option Addr).map (·.add (l.toNat*i.size))) ([]:List (List AV)).length (cap-l.toNat)):=
   .sl b off i.size (fun _ _=>undef) (zzcc _) (fun hn=>by split at hn<;>simp at hn) (fun hn=>absurd rfl hn) (fun _ h=>by cases h) (fun i j c h=>by simp[Qt]at h) (fun i j c h=>by simp[Qt]at h) (by
    show _≠none;split<;>simp)
  exact this
 exact hc.elim
def vV(hm:au N w0 aq γ w B L)(hB:∀id cells,m.boxes[id]?=some cells->B id=some cells){id b:Nat}(hb:γ.β id=some b){arr:Array Value}{te:TypeId}(hh:w.heap[b]?=some (.cells arr te (0,0))){k:Nat}{c:AV}
  (hk:(m.boxes.getD id [])[k]?=some c):∃u,arr[k]?=some u/\aB w γ c u/\u.oneCell'=true:=by
 cases gE:m.boxes[id]? with
 |none=>simp[List.getD,gE]at hk
 |some cells=>
  have:m.boxes.getD id []=cells:=by simp[List.getD,gE]
  rw[this]at hk;obtain⟨bT,e',g2,g3,g4⟩:=hm.box id cells b (hB id cells gE) hb;rw[hh]at g2;cases g2;have h1:=(zza.1 hk).1;have h2:=g3.1;have cK:k<arr.size:=by simp at h2;omega
  exact⟨arr[k],zzaj cK,g3.2 _ c _ hk (by simp[cK]),g4 _ (by simp)⟩
def Wg(hm:au N w0 aq γ w B L)(hB:∀id cells,m.boxes[id]?=some cells->B id=some cells){id b:Nat}(hb:γ.β id=some b){arr:Array Value}{te:TypeId}(hh:w.heap[b]?=some (.cells arr te (0,0))):
  (m.boxes.getD id []).length<=arr.size:=by
 rcases zzcn (m.boxes.getD id []).length with h|h
 ·omega
 obtain⟨u,h1,_⟩:=vV hm hB hb hh (k:=(m.boxes.getD id []).length-1) (zzac (by omega));have:=(zzbw.1 h1).1;omega
def Wr(hm:au N w0 aq γ w B L)(hB:∀id cells,m.boxes[id]?=some cells->B id=some cells){t te:TypeId}{n:Nat}{i:TypeInfo}{x:Operand}{lo hi:Option Operand}(hu:P.underlying t=some (.array n te))(dV:P.info? te=some i)
  (h1:aB w γ (e (aA x)) (a.eval x))(h2:∀y∈lo,aB w γ (e (aA y)) (a.eval y))(h3:∀y∈hi,aB w γ (e (aA y)) (a.eval y))
  (hc:(rop P gl orc e m dst (.slA n i.size (aA x) (lo.map aA) (hi.map aA))).1):
  Step N w0 aq P ⟨dst,.slice t x lo hi none,ty,pos,after,guard⟩ a γ w B L (rop P gl orc e m dst (.slA n i.size (aA x) (lo.map aA) (hi.map aA))).2:=by
 simp only[rop]at hc |-
 split at hc
 case h_2=>exact hc.elim
 rename_i id o' e1;rw[e1]at h1;try simp only[e1]
 split at hc
 case h_2=>exact hc.elim
 rename_i l h hl hh;try simp only[hl,hh]
 obtain⟨⟨c0,c1,c2⟩,cF,aN⟩:=hc;obtain⟨b,hβ,hv⟩:=h1.dF;have gE:m.boxes[id]?=some (m.boxes.getD id []):=by simp[aN]
 obtain⟨arr,JU,hblk,g3,g4⟩:=hm.box id _ b (hB id _ gE) hβ;have ck:=g3.1;simp only[zzbi]at ck;have hb:=nx (P:=P) (w:=w) (a:=a) (isS:=false) (cap:=n) hl hh h2 h3 c0 c1 c2 (zzab n);refine Qr hm (v:=.slice (some (if n=l.toNat then⟨b,o',none⟩else⟨b,o'+l.toNat*i.size,none⟩)) (h.toNat-l.toNat) (n-l.toNat)) ?_ ?_
 ·simp[execOp,Instr.sliceAt,Instr.sureAddr,run_underlying hu,hv,hb,sizeOf,typeInfo,dV,bw]
 split
 ·rename_i hor
  have ha:(if n=l.toNat then(⟨b,o',none⟩:Addr)else⟨b,o'+l.toNat*i.size,none⟩)=⟨b,o'+l.toNat*i.size,none⟩:=by
   obtain h'|h':=hor
   ·rw[if_neg (by omega)]
   subst h';split<;>simp
  rw[ha];refine .bs hβ (by omega) hblk ?_;have:(l.toNat+(n-l.toNat))*i.size=n*i.size:=by congr 1;omega
  rw[zzbp]at this;omega
 have hz:h.toNat-l.toNat=0:=by omega
 rw[hz]
 have:aB w γ (.sl .nn []) (.slice (some (if n=l.toNat then⟨b,o',none⟩else⟨b,o'+l.toNat*i.size,none⟩)) ([]:List (List AV)).length (n-l.toNat)):=
  .sl b 0 i.size (fun _ _=>undef) (zzcc _) (fun hn=>by cases hn) (fun hn=>absurd rfl hn) (fun _ h=>by cases h) (fun i j c h=>by simp[Qt]at h) (fun i j c h=>by simp[Qt]at h) (by
   show _≠none;simp)
 exact this
def P7(hm:au N w0 aq γ w B L)(hB:∀id cells,m.boxes[id]?=some cells->B id=some cells){s d te:TypeId}{x:Operand}(hs:P.underlying s=some (.slice te))(hd:P.underlying d=some .string)(ht:P.underlying te=some (.int .u8))
  (h1:aB w γ (e (aA x)) (a.eval x)){id off len sz:Nat}(e1:e (aA x)=.bs id off len sz){l:List UInt8}(hl:Wh (aV 1 len ((m.boxes.getD id []).drop off))=some l):
  Step N w0 aq P ⟨dst,.convert s d x,ty,pos,after,guard⟩ a γ w B L (.str ⟨l.toArray⟩):=by
 rw[e1]at h1;obtain⟨b,cap,arr,JU,hβ,hv,ck,hblk,_⟩:=h1.cI;obtain⟨ns,dY,rfl⟩:=vR hl;have aH:len=ns.length:=by have:=congrArg List.length dY;simpa[Qdz]using this
 have Wa:(loadCells ⟨b,off,none⟩ ns.length).run P w=.ok (ns.map (Value.int .u8)).toArray w:=by
  have:=run_loadCells_list (P:=P) (w:=w) ⟨b,off,none⟩ (ns.map (Value.int .u8)) fun j v hj=>?_
  ·simpa using this
  simp at hj;obtain⟨n,hn,rfl⟩:=hj;have ow:Qt (aV 1 len ((m.boxes.getD id []).drop off)) j 0=some (.int .u8 n):=by rw[dY];simp[Qt,hn]
  obtain⟨_,_,h3⟩:=Wl ow;rw[zzbk]at h3;obtain⟨u,h4,h5,_⟩:=vV hm hB hβ hblk h3;rw[h5.aG]at h4;rw[bw,aM hblk];simpa using h4
 refine Qr hm (v:=.string ⟨(ns.map fun n=>UInt8.ofNat n.toNat).toArray⟩) ?_ (.str _);have aZ:=run_bytesToString w ⟨b,off,none⟩ ns.length cap ns Wa;rw[vS]at aZ
 have:(⟨ByteArray.empty.data++(ns.map fun n=>UInt8.ofNat n.toNat).toArray⟩:ByteArray)=⟨(ns.map fun n=>UInt8.ofNat n.toNat).toArray⟩:=by
  have:ByteArray.empty.data=#[]:=rfl;rw[this];simp
 rw[this]at aZ;rw[aH]at hv;simp[execOp,hv,convert,run_underlying hs,run_underlying hd,run_underlying ht,aZ]
end
open Go Go.RowKit
section
variable {N:Nat} {w0:ir} {aq:Nat->Nat->Prop} {γ:G} {w:World} {B:Nat->Option (List AV)} {L:Nat->Option Nat} {P:Program} {o:Oper} {a:Act} {r:AV}
variable {dst:Option Tmp} {ty:TypeId} {pos:String} {after:Array Edge} {guard:Option (Nat×Bool)} {gl:Nat->AV} {orc:Nat->FuncId->List AV->AV} {e:bK->AV} {m:AM}
def alD(P:Program)(k:TypeId)(kn:Nat):Prop:=(kn=0/\P.underlying k=some (.int .i64))\/
 (∃fs ks,P.underlying k=some (.struct fs)/\Te P fs.toList 0=some ks/\(∀x∈ks,x=1)/\fs.size=kn/\kn≠0/\P.stoodInHeld k=false)
def kN{t:TypeId}{kn:Nat}{z:AV}(h:EO P t=some (kn,z)):∃k v i zv,P.underlying t=some (.map k v)/\alD P k kn/\P.info? v=some i/\i.zero=some zv/\z=As zv:=by
 unfold EO at h;split at h
 case h_2=>cases h
 rename_i k v hu;split at h
 ·rename_i i hk hi;cases hz:i.zero with
  |none=>simp[hz]at h
  |some zv=>simp[hz]at h;obtain⟨rfl,rfl⟩:=h;exact⟨k,v,i,zv,hu,.inl ⟨rfl,hk⟩,hi,hz,rfl⟩
 ·rename_i fs i hk hi;cases Iv:Te P fs.toList 0 with
  |none=>simp[Iv]at h
  |some ks=>
   simp only[Iv]at h;by_cases hc:(ks.all (·==1)&&(fs.size !=0)&&!(P.stoodInHeld k))=true
   ·rw[if_pos hc]at h;simp only[zzak,zzbh,beq_iff_eq,bne_iff_ne,Bool.not_eq_true']at hc;cases hz:i.zero with
    |none=>rw[hz]at h;cases h
    |some zv=>
     rw[hz]at h;simp only[zzcv,Option.some.injEq,Prod.mk.injEq]at h;obtain⟨rfl,rfl⟩:=h;exact⟨k,v,i,zv,hu,.inr ⟨fs,ks,hk,Iv,hc.1.1,rfl,hc.1.2,hc.2⟩,hi,hz,rfl⟩
   rw[if_neg hc]at h;cases h
 cases h
def EV:∀{cs:List AV}{ns:List Int},intsA cs=some ns->cs=ns.map (AV.int .i64)
 |[],ns,h=>by cases h;rfl
 |c::cs,ns,h=>by
  cases c<;>try(simp[intsA]at h;done)
  rename_i k n;cases k<;>try(simp[intsA]at h;done)
  simp only[intsA]at h;split at h
  ·rename_i ns' h';cases h;rw[EV h'];rfl
  cases h
def Cw{kn:Nat}{av:AV}{ns:List Int}(h:keyA kn av=some ns):av=keyAV kn ns/\Wx kn ns:=by
 cases kn with
 |zero=>
  cases av<;>try(simp[keyA]at h;done)
  rename_i k n;cases k<;>try(simp[keyA]at h;done)
  cases h;exact⟨rfl,rfl⟩
 |succ kn=>
  cases av<;>try(simp[keyA]at h;done)
  rename_i cs;simp only[keyA]at h;split at h
  case h_2=>cases h
  rename_i ns' h';split at h
  case isFalse=>cases h
  cases h;exact⟨by rw[EV h'];rfl,by assumption⟩
def P8{ns:List Int}:∀{vs:List Value},ak w γ (ns.map (AV.int .i64)) vs->vs=ns.map (Value.int .i64):=by
 induction ns with
 |nil=>intro vs h;exact zzav (by have:=h.1;simpa using this.symm)
 |cons n ns ih=>
  intro vs h;cases vs with
  |nil=>have:=h.1;simp at this
  |cons v vs=>
   have h0:=(h.2 0 (.int .i64 n) v rfl rfl).aG;rw[h0,ih (vs:=vs) ⟨by have:=h.1;simpa using this,fun i a u h1 h2=>h.2 (i+1) a u (by simpa using h1) (by simpa using h2)⟩];rfl
def vW(w:World)(γ:G):∀ns:List Int,ak w γ (ns.map (AV.int .i64)) (ns.map (Value.int .i64))
 |[]=>ak.nil
 |n::ns=>ak.cons (.int .i64 n) (vW w γ ns)
def qO{kn:Nat}{ns:List Int}{v:Value}(hk:Wx kn ns)(h:aB w γ (keyAV kn ns) v):v=Yo kn ns:=by
 cases kn with
 |zero=>
  match ns,hk with
  |[n],_=>exact h.aG
 |succ kn=>
  obtain⟨arr,rfl,hr⟩:=aB.gC (cs:=ns.map (AV.int .i64)) h;have:=P8 hr;simp only[Yo];congr 1;apply Array.ext';simpa using this
def AE{kn:Nat}{ns:List Int}(hk:Wx kn ns):aB w γ (keyAV kn ns) (Yo kn ns):=by
 cases kn with
 |zero=>
  match ns,hk with
  |[n],_=>exact .int .i64 n
 |succ kn=>
  have:=(vW w γ ns);exact .agg (by simp) fun i c v h1 h2=>this.2 i c v h1 (by simpa using h2)
def vX:∀{fs:List Field}{i:Nat}{ks:List Nat},Te P fs i=some ks->ks.length=fs.length
 |[],_,ks,h=>by cases h;rfl
 |f::fs,i,ks,h=>by
  simp only[Te]at h;split at h
  case h_2=>cases h
  rename_i k ks' h0 h1 h2;cases h;simp[vX h2]
def sg:∀{ks:List Nat}{as bs:List Int},(∀x∈ks,x=1)->as.length=ks.length->bs.length=ks.length->Qcm ks (as.map (AV.int .i64)) (bs.map (AV.int .i64))=true
 |[],[],[],_,_,_=>rfl
 |k::ks,a::as,b::bs,h,h1,h2=>by
  have:=h k (by simp);subst this;simp only[zzaz,Qcm,kindF,decide_true,zzdo];exact sg (fun x hx=>h x (by simp[hx])) (by simpa using h1) (by simpa using h2)
 |[],_::_,_,_,h,_=>by simp at h
 |[],_,_::_,_,_,h=>by simp at h
 |_::_,[],_,_,h,_=>by simp at h
 |_::_,_,[],_,_,h=>by simp at h
def AF:∀{as bs:List Int},as.length=bs.length->eqFs (as.map (AV.int .i64)) (bs.map (AV.int .i64))=decide (as=bs)
 |[],[],_=>rfl
 |a::as,b::bs,h=>by
  simp only[zzaz,eqFs,eqF,AF (as:=as) (bs:=bs) (by simpa using h)];by_cases h1:a=b<;>by_cases h2:as=bs<;>simp[h1,h2]
 |[],_::_,h=>by simp at h
 |_::_,[],h=>by simp at h
def P9{k:TypeId}{kn:Nat}{fs:Array Field}{ks:List Nat}(hu:P.underlying k=some (.struct fs))(hk:Te P fs.toList 0=some ks)(h1:∀x∈ks,x=1)(hs:fs.size=kn)(hg:P.stoodInHeld k=false){as bs:List Int}(ha:as.length=kn)(hb:bs.length=kn):
  (Op.equal k (.agg (as.map (Value.int .i64)).toArray) (.agg (bs.map (Value.int .i64)).toArray)).run P w=.ok (decide (as=bs)) w:=by
 have hf:P.fieldsOf k=fs:=by simp[Program.fieldsOf,hu]
 have hl:=vX hk;simp only[zzbi]at hl;show(Op.equalIn 10000 k _ _).run P w=_;rw[run_equalIn_struct w 9999 k _ _ (by rw[hf];exact hu) hg,hf];rw[vU (w:=w) (γ:=G0 fun _ _=>False) (d:=9998) fs.toList 0 ks (as.map (AV.int .i64)) (bs.map (AV.int .i64)) hk (sg h1 (by omega) (by omega)) ?_ ?_,AF (by omega)]
 ·intro j c hj;simp at hj;obtain⟨n,hn,rfl⟩:=hj;exact⟨.int .i64 n,by simp[hn],.int .i64 n⟩
 intro j c hj;simp at hj;obtain⟨n,hn,rfl⟩:=hj;exact⟨.int .i64 n,by simp[hn],.int .i64 n⟩
def WA{n:Int}:∀{kvs:List (List Int×AV)}{es:List MapEntry}(i:Nat),kvs.length=es.length->(∀(j:Nat)(k:List Int)(c:AV)(x:MapEntry),kvs[j]?=some (k,c)->es[j]?=some x->Wx 0 k/\x.key=Yo 0 k/\aB w γ c x.val)->
  (Xj [n] kvs i=none->Instr.findNow (.int .i64) (.int .i64 n) es i=some none)/\
  (∀j c,Xj [n] kvs i=some (j,c)->∃v,Instr.findNow (.int .i64) (.int .i64 n) es i=some (some (j,v))/\aB w γ c v/\i<=j/\j<i+kvs.length/\kvs[j-i]?=some ([n],c))
 |[],[],i,_,_=>⟨fun _=>rfl,fun j c h=>by cases h⟩
 |[],_::_,_,h,_=>by simp at h
 |_::_,[],_,h,_=>by simp at h
 |(k,c)::kvs,x::es,i,hl,hk=>by
  obtain⟨g0,g1,g2⟩:=hk 0 k c x rfl rfl;obtain⟨ih1,ih2⟩:=WA (n:=n) (kvs:=kvs) (es:=es) (i+1) (by simpa using hl) fun j k' c' x' q1 q2=>hk (j+1) k' c' x' (by simpa using q1) (by simpa using q2)
  match k,g0 with
  |[k],_=>
   simp only[Yo]at g1;by_cases hnk:n=k
   ·subst hnk;have hf:Instr.findNow (.int .i64) (.int .i64 n) (x::es) i=some (some (i,x.val)):=by simp[Instr.findNow,Instr.sameNow,g1]
    refine⟨fun h=>by simp[Xj]at h,fun j c' h=>?_⟩;simp[Xj]at h;obtain⟨rfl,rfl⟩:=h;exact⟨x.val,hf,g2,zzab _,by simp,by simp⟩
   have avS:(n==k)=false:=by simpa using hnk
   have hf:Instr.findNow (.int .i64) (.int .i64 n) (x::es) i=Instr.findNow (.int .i64) (.int .i64 n) es (i+1):=by simp[Instr.findNow,Instr.sameNow,g1,avS]
   rw[hf];have avT:¬[n]=[k]:=by simpa using hnk
   simp only[Xj,if_neg avT];refine⟨ih1,fun j c' h=>?_⟩;obtain⟨v,q1,q2,q3,q4,q5⟩:=ih2 j c' h;refine⟨v,q1,q2,by omega,by simp;omega,?_⟩;rw[show j-i=(j-(i+1))+1 by omega];simpa using q5
def WB{kt:TypeId}{kn:Nat}{n:List Int}(NR:∀k',Wx kn k'->(Op.equal kt (Yo kn n) (Yo kn k')).run P w=.ok (decide (n=k')) w):∀{kvs:List (List Int×AV)}{es:List MapEntry}(i:Nat),kvs.length=es.length->
  (∀(j:Nat)(k:List Int)(c:AV)(x:MapEntry),kvs[j]?=some (k,c)->es[j]?=some x->Wx kn k/\x.key=Yo kn k/\aB w γ c x.val)->
  (Xj n kvs i=none->(Instr.findAsking kt (Yo kn n) es i).run P w=.ok none w)/\
  (∀j c,Xj n kvs i=some (j,c)->∃v,(Instr.findAsking kt (Yo kn n) es i).run P w=.ok (some (j,v)) w/\aB w γ c v/\i<=j/\j<i+kvs.length/\kvs[j-i]?=some (n,c))
 |[],[],i,_,_=>⟨fun _=>by simp[Instr.findAsking],fun j c h=>by cases h⟩
 |[],_::_,_,h,_=>by simp at h
 |_::_,[],_,h,_=>by simp at h
 |(k,c)::kvs,x::es,i,hl,hk=>by
  obtain⟨g0,g1,g2⟩:=hk 0 k c x rfl rfl;obtain⟨ih1,ih2⟩:=WB NR (kvs:=kvs) (es:=es) (i+1) (by simpa using hl) fun j k' c' x' q1 q2=>hk (j+1) k' c' x' (by simpa using q1) (by simpa using q2);have hq:=NR k g0;rw[<- g1]at hq;by_cases hnk:n=k
  ·subst hnk;simp only[decide_true]at hq;have hf:(Instr.findAsking kt (Yo kn n) (x::es) i).run P w=.ok (some (i,x.val)) w:=by simp[Instr.findAsking,hq]
   refine⟨fun h=>by simp[Xj]at h,fun j c' h=>?_⟩;simp[Xj]at h;obtain⟨rfl,rfl⟩:=h;exact⟨x.val,hf,g2,zzab _,by simp,by simp⟩
  simp only[hnk,decide_false]at hq;have hf:(Instr.findAsking kt (Yo kn n) (x::es) i).run P w=(Instr.findAsking kt (Yo kn n) es (i+1)).run P w:=by simp[Instr.findAsking,hq]
  rw[hf];simp only[Xj,if_neg hnk];refine⟨ih1,fun j c' h=>?_⟩;obtain⟨v,q1,q2,q3,q4,q5⟩:=ih2 j c' h;refine⟨v,q1,q2,by omega,by simp;omega,?_⟩;rw[show j-i=(j-(i+1))+1 by omega];simpa using q5
def Cx{kt:TypeId}{kn:Nat}{n:List Int}(hkt:alD P kt kn)(hn:Wx kn n){kvs:List (List Int×AV)}{es:List MapEntry}(hl:kvs.length=es.length)
  (hk:∀(j:Nat)(k:List Int)(c:AV)(x:MapEntry),kvs[j]?=some (k,c)->es[j]?=some x->Wx kn k/\x.key=Yo kn k/\aB w γ c x.val):
  (Xj n kvs 0=none->(Instr.findKey kt (Yo kn n) es).run P w=.ok none w)/\
  (∀j c,Xj n kvs 0=some (j,c)->∃v,(Instr.findKey kt (Yo kn n) es).run P w=.ok (some (j,v)) w/\aB w γ c v/\j<kvs.length/\kvs[j]?=some (n,c)):=by
 obtain⟨rfl,hu⟩|⟨fs,ks,hu,Iv,h1,hs,h0,hg⟩:=hkt
 ·match n,hn with
  |[n],_=>
   obtain⟨f1,f2⟩:=WA (w:=w) (γ:=γ) (n:=n) 0 hl hk;refine⟨fun h=>MapKept.run_findKey hu (f1 h),fun j c h=>?_⟩;obtain⟨v,q1,q2,_,q4,q5⟩:=f2 j c h;exact⟨v,MapKept.run_findKey hu q1,q2,by omega,by simpa using q5⟩
 cases kn with
 |zero=>exact absurd rfl h0
 |succ kn=>
  obtain⟨f1,f2⟩:=WB (w:=w) (γ:=γ) (P:=P) (kt:=kt) (n:=n) (kn:=kn+1) (fun k' zk=>P9 hu Iv h1 hs hg hn zk) 0 hl hk;have e1:(Instr.findKey kt (Yo (kn+1) n) es).run P w=(Instr.findAsking kt (Yo (kn+1) n) es).run P w:=run_findKey_eq w (by simp[hu]) _ _;rw[e1];refine⟨f1,fun j c h=>?_⟩;obtain⟨v,q1,q2,_,q4,q5⟩:=f2 j c h;exact⟨v,q1,q2,by omega,by simpa using q5⟩
def run_checkKey{b:Bool}{k:TypeId}{kn:Nat}{n:List Int}(hk:alD P k kn)(hn:Wx kn n):(Instr.checkKey b 10000 k (Yo kn n)).run P w=.ok () w:=by
 obtain⟨rfl,hu⟩|⟨fs,ks,hu,Iv,h1,hs,h0,hg⟩:=hk
 ·match n,hn with
  |[n],_=>
   have h:∀d,(Instr.checkKey b (d+1) k (.int .i64 n)).run P w=.ok () w:=fun d=>by
    unfold Instr.checkKey;simp[run_underlying hu]
   exact h 9999
 cases kn with
 |zero=>exact absurd rfl h0
 |succ kn=>
  have h:∀d,(Instr.checkKey b (d+1+1) k (.agg (n.map (Value.int .i64)).toArray)).run P w=.ok () w:=fun d=>by
   rw[Instr.checkKey];simp only[Sem.run_bind,run_underlying hu,Result.andThen_ok];rw[<- Array.forIn_toList];have si:n.length=kn+1:=hn
   have ha:∀j,0<=j->j<0+fs.toList.length->∃n',(n.map (Value.int .i64)).toArray[j]?=some (.int .i64 n'):=fun j _ hj=>by
    simp at hj;exact⟨n[j]'(by omega),by simp[show j<n.length by omega]⟩
   generalize(n.map (Value.int .i64)).toArray=arr at ha;generalize fs.toList=Lf at Iv ha;generalize(0:Nat)=i0 at Iv ha;clear hs hu si hn h0 hg;induction Lf generalizing i0 ks with
   |nil=>simp
   |cons f Lf ih=>
    simp only[Te]at Iv;split at Iv
    case h_2=>cases Iv
    rename_i k' ks' h0 cV dw;cases Iv;simp only[zzak,beq_iff_eq,bne_iff_ne]at h0;have ih:=ih ks' (fun x hx=>h1 x (by simp[hx])) (i0+1) dw fun j ek ql=>ha j (by omega) (by simp;omega);obtain⟨n',si⟩:=ha i0 (zzab _) (by simp);have hp:=vT (P:=P) (w:=w) cV si
    have hc:(Instr.checkKey b (d+1) f.type (.int .i64 n')).run P w=.ok () w:=by
     rcases nt cV with⟨hu,_⟩|⟨_,hu,_⟩|⟨hu,_⟩<;>simp[Instr.checkKey,run_underlying hu]
    simp only[List.forIn_cons,Sem.run_bind,h0.2,ne_eq,not_false_eq_true,if_true,h0.1,hp,hc,Result.andThen_ok,Sem.run_pure];exact ih
  exact h 9998
def oQ{α:Type}:∀{l:List α}{x y:α},(x,y)∈l.zip l->x=y/\x∈l
 |[],_,_,h=>by simp at h
 |a::l,x,y,h=>by
  rw[zzdg]at h;rcases zzat.1 h with h|h
  ·cases h;exact⟨rfl,by simp⟩
  obtain⟨h1,h2⟩:=oQ h;exact⟨h1,by simp[h2]⟩
def zn(d:Nat)(n:List Int):Instr.sameBits (d+1+1) (.agg (n.map (Value.int .i64)).toArray) (.agg (n.map (Value.int .i64)).toArray)=true:=by
 simp only[Instr.sameBits,beq_self_eq_true,zzdo,zzbh];rintro⟨x,y⟩ hxy
 have h:x=y/\x∈n.map (Value.int .i64):=by
  try simp only[List.toList_toArray]at hxy
  exact oQ hxy
 obtain⟨rfl,h2⟩:=h;obtain⟨k,_,rfl⟩:=zzax.1 h2;simp[Instr.sameBits]
def oR{old new:Value}{kn:Nat}{n:List Int}(hn:Wx kn n)(h1:old=Yo kn n)(h2:new=Yo kn n):(Instr.keyThatStays old new).run P w=.ok new w:=by
 subst h1;subst h2;cases kn with
 |zero=>
  match n,hn with
  |[n],_=>simp[Instr.keyThatStays,Instr.sameBits,Yo]
 |succ kn=>
  have:=zn 9998 n;simp[Instr.keyThatStays,Yo,this]
def au.jb(hm:au N w0 aq γ w B L){id kn:Nat}{kvs:List (List Int×AV)}{v:Value}(h1:aB w γ (.mp id) v)(hB:B id=some [.aJ kn kvs]):
  ∃b es,γ.mm id=some b/\v=.map (some b)/\w.heap[b]?=some (.map es es.size)/\kvs.length=es.size/\
   ∀(i:Nat)(k:List Int)(a:AV)(e:MapEntry),kvs[i]?=some (k,a)->es[i]?=some e->Wx kn k/\e.key=Yo kn k/\e.born=i/\aB w γ a e.val:=by
 cases h1 with
 |mp h=>
  rename_i b;obtain⟨_,_,_,_,_,_,_,a,o,q1,q2,q3⟩:=hm.mm id b h;rw[hB]at q1;cases q1;cases o<;>try exact q3.elim
  rename_i es clock;obtain⟨rfl,q4,q5⟩:=q3;exact⟨b,es,h,rfl,q2,q4,q5⟩
def au.NS(hm:au N w0 aq γ w B L){id mid n:Nat}{seen:List Nat}{v:Value}(h1:aB w γ (.it id) v)(hB:B id=some [.mitr mid n seen]):
  ∃b mb,γ.mm id=some b/\v=.pointer (some ⟨b,0,none⟩)/\w.heap[b]?=some (.mapIter (some mb) n seen.toArray n)/\γ.mm mid=some mb:=by
 cases h1 with
 |it h=>
  rename_i b;obtain⟨_,_,_,_,_,_,_,a,o,q1,q2,q3⟩:=hm.mm id b h;rw[hB]at q1;cases q1;cases o<;>try exact q3.elim
  rename_i mp NM sn st;cases mp<;>try exact q3.elim
  rename_i mb;obtain⟨q4,rfl,rfl,rfl⟩:=q3;exact⟨b,mb,h,rfl,by simpa using q2,q4⟩
def Qee{kn:Nat}{kvs:List (List Int×AV)}{es:Array MapEntry}(hl:kvs.length=es.size)(hk:∀(i:Nat)(k:List Int)(a:AV)(e:MapEntry),kvs[i]?=some (k,a)->es[i]?=some e->Wx kn k/\e.key=Yo kn k/\e.born=i/\aB w γ a e.val){i:Nat}(hi:i<es.size):es[i].born=i:=by
 have:=hk i (kvs[i]'(by omega)).1 (kvs[i]'(by omega)).2 es[i] (by simp[show i<kvs.length by omega]) (by simp[hi]);exact this.2.2.1
def vY{id:Nat}{x:AV}(hB:∀id cells,m.boxes[id]?=some cells->B id=some cells)(h:m.boxes.getD id []=[x]):B id=some [x]:=hB id _ (by
 cases hh:m.boxes[id]? with
 |none=>simp[List.getD,hh]at h
 |some c=>simp[List.getD,hh]at h;rw[h])
def QA(hm:au N w0 aq γ w B L)(hB:∀id cells,m.boxes[id]?=some cells->B id=some cells){t:TypeId}{kn:Nat}{z:AV}{x k:Operand}{ok:Bool}(ht:EO P t=some (kn,z))(h1:aB w γ (e (aA x)) (a.eval x))(h2:aB w γ (e (aA k)) (a.eval k))
  (hc:(rop P gl orc e m dst (.look kn ok z (aA x) (aA k))).1):
  Step N w0 aq P ⟨dst,.lookup t x k ok,ty,pos,after,guard⟩ a γ w B L (rop P gl orc e m dst (.look kn ok z (aA x) (aA k))).2:=by
 simp only[rop]at hc |-
 split at hc
 case h_2=>exact hc.elim
 rename_i id n e1 e2;rw[e1]at h1;obtain⟨e3,hn⟩:=Cw e2;rw[e3]at h2;try simp only[e1,e2]
 split at hc
 case h_2=>exact hc.elim
 rename_i Au kvs fq;simp only at hc;subst hc;try simp only[fq]
 obtain⟨kt,vt,i,zv,hu,hk,hi,hz,rfl⟩:=kN ht;obtain⟨b,es,hb,hv,q2,q3,q4⟩:=hm.jb h1 (vY hB fq)
 obtain⟨f1,f2⟩:=Cx (w:=w) (γ:=γ) (P:=P) hk hn (kvs:=kvs) (es:=es.toList) (by simpa using q3) fun j k' c x' g1 g2=>by
  obtain⟨p1,p2,_,p3⟩:=q4 j k' c x' g1 (by simpa using g2);exact⟨p1,p2,p3⟩
 have cp:=MapKept.run_getObj_map (P:=P) q2;have kP:∀b,(Instr.checkKey b 10000 kt (Yo Au n)).run P w=.ok () w:=fun b=>run_checkKey hk hn;have hkv:=qO hn h2;cases hf:Xj n kvs 0 with
 |none=>
  have QB:=f1 hf
  have aZ:(execOp a.eval ⟨dst,.lookup t x k ok,ty,pos,after,guard⟩).run P w=.ok (.value (if ok then .tuple #[zv,.bool false]else zv)) w:=by
   simp[execOp,Instr.lookup,run_underlying hu,hv,hkv,cp,kP,QB,zeroValue,typeInfo,hi,hz]
  refine Qr hm aZ ?_;cases ok
  ·exact Jw w γ zv
  exact(ak.cons (Jw w γ zv) (ak.cons (.bool false) ak.nil)).zm
 |some p=>
  obtain⟨j,c⟩:=p;obtain⟨vv,QB,g2,_⟩:=f2 j c hf
  have aZ:(execOp a.eval ⟨dst,.lookup t x k ok,ty,pos,after,guard⟩).run P w=.ok (.value (if ok then .tuple #[vv,.bool true]else vv)) w:=by
   simp[execOp,Instr.lookup,run_underlying hu,hv,hkv,cp,kP,QB]
  refine Qr hm aZ ?_;cases ok
  ·exact g2
  exact(ak.cons g2 (ak.cons (.bool true) ak.nil)).zm
def QC(hm:au N w0 aq γ w B L)(hB:∀id cells,m.boxes[id]?=some cells->B id=some cells){x:Operand}(h1:aB w γ (e (aA x)) (a.eval x))
  (hc:(rop P gl orc e m dst (.entr (aA x))).1):
  Step N w0 aq P ⟨dst,.entry x,ty,pos,after,guard⟩ a γ w B L (rop P gl orc e m dst (.entr (aA x))).2:=by
 simp only[rop]at hc |-
 split at hc
 case h_2=>exact hc.elim
 rename_i id e1;rw[e1]at h1;try simp only[e1]
 split at hc
 case h_2=>exact hc.elim
 rename_i mid n seen fq;try simp only[fq]
 split at hc
 case h_2=>exact hc.elim
 rename_i kn kvs i gE lN;try simp only[gE,lN]
 obtain⟨D5,bI⟩:=hc;obtain⟨b,mb,hb,hv,q1,q2⟩:=hm.NS h1 (vY hB fq);obtain⟨b',es,cH,Cy,q3,q4,q5⟩:=hm.jb (v:=.map (some mb)) (.mp q2) (vY hB gE);cases Cy;have hie:i<es.size:=by omega
 have WC:=Qee q4 q5 hie
 obtain⟨ini,avU⟩:∃ini,seen=ini++[i]:=by
  rw[zzfa]at lN;exact lN
 have aqD:seen.toArray=ini.toArray.push es[i].born:=by rw[WC,avU];simp
 have AG:(es.toList.map (·.born)).Nodup:=by
  have:es.toList.map (·.born)=List.range es.size:=by
   apply zzed
   ·simp
   intro j h1 h2;simp at h1;simp[Qee q4 q5 h1]
  rw[this];exact zzdt
 have aZ:=run_entry_at (P:=P) w b mb n ini.toArray es es.size es[i] (by rw[<- aqD,q1];congr 2;omega) q3 (by simp) AG;obtain⟨p1,p2,_,p3⟩:=q5 i (kvs[i]'(by omega)).1 (kvs[i]'(by omega)).2 es[i] (by simp[show i<kvs.length by omega]) (by simp[hie]);have Wc:kvs.getD i ([],.junk)=kvs[i]'(by omega):=by simp[List.getD,show i<kvs.length by omega]
 rw[Wc];refine Qr hm (v:=.tuple #[es[i].key,es[i].val]) (by simp[execOp,hv,aZ]) ?_;rw[p2];exact(ak.cons (AE p1) (ak.cons p3 ak.nil)).zm
end
open Go Go.RowKit
section
variable {N:Nat} {w0:ir} {aq:Nat->Nat->Prop} {γ:G} {w:World} {B:Nat->Option (List AV)} {L:Nat->Option Nat} {P:Program} {o:Oper} {a:Act} {r:AV}
variable {dst:Option Tmp} {ty:TypeId} {pos:String} {after:Array Edge} {guard:Option (Nat×Bool)} {gl:Nat->AV} {orc:Nat->FuncId->List AV->AV} {e:bK->AV} {m:AM}
def AH{xs:Array Operand}(h:∀x∈xs,aB w γ (e (aA x)) (a.eval x)):ak w γ ((xs.toList.map aA).map e) (xs.map a.eval).toList:=by
 refine⟨by simp,fun i c v h1 h2=>?_⟩;simp at h1 h2;obtain⟨x,hx,rfl⟩:=h1;obtain⟨x',kL,rfl⟩:=h2;rw[hx]at kL;cases kL;exact h x (zzda hx)
def Qdr{f:FuncId}{args:Array Value}(h:bC P f):(callFunc f args).run P w=.ok (.enter f args) w:=by
 obtain⟨fn,h1,h2,h3⟩:=h;have D6:¬fn.body=none:=by intro h;simp[h]at h2
 have h3':¬fn.name= "runtime.NumGoroutine":=by simpa using h3
 simp[callFunc,h1,D6,h3']
def QD(hm:au N w0 aq γ w B L)(hB:∀id cells,m.boxes[id]?=some cells->B id=some cells)(lM:∀g,aB w γ.cT (gl g) (.pointer (some ⟨g,0,none⟩))){f:Operand}{args:Array Operand}{ts:Array TypeId}
  (h1:aB w γ (e (aA f)) (a.eval f))(h2:∀x∈args,aB w γ (e (aA x)) (a.eval x))(hc:(rop P gl orc e m dst (.call (aA f) (args.toList.map aA))).1):
  Step N w0 aq P ⟨dst,.call ⟨.value f,args,ts⟩,ty,pos,after,guard⟩ a γ w B L (rop P gl orc e m dst (.call (aA f) (args.toList.map aA))).2:=by
 simp only[rop]at hc |-
 split at hc
 case h_2=>exact hc.elim
 rename_i g first cap e1
 try simp only[e1]
 rw[e1]at h1;obtain⟨fa,ca,hv,r1,r2⟩:=h1.qH;have oJ:=(r1.append (AH h2)).append r2;generalize orc (dst.getD 0) g ((first++(args.toList.map aA).map e++cap).map (bF m 6))=x at hc
 have aZ:bC P g->(execOp a.eval ⟨dst,.call ⟨.value f,args,ts⟩,ty,pos,after,guard⟩).run P w=.ok (.enter g ((fa.toList++(args.map a.eval).toList++ca.toList).toArray)) w:=fun qo=>by
  simp[execOp,resolve,hv,Deferred.ofValue,invoke,Qdr qo]
 have pure:∀r,(Pure P gl g ((first++(args.toList.map aA).map e++cap).map (bF m 6)) r/\((first++(args.toList.map aA).map e++cap).any (Yj 6)=true->flat r=true))->Step N w0 aq P ⟨dst,.call ⟨.value f,args,ts⟩,ty,pos,after,guard⟩ a γ w B L r:=fun r⟨hp,gh⟩rd next Q hk=>
  EP (aZ hp.1) (JP hm hB lM oJ hp gh fun v w' γ' h3 h4 h5=>hk v w' γ' h3 h4 h5)
 cases x with
 |gd b r=>
  intro rd next Q hk
  refine EP (aZ hc.1) ((hc.2 N w0 aq γ w B L _ hm hB lM oJ).mono ?_);rintro en w' ⟨v,γ',rfl,h3,h4,h5⟩;exact hk v w' γ' h3 h4 h5
 |_=>exact pure _ hc
def QE(hm:au N w0 aq γ w B L){x:Operand}{t:TypeId}(hu:P.underlying t=some .string)(h1:aB w γ (e (aA x)) (a.eval x))(hc:(rop P gl orc e m dst (.lenS (aA x))).1):
  Step N w0 aq P ⟨dst,.call ⟨.builtin .len,#[x],#[t]⟩,ty,pos,after,guard⟩ a γ w B L (rop P gl orc e m dst (.lenS (aA x))).2:=by
 simp only[rop]at hc |-
 split at hc
 case h_2=>exact hc.elim
 rename_i s e1;rw[e1]at h1;exact Qr hm (v:=.int .i64 s.size) (by simp[execOp,resolve,invoke,builtin,Builtin.len_,run_underlying hu,h1.cq,goInt]) (.int _ _)
def WD(hm:au N w0 aq γ w B L){x:Operand}{t te:TypeId}(hu:P.underlying t=some (.slice te))(h1:aB w γ (e (aA x)) (a.eval x))(hc:(rop P gl orc e m dst (.len (aA x))).1):
  Step N w0 aq P ⟨dst,.call ⟨.builtin .len,#[x],#[t]⟩,ty,pos,after,guard⟩ a γ w B L (rop P gl orc e m dst (.len (aA x))).2:=by
 simp only[rop]at hc |-
 split at hc
 case h_3=>exact hc.elim
 case h_2=>
  rename_i id off len sz e1;rw[e1]at h1;try simp only[e1]
  obtain⟨b,cap,arr,JU,hb,hv,_⟩:=h1.cI;exact Qr hm (v:=.int .i64 len) (by simp[execOp,resolve,invoke,builtin,Builtin.len_,run_underlying hu,hv,goInt]) (.int _ _)
 rename_i rt rows e1;rw[e1]at h1;try simp only[e1]
 obtain⟨a',cap,b,off,sz,cv,hv,_⟩:=h1.bY;exact Qr hm (v:=.int .i64 rows.length) (by simp[execOp,resolve,invoke,builtin,Builtin.len_,run_underlying hu,hv,goInt]) (.int _ _)
def aex(hm:au N w0 aq γ w B L){x y:Operand}{ts:Array TypeId}(h1:aB w γ (e (aA x)) (a.eval x))(h2:aB w γ (e (aA y)) (a.eval y))(hc:(rop P gl orc e m dst (.mn (aA x) (aA y))).1):
  Step N w0 aq P ⟨dst,.call ⟨.builtin .min,#[x,y],ts⟩,ty,pos,after,guard⟩ a γ w B L (rop P gl orc e m dst (.mn (aA x) (aA y))).2:=by
 simp only[rop]at hc |-
 split at hc
 case h_2=>exact hc.elim
 rename_i k p k' q e1 e2;rw[e1]at h1;rw[e2]at h2;exact Qr hm (v:=.int k (if q<p then q else p)) (by simp[execOp,resolve,invoke,builtin,Builtin.min_,Builtin.min2,h1.aG,h2.aG]) (.int _ _)
def aey(hm:au N w0 aq γ w B L){x y:Operand}{ts:Array TypeId}(h1:aB w γ (e (aA x)) (a.eval x))(h2:aB w γ (e (aA y)) (a.eval y))(hc:(rop P gl orc e m dst (.mx (aA x) (aA y))).1):
  Step N w0 aq P ⟨dst,.call ⟨.builtin .max,#[x,y],ts⟩,ty,pos,after,guard⟩ a γ w B L (rop P gl orc e m dst (.mx (aA x) (aA y))).2:=by
 simp only[rop]at hc |-
 split at hc
 case h_2=>exact hc.elim
 rename_i k p k' q e1 e2;rw[e1]at h1;rw[e2]at h2;exact Qr hm (v:=.int k (if p<q then q else p)) (by simp[execOp,resolve,invoke,builtin,Builtin.max_,Builtin.max2,h1.aG,h2.aG]) (.int _ _)
def EW(hm:au N w0 aq γ w B L){big:Bool}{x y z:Operand}{ts:Array TypeId}(h1:aB w γ (e (aA x)) (a.eval x))(h2:aB w γ (e (aA y)) (a.eval y))(h3:aB w γ (e (aA z)) (a.eval z))(hc:(rop P gl orc e m dst (.mm3 big (aA x) (aA y) (aA z))).1):
  Step N w0 aq P ⟨dst,.call ⟨.builtin (if big=true then .max else .min),#[x,y,z],ts⟩,ty,pos,after,guard⟩ a γ w B L (rop P gl orc e m dst (.mm3 big (aA x) (aA y) (aA z))).2:=by
 simp only[rop]at hc |-
 split at hc
 case h_2=>exact hc.elim
 rename_i k p k' q k'' r e1 e2 e3;rw[e1]at h1;rw[e2]at h2;rw[e3]at h3;cases big
 ·exact Qr hm (v:=.int k (VV false (VV false p q) r)) (by simp[execOp,resolve,invoke,builtin,Builtin.min_,Builtin.min2,h1.aG,h2.aG,h3.aG,VV]) (.int _ _)
 exact Qr hm (v:=.int k (VV true (VV true p q) r)) (by simp[execOp,resolve,invoke,builtin,Builtin.max_,Builtin.max2,h1.aG,h2.aG,h3.aG,VV]) (.int _ _)
def Jr{n b:Nat}(hb:b≠0)(h:(3*n+4000)*b<=562949953421312):n<=9223372036854775807:=by
 have:(3*n+4000)*1<=(3*n+4000)*b:=Nat.mul_le_mul_left _ (Nat.one_le_iff_ne_zero.2 hb);omega
def WE(hm:au N w0 aq γ w B L){s x:Operand}{t te:TypeId}{i:TypeInfo}{z:Value}(hu:P.underlying t=some (.slice te))(hi:P.info? te=some i)(hz:i.zero=some z)(dO:i.bytes≠0)
  (h1:aB w γ (e (aA s)) (a.eval s))(h2:aB w γ (e (aA x)) (a.eval x))(hc:(rop P gl orc e m dst (.app i.size i.bytes (aA s) (aA x))).1):
  Step N w0 aq P ⟨dst,.call ⟨.builtin .append,#[s,x],#[t,t]⟩,ty,pos,after,guard⟩ a γ w B L (rop P gl orc e m dst (.app i.size i.bytes (aA s) (aA x))).2:=by
 simp only[rop]at hc |-
 split at hc
 case h_2=>exact hc.elim
 rename_i rt rows JR aC e1 e2;rw[e1]at h1;rw[e2]at h2;obtain⟨hfu,hr,cF⟩:=hc;replace h1:=h1.ug hfu;obtain⟨v,w',γ',g1,g2,g3,g4⟩:=alB (ty:=ty) hm hu hi hz h1 h2 hr cF (Jr dO cF);exact Ay g3 g2 (by simp[execOp,resolve,invoke,builtin,g1]) g4
def Qct(hm:au N w0 aq γ w B L)(hB:∀id cells,m.boxes[id]?=some cells->B id=some cells)(lM:∀g,aB w γ.cT (gl g) (.pointer (some ⟨g,0,none⟩)))
  (he:∀x∈o.op.operands,aB w γ (e (aA x)) (a.eval x))(hc:(rop P gl orc e m o.dst (tr P o)).1):Step N w0 aq P o a γ w B L (rop P gl orc e m o.dst (tr P o)).2:=by
 obtain⟨dst,op,ty,pos,after,guard⟩:=o;cases op with
 |move x=>exact Qr hm (by simp[execOp]) (he x (by simp[Op.operands]))
 |assign x=>exact Qr hm (by simp[execOp]) (he x (by simp[Op.operands]))
 |pick c x y=>exact PU hm (he c (by simp[Op.operands])) (he x (by simp[Op.operands])) (he y (by simp[Op.operands])) hc
 |load t x=>exact PV hm hB (he x (by simp[Op.operands])) hc
 |fieldAddr t x f=>exact JS hm (he x (by simp[Op.operands])) hc
 |field t x f=>exact VZ hm (he x (by simp[Op.operands])) hc
 |indexAddr t x y=>exact JT hm (he x (by simp[Op.operands])) (he y (by simp[Op.operands])) hc
 |index t x y=>exact PW hm (he x (by simp[Op.operands])) (he y (by simp[Op.operands])) hc
 |binOp op t x y t'=>
  have h1:=he x (by simp[Op.operands]);have h2:=he y (by simp[Op.operands]);simp only[tr]at hc |-
  split at hc
  ·rename_i hu;exact PX hm hu h1 h2 hc
  ·exact ET hm h1 h2 hc
  ·exact ET hm h1 h2 hc
  ·rename_i te hu;exact P5 hm hu h1 hc
  ·rename_i te hu;exact P6 hm hu h1 hc
  ·rename_i fs hu;exact Wb hm hu h1 h2 hc
  exact hc.elim
 |unOp op t x=>exact aev hm (he x (by simp[Op.operands])) hc
 |convert s d x=>
  have h1:=he x (by simp[Op.operands]);simp only[tr]at hc |-
  split at hc
  ·rename_i k0 k hs hd;exact PY hm hs hd h1 hc
  ·rename_i te hs hd;split at hc
   ·rename_i ht;cases hx:e (aA x)with
    |sl rt rows=>exact V9 hm hs hd ht h1 ⟨rt,rows,hx⟩ hc
    |bs id off len sz=>
     simp only[rop,hx]at hc |-
     split at hc
     ·rename_i l hl;try simp only[hl]
      exact P7 hm hB hs hd ht h1 hx hl
     exact hc.elim
    |_=>simp[rop,hx]at hc
   exact hc.elim
  exact hc.elim
 |lookup t x k ok=>
  have h1:=he x (by simp[Op.operands]);have h2:=he k (by simp[Op.operands]);simp only[tr]at hc |-
  split at hc
  ·rename_i v z ht;exact QA hm hB ht h1 h2 hc
  exact hc.elim
 |entry x=>exact QC hm hB (he x (by simp[Op.operands])) hc
 |next x s=>cases s<;>exact hc.elim
 |build t parts=>exact JV hm (fun p hp=>he p.2 (by simp[Op.operands];exact⟨p.1,hp⟩)) hc
 |buildSlice t len parts=>exact V5 hm hB (fun p hp=>he p.2 (by simp[Op.operands];exact⟨p.1,hp⟩)) hc
 |makeFunc fn first cap=>
  cases fn with
  |func f=>exact PZ hm (fun x hx=>he x (by simp[Op.operands,hx])) (fun x hx=>he x (by simp[Op.operands,hx]))
  |_=>exact hc.elim
 |extract x i=>exact V3 hm (he x (by simp[Op.operands])) hc
 |nilCheck x=>exact P0 hm (he x (by simp[Op.operands])) hc
 |slice t x lo hi mx=>
  cases mx with
  |none=>
   simp only[tr]at hc |-
   split at hc
   ·rename_i hu;exact V4 hm (he x (by simp[Op.operands])) (fun y hy=>he y (by simp at hy;simp[Op.operands,hy])) (fun y hy=>he y (by simp at hy;simp[Op.operands,hy])) hu hc
   ·rename_i te hu;split at hc
    ·rename_i i dV;exact Wf hm hu dV (he x (by simp[Op.operands])) (fun y hy=>he y (by simp at hy;simp[Op.operands,hy])) (fun y hy=>he y (by simp at hy;simp[Op.operands,hy])) hc
    exact hc.elim
   ·rename_i n te hu;split at hc
    ·rename_i i dV;exact Wr hm hB hu dV (he x (by simp[Op.operands])) (fun y hy=>he y (by simp at hy;simp[Op.operands,hy])) (fun y hy=>he y (by simp at hy;simp[Op.operands,hy])) hc
    exact hc.elim
   exact hc.elim
  |some mx=>exact hc.elim
 |call c=>
  obtain⟨callee,args,ts⟩:=c;have ny:∀x∈args,aB w γ (e (aA x)) (a.eval x):=fun x hx=>he x (by simp[Op.operands,Call.operands,hx]);cases callee with
  |value f=>exact QD hm hB lM (he f (by simp[Op.operands,Call.operands])) ny hc
  |invoke recv name=>exact hc.elim
  |builtin b=>
   cases b<;>first|exact hc.elim|skip
   case append=>
    simp only[tr,Zr]at hc |-
    split at hc
    case h_2=>exact hc.elim
    rename_i s x t t' ha ht;split at hc
    case h_2=>exact hc.elim
    rename_i te JU hu hu';split at hc
    case h_2=>exact hc.elim
    rename_i i hi;split at hc
    case isFalse=>exact hc.elim
    rename_i bS;try rw[if_pos bS]
    simp only[zzak,beq_iff_eq,bne_iff_ne]at bS;obtain⟨⟨⟨rfl,hz⟩,_⟩,dO⟩:=bS;obtain rfl:args=#[s,x]:=by cases args;simp_all
    obtain rfl:ts=#[t,t]:=by cases ts;simp_all
    cases iZ:i.zero with
    |none=>simp[iZ]at hz
    |some z=>exact WE hm hu hi iZ dO (ny s (by simp)) (ny x (by simp)) hc
   case copy=>
    simp only[tr,Zr]at hc;repeat' split at hc
    all_goals exact hc.elim
   case clear=>
    simp only[tr,Zr]at hc;repeat' split at hc
    all_goals exact hc.elim
   case len=>
    simp only[tr,Zr]at hc |-
    split at hc
    case h_2=>exact hc.elim
    rename_i x t ha ht;obtain rfl:args=#[x]:=by cases args;simp_all
    obtain rfl:ts=#[t]:=by cases ts;simp_all
    split at hc
    ·rename_i hu;exact QE hm hu (ny x (by simp)) hc
    ·rename_i te hu;exact WD hm hu (ny x (by simp)) hc
    exact hc.elim
   case max=>
    simp only[tr,Zr]at hc |-
    split at hc
    case h_3=>exact hc.elim
    ·rename_i x y ha;obtain rfl:args=#[x,y]:=by cases args;simp_all
     exact aey hm (ny x (by simp)) (ny y (by simp)) hc
    rename_i x y z ha;obtain rfl:args=#[x,y,z]:=by cases args;simp_all
    exact EW (big:=true) hm (ny x (by simp)) (ny y (by simp)) (ny z (by simp)) hc
   case min=>
    simp only[tr,Zr]at hc |-
    split at hc
    case h_3=>exact hc.elim
    ·rename_i x y ha;obtain rfl:args=#[x,y]:=by cases args;simp_all
     exact aex hm (ny x (by simp)) (ny y (by simp)) hc
    rename_i x y z ha;obtain rfl:args=#[x,y,z]:=by cases args;simp_all
    exact EW (big:=false) hm (ny x (by simp)) (ny y (by simp)) (ny z (by simp)) hc
 |makeMap t r=>cases r<;>first|exact hc.elim|(simp only[tr]at hc;split at hc<;>exact hc.elim)
 |makeSlice t l c=>
  simp only[tr]at hc;repeat' split at hc
  all_goals exact hc.elim
 |_=>first|exact hc.elim|(simp only[tr]at hc;split at hc<;>exact hc.elim)
end
end Go.Abs
