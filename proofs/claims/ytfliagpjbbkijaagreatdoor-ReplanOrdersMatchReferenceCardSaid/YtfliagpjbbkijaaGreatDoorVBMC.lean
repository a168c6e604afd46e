import Derived.Test.YtfliagpjbbkijaaGreatDoorVBMB
set_option linter.all false
namespace Go.Abs
open Go Go.RowKit
section
variable {N:Nat} {w0:fE} {an:Nat->Nat->Prop} {γ:G} {w:World} {B:Nat->QR} {L:Nat->Option Nat} {P:Program} {o:Oper} {a:Act} {r:AV}
variable {dst:Option Tmp} {ty:TypeId} {pos:String} {after:Array Edge} {guard:Option (Nat×Bool)} {gl:Nat->AV} {orc:X1} {e:bN->AV} {m:AM}
def UU(hm:aq N w0 an γ w B L){t:TypeId}{x:Operand}{f:Nat}(h1:au w γ (e (aA x)) (a.eval x))
  (hc:(rop P gl orc e m dst (tr P ⟨dst,.field t x f,ty,pos,after,guard⟩)).1):
  Step N w0 an P ⟨dst,.field t x f,ty,pos,after,guard⟩ a γ w B L (rop P gl orc e m dst (tr P ⟨dst,.field t x f,ty,pos,after,guard⟩)).2:=by
 simp only[tr]at hc |-
 split at hc
 case h_2=>exact hc.elim
 rename_i fields hu;split at hc
 case h_2=>exact hc.elim
 rename_i fl gG;split at hc
 case h_2=>exact hc.elim
 rename_i i d hi hd
 have main:∀(agg:Bool)(n:Nat),Jq P fl.type=agg->(agg=true->n=i.size)->(rop P gl orc e m dst (.fld agg fl.offset n (aA x))).1->
   Step N w0 an P ⟨dst,.field t x f,ty,pos,after,guard⟩ a γ w B L (rop P gl orc e m dst (.fld agg fl.offset n (aA x))).2:=by
  intro agg n bK hn hc;simp only[rop]at hc |-
  split at hc
  case h_2=>exact hc.elim
  rename_i cs he;rw[he]at h1;obtain⟨arr,hv,hr⟩:=h1.dP;obtain⟨fB,yZ⟩:=hc;have y8:=hr.drop fl.offset;cases agg with
  |true=>
   have AA:=hn rfl;subst AA;refine Qq hm (v:=.agg (arr.extract fl.offset (fl.offset+i.size))) ?_ ?_
   ·unfold Jq at bK;rw[hd]at bK;cases d<;>simp at bK<;>simp[execOp,hv,Instr.field,run_underlying hu,gG,asAgg,part,isAgg,run_underlying hd,sizeOf,typeInfo,hi]
   simp only[Vx,if_true];refine ak.PC ?_;have:=y8.take i.size;simpa[zzfr,List.extract]using this
  |false=>
   have qF:=yZ rfl;subst qF
   have aH:fl.offset<arr.size:=by
    rw[zzav,zzcw]at fB;have:=hr.1;simp at this;omega
   have hu':arr[fl.offset]?=some arr[fl.offset]:=zzag aH;refine Qq hm (v:=arr[fl.offset]) ?_ ?_
   ·unfold Jq at bK;rw[hd]at bK;cases d<;>simp at bK<;>simp[execOp,hv,Instr.field,run_underlying hu,gG,asAgg,part,isAgg,run_underlying hd,hu']
   simp only[Vx];have:=y8.get 0;simp[List.getD]at this |-
   simpa[aH]using this
 cases bK:Jq P fl.type with
 |true=>simp only[bK,if_true]at hc |-;exact main true _ bK (fun _=>rfl) hc
 |false=>simp only[bK]at hc |-;exact main false 1 bK (fun h=>by cases h) hc
def PF(hm:aq N w0 an γ w B L){t:TypeId}{x y:Operand}(h1:au w γ (e (aA x)) (a.eval x))(h2:au w γ (e (aA y)) (a.eval y))
  (hc:(rop P gl orc e m dst (tr P ⟨dst,.index t x y,ty,pos,after,guard⟩)).1):
  Step N w0 an P ⟨dst,.index t x y,ty,pos,after,guard⟩ a γ w B L (rop P gl orc e m dst (tr P ⟨dst,.index t x y,ty,pos,after,guard⟩)).2:=by
 simp only[tr]at hc |-
 split at hc
 case h_3=>exact hc.elim
 case h_2=>
  rename_i len te hu;split at hc
  case h_2=>exact hc.elim
  rename_i j d hj hd
  have main:∀(agg:Bool)(sz:Nat),Jq P te=agg->j.size=sz->(rop P gl orc e m dst (.idxA agg len sz (aA x) (aA y))).1->
    Step N w0 an P ⟨dst,.index t x y,ty,pos,after,guard⟩ a γ w B L (rop P gl orc e m dst (.idxA agg len sz (aA x) (aA y))).2:=by
   intro agg sz bK hsz hc;subst hsz;simp only[rop]at hc |-
   split at hc
   case h_2=>exact hc.elim
   rename_i cs k n e1 e2;rw[e1]at h1;rw[e2]at h2;obtain⟨arr,hv,hr⟩:=h1.dP;obtain⟨⟨fF,qF⟩,fB,yZ⟩:=hc;have y8:=hr.drop (n.toNat*j.size);cases agg with
   |true=>
    refine Qq hm (v:=.agg (arr.extract (n.toNat*j.size) (n.toNat*j.size+j.size))) ?_ ?_
    ·unfold Jq at bK;rw[hd]at bK;cases d<;>simp at bK<;>simp[execOp,hv,h2.aJ,Instr.index,run_underlying hu,asIntOf,fF,qF,asAgg,part,isAgg,run_underlying hd,sizeOf,typeInfo,hj]
    simp only[Vx,if_true];refine ak.PC ?_;have:=y8.take j.size;simpa[zzfr,List.extract]using this
   |false=>
    have azW:=yZ rfl
    have aH:n.toNat*j.size<arr.size:=by
     rw[zzav,zzcw]at fB;have:=hr.1;simp at this;omega
    have hu':arr[n.toNat*j.size]?=some arr[n.toNat*j.size]:=zzag aH;refine Qq hm (v:=arr[n.toNat*j.size]) ?_ ?_
    ·unfold Jq at bK;rw[hd]at bK;cases d<;>simp at bK<;>simp[execOp,hv,h2.aJ,Instr.index,run_underlying hu,asIntOf,fF,qF,asAgg,part,isAgg,run_underlying hd,sizeOf,typeInfo,hj,hu']
    simp only[Vx];have:=y8.get 0;simp[List.getD]at this |-
    simpa[aH]using this
  cases bK:Jq P te with
  |true=>simp only[bK,if_true]at hc |-;exact main true _ bK rfl hc
  |false=>
   simp only[bK,zzbo,if_false]at hc |-
   split at hc
   ·rename_i h0;have y9:j.size=1:=by simpa using h0
    rw[if_pos h0];exact main false 1 bK y9 hc
   exact hc.elim
 rename_i hu;simp only[rop]at hc |-
 split at hc
 case h_2=>exact hc.elim
 rename_i s k n e1 e2;rw[e1]at h1;rw[e2]at h2;obtain⟨fF,qF⟩:=hc;have ah:n.toNat<s.size:=zE
 have hg:s[n.toNat]?=some (s.data.toList.getD n.toNat 0):=by
  have h3:n.toNat<s.data.size:=ah;have:s[n.toNat]?=some s[n.toNat]:=by simp[ah]
  rw[this];congr 1
  have h4:s.data.toList.getD n.toNat 0=s.data[n.toNat]:=by
   show(s.data.toList[n.toNat]?).getD 0=_;rw[zzby,zzag h3];rfl
  rw[h4];rfl
 refine Qq hm (v:=.int .u8 (s.data.toList.getD n.toNat 0).toNat) ?_ (.int _ _);simp[execOp,h1.cD,h2.aJ,Instr.index,asIntOf,run_underlying hu,fF,hg]
def UW{op:BinOp}{k:IntKind}{x y:Int}{t:TypeId}(eV:op≠.shl/\op≠.shr)(hc:(binI op k x y).1):∃v,(binOp op t (.int k x) (.int k y)).run P w=.ok v w/\au w γ (binI op k x y).2 v:=by
 cases op<;>simp only[binI]at hc |-<;>first
  |exact hc.elim
  |(simp at eV;done)
  |(refine⟨.bool _,?_,.bool _⟩;simp[binOp,Op.intCmp];done)
  |(refine⟨.int k _,?_,.int k _⟩;simp[binOp,Op.intArith,Op.intBits];done)
  |(refine⟨.int k _,?_,.int k _⟩;simp[binOp,Op.intDiv,hc];done)
def UX{op:BinOp}{x y:ByteArray}{t:TypeId}(eV:op≠.shl/\op≠.shr)(hc:(binS op x y).1):∃v,(binOp op t (.string x) (.string y)).run P w=.ok v w/\au w γ (binS op x y).2 v:=by
 cases op<;>simp only[binS]at hc |-<;>first
  |exact hc.elim
  |(simp at eV;done)
  |(refine⟨.bool _,?_,.bool _⟩;simp[binOp,Op.stringOp];done)
  |(
   refine⟨.string (x++y),?_,.str _⟩
   have h1:¬(((x.size+y.size:Nat):Int)> IntKind.i64.max):=by
     have:IntKind.i64.max=9223372036854775807:=by decide
     rw[this];omega
   simp only[binOp,Op.stringOp,if_neg h1];rfl)
def iU{op:BinOp}{t:TypeId}{x y:Operand}{k k':IntKind}{p q:Int}:(eqGuard op t x y (.int k p) (.int k' q)).run P w=.ok () w:=by
 cases op<;>simp[eqGuard]
def EY{op:BinOp}{t:TypeId}{x y:Operand}{p q:ByteArray}:(eqGuard op t x y (.string p) (.string q)).run P w=.ok () w:=by
 cases op<;>simp[eqGuard]
def oF{op:BinOp}{t:TypeId}{x y:Operand}{p q:Bool}:(eqGuard op t x y (.bool p) (.bool q)).run P w=.ok () w:=by
 cases op<;>simp[eqGuard]
def EZ(hm:aq N w0 an γ w B L){op:BinOp}{t t':TypeId}{x y:Operand}(h1:au w γ (e (aA x)) (a.eval x))(h2:au w γ (e (aA y)) (a.eval y))
  (hc:(binV op (e (aA x)) (e (aA y))).1):
  Step N w0 an P ⟨dst,.binOp op t x y t',ty,pos,after,guard⟩ a γ w B L (binV op (e (aA x)) (e (aA y))).2:=by
 unfold binV at hc |-
 split at hc
 ·split at hc
  case h_2=>exact hc.elim
  rename_i k p k' q e1 e2;try simp only[e1,e2]
  rw[e1]at h1;rw[e2]at h2;have hq:¬q<0:=zE
  refine Qq hm (v:=.int k (k.wrap (p*2 ^ (min q.toNat k.bits)))) ?_ (.int _ _);simp[execOp,h1.aJ,h2.aJ,iU,binOp,Op.shift,hq]
 ·split at hc
  case h_2=>exact hc.elim
  rename_i k p k' q e1 e2;try simp only[e1,e2]
  rw[e1]at h1;rw[e2]at h2;have hq:¬q<0:=zE
  refine Qq hm (v:=.int k (p.fdiv (2 ^ (min q.toNat k.bits)))) ?_ (.int _ _);simp[execOp,h1.aJ,h2.aJ,iU,binOp,Op.shift,hq]
 rename_i op' arM arN;split at hc
 ·rename_i k p k' q e1 e2;try simp only[e1,e2]
  rw[e1]at h1;rw[e2]at h2;obtain⟨rfl,hc⟩:=hc;obtain⟨v,hv,hr⟩:=UW (P:=P) (w:=w) (γ:=γ) (t:=t) ⟨fun h=>arM h,fun h=>arN h⟩ hc;exact Qq hm (v:=v) (by simp[execOp,h1.aJ,h2.aJ,iU,hv]) hr
 ·rename_i p q e1 e2;try simp only[e1,e2]
  rw[e1]at h1;rw[e2]at h2;obtain⟨v,hv,hr⟩:=UX (P:=P) (w:=w) (γ:=γ) (t:=t) ⟨fun h=>arM h,fun h=>arN h⟩ hc;exact Qq hm (v:=v) (by simp[execOp,h1.cD,h2.cD,EY,hv]) hr
 exact hc.elim
def run_equalIn_bool{t:TypeId}(hu:P.underlying t=some .bool)(p q:Bool)(d:Nat):(Op.equalIn (d+1) t (.bool p) (.bool q)).run P w=.ok (p==q) w:=by
 simp[Op.equalIn,run_underlying hu]
def PG(hm:aq N w0 an γ w B L){op:BinOp}{t t':TypeId}{x y:Operand}(hu:P.underlying t=some .bool)(h1:au w γ (e (aA x)) (a.eval x))(h2:au w γ (e (aA y)) (a.eval y))
  (hc:(binBool op (e (aA x)) (e (aA y))).1):
  Step N w0 an P ⟨dst,.binOp op t x y t',ty,pos,after,guard⟩ a γ w B L (binBool op (e (aA x)) (e (aA y))).2:=by
 unfold binBool at hc |-
 split at hc
 ·rename_i p q e1 e2;try simp only[e1,e2]
  rw[e1]at h1;rw[e2]at h2;have:=run_equalIn_bool (P:=P) (w:=w) hu p q 9999;exact Qq hm (v:=.bool (p==q)) (by simp[execOp,h1.bA,h2.bA,oF,binOp,Op.equal,Op.maxDepth,this]) (.bool _)
 ·rename_i p q e1 e2;try simp only[e1,e2]
  rw[e1]at h1;rw[e2]at h2;have:=run_equalIn_bool (P:=P) (w:=w) hu p q 9999;exact Qq hm (v:=.bool (!(p==q))) (by simp[execOp,h1.bA,h2.bA,oF,binOp,Op.equal,Op.maxDepth,this]) (.bool _)
 exact hc.elim
def aea(hm:aq N w0 an γ w B L){op:UnOp}{t:TypeId}{x:Operand}(h1:au w γ (e (aA x)) (a.eval x))(hc:(rop P gl orc e m dst (.un op (aA x))).1):
  Step N w0 an P ⟨dst,.unOp op t x,ty,pos,after,guard⟩ a γ w B L (rop P gl orc e m dst (.un op (aA x))).2:=by
 simp only[rop]at hc |-
 split at hc
 ·rename_i b e1;try simp only[e1]
  rw[e1]at h1;exact Qq hm (v:=.bool (!b)) (by simp[execOp,h1.bA,Op.unary]) (.bool _)
 ·rename_i k n e1;try simp only[e1]
  rw[e1]at h1;exact Qq hm (v:=.int k (k.wrap (0-n))) (by simp[execOp,h1.aJ,Op.unary,Op.intArith]) (.int _ _)
 ·rename_i k n e1;try simp only[e1]
  rw[e1]at h1;refine Qq hm ?_ (.int _ _);simp[execOp,h1.aJ,Op.unary,Op.intBits]
 exact hc.elim
def PI(hm:aq N w0 an γ w B L){s d:TypeId}{x:Operand}{k0 k:IntKind}(hs:P.underlying s=some (.int k0))(hd:P.underlying d=some (.int k))(h1:au w γ (e (aA x)) (a.eval x))(hc:(rop P gl orc e m dst (.conv k (aA x))).1):
  Step N w0 an P ⟨dst,.convert s d x,ty,pos,after,guard⟩ a γ w B L (rop P gl orc e m dst (.conv k (aA x))).2:=by
 simp only[rop]at hc |-
 split at hc
 case h_2=>exact hc.elim
 rename_i k1 n e1;rw[e1]at h1;exact Qq hm (v:=.int k (k.wrap n)) (by simp[execOp,h1.aJ,convert,run_underlying hs,run_underlying hd,Conv.intToInt]) (.int _ _)
def PJ(hm:aq N w0 an γ w B L){f:FuncId}{first cap:Array Operand}(h1:∀x∈first,au w γ (e (aA x)) (a.eval x))(h2:∀x∈cap,au w γ (e (aA x)) (a.eval x)):
  Step N w0 an P ⟨dst,.makeFunc (.func f) first cap,ty,pos,after,guard⟩ a γ w B L (.fn f ((first.toList.map aA).map e) ((cap.toList.map aA).map e)):=by
 refine Qq hm (v:=.func (.func f) (first.map a.eval) (cap.map a.eval)) (by simp[execOp,Instr.makeFunc]) ?_;refine .fn zd (fun i c v g1 g2=>?_) zd fun i c v g1 g2=>?_
 ·simp at g1 g2;obtain⟨x,hx,rfl⟩:=g1;obtain⟨x',j8,rfl⟩:=g2;rw[hx]at j8;cases j8;exact h1 x (zzda hx)
 simp at g1 g2;obtain⟨x,hx,rfl⟩:=g1;obtain⟨x',j8,rfl⟩:=g2;rw[hx]at j8;cases j8;exact h2 x (zzda hx)
def UY(hm:aq N w0 an γ w B L){x:Operand}{i:Nat}(h1:au w γ (e (aA x)) (a.eval x))(hc:(rop P gl orc e m dst (.ext (aA x) i)).1):
  Step N w0 an P ⟨dst,.extract x i,ty,pos,after,guard⟩ a γ w B L (rop P gl orc e m dst (.ext (aA x) i)).2:=by
 simp only[rop]at hc |-
 split at hc
 case h_2=>exact hc.elim
 rename_i vs e1;rw[e1]at h1;obtain⟨arr,hv,hr⟩:=h1.Cv;have ah:i<arr.size:=by have:=hr.1;simp at this;omega
 have hu:arr[i]?=some arr[i]:=zzag ah;refine Qq hm (v:=arr[i]) (by simp[execOp,hv,Instr.extract,hu]) ?_;have:=hr.get i;simpa[List.getD,ah]using this
def PK(hm:aq N w0 an γ w B L){x:Operand}(h1:au w γ (e (aA x)) (a.eval x))(hc:(rop P gl orc e m dst (.nilc (aA x))).1):
  Step N w0 an P ⟨dst,.nilCheck x,ty,pos,after,guard⟩ a γ w B L (rop P gl orc e m dst (.nilc (aA x))).2:=by
 simp only[rop]at hc |-
 split at hc
 ·rename_i id o' e1;try simp only[e1]
  rw[e1]at h1;have lR:=h1;obtain⟨b,hb,hv⟩:=h1.dO;exact Qq hm (v:=a.eval x) (by simp[execOp,hv]) lR
 ·rename_i row o' e1;try simp only[e1]
  rw[e1]at h1;have lR:=h1;obtain⟨b,off,cv,hv,_⟩:=h1.gE;exact Qq hm (v:=a.eval x) (by simp[execOp,hv]) lR
 ·rename_i f first cap e1
  try simp only[e1]
  rw[e1]at h1;have lR:=h1;obtain⟨fa,ca,hv,_⟩:=h1.mH;exact Qq hm (v:=a.eval x) (by simp[execOp,hv]) lR
 exact hc.elim
def UZ(hm:aq N w0 an γ w B L){t:TypeId}{x:Operand}{lo hi:Option Operand}(h1:au w γ (e (aA x)) (a.eval x))(h2:∀y∈lo,au w γ (e (aA y)) (a.eval y))(h3:∀y∈hi,au w γ (e (aA y)) (a.eval y))
  (hu:P.underlying t=some .string)(hc:(rop P gl orc e m dst (.slS (aA x) (lo.map aA) (hi.map aA))).1):
  Step N w0 an P ⟨dst,.slice t x lo hi none,ty,pos,after,guard⟩ a γ w B L (rop P gl orc e m dst (.slS (aA x) (lo.map aA) (hi.map aA))).2:=by
 simp only[rop]at hc |-
 split at hc
 ·rename_i s k l k' h e1 e2 e3;rw[e1]at h1;cases lo with
  |none=>simp at e2
  |some lo=>
   cases hi with
   |none=>simp at e3
   |some hi=>
    simp at e2 e3;have r2:=h2 lo zd;have r3:=h3 hi zd;rw[e2]at r2;rw[e3]at r3;obtain⟨c1,c2,c3⟩:=hc;have c4:(0:Int)<=h:=zE
    have c5:l<=(h.toNat:Int):=zE
    try simp only[e1,e2,e3,zzcb]
    refine Qq hm (v:=.string (s.extract l.toNat h.toNat)) ?_ (.str _);simp[execOp,h1.cD,r2.aJ,r3.aJ,Instr.sliceAt,Instr.slice,Instr.sliceBounds,Instr.sliceBound,asIntOf,run_underlying hu,c1,c3,c4,c5];intro ah;exact absurd ah (by rw[Int.max_eq_left c4];omega)
 ·rename_i s k h e1 e2 e3;rw[e1]at h1;cases lo with
  |some lo=>simp at e2
  |none=>
   cases hi with
   |none=>simp at e3
   |some hi=>
    simp at e3;have r3:=h3 hi zd;rw[e3]at r3;obtain⟨c1,c3⟩:=hc;try simp only[e1,e3,zzcb,Option.map_none]
    refine Qq hm (v:=.string (s.extract 0 h.toNat)) ?_ (.str _);simp[execOp,h1.cD,r3.aJ,Instr.sliceAt,Instr.slice,Instr.sliceBounds,Instr.sliceBound,asIntOf,run_underlying hu,c1,c3]
 ·rename_i s k l e1 e2 e3;rw[e1]at h1;cases lo with
  |none=>simp at e2
  |some lo=>
   cases hi with
   |some hi=>simp at e3
   |none=>
    simp at e2;have r2:=h2 lo zd;rw[e2]at r2;obtain⟨c1,c3⟩:=hc;try simp only[e1,e2,zzcb,Option.map_none]
    refine Qq hm (v:=.string (s.extract l.toNat s.size)) ?_ (.str _);simp[execOp,h1.cD,r2.aJ,Instr.sliceAt,Instr.slice,Instr.sliceBounds,Instr.sliceBound,asIntOf,run_underlying hu,c1,c3]
 exact hc.elim
end
section
variable {N:Nat} {w0:fE} {an:Nat->Nat->Prop} {γ:G} {w:World} {B:Nat->QR} {L:Nat->Option Nat} {P:Program} {o:Oper} {a:Act} {r:AV}
variable {dst:Option Tmp} {ty:TypeId} {pos:String} {after:Array Edge} {guard:Option (Nat×Bool)} {gl:Nat->AV} {orc:X1} {e:bN->AV} {m:AM}
def j9{x:AV}{v:Value}(h:au w γ x v)(hx:bare x=true):ak w γ (cellsOf x) v.cells.toList:=by
 cases x with
 |junk=>simp[bare]at hx
 |gd g y=>simp[bare]at hx
 |aS cs=>simp[bare]at hx
 |agg cs=>obtain⟨arr,rfl,hr⟩:=h.dP;exact hr
 |er t a=>cases h with|er hh=>exact ak.cons (.er hh) ak.nil
 |bool b=>cases h;exact ak.cons (.bool b) ak.nil
 |int k n=>cases h;exact ak.cons (.int k n) ak.nil
 |str s=>cases h;exact ak.cons (.str s) ak.nil
 |nilfn=>cases h;exact ak.cons .nilfn ak.nil
 |yld l=>cases h with|yld h=>exact ak.cons (.yld h) ak.nil
 |mp id=>cases h with|mp h=>exact ak.cons (.mp h) ak.nil
 |nilv p=>cases h;cases p<;>exact ak.cons (.nilv _) ak.nil
 |it id=>cases h with|it h=>exact ak.cons (.it h) ak.nil
 |aM kn kvs=>simp[bare]at hx
 |mitr mid n s=>simp[bare]at hx
 |sl rt rows=>have h':=h;obtain⟨_,_,_,_,_,_,rfl,_⟩:=h.cq;exact ak.cons h' ak.nil
 |ep row o=>have h':=h;obtain⟨_,_,_,rfl,_⟩:=h.gE;exact ak.cons h' ak.nil
 |ptr id o=>have h':=h;obtain⟨_,_,rfl⟩:=h.dO;exact ak.cons h' ak.nil
 |bs id off len sz=>have h':=h;obtain⟨_,_,_,_,_,rfl,_⟩:=h.dz;exact ak.cons h' ak.nil
 |fn f first cap=>have h':=h;obtain⟨_,_,rfl,_⟩:=h.mH;exact ak.cons h' ak.nil
def vB(off:Nat):∀(l:PP)(k:Nat)(arr:PQ),(l.zipIdx k).foldl (fun(cs:PQ)(p:Value×Nat)=>cs.setIfInBounds (off+p.2) p.1) arr=yJ arr (off+k) l
 |[],_,_=>rfl
 |v::l,k,arr=>by
  simp only[List.zipIdx_cons,zzcu,yJ];exact vB off l (k+1) _
def E3(off:Nat)(vs arr:PQ):vs.zipIdx.foldl (fun(cs:PQ)(p:Value×Nat)=>cs.setIfInBounds (off+p.2) p.1) arr=yJ arr off vs.toList:=by
 rw[<- Array.foldl_toList,Array.toList_zipIdx];exact vB off vs.toList 0 arr
def Qeg{place:Nat->Option (Nat×Nat)}:∀(ps:List (Nat×Nat×AV))(vs:List (Nat×Value))(cs:P1)(arr:PQ),ps.length=vs.length->
  (∀(i:Nat)(p:Nat×Nat×AV)(q:Nat×Value),ps[i]?=some p->vs[i]?=some q->place q.1=some (p.1,p.2.1)/\au w γ p.2.2 q.2)->ak w γ cs arr.toList->(fillA cs ps).1->
  ∃cells,Instr.fill place arr vs=some cells/\ak w γ (fillA cs ps).2 cells.toList/\cells.size=arr.size
 |[],[],cs,arr,_,_,hr,_=>⟨arr,rfl,hr,rfl⟩
 |[],_::_,_,_,h,_,_,_=>by simp at h
 |_::_,[],_,_,h,_,_,_=>by simp at h
 |(off,size,x)::ps,(i,v)::vs,cs,arr,hl,hp,hr,hc=>by
  obtain⟨h1,h2,h3,h4⟩:=hc;obtain⟨g1,g2⟩:=hp 0 _ _ rfl rfl;have hx:=j9 g2 h1;have hsz:v.cells.size=size:=by have:=hx.1;simp at this;omega
  have cw:¬(off+v.cells.size> arr.size):=by have:=hr.1;simp at this;omega
  have yK:=hx.setA (o:=off) hr;obtain⟨cells,q1,q2,q3⟩:=Qeg ps vs (setA cs off (cellsOf x)) (yJ arr off v.cells.toList) (Nm hl) (fun j p q ek nY=>hp (j+1) p q (Nm ek) (Nm nY)) yK h4;refine⟨cells,?_,q2,by rw[q3,Kk]⟩;simp only at g1;have hz:=E3 off v.cells arr;simp only[Instr.fill,g1];rw[if_neg (by simp[hsz];omega)];rw[<- hz]at q1;exact q1
def AB:∀(fs:List Field),fs.all (fun f=>(P.info? f.type).isSome)=true->∃places,fs.mapM (fun f=>(P.info? f.type).map fun i=>(f.offset,i.size))=some places/\
  ∀i:Nat,places[i]?=(fs[i]?).bind fun f=>(P.info? f.type).map fun i=>(f.offset,i.size)
 |[],_=>⟨[],zd,fun i=>zd⟩
 |f::fs,h=>by
  simp at h;obtain⟨h1,h2⟩:=h;obtain⟨places,g1,g2⟩:=AB fs (Nm h2);obtain⟨i,hi⟩:=zzcd.1 h1;refine⟨(f.offset,i.size)::places,by simp[zzhb,hi,g1],fun j=>?_⟩;cases j with
  |zero=>simp[hi]
  |succ j=>simpa using g2 j
def Qdb{α β:Type}(f:α->Option β):∀(l:List α)(l':List β),l.mapM f=some l'->l'.length=l.length/\∀(i:Nat)(x:α)(y:β),l[i]?=some x->l'[i]?=some y->f x=some y
 |[],l',h=>by simp at h;subst h;simp
 |x::l,l',h=>by
  simp only[zzhb,Option.bind_eq_bind,Option.pure_def]at h;cases hx:f x with
  |none=>simp[hx]at h
  |some y=>
   cases hr:l.mapM f with
   |none=>simp[hx,hr]at h
   |some rest=>
    simp[hx,hr]at h;subst h;obtain⟨g1,g2⟩:=Qdb f l rest hr;refine⟨by simp[g1],fun i x' y' h1 h2=>?_⟩;cases i with
    |zero=>simp at h1 h2;subst h1;subst h2;exact hx
    |succ i=>simp at h1 h2;exact g2 i x' y' h1 h2
def iV{t:TypeId}{zs:P1}(h:zc P t=some zs):∃i z,P.info? t=some i/\i.zero=some z/\ak w γ zs z.cells.toList:=by
 unfold zc at h;cases hi:P.info? t with
 |none=>simp[hi]at h
 |some i=>
  cases hz:i.zero with
  |none=>simp[hi,hz]at h
  |some z=>
   simp[hi,hz]at h;subst h;refine⟨i,z,rfl,hz,zd,fun j x v h1 h2=>?_⟩;simp at h1 h2;obtain⟨v',h3,rfl⟩:=h1;rw[h2]at h3;cases h3;exact mG w γ v
def JP(hm:aq N w0 an γ w B L){t:TypeId}{parts:Array (Nat×Operand)}(h1:∀p∈parts,au w γ (e (aA p.2)) (a.eval p.2))
  (hc:(rop P gl orc e m dst (Js P t parts)).1):
  Step N w0 an P ⟨dst,.build t parts,ty,pos,after,guard⟩ a γ w B L (rop P gl orc e m dst (Js P t parts)).2:=by
 unfold Js at hc |-
 split at hc
 case h_2=>exact hc.elim
 rename_i fields zs hu hz;split at hc
 case h_2=>exact hc.elim
 rename_i ps hps;split at hc
 case isFalse=>exact hc.elim
 rename_i bJ;try rw[if_pos bJ]
 simp only[rop]at hc |-
 obtain⟨i,z,hi,iW,JQ⟩:=iV (w:=w) (γ:=γ) hz;obtain⟨places,iy,hpg⟩:=AB (P:=P) fields.toList bJ;obtain⟨aH,cA⟩:=Qdb _ _ _ hps
 obtain⟨cells,f1,f2,_⟩:=Qeg (w:=w) (γ:=γ) (place:=fun i=>places[i]?) (ps.map fun p=>(p.1,p.2.1,e p.2.2)) (parts.toList.map fun p=>(p.1,a.eval p.2)) zs z.cells (by simp[aH]) (fun j p q ek nY=>by
   simp at ek nY;obtain⟨o1,o2,o3,hp1,rfl⟩:=ek;obtain⟨x1,x2,Im,rfl⟩:=nY;have:=cA j (x1,x2) (o1,o2,o3) (Nm Im) hp1;simp only at this |-
   rw[hpg];cases hf:fields[x1]? with
   |none=>simp[hf]at this
   |some f=>
    cases PL:P.info? f.type with
    |none=>simp[hf,PL]at this
    |some fi=>
     simp[hf,PL]at this;obtain⟨rfl,rfl,rfl⟩:=this;exact⟨by simp[hf,PL],h1 (x1,x2) (zzda Im)⟩) JQ hc
 have hb:P.built t (parts.map fun p=>(p.1,a.eval p.2)).toList=some cells:=by
  unfold Program.built;simp only[hi,hu,iW,iy];simpa using f1
 have aZ:=run_build (P:=P) w t (parts.map fun p=>(p.1,a.eval p.2)) cells hb;refine Qq hm (v:=.agg cells) ?_ (ak.PC f2);simp[execOp,aZ]
def U0(hm:aq N w0 an γ w B L)(hB:∀id cells,m.boxes[id]?=some cells->B id=some cells){t:TypeId}{len:Nat}{parts:Array (Nat×Operand)}(h1:∀p∈parts,au w γ (e (aA p.2)) (a.eval p.2))
  (hc:(rop P gl orc e m dst (tr P ⟨dst,.buildSlice t len parts,ty,pos,after,guard⟩)).1):
  Step N w0 an P ⟨dst,.buildSlice t len parts,ty,pos,after,guard⟩ a γ w B L (rop P gl orc e m dst (tr P ⟨dst,.buildSlice t len parts,ty,pos,after,guard⟩)).2:=by
 simp only[tr]at hc |-
 split at hc
 case h_2=>exact hc.elim
 rename_i te hu;split at hc
 case h_2=>exact hc.elim
 rename_i i hi;split at hc
 case isFalse=>exact hc.elim
 rename_i bV;try rw[if_pos bV]
 simp only[zzak,beq_iff_eq,bne_iff_ne,decide_eq_true_eq]at bV;obtain⟨⟨hz,JR⟩,Cw⟩:=bV;cases iW:i.zero with
 |none=>simp[iW]at hz
 |some z=>
  simp[iW]at hz;simp only[rop]at hc |-
  rw[Wp];obtain⟨fB,yZ,hc3⟩:=hc
  let ew:PQ:=(Array.range (len*i.size)).map (z.cells[·%z.cells.size]!)
  have Cz:ak w γ (List.replicate (len*i.size) .junk) ew.toList:=by
   refine⟨by simp[ew],fun j x v hj _=>?_⟩;simp[zzcn]at hj;rw[<- hj.2];exact .junk _
  obtain⟨cells,f1,f2,f3⟩:=Qeg (w:=w) (γ:=γ) (place:=fun j=>some (j*i.size,i.size)) (parts.toList.map fun p=>(p.1*i.size,i.size,e (aA p.2))) (parts.toList.map fun p=>(p.1,a.eval p.2)) _ ew zd (fun j p q ek nY=>by
    simp at ek nY;obtain⟨x1,x2,Im,rfl⟩:=ek;obtain⟨y1,y2,hy1,rfl⟩:=nY;rw[Im]at hy1;cases hy1;exact⟨rfl,h1 (x1,x2) (zzda Im)⟩) Cz (by simpa[Function.comp_def]using fB)
  generalize hq:(fillA (List.replicate (len*i.size) .junk) (parts.toList.map fun p=>(p.1*i.size,i.size,e (aA p.2)))).2=A at f2
  have hq':(fillA (List.replicate (len*i.size) .junk) ((parts.toList.map fun p=>(p.1,aA p.2)).map fun p=>(p.1*i.size,i.size,e p.2))).2=A:=by
   rw[<- hq];simp[Function.comp_def]
  rw[hq']at yZ hc3;simp only[hq'];have qq:cells.size=len*i.size:=by rw[f3];simp[ew]
  have hAl:A.length=len*i.size:=by have:=f2.1;simp at this;omega
  have hb:Below w.heap.size w (w.alloc (.cells cells te)):=(Below.refl _ w).alloc (zzaa _) _
  have aZ:(execOp a.eval ⟨dst,.buildSlice t len parts,ty,pos,after,guard⟩).run P w=.ok (.value (.slice (some ⟨w.heap.size,0,none⟩) len len)) (w.alloc (.cells cells te)):=by
   have U1:¬(16777216<len*i.size):=zE
   by_cases iX:len*i.size=0
   ·have dD:ew=(Array.range (len*i.size)).map ((#[]:PQ)[·%(#[]:PQ).size]!):=by
     simp[ew,iX]
    rw[dD]at f1
    have eR:len=0:=by
     rcases Nat.mul_eq_zero.1 iX with h|h
     ·exact h
     exact absurd h JR
    simp[iX]at f1;simp[execOp,Instr.buildSlice,run_underlying hu,sizeOf,typeInfo,hi,iX,f1,newRow]
   simp only[execOp,Instr.buildSlice];have f1':Instr.fill (fun j=>some (j*i.size,i.size)) ((Array.range (len*i.size)).map (z.cells[·%z.cells.size]!)) (parts.toList.map fun p=>(p.1,a.eval p.2))=some cells:=f1;simp[run_underlying hu,sizeOf,typeInfo,zeroValue,hi,iW,iX,U1,f1',newRow]
  refine Az (hm.grow hb) (hm.cH hb) aZ ?_;have aH:((List.range len).map fun k=>((A.map (bG m 6)).drop (k*i.size)).take i.size).length=len:=zd
  have gI:(w.alloc (.cells cells te)).heap[w.heap.size]?=some (.cells cells te (0,0)):=by show(w.heap.push _)[w.heap.size]?=_;simp
  have nZ:∀(k j:Nat)(c:AV),Qr ((List.range len).map fun k=>((A.map (bG m 6)).drop (k*i.size)).take i.size) k j=some c->∃c' u,A[k*i.size+j]?=some c'/\c=bG m 6 c'/\cells[k*i.size+j]?=some u/\cells.getD (k*i.size+j) undef=u/\au w γ c' u:=fun k j c h=>by
   unfold Qr at h;rcases zzab k len with hk|hk
   ·simp[hk]at h;rw[zzbw]at h;split at h
    ·simp at h;obtain⟨c',kj,rfl⟩:=h;have ah:k*i.size+j<cells.size:=by rw[qq,<- hAl];exact(zza.1 kj).1
     have hu':cells[k*i.size+j]?=some cells[k*i.size+j]:=zzag ah;exact⟨c',_,kj,rfl,hu',by simp[ah],f2.2 _ _ _ kj (by simp[ah])⟩
    cases h
   simp[zzbj.2 hk]at h
  have fQ:qp (w.alloc (.cells cells te)) (γ.grow w.heap.size (w.alloc (.cells cells te)).heap.size) ((List.range len).map fun k=>((A.map (bG m 6)).drop (k*i.size)).take i.size) (some ⟨w.heap.size,0,none⟩) len w.heap.size 0 i.size
    (fun k j=>cells.getD (k*i.size+j) undef):=by
   refine⟨zd,fun h=>(by cases h),fun _=>⟨rfl,zd⟩,fun row ai=>?_,fun k j c h=>?_,fun k j c h=>?_⟩
   ·simp at ai;obtain⟨k,hk,rfl⟩:=ai;have:(k+1)*i.size<=len*i.size:=zzbb _ hk;rw[zzbi,zzdp]at this;simp;omega
   ·obtain⟨c',u,g1,rfl,g3,g4,g5⟩:=nZ k j c h;rw[zzbn,aQ gI,g3,g4];refine⟨rfl,.inr ⟨zzaa _,zd⟩,ue g5 (zzbf.1 yZ c' (zzad g1))⟩
   obtain⟨c',u,g1,rfl,g3,g4,g5⟩:=nZ k j c h;rw[g4]
   have:=Qel hm hB (ro':=γ.ro) (fun _ _ h=>h) 6 c' u g5 fun hp=>by
    have:A.any (Vz 6)=true:=zzbu.2 ⟨c',zzad g1,hp⟩;rw[hc3]at this;cases this
   exact this.mono (hm.cH hb).cQ
  have:=fQ.mk' (rt:=.full) aH.symm;rwa [aH]at this
end
section
variable {N:Nat} {w0:fE} {an:Nat->Nat->Prop} {γ:G} {w:World} {B:Nat->QR} {L:Nat->Option Nat} {P:Program} {o:Oper} {a:Act} {r:AV}
variable {dst:Option Tmp} {ty:TypeId} {pos:String} {after:Array Edge} {guard:Option (Nat×Bool)} {gl:Nat->AV} {orc:X1} {e:bN->AV} {m:AM}
def ak.za{cs:P1}{vs:PP}(h:ak w γ cs vs):au w γ (.aS cs) (.tuple vs.toArray):=.aS (Nm h.1) fun i c v h1 h2=>h.2 i c v h1 (Nm h2)
def au.uf{rt:Rt}{rows:X2}{v:Value}(h:au w γ (.sl rt rows) v)(hf:UN rt=true):au w γ (.sl .full rows) v:=by
 cases h with
 |sl b off sz cv hcap hnil ha hsz hc hr bn=>
  refine .sl b off sz cv hcap hnil ha hsz hc hr ?_;cases rt with
  |full=>exact bn
  |nil=>
   show _=_;have:=hnil bn;omega
  |_=>simp[UN]at hf
def PM{t te:TypeId}{op:BinOp}(hu:P.underlying t=some (.slice te)){p:Option Addr}{n c:Nat}(eV:op=.eql\/op=.neq):(binOp op t (.slice p n c) (.slice none 0 0)).run P w=.ok (.bool (if op=.eql then p.isNone else !p.isNone)) w:=by
 have h:∀d,(Op.equalIn (d+1) t (.slice p n c) (.slice none 0 0)).run P w=.ok p.isNone w:=fun d=>by
  unfold Op.equalIn;cases p<;>simp[run_underlying hu]
 have h':(Op.equal t (.slice p n c) (.slice none 0 0)).run P w=.ok p.isNone w:=h 9999;rcases eV with rfl|rfl<;>simp[binOp,h']
def PN(hm:aq N w0 an γ w B L){op:BinOp}{t te t':TypeId}{x y:Operand}(hu:P.underlying t=some (.slice te))(h1:au w γ (e (aA x)) (a.eval x))(hc:(rop P gl orc e m dst (iR op x y)).1):
  Step N w0 an P ⟨dst,.binOp op t x y t',ty,pos,after,guard⟩ a γ w B L (rop P gl orc e m dst (iR op x y)).2:=by
 have key:∀neg:Bool,(op=.eql/\neg=false\/op=.neq/\neg=true)->y=.const (.slice none 0 0)->(rop P gl orc e m dst (.nilS neg (aA x))).1->Step N w0 an P ⟨dst,.binOp op t x y t',ty,pos,after,guard⟩ a γ w B L (rop P gl orc e m dst (.nilS neg (aA x))).2:=by
  clear hc;intro neg eV hy hc;subst hy;have alI:op=.eql\/op=.neq:=eV.imp And.left And.left
  have run:∀p n c,a.eval x=.slice p n c->(execOp a.eval ⟨dst,.binOp op t x (.const (.slice none 0 0)) t',ty,pos,after,guard⟩).run P w=.ok (.value (.bool (if neg then !p.isNone else p.isNone))) w:=fun p n c hv=>by
   have:=PM (P:=P) (w:=w) (op:=op) hu (p:=p) (n:=n) (c:=c) alI;have JS:a.eval (.const (.slice none 0 0))=.slice none 0 0:=rfl;rcases eV with⟨rfl,rfl⟩|⟨rfl,rfl⟩<;>simp at this<;>simp[execOp,hv,JS,eqGuard,this]
  simp only[rop]at hc |-
  split at hc
  ·rename_i rows e1;rw[e1]at h1;obtain⟨a',cap,b,off,sz,cv,hv,_,bn⟩:=h1.cq;have:a'=none:=bn;subst this;refine Qq hm (run _ _ _ hv) ?_;cases neg<;>exact .bool _
  ·rename_i rows e1;rw[e1]at h1;obtain⟨a',cap,b,off,sz,cv,hv,_,bn⟩:=h1.cq;have:a'≠none:=bn;refine Qq hm (run _ _ _ hv) ?_;cases a' with
   |none=>exact absurd rfl this
   |some a'=>cases neg<;>exact .bool _
  ·rename_i rt row rows qF eL e1;rw[e1]at h1;obtain⟨a',cap,b,off,sz,cv,hv,s1,bn⟩:=h1.cq;have:=(s1.at_ zd).1;subst this;refine Qq hm (run _ _ _ hv) ?_;cases neg<;>exact .bool _
  ·rename_i id off len sz e1;rw[e1]at h1;obtain⟨b,cap,arr,y7,hb,hv,_⟩:=h1.dz;refine Qq hm (run _ _ _ hv) ?_;cases neg<;>exact .bool _
  exact hc.elim
 unfold iR at hc |-
 split at hc
 ·exact key false (.inl ⟨rfl,rfl⟩) rfl hc
 ·exact key true (.inr ⟨rfl,rfl⟩) rfl hc
 exact hc.elim
def U2{v:Value}(h:au w γ (.nilv true) v):v=.pointer none:=by cases h;rfl
def JT{t te:TypeId}{op:BinOp}(hu:P.underlying t=some (.pointer te)){p:Option Addr}(eV:op=.eql\/op=.neq):(binOp op t (.pointer p) (.pointer none)).run P w=.ok (.bool (if op=.eql then p.isNone else !p.isNone)) w:=by
 have h:∀d,(Op.equalIn (d+1) t (.pointer p) (.pointer none)).run P w=.ok p.isNone w:=fun d=>by
  unfold Op.equalIn;cases p<;>simp[run_underlying hu]
 have h':(Op.equal t (.pointer p) (.pointer none)).run P w=.ok p.isNone w:=h 9999;rcases eV with rfl|rfl<;>simp[binOp,h']
def PO(hm:aq N w0 an γ w B L){op:BinOp}{t te t':TypeId}{x y:Operand}(hu:P.underlying t=some (.pointer te))(h1:au w γ (e (aA x)) (a.eval x))(hc:(rop P gl orc e m dst (UM op x y)).1):
  Step N w0 an P ⟨dst,.binOp op t x y t',ty,pos,after,guard⟩ a γ w B L (rop P gl orc e m dst (UM op x y)).2:=by
 have key:∀neg:Bool,(op=.eql/\neg=false\/op=.neq/\neg=true)->y=.const (.pointer none)->(rop P gl orc e m dst (.nilP neg (aA x))).1->Step N w0 an P ⟨dst,.binOp op t x y t',ty,pos,after,guard⟩ a γ w B L (rop P gl orc e m dst (.nilP neg (aA x))).2:=by
  clear hc;intro neg eV hy hc;subst hy;have alI:op=.eql\/op=.neq:=eV.imp And.left And.left
  have run:∀p,a.eval x=.pointer p->(execOp a.eval ⟨dst,.binOp op t x (.const (.pointer none)) t',ty,pos,after,guard⟩).run P w=.ok (.value (.bool (if neg then !p.isNone else p.isNone))) w:=fun p hv=>by
   have:=JT (P:=P) (w:=w) (op:=op) hu (p:=p) alI;have JS:a.eval (.const (.pointer none))=.pointer none:=rfl;rcases eV with⟨rfl,rfl⟩|⟨rfl,rfl⟩<;>simp at this<;>simp[execOp,hv,JS,eqGuard,this]
  simp only[rop]at hc |-
  split at hc
  ·rename_i id o e1;rw[e1]at h1;obtain⟨b,hb,hv⟩:=h1.dO;refine Qq hm (run _ hv) ?_;cases neg<;>exact .bool _
  ·rename_i row o e1;rw[e1]at h1;obtain⟨b,off,cv,hv,_⟩:=h1.gE;refine Qq hm (run _ hv) ?_;cases neg<;>exact .bool _
  ·rename_i e1;rw[e1]at h1;have hv:a.eval x=.pointer none:=U2 h1;refine Qq hm (run _ hv) ?_;cases neg<;>exact .bool _
  exact hc.elim
 unfold UM at hc |-
 split at hc
 ·exact key false (.inl ⟨rfl,rfl⟩) rfl hc
 ·exact key true (.inr ⟨rfl,rfl⟩) rfl hc
 exact hc.elim
def vC:∀{rows:X2}{l:List UInt8},Yj rows=some l->∃ns:Pi,rows=ns.map (fun n=>[.int .u8 n])/\l=ns.map fun n=>UInt8.ofNat n.toNat
 |[],l,h=>⟨[],rfl,by simpa[Yj]using h.symm⟩
 |row::rows,l,h=>by
  simp only[Yj]at h;cases hb:byteOf row with
  |none=>simp[hb]at h
  |some x=>
   cases hr:Yj rows with
   |none=>simp[hb,hr]at h
   |some l'=>
    simp[hb,hr]at h;obtain⟨ns,h1,h2⟩:=vC hr;unfold byteOf at hb;split at hb
    ·rename_i n;simp at hb;exact⟨n::ns,by simp[h1],by simp[<- h,h2,hb]⟩
    cases hb
def vD(ns:Pi):∀s:ByteArray,ns.foldl (fun r n=>r.push (UInt8.ofNat n.toNat)) s=⟨s.data++(ns.map fun n=>UInt8.ofNat n.toNat).toArray⟩:=by
 induction ns with
 |nil=>intro s;simp
 |cons n ns ih=>intro s;rw[zzcu,ih];simp[ByteArray.push]
def U3(hm:aq N w0 an γ w B L){s d te:TypeId}{x:Operand}(hs:P.underlying s=some (.slice te))(hd:P.underlying d=some .string)(ht:P.underlying te=some (.int .u8))(h1:au w γ (e (aA x)) (a.eval x))(fQ:∃rt rows,e (aA x)=.sl rt rows)(hc:(rop P gl orc e m dst (.b2s (aA x))).1):
  Step N w0 an P ⟨dst,.convert s d x,ty,pos,after,guard⟩ a γ w B L (rop P gl orc e m dst (.b2s (aA x))).2:=by
 simp only[rop]at hc |-
 split at hc
 case h_3=>exact hc.elim
 case h_2=>
  rename_i e1;obtain⟨rt,rows,e2⟩:=fQ;rw[e2]at e1;cases e1
 rename_i rt rows e1;rw[e1]at h1;try simp only[e1]
 split at hc
 case h_2=>exact hc.elim
 rename_i l hl;try simp only[hl]
 obtain⟨ns,rfl,rfl⟩:=vC hl;obtain⟨p,cap,b,off,sz,cv,hv,s1,_⟩:=h1.cq;cases p with
 |none=>
  have h0:ns=[]:=by
   have:=s1.hnil rfl;have h2:=s1.hcap;simp at h2;exact zzbh zE
  subst h0;refine Qq hm (v:=.string ⟨#[]⟩) ?_ (.str _);simp[execOp,hv,convert,run_underlying hs,run_underlying hd,run_underlying ht,Conv.bytesToString];rfl
 |some p=>
  have U4:(loadCells p ns.length).run P w=.ok (ns.map (Value.int .u8)).toArray w:=by
   have:=run_loadCells_list (P:=P) (w:=w) p (ns.map (Value.int .u8)) fun j v hj=>?_
   ·simpa using this
   simp at hj;obtain⟨n,hn,rfl⟩:=hj;have aK:ns.map (fun n=>[AV.int .u8 n])≠[]:=by rintro h;simp at h;subst h;simp at hn
   obtain⟨e2,_⟩:=s1.at_ aK;cases e2
   have axA:sz=1:=by
    cases ns with
    |nil=>simp at hn
    |cons n' ns=>have:=s1.hsz [.int .u8 n'] zd;simpa using this.symm
   subst axA;have nZ:Qr (ns.map fun n=>[AV.int .u8 n]) j 0=some (.int .u8 n):=by simp[Qr,hn]
   have c1:=(s1.cell j 0 _ nZ).1;have c2:=(s1.rep j 0 _ nZ).aJ;rw[bC];rw[c2]at c1;simpa using c1
  refine Qq hm (v:=.string ⟨(ns.map fun n=>UInt8.ofNat n.toNat).toArray⟩) ?_ (.str _);have aZ:=run_bytesToString w p ns.length cap ns U4;rw[vD]at aZ
  have:(⟨ByteArray.empty.data++(ns.map fun n=>UInt8.ofNat n.toNat).toArray⟩:ByteArray)=⟨(ns.map fun n=>UInt8.ofNat n.toNat).toArray⟩:=by
   have:ByteArray.empty.data=#[]:=rfl;rw[this];simp
  rw[this]at aZ;simp[execOp,hv,convert,run_underlying hs,run_underlying hd,run_underlying ht,aZ]
end
section
variable {N:Nat} {w0:fE} {an:Nat->Nat->Prop} {γ:G} {w:World} {B:Nat->QR} {L:Nat->Option Nat} {P:Program} {o:Oper} {a:Act} {r:AV}
variable {dst:Option Tmp} {ty:TypeId} {pos:String} {after:Array Edge} {guard:Option (Nat×Bool)} {gl:Nat->AV} {orc:X1} {e:bN->AV} {m:AM}
def mN{t:TypeId}{k:Nat}(h:EU P t=some k):(P.underlying t=some .bool/\k=0)\/(∃i,P.underlying t=some (.int i)/\k=1)\/(P.underlying t=some .string/\k=2):=by
 unfold EU at h;split at h
 ·cases h;exact .inl ⟨by assumption,rfl⟩
 ·cases h;exact .inr (.inl ⟨_,by assumption,rfl⟩)
 ·cases h;exact .inr (.inr ⟨by assumption,rfl⟩)
 cases h
def aeb{t:TypeId}{k d:Nat}(hk:EU P t=some k){x y:AV}{u v:Value}(hx:au w γ x u)(hy:au w γ y v)(hf:kindF k x y=true):(Op.equalIn (d+1) t u v).run P w=.ok (eqF x y) w:=by
 rcases mN hk with⟨hu,rfl⟩|⟨i,hu,rfl⟩|⟨hu,rfl⟩
 ·cases x<;>cases y<;>simp[kindF]at hf;rw[hx.bA,hy.bA];exact run_equalIn_bool' w d t _ _ hu
 ·cases x<;>cases y<;>simp[kindF]at hf;subst hf;rw[hx.aJ,hy.aJ];exact run_equalIn_int w d t _ _ _ _ hu
 cases x<;>cases y<;>simp[kindF]at hf;rw[hx.cD,hy.cD];exact run_equalIn_string w d t _ _ hu
def vF{t:TypeId}{k i:Nat}(hk:EU P t=some k){xs:PQ}{v:Value}(h:xs[i]?=some v):(part t xs i).run P w=.ok v w:=by
 rcases mN hk with⟨hu,_⟩|⟨_,hu,_⟩|⟨hu,_⟩<;>simp[part,isAgg,run_underlying hu,h]
def vG{d:Nat}{xs ys:PQ}:∀(fs:List Field)(i:Nat)(ks:P2)(as' bs:P1),Ws P fs i=some ks->Qcl ks as' bs=true->
  (∀(j:Nat)(c:AV),as'[j]?=some c->∃v,xs[i+j]?=some v/\au w γ c v)->(∀(j:Nat)(c:AV),bs[j]?=some c->∃v,ys[i+j]?=some v/\au w γ c v)->
  (Op.eqFields (d+1) xs ys fs).run P w=.ok (eqFs as' bs) w
 |[],i,ks,as',bs,hk,hf,_,_=>by
  cases hk;cases as'<;>cases bs<;>simp[Qcl]at hf;simp[Op.eqFields,eqFs]
 |f::fs,i,ks,as',bs,hk,hf,hx,hy=>by
  simp only[Ws]at hk;split at hk
  case h_2=>cases hk
  rename_i k ks' h0 h1 h2;cases hk;simp only[zzak,beq_iff_eq,bne_iff_ne]at h0;cases as' with
  |nil=>cases bs<;>simp[Qcl]at hf
  |cons c as'=>
   cases bs with
   |nil=>simp[Qcl]at hf
   |cons c' bs=>
    simp only[Qcl,zzak]at hf;obtain⟨u,hu1,JU⟩:=hx 0 c rfl;obtain⟨v,hv1,yL⟩:=hy 0 c' rfl;have ih:=vG (d:=d) (xs:=xs) (ys:=ys) fs (i+1) ks' as' bs h2 hf.2 (fun j c hj=>by have:=hx (j+1) c (Nm hj);rwa [show i+1+j=i+(j+1) by omega]) (fun j c hj=>by have:=hy (j+1) c (Nm hj);rwa [show i+1+j=i+(j+1) by omega]);have p1:=vF (w:=w) h1 hu1;have p2:=vF (w:=w) h1 hv1;have p3:=aeb (d:=d) h1 JU yL hf.1;simp only[zzd]at p1 p2;simp only[Op.eqFields,ne_eq,h0.2,not_false_eq_true,if_true,Sem.run_bind,h0.1,p1,p2,p3,Result.andThen_ok,Sem.run_ite];cases hc:eqF c c'<;>simp[eqFs,hc,ih]
def U5(hm:aq N w0 an γ w B L){op:BinOp}{t t':TypeId}{fs:Array Field}{x y:Operand}(hu:P.underlying t=some (.struct fs))(h1:au w γ (e (aA x)) (a.eval x))(h2:au w γ (e (aA y)) (a.eval y))
  (hc:(rop P gl orc e m dst (vr P t fs.toList op x y)).1):
  Step N w0 an P ⟨dst,.binOp op t x y t',ty,pos,after,guard⟩ a γ w B L (rop P gl orc e m dst (vr P t fs.toList op x y)).2:=by
 have main:∀(neg:Bool)(ks:P2),Ws P fs.toList 0=some ks->(P.stoodInHeld t||P.eqGuardType P.depth t)=false->(op=if neg then .neq else .eql)->(rop P gl orc e m dst (.eqA neg ks (aA x) (aA y))).1->
   Step N w0 an P ⟨dst,.binOp op t x y t',ty,pos,after,guard⟩ a γ w B L (rop P gl orc e m dst (.eqA neg ks (aA x) (aA y))).2:=by
  clear hc;intro neg ks hk hg eV hc;simp only[rop]at hc |-
  split at hc
  case h_2=>exact hc.elim
  rename_i xs ys e1 e2;rw[e1]at h1;rw[e2]at h2;try simp only[e1,e2]
  obtain⟨ax,hv1,r1⟩:=h1.dP;obtain⟨ay,yL,r2⟩:=h2.dP;simp only[Bool.or_eq_false_iff]at hg;have hf:P.fieldsOf t=fs:=by simp[Program.fieldsOf,hu]
  have cA:∀{cs:P1}{arr:PQ},ak w γ cs arr.toList->∀(j:Nat)(c:AV),cs[j]?=some c->∃v,arr[0+j]?=some v/\au w γ c v:=fun{cs arr}hr j c hj=>by
   have h0:=(zza.1 hj).1;have h3:=hr.1;have ah:j<arr.size:=by simp at h3;omega
   exact⟨arr[j],by simp[ah],hr.2 j c _ hj (by simp[ah])⟩
  have aZ:(Op.equalIn 10000 t (.agg ax) (.agg ay)).run P w=.ok (eqFs xs ys) w:=by
   rw[run_equalIn_struct w 9999 t ax ay (by rw[hf];exact hu) hg.1,hf];exact vG (d:=9998) fs.toList 0 ks xs ys hk hc (cA r1) (cA r2)
  have hgd:=run_eqGuard_agg (P:=P) w op t x y ax ay hg.2;cases neg with
  |false=>
   simp at eV;subst eV;refine Qq hm (v:=.bool (eqFs xs ys)) ?_ (.bool _);simp[execOp,hv1,yL,hgd,run_eql_struct,aZ]
  |true=>
   simp at eV;subst eV;refine Qq hm (v:=.bool (!(eqFs xs ys))) ?_ (.bool _);simp[execOp,hv1,yL,hgd,run_neq_struct,aZ]
 unfold vr at hc |-
 split at hc
 ·rename_i ks h3 h4;exact main false ks h3 h4 rfl hc
 ·rename_i ks h3 h4;exact main true ks h3 h4 rfl hc
 exact hc.elim
def mO{isS:Bool}{len cap:Nat}{lo hi:Option Operand}{l h:Int}(hl:loOf ((lo.map aA).map e)=some l)(hh:hiOf len ((hi.map aA).map e)=some h)(h2:∀y∈lo,au w γ (e (aA y)) (a.eval y))(h3:∀y∈hi,au w γ (e (aA y)) (a.eval y))
  (c0:0<=l)(c1:l<=h)(c2:h<=len)(c3:len<=cap):(Instr.sliceBounds isS len cap (lo.map a.eval) (hi.map a.eval) none).run P w=.ok (l.toNat,h.toNat,cap) w:=by
 have k1:lo=none/\l=0\/∃y k,lo=some y/\a.eval y=.int k l:=by
  cases lo with
  |none=>simp[loOf]at hl;exact .inl ⟨rfl,hl.symm⟩
  |some y=>
   have:=h2 y zd;simp only[zzcb]at hl;cases he:e (aA y)<;>rw[he]at hl<;>simp[loOf]at hl;subst hl;rw[he]at this;exact .inr ⟨y,_,rfl,this.aJ⟩
 have k2:hi=none/\h=len\/∃y k,hi=some y/\a.eval y=.int k h:=by
  cases hi with
  |none=>simp[hiOf]at hh;exact .inl ⟨rfl,hh.symm⟩
  |some y=>
   have:=h3 y zd;simp only[zzcb]at hh;cases he:e (aA y)<;>rw[he]at hh<;>simp[hiOf]at hh;subst hh;rw[he]at this;exact .inr ⟨y,_,rfl,this.aJ⟩
 have c4:0<=h:=zE
 have c5:h<=(cap:Int):=zE
 have c6:l<=(h.toNat:Int):=zE
 rcases k1 with⟨rfl,rfl⟩|⟨y,k,rfl,hy⟩<;>obtain⟨rfl,rfl⟩|⟨y',k',rfl,hy'⟩:=k2
 ·simp[Instr.sliceBounds]
 ·simp[Instr.sliceBounds,Instr.sliceBound,asIntOf,hy',c4,c5]
 ·simp[Instr.sliceBounds,Instr.sliceBound,asIntOf,hy,c0,c1]
 have c7:¬(max h 0<l):=zE
 have c8:l<=max h 0:=zE
 simp[Instr.sliceBounds,Instr.sliceBound,asIntOf,hy,hy',c0,c4,c5,c8]
def oG{rows:X2}{l k i j:Nat}{c:AV}(h:Qr ((rows.drop l).take k) i j=some c):Qr rows (l+i) j=some c/\i<k:=by
 unfold Qr at*
 rw[zzbw]at h;split at h
 ·rename_i hi;rw[zzbr]at h;exact⟨h,hi⟩
 simp at h
def U6(hm:aq N w0 an γ w B L){t te:TypeId}{i:TypeInfo}{x:Operand}{lo hi:Option Operand}(hu:P.underlying t=some (.slice te))(dm:P.info? te=some i)
  (h1:au w γ (e (aA x)) (a.eval x))(h2:∀y∈lo,au w γ (e (aA y)) (a.eval y))(h3:∀y∈hi,au w γ (e (aA y)) (a.eval y))
  (hc:(rop P gl orc e m dst (.slL i.size (aA x) (lo.map aA) (hi.map aA))).1):
  Step N w0 an P ⟨dst,.slice t x lo hi none,ty,pos,after,guard⟩ a γ w B L (rop P gl orc e m dst (.slL i.size (aA x) (lo.map aA) (hi.map aA))).2:=by
 simp only[rop]at hc |-
 split at hc
 ·rename_i rt rows e1;rw[e1]at h1;try simp only[e1]
  split at hc
  case h_2=>exact hc.elim
  rename_i l h hl hh;try simp only[hl,hh]
  obtain⟨⟨c0,c1,c2⟩,hsz⟩:=hc;obtain⟨p,cap,b,off,sz,cv,hv,s1,_⟩:=h1.cq;replace s1:=s1.fix (sz:=i.size) hsz;have hb:=mO (P:=P) (w:=w) (a:=a) (isS:=true) (cap:=cap) hl hh h2 h3 c0 c1 c2 s1.hcap;have aH:((rows.drop l.toNat).take (h.toNat-l.toNat)).length=h.toNat-l.toNat:=by simp;omega
  have hcap:=s1.hcap;refine Qq hm (v:=.slice (if cap=l.toNat then p else p.map (·.add (l.toNat*i.size))) (h.toNat-l.toNat) (cap-l.toNat)) ?_ ?_
  ·simp[execOp,Instr.sliceAt,Instr.slice,run_underlying hu,hv,hb,sizeOf,typeInfo,dm]
  have main:au w γ (.sl .ro ((rows.drop l.toNat).take (h.toNat-l.toNat))) (.slice (if cap=l.toNat then p else p.map (·.add (l.toNat*i.size))) ((rows.drop l.toNat).take (h.toNat-l.toNat)).length (cap-l.toNat)):=?_
  ·rw[aH]at main;exact main
  refine .sl b (off+l.toNat*i.size) i.size (fun k j=>cv (l.toNat+k) j) (by rw[aH];omega) (fun hn=>?_) (fun hn=>?_) (fun row hr=>hsz row (zzec (zzdq hr))) (fun k j c hk=>?_) (fun k j c hk=>?_) trivial
  ·have:p=none:=by
    split at hn
    ·exact hn
    simpa using hn
   have:=s1.hnil this;omega
  ·have aK:rows≠[]:=by rintro rfl;simp at hn
   obtain⟨hp,ah⟩:=s1.at_ aK
   have hlh:l.toNat<h.toNat:=by
    rcases zzab l.toNat h.toNat with h'|h'
    ·exact h'
    exact absurd (zzbh (by rw[aH];omega)) hn
   refine⟨?_,ah⟩;rw[if_neg zE,hp];simp[bC]
  ·obtain⟨g1,_⟩:=oG hk;obtain⟨g2,g3,g4⟩:=s1.cell _ j c g1;rw[zzbi,<- zzas]at g2 g3;exact⟨g2,g3,g4⟩
  obtain⟨g1,_⟩:=oG hk;exact s1.rep _ j c g1
 ·rename_i id off len gz e1;rw[e1]at h1;try simp only[e1]
  split at hc
  case h_2=>exact hc.elim
  rename_i l h hl hh;try simp only[hl,hh]
  obtain⟨⟨c0,c1,c2⟩,rfl⟩:=hc;obtain⟨b,cap,arr,y7,hβ,hv,cw,hblk,hs⟩:=h1.dz;have hb:=mO (P:=P) (w:=w) (a:=a) (isS:=true) (cap:=cap) hl hh h2 h3 c0 c1 c2 cw;refine Qq hm (v:=.slice (if cap=l.toNat then some ⟨b,off,none⟩else(some ⟨b,off,none⟩:Option Addr).map (·.add (l.toNat*i.size))) (h.toNat-l.toNat) (cap-l.toNat)) ?_ ?_
  ·simp[execOp,Instr.sliceAt,Instr.slice,run_underlying hu,hv,hb,sizeOf,typeInfo,dm]
  split
  ·rename_i hor
   have ha:(if cap=l.toNat then some (⟨b,off,none⟩:Addr)else(some ⟨b,off,none⟩:Option Addr).map (·.add (l.toNat*i.size)))=some ⟨b,off+l.toNat*i.size,none⟩:=by
    obtain h'|h':=hor
    ·rw[if_neg zE];simp[bC]
    subst h';split<;>simp[bC]
   rw[ha];refine .bs hβ zE hblk ?_;have:(l.toNat+(cap-l.toNat))*i.size=cap*i.size:=by congr 1;omega
   rw[zzbi]at this;omega
  have hz:h.toNat-l.toNat=0:=zE
  rw[hz]
  have:au w γ (.sl .nn []) (.slice (if cap=l.toNat then some (⟨b,off,none⟩:Addr)else(some ⟨b,off,none⟩:Option Addr).map (·.add (l.toNat*i.size))) ([]:X2).length (cap-l.toNat)):=
   .sl b off i.size (fun _ _=>undef) (zzbe _) (fun hn=>by split at hn<;>simp at hn) (fun hn=>absurd rfl hn) (fun _ h=>by cases h) (fun i j c h=>by simp[Qr]at h) (fun i j c h=>by simp[Qr]at h) (by
    show _≠none;split<;>simp)
  exact this
 exact hc.elim
def vH(hm:aq N w0 an γ w B L)(hB:∀id cells,m.boxes[id]?=some cells->B id=some cells){id b:Nat}(hb:γ.β id=some b){arr:PQ}{te:TypeId}(hh:w.heap[b]?=some (.cells arr te (0,0))){k:Nat}{c:AV}
  (hk:(m.boxes.getD id [])[k]?=some c):∃u,arr[k]?=some u/\au w γ c u/\u.oneCell'=true:=by
 cases gT:m.boxes[id]? with
 |none=>simp[List.getD,gT]at hk
 |some cells=>
  have:m.boxes.getD id []=cells:=by simp[List.getD,gT]
  rw[this]at hk;obtain⟨bU,e',g2,g3,g4⟩:=hm.box id cells b (hB id cells gT) hb;rw[hh]at g2;cases g2;have h1:=(zza.1 hk).1;have h2:=g3.1;have bL:k<arr.size:=by simp at h2;omega
  exact⟨arr[k],zzag bL,g3.2 _ c _ hk (by simp[bL]),g4 _ zd⟩
def U7(hm:aq N w0 an γ w B L)(hB:∀id cells,m.boxes[id]?=some cells->B id=some cells){id b:Nat}(hb:γ.β id=some b){arr:PQ}{te:TypeId}(hh:w.heap[b]?=some (.cells arr te (0,0))):
  (m.boxes.getD id []).length<=arr.size:=by
 rcases zzbx (m.boxes.getD id []).length with h|h
 ·omega
 obtain⟨u,h1,_⟩:=vH hm hB hb hh (k:=(m.boxes.getD id []).length-1) (zzac zE);have:=(zzbs.1 h1).1;omega
def U8(hm:aq N w0 an γ w B L)(hB:∀id cells,m.boxes[id]?=some cells->B id=some cells){t te:TypeId}{n:Nat}{i:TypeInfo}{x:Operand}{lo hi:Option Operand}(hu:P.underlying t=some (.array n te))(dm:P.info? te=some i)
  (h1:au w γ (e (aA x)) (a.eval x))(h2:∀y∈lo,au w γ (e (aA y)) (a.eval y))(h3:∀y∈hi,au w γ (e (aA y)) (a.eval y))
  (hc:(rop P gl orc e m dst (.slA n i.size (aA x) (lo.map aA) (hi.map aA))).1):
  Step N w0 an P ⟨dst,.slice t x lo hi none,ty,pos,after,guard⟩ a γ w B L (rop P gl orc e m dst (.slA n i.size (aA x) (lo.map aA) (hi.map aA))).2:=by
 simp only[rop]at hc |-
 split at hc
 case h_2=>exact hc.elim
 rename_i id o' e1;rw[e1]at h1;try simp only[e1]
 split at hc
 case h_2=>exact hc.elim
 rename_i l h hl hh;try simp only[hl,hh]
 obtain⟨⟨c0,c1,c2⟩,cN,aL⟩:=hc;obtain⟨b,hβ,hv⟩:=h1.dO;have gT:m.boxes[id]?=some (m.boxes.getD id []):=by simp[aL]
 obtain⟨arr,y7,hblk,g3,g4⟩:=hm.box id _ b (hB id _ gT) hβ;have cw:=g3.1;simp only[zzcs]at cw;have hb:=mO (P:=P) (w:=w) (a:=a) (isS:=false) (cap:=n) hl hh h2 h3 c0 c1 c2 (zzaa n);refine Qq hm (v:=.slice (some (if n=l.toNat then⟨b,o',none⟩else⟨b,o'+l.toNat*i.size,none⟩)) (h.toNat-l.toNat) (n-l.toNat)) ?_ ?_
 ·simp[execOp,Instr.sliceAt,Instr.sureAddr,run_underlying hu,hv,hb,sizeOf,typeInfo,dm,bC]
 split
 ·rename_i hor
  have ha:(if n=l.toNat then(⟨b,o',none⟩:Addr)else⟨b,o'+l.toNat*i.size,none⟩)=⟨b,o'+l.toNat*i.size,none⟩:=by
   obtain h'|h':=hor
   ·rw[if_neg zE]
   subst h';split<;>simp
  rw[ha];refine .bs hβ zE hblk ?_;have:(l.toNat+(n-l.toNat))*i.size=n*i.size:=by congr 1;omega
  rw[zzbi]at this;omega
 have hz:h.toNat-l.toNat=0:=zE
 rw[hz]
 have:au w γ (.sl .nn []) (.slice (some (if n=l.toNat then⟨b,o',none⟩else⟨b,o'+l.toNat*i.size,none⟩)) ([]:X2).length (n-l.toNat)):=
  .sl b 0 i.size (fun _ _=>undef) (zzbe _) (fun hn=>by cases hn) (fun hn=>absurd rfl hn) (fun _ h=>by cases h) (fun i j c h=>by simp[Qr]at h) (fun i j c h=>by simp[Qr]at h) (by
   show _≠none;simp)
 exact this
def PR(hm:aq N w0 an γ w B L)(hB:∀id cells,m.boxes[id]?=some cells->B id=some cells){s d te:TypeId}{x:Operand}(hs:P.underlying s=some (.slice te))(hd:P.underlying d=some .string)(ht:P.underlying te=some (.int .u8))
  (h1:au w γ (e (aA x)) (a.eval x)){id off len sz:Nat}(e1:e (aA x)=.bs id off len sz){l:List UInt8}(hl:Yj (aY 1 len ((m.boxes.getD id []).drop off))=some l):
  Step N w0 an P ⟨dst,.convert s d x,ty,pos,after,guard⟩ a γ w B L (.str ⟨l.toArray⟩):=by
 rw[e1]at h1;obtain⟨b,cap,arr,y7,hβ,hv,cw,hblk,_⟩:=h1.dz;obtain⟨ns,eE,rfl⟩:=vC hl;have aH:len=ns.length:=by have:=congrArg List.length eE;simpa[Qed]using this
 have U4:(loadCells ⟨b,off,none⟩ ns.length).run P w=.ok (ns.map (Value.int .u8)).toArray w:=by
  have:=run_loadCells_list (P:=P) (w:=w) ⟨b,off,none⟩ (ns.map (Value.int .u8)) fun j v hj=>?_
  ·simpa using this
  simp at hj;obtain⟨n,hn,rfl⟩:=hj;have nZ:Qr (aY 1 len ((m.boxes.getD id []).drop off)) j 0=some (.int .u8 n):=by rw[eE];simp[Qr,hn]
  obtain⟨_,_,h3⟩:=Ky nZ;rw[zzbr]at h3;obtain⟨u,h4,h5,_⟩:=vH hm hB hβ hblk h3;rw[h5.aJ]at h4;rw[bC,aQ hblk];simpa using h4
 refine Qq hm (v:=.string ⟨(ns.map fun n=>UInt8.ofNat n.toNat).toArray⟩) ?_ (.str _);have aZ:=run_bytesToString w ⟨b,off,none⟩ ns.length cap ns U4;rw[vD]at aZ
 have:(⟨ByteArray.empty.data++(ns.map fun n=>UInt8.ofNat n.toNat).toArray⟩:ByteArray)=⟨(ns.map fun n=>UInt8.ofNat n.toNat).toArray⟩:=by
  have:ByteArray.empty.data=#[]:=rfl;rw[this];simp
 rw[this]at aZ;rw[aH]at hv;simp[execOp,hv,convert,run_underlying hs,run_underlying hd,run_underlying ht,aZ]
end
section
variable {N:Nat} {w0:fE} {an:Nat->Nat->Prop} {γ:G} {w:World} {B:Nat->QR} {L:Nat->Option Nat} {P:Program} {o:Oper} {a:Act} {r:AV}
variable {dst:Option Tmp} {ty:TypeId} {pos:String} {after:Array Edge} {guard:Option (Nat×Bool)} {gl:Nat->AV} {orc:X1} {e:bN->AV} {m:AM}
def alJ(P:Program)(k:TypeId)(kn:Nat):Prop:=(kn=0/\P.underlying k=some (.int .i64))\/
 (∃fs ks,P.underlying k=some (.struct fs)/\Ws P fs.toList 0=some ks/\(∀x∈ks,x=1)/\fs.size=kn/\kn≠0/\P.stoodInHeld k=false)
def ko{t:TypeId}{kn:Nat}{z:AV}(h:EV P t=some (kn,z)):∃k v i zv,P.underlying t=some (.map k v)/\alJ P k kn/\P.info? v=some i/\i.zero=some zv/\z=Au zv:=by
 unfold EV at h;split at h
 case h_2=>cases h
 rename_i k v hu;split at h
 ·rename_i i hk hi;cases hz:i.zero with
  |none=>simp[hz]at h
  |some zv=>simp[hz]at h;obtain⟨rfl,rfl⟩:=h;exact⟨k,v,i,zv,hu,.inl ⟨rfl,hk⟩,hi,hz,rfl⟩
 ·rename_i fs i hk hi;cases Io:Ws P fs.toList 0 with
  |none=>simp[Io]at h
  |some ks=>
   simp only[Io]at h;by_cases hc:(ks.all (·==1)&&(fs.size !=0)&&!(P.stoodInHeld k))=true
   ·rw[if_pos hc]at h;simp only[zzak,zzbf,beq_iff_eq,bne_iff_ne,Bool.not_eq_true']at hc;cases hz:i.zero with
    |none=>rw[hz]at h;cases h
    |some zv=>
     rw[hz]at h;simp only[zzcb,Option.some.injEq,Prod.mk.injEq]at h;obtain⟨rfl,rfl⟩:=h;exact⟨k,v,i,zv,hu,.inr ⟨fs,ks,hk,Io,hc.1.1,rfl,hc.1.2,hc.2⟩,hi,hz,rfl⟩
   rw[if_neg hc]at h;cases h
 cases h
def E4:∀{cs:P1}{ns:Pi},intsA cs=some ns->cs=ns.map (AV.int .i64)
 |[],ns,h=>by cases h;rfl
 |c::cs,ns,h=>by
  cases c<;>try(simp[intsA]at h;done)
  rename_i k n;cases k<;>try(simp[intsA]at h;done)
  simp only[intsA]at h;split at h
  ·rename_i ns' h';cases h;rw[E4 h'];rfl
  cases h
def CA{kn:Nat}{av:AV}{ns:Pi}(h:keyA kn av=some ns):av=keyAV kn ns/\Wl kn ns:=by
 cases kn with
 |zero=>
  cases av<;>try(simp[keyA]at h;done)
  rename_i k n;cases k<;>try(simp[keyA]at h;done)
  cases h;exact⟨rfl,rfl⟩
 |succ kn=>
  cases av<;>try(simp[keyA]at h;done)
  rename_i cs;simp only[keyA]at h;split at h
  case h_2=>cases h
  rename_i ns' h';split at h
  case isFalse=>cases h
  cases h;exact⟨by rw[E4 h'];rfl,by assumption⟩
def PS{ns:Pi}:∀{vs:PP},ak w γ (ns.map (AV.int .i64)) vs->vs=ns.map (Value.int .i64):=by
 induction ns with
 |nil=>intro vs h;exact zzbh (by have:=h.1;simpa using this.symm)
 |cons n ns ih=>
  intro vs h;cases vs with
  |nil=>have:=h.1;simp at this
  |cons v vs=>
   have h0:=(h.2 0 (.int .i64 n) v rfl rfl).aJ;rw[h0,ih (vs:=vs) ⟨by have:=h.1;simpa using this,fun i a u h1 h2=>h.2 (i+1) a u (Nm h1) (Nm h2)⟩];rfl
def vI(w:World)(γ:G):∀ns:Pi,ak w γ (ns.map (AV.int .i64)) (ns.map (Value.int .i64))
 |[]=>ak.nil
 |n::ns=>ak.cons (.int .i64 n) (vI w γ ns)
def qI{kn:Nat}{ns:Pi}{v:Value}(hk:Wl kn ns)(h:au w γ (keyAV kn ns) v):v=Yi kn ns:=by
 cases kn with
 |zero=>
  match ns,hk with
  |[n],_=>exact h.aJ
 |succ kn=>
  obtain⟨arr,rfl,hr⟩:=au.dP (cs:=ns.map (AV.int .i64)) h;have:=PS hr;simp only[Yi];congr 1;apply Array.ext';simpa using this
def AD{kn:Nat}{ns:Pi}(hk:Wl kn ns):au w γ (keyAV kn ns) (Yi kn ns):=by
 cases kn with
 |zero=>
  match ns,hk with
  |[n],_=>exact .int .i64 n
 |succ kn=>
  have:=(vI w γ ns);exact .agg zd fun i c v h1 h2=>this.2 i c v h1 (Nm h2)
def vJ:∀{fs:List Field}{i:Nat}{ks:P2},Ws P fs i=some ks->ks.length=fs.length
 |[],_,ks,h=>by cases h;rfl
 |f::fs,i,ks,h=>by
  simp only[Ws]at h;split at h
  case h_2=>cases h
  rename_i k ks' h0 h1 h2;cases h;simp[vJ h2]
def sx:∀{ks:P2}{as' bs:Pi},(∀x∈ks,x=1)->as'.length=ks.length->bs.length=ks.length->Qcl ks (as'.map (AV.int .i64)) (bs.map (AV.int .i64))=true
 |[],[],[],_,_,_=>rfl
 |k::ks,a::as',b::bs,h,h1,h2=>by
  have:=h k zd;subst this;simp only[zzax,Qcl,kindF,decide_true,zzdt];exact sx (fun x hx=>h x (by simp[hx])) (Nm h1) (Nm h2)
 |[],_::_,_,_,h,_=>by simp at h
 |[],_,_::_,_,_,h=>by simp at h
 |_::_,[],_,_,h,_=>by simp at h
 |_::_,_,[],_,_,h=>by simp at h
def AE:∀{as' bs:Pi},as'.length=bs.length->eqFs (as'.map (AV.int .i64)) (bs.map (AV.int .i64))=decide (as'=bs)
 |[],[],_=>rfl
 |a::as',b::bs,h=>by
  simp only[zzax,eqFs,eqF,AE (as':=as') (bs:=bs) (Nm h)];by_cases h1:a=b<;>by_cases h2:as'=bs<;>simp[h1,h2]
 |[],_::_,h=>by simp at h
 |_::_,[],h=>by simp at h
def PT{k:TypeId}{kn:Nat}{fs:Array Field}{ks:P2}(hu:P.underlying k=some (.struct fs))(hk:Ws P fs.toList 0=some ks)(h1:∀x∈ks,x=1)(hs:fs.size=kn)(hg:P.stoodInHeld k=false){as' bs:Pi}(ha:as'.length=kn)(hb:bs.length=kn):
  (Op.equal k (.agg (as'.map (Value.int .i64)).toArray) (.agg (bs.map (Value.int .i64)).toArray)).run P w=.ok (decide (as'=bs)) w:=by
 have hf:P.fieldsOf k=fs:=by simp[Program.fieldsOf,hu]
 have hl:=vJ hk;simp only[zzcs]at hl;show(Op.equalIn 10000 k _ _).run P w=_;rw[run_equalIn_struct w 9999 k _ _ (by rw[hf];exact hu) hg,hf];rw[vG (w:=w) (γ:=G0 fun _ _=>False) (d:=9998) fs.toList 0 ks (as'.map (AV.int .i64)) (bs.map (AV.int .i64)) hk (sx h1 zE zE) ?_ ?_,AE zE]
 ·intro j c hj;simp at hj;obtain⟨n,hn,rfl⟩:=hj;exact⟨.int .i64 n,by simp[hn],.int .i64 n⟩
 intro j c hj;simp at hj;obtain⟨n,hn,rfl⟩:=hj;exact⟨.int .i64 n,by simp[hn],.int .i64 n⟩
def U9{n:Int}:∀{kvs:List (Pi×AV)}{es:List MapEntry}(i:Nat),kvs.length=es.length->(∀(j:Nat)(k:Pi)(c:AV)(x:MapEntry),kvs[j]?=some (k,c)->es[j]?=some x->Wl 0 k/\x.key=Yi 0 k/\au w γ c x.val)->
  (Xg [n] kvs i=none->Instr.findNow (.int .i64) (.int .i64 n) es i=some none)/\
  (∀j c,Xg [n] kvs i=some (j,c)->∃v,Instr.findNow (.int .i64) (.int .i64 n) es i=some (some (j,v))/\au w γ c v/\i<=j/\j<i+kvs.length/\kvs[j-i]?=some ([n],c))
 |[],[],i,_,_=>⟨fun _=>rfl,fun j c h=>by cases h⟩
 |[],_::_,_,h,_=>by simp at h
 |_::_,[],_,h,_=>by simp at h
 |(k,c)::kvs,x::es,i,hl,hk=>by
  obtain⟨g0,g1,g2⟩:=hk 0 k c x rfl rfl;obtain⟨ih1,ih2⟩:=U9 (n:=n) (kvs:=kvs) (es:=es) (i+1) (Nm hl) fun j k' c' x' q1 q2=>hk (j+1) k' c' x' (Nm q1) (Nm q2)
  match k,g0 with
  |[k],_=>
   simp only[Yi]at g1;by_cases hnk:n=k
   ·subst hnk;have hf:Instr.findNow (.int .i64) (.int .i64 n) (x::es) i=some (some (i,x.val)):=by simp[Instr.findNow,Instr.sameNow,g1]
    refine⟨fun h=>by simp[Xg]at h,fun j c' h=>?_⟩;simp[Xg]at h;obtain⟨rfl,rfl⟩:=h;exact⟨x.val,hf,g2,zzaa _,zd,zd⟩
   have axB:(n==k)=false:=by simpa using hnk
   have hf:Instr.findNow (.int .i64) (.int .i64 n) (x::es) i=Instr.findNow (.int .i64) (.int .i64 n) es (i+1):=by simp[Instr.findNow,Instr.sameNow,g1,axB]
   rw[hf];have axC:¬[n]=[k]:=by simpa using hnk
   simp only[Xg,if_neg axC];refine⟨ih1,fun j c' h=>?_⟩;obtain⟨v,q1,q2,q3,q4,q5⟩:=ih2 j c' h;refine⟨v,q1,q2,zE,by simp;omega,?_⟩;rw[show j-i=(j-(i+1))+1 by omega];simpa using q5
def Vc{kt:TypeId}{kn:Nat}{n:Pi}(AF:∀k',Wl kn k'->(Op.equal kt (Yi kn n) (Yi kn k')).run P w=.ok (decide (n=k')) w):∀{kvs:List (Pi×AV)}{es:List MapEntry}(i:Nat),kvs.length=es.length->
  (∀(j:Nat)(k:Pi)(c:AV)(x:MapEntry),kvs[j]?=some (k,c)->es[j]?=some x->Wl kn k/\x.key=Yi kn k/\au w γ c x.val)->
  (Xg n kvs i=none->(Instr.findAsking kt (Yi kn n) es i).run P w=.ok none w)/\
  (∀j c,Xg n kvs i=some (j,c)->∃v,(Instr.findAsking kt (Yi kn n) es i).run P w=.ok (some (j,v)) w/\au w γ c v/\i<=j/\j<i+kvs.length/\kvs[j-i]?=some (n,c))
 |[],[],i,_,_=>⟨fun _=>by simp[Instr.findAsking],fun j c h=>by cases h⟩
 |[],_::_,_,h,_=>by simp at h
 |_::_,[],_,h,_=>by simp at h
 |(k,c)::kvs,x::es,i,hl,hk=>by
  obtain⟨g0,g1,g2⟩:=hk 0 k c x rfl rfl;obtain⟨ih1,ih2⟩:=Vc AF (kvs:=kvs) (es:=es) (i+1) (Nm hl) fun j k' c' x' q1 q2=>hk (j+1) k' c' x' (Nm q1) (Nm q2);have hq:=AF k g0;rw[<- g1]at hq;by_cases hnk:n=k
  ·subst hnk;simp only[decide_true]at hq;have hf:(Instr.findAsking kt (Yi kn n) (x::es) i).run P w=.ok (some (i,x.val)) w:=by simp[Instr.findAsking,hq]
   refine⟨fun h=>by simp[Xg]at h,fun j c' h=>?_⟩;simp[Xg]at h;obtain⟨rfl,rfl⟩:=h;exact⟨x.val,hf,g2,zzaa _,zd,zd⟩
  simp only[hnk,decide_false]at hq;have hf:(Instr.findAsking kt (Yi kn n) (x::es) i).run P w=(Instr.findAsking kt (Yi kn n) es (i+1)).run P w:=by simp[Instr.findAsking,hq]
  rw[hf];simp only[Xg,if_neg hnk];refine⟨ih1,fun j c' h=>?_⟩;obtain⟨v,q1,q2,q3,q4,q5⟩:=ih2 j c' h;refine⟨v,q1,q2,zE,by simp;omega,?_⟩;rw[show j-i=(j-(i+1))+1 by omega];simpa using q5
def CB{kt:TypeId}{kn:Nat}{n:Pi}(hkt:alJ P kt kn)(hn:Wl kn n){kvs:List (Pi×AV)}{es:List MapEntry}(hl:kvs.length=es.length)
  (hk:∀(j:Nat)(k:Pi)(c:AV)(x:MapEntry),kvs[j]?=some (k,c)->es[j]?=some x->Wl kn k/\x.key=Yi kn k/\au w γ c x.val):
  (Xg n kvs 0=none->(Instr.findKey kt (Yi kn n) es).run P w=.ok none w)/\
  (∀j c,Xg n kvs 0=some (j,c)->∃v,(Instr.findKey kt (Yi kn n) es).run P w=.ok (some (j,v)) w/\au w γ c v/\j<kvs.length/\kvs[j]?=some (n,c)):=by
 obtain⟨rfl,hu⟩|⟨fs,ks,hu,Io,h1,hs,h0,hg⟩:=hkt
 ·match n,hn with
  |[n],_=>
   obtain⟨f1,f2⟩:=U9 (w:=w) (γ:=γ) (n:=n) 0 hl hk;refine⟨fun h=>MapKept.run_findKey hu (f1 h),fun j c h=>?_⟩;obtain⟨v,q1,q2,_,q4,q5⟩:=f2 j c h;exact⟨v,MapKept.run_findKey hu q1,q2,zE,Nm q5⟩
 cases kn with
 |zero=>exact absurd rfl h0
 |succ kn=>
  obtain⟨f1,f2⟩:=Vc (w:=w) (γ:=γ) (P:=P) (kt:=kt) (n:=n) (kn:=kn+1) (fun k' tI=>PT hu Io h1 hs hg hn tI) 0 hl hk;have e1:(Instr.findKey kt (Yi (kn+1) n) es).run P w=(Instr.findAsking kt (Yi (kn+1) n) es).run P w:=run_findKey_eq w (by simp[hu]) _ _;rw[e1];refine⟨f1,fun j c h=>?_⟩;obtain⟨v,q1,q2,_,q4,q5⟩:=f2 j c h;exact⟨v,q1,q2,zE,Nm q5⟩
def run_checkKey{b:Bool}{k:TypeId}{kn:Nat}{n:Pi}(hk:alJ P k kn)(hn:Wl kn n):(Instr.checkKey b 10000 k (Yi kn n)).run P w=.ok () w:=by
 obtain⟨rfl,hu⟩|⟨fs,ks,hu,Io,h1,hs,h0,hg⟩:=hk
 ·match n,hn with
  |[n],_=>
   have h:∀d,(Instr.checkKey b (d+1) k (.int .i64 n)).run P w=.ok () w:=fun d=>by
    unfold Instr.checkKey;simp[run_underlying hu]
   exact h 9999
 cases kn with
 |zero=>exact absurd rfl h0
 |succ kn=>
  have h:∀d,(Instr.checkKey b (d+1+1) k (.agg (n.map (Value.int .i64)).toArray)).run P w=.ok () w:=fun d=>by
   rw[Instr.checkKey];simp only[Sem.run_bind,run_underlying hu,Result.andThen_ok];rw[<- Array.forIn_toList];have qs:n.length=kn+1:=hn
   have ha:∀j,0<=j->j<0+fs.toList.length->∃n',(n.map (Value.int .i64)).toArray[j]?=some (.int .i64 n'):=fun j _ hj=>by
    simp at hj;exact⟨n[j]' zE,by simp[show j<n.length by omega]⟩
   generalize(n.map (Value.int .i64)).toArray=arr at ha;generalize fs.toList=Lf at Io ha;generalize(0:Nat)=i0 at Io ha;clear hs hu qs hn h0 hg;induction Lf generalizing i0 ks with
   |nil=>simp
   |cons f Lf ih=>
    simp only[Ws]at Io;split at Io
    case h_2=>cases Io
    rename_i k' ks' h0 cZ dM;cases Io;simp only[zzak,beq_iff_eq,bne_iff_ne]at h0;have ih:=ih ks' (fun x hx=>h1 x (by simp[hx])) (i0+1) dM fun j ek nY=>ha j zE (by simp;omega);obtain⟨n',qs⟩:=ha i0 (zzaa _) zd;have hp:=vF (P:=P) (w:=w) cZ qs
    have hc:(Instr.checkKey b (d+1) f.type (.int .i64 n')).run P w=.ok () w:=by
     rcases mN cZ with⟨hu,_⟩|⟨_,hu,_⟩|⟨hu,_⟩<;>simp[Instr.checkKey,run_underlying hu]
    simp only[List.forIn_cons,Sem.run_bind,h0.2,ne_eq,not_false_eq_true,if_true,h0.1,hp,hc,Result.andThen_ok,Sem.run_pure];exact ih
  exact h 9998
def oH{α:Type}:∀{l:List α}{x y:α},(x,y)∈l.zip l->x=y/\x∈l
 |[],_,_,h=>by simp at h
 |a::l,x,y,h=>by
  rw[zzdz]at h;rcases zzao.1 h with h|h
  ·cases h;exact⟨rfl,zd⟩
  obtain⟨h1,h2⟩:=oH h;exact⟨h1,by simp[h2]⟩
def zb(d:Nat)(n:Pi):Instr.sameBits (d+1+1) (.agg (n.map (Value.int .i64)).toArray) (.agg (n.map (Value.int .i64)).toArray)=true:=by
 simp only[Instr.sameBits,beq_self_eq_true,zzdt,zzbf];rintro⟨x,y⟩ hxy
 have h:x=y/\x∈n.map (Value.int .i64):=by
  try simp only[List.toList_toArray]at hxy
  exact oH hxy
 obtain⟨rfl,h2⟩:=h;obtain⟨k,_,rfl⟩:=zzbk.1 h2;simp[Instr.sameBits]
def oI{old new:Value}{kn:Nat}{n:Pi}(hn:Wl kn n)(h1:old=Yi kn n)(h2:new=Yi kn n):(Instr.keyThatStays old new).run P w=.ok new w:=by
 subst h1;subst h2;cases kn with
 |zero=>
  match n,hn with
  |[n],_=>simp[Instr.keyThatStays,Instr.sameBits,Yi]
 |succ kn=>
  have:=zb 9998 n;simp[Instr.keyThatStays,Yi,this]
def aq.iY(hm:aq N w0 an γ w B L){id kn:Nat}{kvs:List (Pi×AV)}{v:Value}(h1:au w γ (.mp id) v)(hB:B id=some [.aM kn kvs]):
  ∃b es,γ.mm id=some b/\v=.map (some b)/\w.heap[b]?=some (.map es es.size)/\kvs.length=es.size/\
   ∀(i:Nat)(k:Pi)(a:AV)(e:MapEntry),kvs[i]?=some (k,a)->es[i]?=some e->Wl kn k/\e.key=Yi kn k/\e.born=i/\au w γ a e.val:=by
 cases h1 with
 |mp h=>
  rename_i b;obtain⟨_,_,_,_,_,_,_,a,o,q1,q2,q3⟩:=hm.mm id b h;rw[hB]at q1;cases q1;cases o<;>try exact q3.elim
  rename_i es clock;obtain⟨rfl,q4,q5⟩:=q3;exact⟨b,es,h,rfl,q2,q4,q5⟩
def aq.ND(hm:aq N w0 an γ w B L){id mid n:Nat}{seen:P2}{v:Value}(h1:au w γ (.it id) v)(hB:B id=some [.mitr mid n seen]):
  ∃b mb,γ.mm id=some b/\v=.pointer (some ⟨b,0,none⟩)/\w.heap[b]?=some (.mapIter (some mb) n seen.toArray n)/\γ.mm mid=some mb:=by
 cases h1 with
 |it h=>
  rename_i b;obtain⟨_,_,_,_,_,_,_,a,o,q1,q2,q3⟩:=hm.mm id b h;rw[hB]at q1;cases q1;cases o<;>try exact q3.elim
  rename_i mp Nz sn st;cases mp<;>try exact q3.elim
  rename_i mb;obtain⟨q4,rfl,rfl,rfl⟩:=q3;exact⟨b,mb,h,rfl,Nm q2,q4⟩
def Qem{kn:Nat}{kvs:List (Pi×AV)}{es:Array MapEntry}(hl:kvs.length=es.size)(hk:∀(i:Nat)(k:Pi)(a:AV)(e:MapEntry),kvs[i]?=some (k,a)->es[i]?=some e->Wl kn k/\e.key=Yi kn k/\e.born=i/\au w γ a e.val){i:Nat}(hi:i<es.size):es[i].born=i:=by
 have:=hk i (kvs[i]' zE).1 (kvs[i]' zE).2 es[i] (by simp[show i<kvs.length by omega]) (by simp[hi]);exact this.2.2.1
def vK{id:Nat}{x:AV}(hB:∀id cells,m.boxes[id]?=some cells->B id=some cells)(h:m.boxes.getD id []=[x]):B id=some [x]:=hB id _ (by
 cases hh:m.boxes[id]? with
 |none=>simp[List.getD,hh]at h
 |some c=>simp[List.getD,hh]at h;rw[h])
def PU(hm:aq N w0 an γ w B L)(hB:∀id cells,m.boxes[id]?=some cells->B id=some cells){t:TypeId}{kn:Nat}{z:AV}{x k:Operand}{ok:Bool}(ht:EV P t=some (kn,z))(h1:au w γ (e (aA x)) (a.eval x))(h2:au w γ (e (aA k)) (a.eval k))
  (hc:(rop P gl orc e m dst (.look kn ok z (aA x) (aA k))).1):
  Step N w0 an P ⟨dst,.lookup t x k ok,ty,pos,after,guard⟩ a γ w B L (rop P gl orc e m dst (.look kn ok z (aA x) (aA k))).2:=by
 simp only[rop]at hc |-
 split at hc
 case h_2=>exact hc.elim
 rename_i id n e1 e2;rw[e1]at h1;obtain⟨e3,hn⟩:=CA e2;rw[e3]at h2;try simp only[e1,e2]
 split at hc
 case h_2=>exact hc.elim
 rename_i Av kvs fK;simp only at hc;subst hc;try simp only[fK]
 obtain⟨kt,vt,i,zv,hu,hk,hi,hz,rfl⟩:=ko ht;obtain⟨b,es,hb,hv,q2,q3,q4⟩:=hm.iY h1 (vK hB fK)
 obtain⟨f1,f2⟩:=CB (w:=w) (γ:=γ) (P:=P) hk hn (kvs:=kvs) (es:=es.toList) (Nm q3) fun j k' c x' g1 g2=>by
  obtain⟨p1,p2,_,p3⟩:=q4 j k' c x' g1 (Nm g2);exact⟨p1,p2,p3⟩
 have cA:=MapKept.run_getObj_map (P:=P) q2;have ku:∀b,(Instr.checkKey b 10000 kt (Yi Av n)).run P w=.ok () w:=fun b=>run_checkKey hk hn;have SL:=qI hn h2;cases hf:Xg n kvs 0 with
 |none=>
  have PV:=f1 hf
  have aZ:(execOp a.eval ⟨dst,.lookup t x k ok,ty,pos,after,guard⟩).run P w=.ok (.value (if ok then .tuple #[zv,.bool false]else zv)) w:=by
   simp[execOp,Instr.lookup,run_underlying hu,hv,SL,cA,ku,PV,zeroValue,typeInfo,hi,hz]
  refine Qq hm aZ ?_;cases ok
  ·exact Jn w γ zv
  exact(ak.cons (Jn w γ zv) (ak.cons (.bool false) ak.nil)).za
 |some p=>
  obtain⟨j,c⟩:=p;obtain⟨vv,PV,g2,_⟩:=f2 j c hf
  have aZ:(execOp a.eval ⟨dst,.lookup t x k ok,ty,pos,after,guard⟩).run P w=.ok (.value (if ok then .tuple #[vv,.bool true]else vv)) w:=by
   simp[execOp,Instr.lookup,run_underlying hu,hv,SL,cA,ku,PV]
  refine Qq hm aZ ?_;cases ok
  ·exact g2
  exact(ak.cons g2 (ak.cons (.bool true) ak.nil)).za
def PW(hm:aq N w0 an γ w B L)(hB:∀id cells,m.boxes[id]?=some cells->B id=some cells){x:Operand}(h1:au w γ (e (aA x)) (a.eval x))
  (hc:(rop P gl orc e m dst (.entr (aA x))).1):
  Step N w0 an P ⟨dst,.entry x,ty,pos,after,guard⟩ a γ w B L (rop P gl orc e m dst (.entr (aA x))).2:=by
 simp only[rop]at hc |-
 split at hc
 case h_2=>exact hc.elim
 rename_i id e1;rw[e1]at h1;try simp only[e1]
 split at hc
 case h_2=>exact hc.elim
 rename_i mid n seen fK;try simp only[fK]
 split at hc
 case h_2=>exact hc.elim
 rename_i kn kvs i gT oc;try simp only[gT,oc]
 obtain⟨Ip,bT⟩:=hc;obtain⟨b,mb,hb,hv,q1,q2⟩:=hm.ND h1 (vK hB fK);obtain⟨b',es,cU,AG,q3,q4,q5⟩:=hm.iY (v:=.map (some mb)) (.mp q2) (vK hB gT);cases AG;have hie:i<es.size:=zE
 have VA:=Qem q4 q5 hie
 obtain⟨ini,axD⟩:∃ini,seen=ini++[i]:=by
  rw[zzfe]at oc;exact oc
 have arO:seen.toArray=ini.toArray.push es[i].born:=by rw[VA,axD];simp
 have qt:(es.toList.map (·.born)).Nodup:=by
  have:es.toList.map (·.born)=List.range es.size:=by
   apply zzey
   ·simp
   intro j h1 h2;simp at h1;simp[Qem q4 q5 h1]
  rw[this];exact zzdl
 have aZ:=run_entry_at (P:=P) w b mb n ini.toArray es es.size es[i] (by rw[<- arO,q1];congr 2;omega) q3 zd qt;obtain⟨p1,p2,_,p3⟩:=q5 i (kvs[i]' zE).1 (kvs[i]' zE).2 es[i] (by simp[show i<kvs.length by omega]) (by simp[hie]);have hgd:kvs.getD i ([],.junk)=kvs[i]' zE:=by simp[List.getD,show i<kvs.length by omega]
 rw[hgd];refine Qq hm (v:=.tuple #[es[i].key,es[i].val]) (by simp[execOp,hv,aZ]) ?_;rw[p2];exact(ak.cons (AD p1) (ak.cons p3 ak.nil)).za
end
section
variable {N:Nat} {w0:fE} {an:Nat->Nat->Prop} {γ:G} {w:World} {B:Nat->QR} {L:Nat->Option Nat} {P:Program} {o:Oper} {a:Act} {r:AV}
variable {dst:Option Tmp} {ty:TypeId} {pos:String} {after:Array Edge} {guard:Option (Nat×Bool)} {gl:Nat->AV} {orc:X1} {e:bN->AV} {m:AM}
def qJ{xs:Array Operand}(h:∀x∈xs,au w γ (e (aA x)) (a.eval x)):ak w γ ((xs.toList.map aA).map e) (xs.map a.eval).toList:=by
 refine⟨zd,fun i c v h1 h2=>?_⟩;simp at h1 h2;obtain⟨x,hx,rfl⟩:=h1;obtain⟨x',j8,rfl⟩:=h2;rw[hx]at j8;cases j8;exact h x (zzda hx)
def Qai{f:FuncId}{args:PQ}(h:bF P f):(callFunc f args).run P w=.ok (.enter f args) w:=by
 obtain⟨fn,h1,h2,h3⟩:=h;have ze:¬fn.body=none:=by intro h;simp[h]at h2
 have h3':¬fn.name= "runtime.NumGoroutine":=by simpa using h3
 simp[callFunc,h1,ze,h3']
def PX(hm:aq N w0 an γ w B L)(hB:∀id cells,m.boxes[id]?=some cells->B id=some cells)(fh:∀g,au w γ.cQ (gl g) (.pointer (some ⟨g,0,none⟩))){f:Operand}{args:Array Operand}{ts:Array TypeId}
  (h1:au w γ (e (aA f)) (a.eval f))(h2:∀x∈args,au w γ (e (aA x)) (a.eval x))(hc:(rop P gl orc e m dst (.call (aA f) (args.toList.map aA))).1):
  Step N w0 an P ⟨dst,.call ⟨.value f,args,ts⟩,ty,pos,after,guard⟩ a γ w B L (rop P gl orc e m dst (.call (aA f) (args.toList.map aA))).2:=by
 simp only[rop]at hc |-
 split at hc
 case h_2=>exact hc.elim
 rename_i g first cap e1
 try simp only[e1]
 rw[e1]at h1;obtain⟨fa,ca,hv,r1,r2⟩:=h1.mH;have iT:=(r1.append (qJ h2)).append r2;generalize orc (dst.getD 0) g ((first++(args.toList.map aA).map e++cap).map (bG m 6))=x at hc
 have aZ:bF P g->(execOp a.eval ⟨dst,.call ⟨.value f,args,ts⟩,ty,pos,after,guard⟩).run P w=.ok (.enter g ((fa.toList++(args.map a.eval).toList++ca.toList).toArray)) w:=fun oJ=>by
  simp[execOp,resolve,hv,Deferred.ofValue,invoke,Qai oJ]
 have pure:∀r,(Pure P gl g ((first++(args.toList.map aA).map e++cap).map (bG m 6)) r/\((first++(args.toList.map aA).map e++cap).any (Vz 6)=true->flat r=true))->Step N w0 an P ⟨dst,.call ⟨.value f,args,ts⟩,ty,pos,after,guard⟩ a γ w B L r:=fun r⟨hp,gG⟩rd next Q hk=>
  EW (aZ hp.1) (JL hm hB fh iT hp gG fun v w' γ' h3 h4 h5=>hk v w' γ' h3 h4 h5)
 cases x with
 |gd b r=>
  intro rd next Q hk
  refine EW (aZ hc.1) ((hc.2 N w0 an γ w B L _ hm hB fh iT).mono ?_);rintro en w' ⟨v,γ',rfl,h3,h4,h5⟩;exact hk v w' γ' h3 h4 h5
 |_=>exact pure _ hc
def PY(hm:aq N w0 an γ w B L){x:Operand}{t:TypeId}(hu:P.underlying t=some .string)(h1:au w γ (e (aA x)) (a.eval x))(hc:(rop P gl orc e m dst (.lenS (aA x))).1):
  Step N w0 an P ⟨dst,.call ⟨.builtin .len,#[x],#[t]⟩,ty,pos,after,guard⟩ a γ w B L (rop P gl orc e m dst (.lenS (aA x))).2:=by
 simp only[rop]at hc |-
 split at hc
 case h_2=>exact hc.elim
 rename_i s e1;rw[e1]at h1;exact Qq hm (v:=.int .i64 s.size) (by simp[execOp,resolve,invoke,builtin,Builtin.len_,run_underlying hu,h1.cD,goInt]) (.int _ _)
def VB(hm:aq N w0 an γ w B L){x:Operand}{t te:TypeId}(hu:P.underlying t=some (.slice te))(h1:au w γ (e (aA x)) (a.eval x))(hc:(rop P gl orc e m dst (.len (aA x))).1):
  Step N w0 an P ⟨dst,.call ⟨.builtin .len,#[x],#[t]⟩,ty,pos,after,guard⟩ a γ w B L (rop P gl orc e m dst (.len (aA x))).2:=by
 simp only[rop]at hc |-
 split at hc
 case h_3=>exact hc.elim
 case h_2=>
  rename_i id off len sz e1;rw[e1]at h1;try simp only[e1]
  obtain⟨b,cap,arr,y7,hb,hv,_⟩:=h1.dz;exact Qq hm (v:=.int .i64 len) (by simp[execOp,resolve,invoke,builtin,Builtin.len_,run_underlying hu,hv,goInt]) (.int _ _)
 rename_i rt rows e1;rw[e1]at h1;try simp only[e1]
 obtain⟨a',cap,b,off,sz,cv,hv,_⟩:=h1.cq;exact Qq hm (v:=.int .i64 rows.length) (by simp[execOp,resolve,invoke,builtin,Builtin.len_,run_underlying hu,hv,goInt]) (.int _ _)
def aec(hm:aq N w0 an γ w B L){x y:Operand}{ts:Array TypeId}(h1:au w γ (e (aA x)) (a.eval x))(h2:au w γ (e (aA y)) (a.eval y))(hc:(rop P gl orc e m dst (.mn (aA x) (aA y))).1):
  Step N w0 an P ⟨dst,.call ⟨.builtin .min,#[x,y],ts⟩,ty,pos,after,guard⟩ a γ w B L (rop P gl orc e m dst (.mn (aA x) (aA y))).2:=by
 simp only[rop]at hc |-
 split at hc
 case h_2=>exact hc.elim
 rename_i k p k' q e1 e2;rw[e1]at h1;rw[e2]at h2;exact Qq hm (v:=.int k (if q<p then q else p)) (by simp[execOp,resolve,invoke,builtin,Builtin.min_,Builtin.min2,h1.aJ,h2.aJ]) (.int _ _)
def aed(hm:aq N w0 an γ w B L){x y:Operand}{ts:Array TypeId}(h1:au w γ (e (aA x)) (a.eval x))(h2:au w γ (e (aA y)) (a.eval y))(hc:(rop P gl orc e m dst (.mx (aA x) (aA y))).1):
  Step N w0 an P ⟨dst,.call ⟨.builtin .max,#[x,y],ts⟩,ty,pos,after,guard⟩ a γ w B L (rop P gl orc e m dst (.mx (aA x) (aA y))).2:=by
 simp only[rop]at hc |-
 split at hc
 case h_2=>exact hc.elim
 rename_i k p k' q e1 e2;rw[e1]at h1;rw[e2]at h2;exact Qq hm (v:=.int k (if p<q then q else p)) (by simp[execOp,resolve,invoke,builtin,Builtin.max_,Builtin.max2,h1.aJ,h2.aJ]) (.int _ _)
def E5(hm:aq N w0 an γ w B L){big:Bool}{x y z:Operand}{ts:Array TypeId}(h1:au w γ (e (aA x)) (a.eval x))(h2:au w γ (e (aA y)) (a.eval y))(h3:au w γ (e (aA z)) (a.eval z))(hc:(rop P gl orc e m dst (.mm3 big (aA x) (aA y) (aA z))).1):
  Step N w0 an P ⟨dst,.call ⟨.builtin (if big=true then .max else .min),#[x,y,z],ts⟩,ty,pos,after,guard⟩ a γ w B L (rop P gl orc e m dst (.mm3 big (aA x) (aA y) (aA z))).2:=by
 simp only[rop]at hc |-
 split at hc
 case h_2=>exact hc.elim
 rename_i k p k' q k'' r e1 e2 e3;rw[e1]at h1;rw[e2]at h2;rw[e3]at h3;cases big
 ·exact Qq hm (v:=.int k (UO false (UO false p q) r)) (by simp[execOp,resolve,invoke,builtin,Builtin.min_,Builtin.min2,h1.aJ,h2.aJ,h3.aJ,UO]) (.int _ _)
 exact Qq hm (v:=.int k (UO true (UO true p q) r)) (by simp[execOp,resolve,invoke,builtin,Builtin.max_,Builtin.max2,h1.aJ,h2.aJ,h3.aJ,UO]) (.int _ _)
def Ji{n b:Nat}(hb:b≠0)(h:(3*n+4000)*b<=562949953421312):n<=9223372036854775807:=by
 have:(3*n+4000)*1<=(3*n+4000)*b:=Nat.mul_le_mul_left _ (Nat.one_le_iff_ne_zero.2 hb);omega
def VC(hm:aq N w0 an γ w B L){s x:Operand}{t te:TypeId}{i:TypeInfo}{z:Value}(hu:P.underlying t=some (.slice te))(hi:P.info? te=some i)(hz:i.zero=some z)(di:i.bytes≠0)
  (h1:au w γ (e (aA s)) (a.eval s))(h2:au w γ (e (aA x)) (a.eval x))(hc:(rop P gl orc e m dst (.app i.size i.bytes (aA s) (aA x))).1):
  Step N w0 an P ⟨dst,.call ⟨.builtin .append,#[s,x],#[t,t]⟩,ty,pos,after,guard⟩ a γ w B L (rop P gl orc e m dst (.app i.size i.bytes (aA s) (aA x))).2:=by
 simp only[rop]at hc |-
 split at hc
 case h_2=>exact hc.elim
 rename_i rt rows US aB e1 e2;rw[e1]at h1;rw[e2]at h2;obtain⟨hfu,hr,cN⟩:=hc;replace h1:=h1.uf hfu;obtain⟨v,w',γ',g1,g2,g3,g4⟩:=alG (ty:=ty) hm hu hi hz h1 h2 hr cN (Ji di cN);exact Az g3 g2 (by simp[execOp,resolve,invoke,builtin,g1]) g4
def Qct(hm:aq N w0 an γ w B L)(hB:∀id cells,m.boxes[id]?=some cells->B id=some cells)(fh:∀g,au w γ.cQ (gl g) (.pointer (some ⟨g,0,none⟩)))
  (he:∀x∈o.op.operands,au w γ (e (aA x)) (a.eval x))(hc:(rop P gl orc e m o.dst (tr P o)).1):Step N w0 an P o a γ w B L (rop P gl orc e m o.dst (tr P o)).2:=by
 obtain⟨dst,op,ty,pos,after,guard⟩:=o;cases op with
 |move x=>exact Qq hm (by simp[execOp]) (he x (by simp[Op.operands]))
 |assign x=>exact Qq hm (by simp[execOp]) (he x (by simp[Op.operands]))
 |pick c x y=>exact PD hm (he c (by simp[Op.operands])) (he x (by simp[Op.operands])) (he y (by simp[Op.operands])) hc
 |load t x=>exact PE hm hB (he x (by simp[Op.operands])) hc
 |fieldAddr t x f=>exact JN hm (he x (by simp[Op.operands])) hc
 |field t x f=>exact UU hm (he x (by simp[Op.operands])) hc
 |indexAddr t x y=>exact JO hm (he x (by simp[Op.operands])) (he y (by simp[Op.operands])) hc
 |index t x y=>exact PF hm (he x (by simp[Op.operands])) (he y (by simp[Op.operands])) hc
 |binOp op t x y t'=>
  have h1:=he x (by simp[Op.operands]);have h2:=he y (by simp[Op.operands]);simp only[tr]at hc |-
  split at hc
  ·rename_i hu;exact PG hm hu h1 h2 hc
  ·exact EZ hm h1 h2 hc
  ·exact EZ hm h1 h2 hc
  ·rename_i te hu;exact PN hm hu h1 hc
  ·rename_i te hu;exact PO hm hu h1 hc
  ·rename_i fs hu;exact U5 hm hu h1 h2 hc
  exact hc.elim
 |unOp op t x=>exact aea hm (he x (by simp[Op.operands])) hc
 |convert s d x=>
  have h1:=he x (by simp[Op.operands]);simp only[tr]at hc |-
  split at hc
  ·rename_i k0 k hs hd;exact PI hm hs hd h1 hc
  ·rename_i te hs hd;split at hc
   ·rename_i ht;cases hx:e (aA x)with
    |sl rt rows=>exact U3 hm hs hd ht h1 ⟨rt,rows,hx⟩ hc
    |bs id off len sz=>
     simp only[rop,hx]at hc |-
     split at hc
     ·rename_i l hl;try simp only[hl]
      exact PR hm hB hs hd ht h1 hx hl
     exact hc.elim
    |_=>simp[rop,hx]at hc
   exact hc.elim
  exact hc.elim
 |lookup t x k ok=>
  have h1:=he x (by simp[Op.operands]);have h2:=he k (by simp[Op.operands]);simp only[tr]at hc |-
  split at hc
  ·rename_i v z ht;exact PU hm hB ht h1 h2 hc
  exact hc.elim
 |entry x=>exact PW hm hB (he x (by simp[Op.operands])) hc
 |next x s=>cases s<;>exact hc.elim
 |build t parts=>exact JP hm (fun p hp=>he p.2 (by simp[Op.operands];exact⟨p.1,hp⟩)) hc
 |buildSlice t len parts=>exact U0 hm hB (fun p hp=>he p.2 (by simp[Op.operands];exact⟨p.1,hp⟩)) hc
 |makeFunc fn first cap=>
  cases fn with
  |func f=>exact PJ hm (fun x hx=>he x (by simp[Op.operands,hx])) (fun x hx=>he x (by simp[Op.operands,hx]))
  |_=>exact hc.elim
 |extract x i=>exact UY hm (he x (by simp[Op.operands])) hc
 |nilCheck x=>exact PK hm (he x (by simp[Op.operands])) hc
 |slice t x lo hi mx=>
  cases mx with
  |none=>
   simp only[tr]at hc |-
   split at hc
   ·rename_i hu;exact UZ hm (he x (by simp[Op.operands])) (fun y hy=>he y (by simp at hy;simp[Op.operands,hy])) (fun y hy=>he y (by simp at hy;simp[Op.operands,hy])) hu hc
   ·rename_i te hu;split at hc
    ·rename_i i dm;exact U6 hm hu dm (he x (by simp[Op.operands])) (fun y hy=>he y (by simp at hy;simp[Op.operands,hy])) (fun y hy=>he y (by simp at hy;simp[Op.operands,hy])) hc
    exact hc.elim
   ·rename_i n te hu;split at hc
    ·rename_i i dm;exact U8 hm hB hu dm (he x (by simp[Op.operands])) (fun y hy=>he y (by simp at hy;simp[Op.operands,hy])) (fun y hy=>he y (by simp at hy;simp[Op.operands,hy])) hc
    exact hc.elim
   exact hc.elim
  |some mx=>exact hc.elim
 |call c=>
  obtain⟨callee,args,ts⟩:=c;have mP:∀x∈args,au w γ (e (aA x)) (a.eval x):=fun x hx=>he x (by simp[Op.operands,Call.operands,hx]);cases callee with
  |value f=>exact PX hm hB fh (he f (by simp[Op.operands,Call.operands])) mP hc
  |invoke recv name=>exact hc.elim
  |builtin b=>
   cases b<;>first|exact hc.elim|skip
   case append=>
    simp only[tr,Zq]at hc |-
    split at hc
    case h_2=>exact hc.elim
    rename_i s x t t' ha ht;split at hc
    case h_2=>exact hc.elim
    rename_i te y7 hu hu';split at hc
    case h_2=>exact hc.elim
    rename_i i hi;split at hc
    case isFalse=>exact hc.elim
    rename_i bV;try rw[if_pos bV]
    simp only[zzak,beq_iff_eq,bne_iff_ne]at bV;obtain⟨⟨⟨rfl,hz⟩,_⟩,di⟩:=bV;obtain rfl:args=#[s,x]:=by cases args;simp_all
    obtain rfl:ts=#[t,t]:=by cases ts;simp_all
    cases iW:i.zero with
    |none=>simp[iW]at hz
    |some z=>exact VC hm hu hi iW di (mP s zd) (mP x zd) hc
   case copy=>
    simp only[tr,Zq]at hc;repeat' split at hc
    all_goals exact hc.elim
   case clear=>
    simp only[tr,Zq]at hc;repeat' split at hc
    all_goals exact hc.elim
   case len=>
    simp only[tr,Zq]at hc |-
    split at hc
    case h_2=>exact hc.elim
    rename_i x t ha ht;obtain rfl:args=#[x]:=by cases args;simp_all
    obtain rfl:ts=#[t]:=by cases ts;simp_all
    split at hc
    ·rename_i hu;exact PY hm hu (mP x zd) hc
    ·rename_i te hu;exact VB hm hu (mP x zd) hc
    exact hc.elim
   case max=>
    simp only[tr,Zq]at hc |-
    split at hc
    case h_3=>exact hc.elim
    ·rename_i x y ha;obtain rfl:args=#[x,y]:=by cases args;simp_all
     exact aed hm (mP x zd) (mP y zd) hc
    rename_i x y z ha;obtain rfl:args=#[x,y,z]:=by cases args;simp_all
    exact E5 (big:=true) hm (mP x zd) (mP y zd) (mP z zd) hc
   case min=>
    simp only[tr,Zq]at hc |-
    split at hc
    case h_3=>exact hc.elim
    ·rename_i x y ha;obtain rfl:args=#[x,y]:=by cases args;simp_all
     exact aec hm (mP x zd) (mP y zd) hc
    rename_i x y z ha;obtain rfl:args=#[x,y,z]:=by cases args;simp_all
    exact E5 (big:=false) hm (mP x zd) (mP y zd) (mP z zd) hc
 |makeMap t r=>cases r<;>first|exact hc.elim|(simp only[tr]at hc;split at hc<;>exact hc.elim)
 |makeSlice t l c=>
  simp only[tr]at hc;repeat' split at hc
  all_goals exact hc.elim
 |_=>first|exact hc.elim|(simp only[tr]at hc;split at hc<;>exact hc.elim)
end
end Go.Abs
