import Derived.Test.YtfliagpjbbkijaaGreatDoorVAMB
set_option linter.all false
namespace Go.Abs
open Go Go.RowKit
section
variable {N:Nat} {w0:fc} {an:Nat->Nat->Prop} {γ:G} {w:World} {B:Nat->QQ} {L:Nat->Option Nat} {P:Program} {o:Oper} {a:Act} {r:AV}
variable {dst:Option Tmp} {ty:TypeId} {pos:String} {after:Array Edge} {guard:Option (Nat×Bool)} {gl:Nat->AV} {orc:X1} {e:bM->AV} {m:AM}
def U7(hm:aq N w0 an γ w B L){t:TypeId}{x:Operand}{f:Nat}(h1:au w γ (e (aB x)) (a.eval x))
  (hc:(rop P gl orc e m dst (tr P ⟨dst,.field t x f,ty,pos,after,guard⟩)).1):
  Step N w0 an P ⟨dst,.field t x f,ty,pos,after,guard⟩ a γ w B L (rop P gl orc e m dst (tr P ⟨dst,.field t x f,ty,pos,after,guard⟩)).2:=by
 simp only[tr]at hc |-
 split at hc
 case h_2=>exact hc.elim
 rename_i fields hu;split at hc
 case h_2=>exact hc.elim
 rename_i fl gG;split at hc
 case h_2=>exact hc.elim
 rename_i i d hi hd
 have main:∀(agg:Bool)(n:Nat),Jh P fl.type=agg->(agg=true->n=i.size)->(rop P gl orc e m dst (.fld agg fl.offset n (aB x))).1->
   Step N w0 an P ⟨dst,.field t x f,ty,pos,after,guard⟩ a γ w B L (rop P gl orc e m dst (.fld agg fl.offset n (aB x))).2:=by
  intro agg n bH hn hc;simp only[rop]at hc |-
  split at hc
  case h_2=>exact hc.elim
  rename_i cs he;rw[he]at h1;obtain⟨arr,hv,hr⟩:=h1.dO;obtain⟨fe,zH⟩:=hc;have zI:=hr.drop fl.offset;cases agg with
  |true=>
   have A2:=hn rfl;subst A2;refine Qr hm (v:=.agg (arr.extract fl.offset (fl.offset+i.size))) ?_ ?_
   ·unfold Jh at bH;rw[hd]at bH;cases d<;>simp at bH<;>simp[execOp,hv,Instr.field,run_underlying hu,gG,asAgg,part,isAgg,run_underlying hd,sizeOf,typeInfo,hi]
   simp only[Ya,if_true];refine ak.PJ ?_;have:=zI.take i.size;simpa[zzfs,List.extract]using this
  |false=>
   have qM:=zH rfl;subst qM
   have aH:fl.offset<arr.size:=by
    rw[zzaq,zzcb]at fe;have:=hr.1;simp at this;omega
   have hu':arr[fl.offset]?=some arr[fl.offset]:=zzag aH;refine Qr hm (v:=arr[fl.offset]) ?_ ?_
   ·unfold Jh at bH;rw[hd]at bH;cases d<;>simp at bH<;>simp[execOp,hv,Instr.field,run_underlying hu,gG,asAgg,part,isAgg,run_underlying hd,hu']
   simp only[Ya];have:=zI.get 0;simp[List.getD]at this |-
   simpa[aH]using this
 cases bH:Jh P fl.type with
 |true=>simp only[bH,if_true]at hc |-;exact main true _ bH (fun _=>rfl) hc
 |false=>simp only[bH]at hc |-;exact main false 1 bH (fun h=>by cases h) hc
def PO(hm:aq N w0 an γ w B L){t:TypeId}{x y:Operand}(h1:au w γ (e (aB x)) (a.eval x))(h2:au w γ (e (aB y)) (a.eval y))
  (hc:(rop P gl orc e m dst (tr P ⟨dst,.index t x y,ty,pos,after,guard⟩)).1):
  Step N w0 an P ⟨dst,.index t x y,ty,pos,after,guard⟩ a γ w B L (rop P gl orc e m dst (tr P ⟨dst,.index t x y,ty,pos,after,guard⟩)).2:=by
 simp only[tr]at hc |-
 split at hc
 case h_3=>exact hc.elim
 case h_2=>
  rename_i len te hu;split at hc
  case h_2=>exact hc.elim
  rename_i j d hj hd
  have main:∀(agg:Bool)(sz:Nat),Jh P te=agg->j.size=sz->(rop P gl orc e m dst (.idxA agg len sz (aB x) (aB y))).1->
    Step N w0 an P ⟨dst,.index t x y,ty,pos,after,guard⟩ a γ w B L (rop P gl orc e m dst (.idxA agg len sz (aB x) (aB y))).2:=by
   intro agg sz bH hsz hc;subst hsz;simp only[rop]at hc |-
   split at hc
   case h_2=>exact hc.elim
   rename_i cs k n e1 e2;rw[e1]at h1;rw[e2]at h2;obtain⟨arr,hv,hr⟩:=h1.dO;obtain⟨⟨eO,qM⟩,fe,zH⟩:=hc;have zI:=hr.drop (n.toNat*j.size);cases agg with
   |true=>
    refine Qr hm (v:=.agg (arr.extract (n.toNat*j.size) (n.toNat*j.size+j.size))) ?_ ?_
    ·unfold Jh at bH;rw[hd]at bH;cases d<;>simp at bH<;>simp[execOp,hv,h2.aI,Instr.index,run_underlying hu,asIntOf,eO,qM,asAgg,part,isAgg,run_underlying hd,sizeOf,typeInfo,hj]
    simp only[Ya,if_true];refine ak.PJ ?_;have:=zI.take j.size;simpa[zzfs,List.extract]using this
   |false=>
    have azb:=zH rfl
    have aH:n.toNat*j.size<arr.size:=by
     rw[zzaq,zzcb]at fe;have:=hr.1;simp at this;omega
    have hu':arr[n.toNat*j.size]?=some arr[n.toNat*j.size]:=zzag aH;refine Qr hm (v:=arr[n.toNat*j.size]) ?_ ?_
    ·unfold Jh at bH;rw[hd]at bH;cases d<;>simp at bH<;>simp[execOp,hv,h2.aI,Instr.index,run_underlying hu,asIntOf,eO,qM,asAgg,part,isAgg,run_underlying hd,sizeOf,typeInfo,hj,hu']
    simp only[Ya];have:=zI.get 0;simp[List.getD]at this |-
    simpa[aH]using this
  cases bH:Jh P te with
  |true=>simp only[bH,if_true]at hc |-;exact main true _ bH rfl hc
  |false=>
   simp only[bH,zzbp,if_false]at hc |-
   split at hc
   ·rename_i h0;have zJ:j.size=1:=by simpa using h0
    rw[if_pos h0];exact main false 1 bH zJ hc
   exact hc.elim
 rename_i hu;simp only[rop]at hc |-
 split at hc
 case h_2=>exact hc.elim
 rename_i s k n e1 e2;rw[e1]at h1;rw[e2]at h2;obtain⟨eO,qM⟩:=hc;have aa:n.toNat<s.size:=zE
 have hg:s[n.toNat]?=some (s.data.toList.getD n.toNat 0):=by
  have h3:n.toNat<s.data.size:=aa;have:s[n.toNat]?=some s[n.toNat]:=by simp[aa]
  rw[this];congr 1
  have h4:s.data.toList.getD n.toNat 0=s.data[n.toNat]:=by
   show(s.data.toList[n.toNat]?).getD 0=_;rw[zzbw,zzag h3];rfl
  rw[h4];rfl
 refine Qr hm (v:=.int .u8 (s.data.toList.getD n.toNat 0).toNat) ?_ (.int _ _);simp[execOp,h1.cE,h2.aI,Instr.index,asIntOf,run_underlying hu,eO,hg]
def U8{op:BinOp}{k:IntKind}{x y:Int}{t:TypeId}(eC:op≠.shl/\op≠.shr)(hc:(binI op k x y).1):∃v,(binOp op t (.int k x) (.int k y)).run P w=.ok v w/\au w γ (binI op k x y).2 v:=by
 cases op<;>simp only[binI]at hc |-<;>first
  |exact hc.elim
  |(simp at eC;done)
  |(refine⟨.bool _,?_,.bool _⟩;simp[binOp,Op.intCmp];done)
  |(refine⟨.int k _,?_,.int k _⟩;simp[binOp,Op.intArith,Op.intBits];done)
  |(refine⟨.int k _,?_,.int k _⟩;simp[binOp,Op.intDiv,hc];done)
def U9{op:BinOp}{x y:ByteArray}{t:TypeId}(eC:op≠.shl/\op≠.shr)(hc:(binS op x y).1):∃v,(binOp op t (.string x) (.string y)).run P w=.ok v w/\au w γ (binS op x y).2 v:=by
 cases op<;>simp only[binS]at hc |-<;>first
  |exact hc.elim
  |(simp at eC;done)
  |(refine⟨.bool _,?_,.bool _⟩;simp[binOp,Op.stringOp];done)
  |(
   refine⟨.string (x++y),?_,.str _⟩
   have h1:¬(((x.size+y.size:Nat):Int)> IntKind.i64.max):=by
     have:IntKind.i64.max=9223372036854775807:=by decide
     rw[this];omega
   simp only[binOp,Op.stringOp,if_neg h1];rfl)
def iX{op:BinOp}{t:TypeId}{x y:Operand}{k k':IntKind}{p q:Int}:(eqGuard op t x y (.int k p) (.int k' q)).run P w=.ok () w:=by
 cases op<;>simp[eqGuard]
def Fi{op:BinOp}{t:TypeId}{x y:Operand}{p q:ByteArray}:(eqGuard op t x y (.string p) (.string q)).run P w=.ok () w:=by
 cases op<;>simp[eqGuard]
def oQ{op:BinOp}{t:TypeId}{x y:Operand}{p q:Bool}:(eqGuard op t x y (.bool p) (.bool q)).run P w=.ok () w:=by
 cases op<;>simp[eqGuard]
def Fj(hm:aq N w0 an γ w B L){op:BinOp}{t t':TypeId}{x y:Operand}(h1:au w γ (e (aB x)) (a.eval x))(h2:au w γ (e (aB y)) (a.eval y))
  (hc:(binV op (e (aB x)) (e (aB y))).1):
  Step N w0 an P ⟨dst,.binOp op t x y t',ty,pos,after,guard⟩ a γ w B L (binV op (e (aB x)) (e (aB y))).2:=by
 unfold binV at hc |-
 split at hc
 ·split at hc
  case h_2=>exact hc.elim
  rename_i k p k' q e1 e2;try simp only[e1,e2]
  rw[e1]at h1;rw[e2]at h2;have hq:¬q<0:=zE
  refine Qr hm (v:=.int k (k.wrap (p*2 ^ (min q.toNat k.bits)))) ?_ (.int _ _);simp[execOp,h1.aI,h2.aI,iX,binOp,Op.shift,hq]
 ·split at hc
  case h_2=>exact hc.elim
  rename_i k p k' q e1 e2;try simp only[e1,e2]
  rw[e1]at h1;rw[e2]at h2;have hq:¬q<0:=zE
  refine Qr hm (v:=.int k (p.fdiv (2 ^ (min q.toNat k.bits)))) ?_ (.int _ _);simp[execOp,h1.aI,h2.aI,iX,binOp,Op.shift,hq]
 rename_i op' aq8 aq9;split at hc
 ·rename_i k p k' q e1 e2;try simp only[e1,e2]
  rw[e1]at h1;rw[e2]at h2;obtain⟨rfl,hc⟩:=hc;obtain⟨v,hv,hr⟩:=U8 (P:=P) (w:=w) (γ:=γ) (t:=t) ⟨fun h=>aq8 h,fun h=>aq9 h⟩ hc;exact Qr hm (v:=v) (by simp[execOp,h1.aI,h2.aI,iX,hv]) hr
 ·rename_i p q e1 e2;try simp only[e1,e2]
  rw[e1]at h1;rw[e2]at h2;obtain⟨v,hv,hr⟩:=U9 (P:=P) (w:=w) (γ:=γ) (t:=t) ⟨fun h=>aq8 h,fun h=>aq9 h⟩ hc;exact Qr hm (v:=v) (by simp[execOp,h1.cE,h2.cE,Fi,hv]) hr
 exact hc.elim
def run_equalIn_bool{t:TypeId}(hu:P.underlying t=some .bool)(p q:Bool)(d:Nat):(Op.equalIn (d+1) t (.bool p) (.bool q)).run P w=.ok (p==q) w:=by
 simp[Op.equalIn,run_underlying hu]
def PR(hm:aq N w0 an γ w B L){op:BinOp}{t t':TypeId}{x y:Operand}(hu:P.underlying t=some .bool)(h1:au w γ (e (aB x)) (a.eval x))(h2:au w γ (e (aB y)) (a.eval y))
  (hc:(binBool op (e (aB x)) (e (aB y))).1):
  Step N w0 an P ⟨dst,.binOp op t x y t',ty,pos,after,guard⟩ a γ w B L (binBool op (e (aB x)) (e (aB y))).2:=by
 unfold binBool at hc |-
 split at hc
 ·rename_i p q e1 e2;try simp only[e1,e2]
  rw[e1]at h1;rw[e2]at h2;have:=run_equalIn_bool (P:=P) (w:=w) hu p q 9999;exact Qr hm (v:=.bool (p==q)) (by simp[execOp,h1.bz,h2.bz,oQ,binOp,Op.equal,Op.maxDepth,this]) (.bool _)
 ·rename_i p q e1 e2;try simp only[e1,e2]
  rw[e1]at h1;rw[e2]at h2;have:=run_equalIn_bool (P:=P) (w:=w) hu p q 9999;exact Qr hm (v:=.bool (!(p==q))) (by simp[execOp,h1.bz,h2.bz,oQ,binOp,Op.equal,Op.maxDepth,this]) (.bool _)
 exact hc.elim
def aee(hm:aq N w0 an γ w B L){op:UnOp}{t:TypeId}{x:Operand}(h1:au w γ (e (aB x)) (a.eval x))(hc:(rop P gl orc e m dst (.un op (aB x))).1):
  Step N w0 an P ⟨dst,.unOp op t x,ty,pos,after,guard⟩ a γ w B L (rop P gl orc e m dst (.un op (aB x))).2:=by
 simp only[rop]at hc |-
 split at hc
 ·rename_i b e1;try simp only[e1]
  rw[e1]at h1;exact Qr hm (v:=.bool (!b)) (by simp[execOp,h1.bz,Op.unary]) (.bool _)
 ·rename_i k n e1;try simp only[e1]
  rw[e1]at h1;exact Qr hm (v:=.int k (k.wrap (0-n))) (by simp[execOp,h1.aI,Op.unary,Op.intArith]) (.int _ _)
 ·rename_i k n e1;try simp only[e1]
  rw[e1]at h1;refine Qr hm ?_ (.int _ _);simp[execOp,h1.aI,Op.unary,Op.intBits]
 exact hc.elim
def PS(hm:aq N w0 an γ w B L){s d:TypeId}{x:Operand}{k0 k:IntKind}(hs:P.underlying s=some (.int k0))(hd:P.underlying d=some (.int k))(h1:au w γ (e (aB x)) (a.eval x))(hc:(rop P gl orc e m dst (.conv k (aB x))).1):
  Step N w0 an P ⟨dst,.convert s d x,ty,pos,after,guard⟩ a γ w B L (rop P gl orc e m dst (.conv k (aB x))).2:=by
 simp only[rop]at hc |-
 split at hc
 case h_2=>exact hc.elim
 rename_i k1 n e1;rw[e1]at h1;exact Qr hm (v:=.int k (k.wrap n)) (by simp[execOp,h1.aI,convert,run_underlying hs,run_underlying hd,Conv.intToInt]) (.int _ _)
def PT(hm:aq N w0 an γ w B L){f:FuncId}{first cap:Array Operand}(h1:∀x∈first,au w γ (e (aB x)) (a.eval x))(h2:∀x∈cap,au w γ (e (aB x)) (a.eval x)):
  Step N w0 an P ⟨dst,.makeFunc (.func f) first cap,ty,pos,after,guard⟩ a γ w B L (.fn f ((first.toList.map aB).map e) ((cap.toList.map aB).map e)):=by
 refine Qr hm (v:=.func (.func f) (first.map a.eval) (cap.map a.eval)) (by simp[execOp,Instr.makeFunc]) ?_;refine .fn zd (fun i c v g1 g2=>?_) zd fun i c v g1 g2=>?_
 ·simp at g1 g2;obtain⟨x,hx,rfl⟩:=g1;obtain⟨x',kH,rfl⟩:=g2;rw[hx]at kH;cases kH;exact h1 x (zzcx hx)
 simp at g1 g2;obtain⟨x,hx,rfl⟩:=g1;obtain⟨x',kH,rfl⟩:=g2;rw[hx]at kH;cases kH;exact h2 x (zzcx hx)
def Vc(hm:aq N w0 an γ w B L){x:Operand}{i:Nat}(h1:au w γ (e (aB x)) (a.eval x))(hc:(rop P gl orc e m dst (.ext (aB x) i)).1):
  Step N w0 an P ⟨dst,.extract x i,ty,pos,after,guard⟩ a γ w B L (rop P gl orc e m dst (.ext (aB x) i)).2:=by
 simp only[rop]at hc |-
 split at hc
 case h_2=>exact hc.elim
 rename_i vs e1;rw[e1]at h1;obtain⟨arr,hv,hr⟩:=h1.CT;have aa:i<arr.size:=by have:=hr.1;simp at this;omega
 have hu:arr[i]?=some arr[i]:=zzag aa;refine Qr hm (v:=arr[i]) (by simp[execOp,hv,Instr.extract,hu]) ?_;have:=hr.get i;simpa[List.getD,aa]using this
def PU(hm:aq N w0 an γ w B L){x:Operand}(h1:au w γ (e (aB x)) (a.eval x))(hc:(rop P gl orc e m dst (.nilc (aB x))).1):
  Step N w0 an P ⟨dst,.nilCheck x,ty,pos,after,guard⟩ a γ w B L (rop P gl orc e m dst (.nilc (aB x))).2:=by
 simp only[rop]at hc |-
 split at hc
 ·rename_i id o' e1;try simp only[e1]
  rw[e1]at h1;have qP:=h1;obtain⟨b,hb,hv⟩:=h1.dN;exact Qr hm (v:=a.eval x) (by simp[execOp,hv]) qP
 ·rename_i row o' e1;try simp only[e1]
  rw[e1]at h1;have qP:=h1;obtain⟨b,off,cv,hv,_⟩:=h1.gE;exact Qr hm (v:=a.eval x) (by simp[execOp,hv]) qP
 ·rename_i f first cap e1
  try simp only[e1]
  rw[e1]at h1;have qP:=h1;obtain⟨fa,ca,hv,_⟩:=h1.mX;exact Qr hm (v:=a.eval x) (by simp[execOp,hv]) qP
 exact hc.elim
def VA(hm:aq N w0 an γ w B L){t:TypeId}{x:Operand}{lo hi:Option Operand}(h1:au w γ (e (aB x)) (a.eval x))(h2:∀y∈lo,au w γ (e (aB y)) (a.eval y))(h3:∀y∈hi,au w γ (e (aB y)) (a.eval y))
  (hu:P.underlying t=some .string)(hc:(rop P gl orc e m dst (.slS (aB x) (lo.map aB) (hi.map aB))).1):
  Step N w0 an P ⟨dst,.slice t x lo hi none,ty,pos,after,guard⟩ a γ w B L (rop P gl orc e m dst (.slS (aB x) (lo.map aB) (hi.map aB))).2:=by
 simp only[rop]at hc |-
 split at hc
 ·rename_i s k l k' h e1 e2 e3;rw[e1]at h1;cases lo with
  |none=>simp at e2
  |some lo=>
   cases hi with
   |none=>simp at e3
   |some hi=>
    simp at e2 e3;have r2:=h2 lo zd;have r3:=h3 hi zd;rw[e2]at r2;rw[e3]at r3;obtain⟨c1,c2,c3⟩:=hc;have c4:(0:Int)<=h:=zE
    have c5:l<=(h.toNat:Int):=zE
    try simp only[e1,e2,e3,zzcf]
    refine Qr hm (v:=.string (s.extract l.toNat h.toNat)) ?_ (.str _);simp[execOp,h1.cE,r2.aI,r3.aI,Instr.sliceAt,Instr.slice,Instr.sliceBounds,Instr.sliceBound,asIntOf,run_underlying hu,c1,c3,c4,c5];intro aa;exact absurd aa (by rw[Int.max_eq_left c4];omega)
 ·rename_i s k h e1 e2 e3;rw[e1]at h1;cases lo with
  |some lo=>simp at e2
  |none=>
   cases hi with
   |none=>simp at e3
   |some hi=>
    simp at e3;have r3:=h3 hi zd;rw[e3]at r3;obtain⟨c1,c3⟩:=hc;try simp only[e1,e3,zzcf,Option.map_none]
    refine Qr hm (v:=.string (s.extract 0 h.toNat)) ?_ (.str _);simp[execOp,h1.cE,r3.aI,Instr.sliceAt,Instr.slice,Instr.sliceBounds,Instr.sliceBound,asIntOf,run_underlying hu,c1,c3]
 ·rename_i s k l e1 e2 e3;rw[e1]at h1;cases lo with
  |none=>simp at e2
  |some lo=>
   cases hi with
   |some hi=>simp at e3
   |none=>
    simp at e2;have r2:=h2 lo zd;rw[e2]at r2;obtain⟨c1,c3⟩:=hc;try simp only[e1,e2,zzcf,Option.map_none]
    refine Qr hm (v:=.string (s.extract l.toNat s.size)) ?_ (.str _);simp[execOp,h1.cE,r2.aI,Instr.sliceAt,Instr.slice,Instr.sliceBounds,Instr.sliceBound,asIntOf,run_underlying hu,c1,c3]
 exact hc.elim
end
section
variable {N:Nat} {w0:fc} {an:Nat->Nat->Prop} {γ:G} {w:World} {B:Nat->QQ} {L:Nat->Option Nat} {P:Program} {o:Oper} {a:Act} {r:AV}
variable {dst:Option Tmp} {ty:TypeId} {pos:String} {after:Array Edge} {guard:Option (Nat×Bool)} {gl:Nat->AV} {orc:X1} {e:bM->AV} {m:AM}
def kJ{x:AV}{v:Value}(h:au w γ x v)(hx:bare x=true):ak w γ (cellsOf x) v.cells.toList:=by
 cases x with
 |junk=>simp[bare]at hx
 |gd g y=>simp[bare]at hx
 |aQ cs=>simp[bare]at hx
 |agg cs=>obtain⟨arr,rfl,hr⟩:=h.dO;exact hr
 |er t a=>cases h with|er hh=>exact ak.cons (.er hh) ak.nil
 |bool b=>cases h;exact ak.cons (.bool b) ak.nil
 |int k n=>cases h;exact ak.cons (.int k n) ak.nil
 |str s=>cases h;exact ak.cons (.str s) ak.nil
 |nilfn=>cases h;exact ak.cons .nilfn ak.nil
 |yld l=>cases h with|yld h=>exact ak.cons (.yld h) ak.nil
 |mp id=>cases h with|mp h=>exact ak.cons (.mp h) ak.nil
 |nilv p=>cases h;cases p<;>exact ak.cons (.nilv _) ak.nil
 |it id=>cases h with|it h=>exact ak.cons (.it h) ak.nil
 |aL kn kvs=>simp[bare]at hx
 |mitr mid n s=>simp[bare]at hx
 |sl rt rows=>have h':=h;obtain⟨_,_,_,_,_,_,rfl,_⟩:=h.cr;exact ak.cons h' ak.nil
 |ep row o=>have h':=h;obtain⟨_,_,_,rfl,_⟩:=h.gE;exact ak.cons h' ak.nil
 |ptr id o=>have h':=h;obtain⟨_,_,rfl⟩:=h.dN;exact ak.cons h' ak.nil
 |bs id off len sz=>have h':=h;obtain⟨_,_,_,_,_,rfl,_⟩:=h.dg;exact ak.cons h' ak.nil
 |fn f first cap=>have h':=h;obtain⟨_,_,rfl,_⟩:=h.mX;exact ak.cons h' ak.nil
def vV(off:Nat):∀(l:PH)(k:Nat)(arr:PP),(l.zipIdx k).foldl (fun(cs:PP)(p:Value×Nat)=>cs.setIfInBounds (off+p.2) p.1) arr=Ww arr (off+k) l
 |[],_,_=>rfl
 |v::l,k,arr=>by
  simp only[List.zipIdx_cons,zzda,Ww];exact vV off l (k+1) _
def Fk(off:Nat)(vs arr:PP):vs.zipIdx.foldl (fun(cs:PP)(p:Value×Nat)=>cs.setIfInBounds (off+p.2) p.1) arr=Ww arr off vs.toList:=by
 rw[<- Array.foldl_toList,Array.toList_zipIdx];exact vV off vs.toList 0 arr
def Qbk{place:Nat->Option (Nat×Nat)}:∀(ps:List (Nat×Nat×AV))(vs:List (Nat×Value))(cs:PQ)(arr:PP),ps.length=vs.length->
  (∀(i:Nat)(p:Nat×Nat×AV)(q:Nat×Value),ps[i]?=some p->vs[i]?=some q->place q.1=some (p.1,p.2.1)/\au w γ p.2.2 q.2)->ak w γ cs arr.toList->(fillA cs ps).1->
  ∃cells,Instr.fill place arr vs=some cells/\ak w γ (fillA cs ps).2 cells.toList/\cells.size=arr.size
 |[],[],cs,arr,_,_,hr,_=>⟨arr,rfl,hr,rfl⟩
 |[],_::_,_,_,h,_,_,_=>by simp at h
 |_::_,[],_,_,h,_,_,_=>by simp at h
 |(off,size,x)::ps,(i,v)::vs,cs,arr,hl,hp,hr,hc=>by
  obtain⟨h1,h2,h3,h4⟩:=hc;obtain⟨g1,g2⟩:=hp 0 _ _ rfl rfl;have hx:=kJ g2 h1;have hsz:v.cells.size=size:=by have:=hx.1;simp at this;omega
  have cR:¬(off+v.cells.size> arr.size):=by have:=hr.1;simp at this;omega
  have IJ:=hx.setA (o:=off) hr;obtain⟨cells,q1,q2,q3⟩:=Qbk ps vs (setA cs off (cellsOf x)) (Ww arr off v.cells.toList) (Pi hl) (fun j p q dL ot=>hp (j+1) p q (Pi dL) (Pi ot)) IJ h4;refine⟨cells,?_,q2,by rw[q3,Vb]⟩;simp only at g1;have hz:=Fk off v.cells arr;simp only[Instr.fill,g1];rw[if_neg (by simp[hsz];omega)];rw[<- hz]at q1;exact q1
def A3:∀(fs:List Field),fs.all (fun f=>(P.info? f.type).isSome)=true->∃places,fs.mapM (fun f=>(P.info? f.type).map fun i=>(f.offset,i.size))=some places/\
  ∀i:Nat,places[i]?=(fs[i]?).bind fun f=>(P.info? f.type).map fun i=>(f.offset,i.size)
 |[],_=>⟨[],zd,fun i=>zd⟩
 |f::fs,h=>by
  simp at h;obtain⟨h1,h2⟩:=h;obtain⟨places,g1,g2⟩:=A3 fs (Pi h2);obtain⟨i,hi⟩:=zzcg.1 h1;refine⟨(f.offset,i.size)::places,by simp[zzhe,hi,g1],fun j=>?_⟩;cases j with
  |zero=>simp[hi]
  |succ j=>simpa using g2 j
def Qcx{α β:Type}(f:α->Option β):∀(l:List α)(l':List β),l.mapM f=some l'->l'.length=l.length/\∀(i:Nat)(x:α)(y:β),l[i]?=some x->l'[i]?=some y->f x=some y
 |[],l',h=>by simp at h;subst h;simp
 |x::l,l',h=>by
  simp only[zzhe,Option.bind_eq_bind,Option.pure_def]at h;cases hx:f x with
  |none=>simp[hx]at h
  |some y=>
   cases hr:l.mapM f with
   |none=>simp[hx,hr]at h
   |some rest=>
    simp[hx,hr]at h;subst h;obtain⟨g1,g2⟩:=Qcx f l rest hr;refine⟨by simp[g1],fun i x' y' h1 h2=>?_⟩;cases i with
    |zero=>simp at h1 h2;subst h1;subst h2;exact hx
    |succ i=>simp at h1 h2;exact g2 i x' y' h1 h2
def iY{t:TypeId}{zs:PQ}(h:zc P t=some zs):∃i z,P.info? t=some i/\i.zero=some z/\ak w γ zs z.cells.toList:=by
 unfold zc at h;cases hi:P.info? t with
 |none=>simp[hi]at h
 |some i=>
  cases hz:i.zero with
  |none=>simp[hi,hz]at h
  |some z=>
   simp[hi,hz]at h;subst h;refine⟨i,z,rfl,hz,zd,fun j x v h1 h2=>?_⟩;simp at h1 h2;obtain⟨v',h3,rfl⟩:=h1;rw[h2]at h3;cases h3;exact mW w γ v
def J4(hm:aq N w0 an γ w B L){t:TypeId}{parts:Array (Nat×Operand)}(h1:∀p∈parts,au w γ (e (aB p.2)) (a.eval p.2))
  (hc:(rop P gl orc e m dst (Jy P t parts)).1):
  Step N w0 an P ⟨dst,.build t parts,ty,pos,after,guard⟩ a γ w B L (rop P gl orc e m dst (Jy P t parts)).2:=by
 unfold Jy at hc |-
 split at hc
 case h_2=>exact hc.elim
 rename_i fields zs hu hz;split at hc
 case h_2=>exact hc.elim
 rename_i ps hps;split at hc
 case isFalse=>exact hc.elim
 rename_i bD;try rw[if_pos bD]
 simp only[rop]at hc |-
 obtain⟨i,z,hi,fV,J5⟩:=iY (w:=w) (γ:=γ) hz;obtain⟨places,kK,hpg⟩:=A3 (P:=P) fields.toList bD;obtain⟨aH,cB⟩:=Qcx _ _ _ hps
 obtain⟨cells,f1,f2,_⟩:=Qbk (w:=w) (γ:=γ) (place:=fun i=>places[i]?) (ps.map fun p=>(p.1,p.2.1,e p.2.2)) (parts.toList.map fun p=>(p.1,a.eval p.2)) zs z.cells (by simp[aH]) (fun j p q dL ot=>by
   simp at dL ot;obtain⟨o1,o2,o3,hp1,rfl⟩:=dL;obtain⟨x1,x2,PK,rfl⟩:=ot;have:=cB j (x1,x2) (o1,o2,o3) (Pi PK) hp1;simp only at this |-
   rw[hpg];cases hf:fields[x1]? with
   |none=>simp[hf]at this
   |some f=>
    cases hfi:P.info? f.type with
    |none=>simp[hf,hfi]at this
    |some fi=>
     simp[hf,hfi]at this;obtain⟨rfl,rfl,rfl⟩:=this;exact⟨by simp[hf,hfi],h1 (x1,x2) (zzcx PK)⟩) J5 hc
 have hb:P.built t (parts.map fun p=>(p.1,a.eval p.2)).toList=some cells:=by
  unfold Program.built;simp only[hi,hu,fV,kK];simpa using f1
 have aX:=run_build (P:=P) w t (parts.map fun p=>(p.1,a.eval p.2)) cells hb;refine Qr hm (v:=.agg cells) ?_ (ak.PJ f2);simp[execOp,aX]
def VB(hm:aq N w0 an γ w B L)(hB:∀id cells,m.boxes[id]?=some cells->B id=some cells){t:TypeId}{len:Nat}{parts:Array (Nat×Operand)}(h1:∀p∈parts,au w γ (e (aB p.2)) (a.eval p.2))
  (hc:(rop P gl orc e m dst (tr P ⟨dst,.buildSlice t len parts,ty,pos,after,guard⟩)).1):
  Step N w0 an P ⟨dst,.buildSlice t len parts,ty,pos,after,guard⟩ a γ w B L (rop P gl orc e m dst (tr P ⟨dst,.buildSlice t len parts,ty,pos,after,guard⟩)).2:=by
 simp only[tr]at hc |-
 split at hc
 case h_2=>exact hc.elim
 rename_i te hu;split at hc
 case h_2=>exact hc.elim
 rename_i i hi;split at hc
 case isFalse=>exact hc.elim
 rename_i bV;try rw[if_pos bV]
 simp only[zzai,beq_iff_eq,bne_iff_ne,decide_eq_true_eq]at bV;obtain⟨⟨hz,J6⟩,vT⟩:=bV;cases fV:i.zero with
 |none=>simp[fV]at hz
 |some z=>
  simp[fV]at hz;simp only[rop]at hc |-
  rw[Wv];obtain⟨fe,zH,hc3⟩:=hc
  let ee:PP:=(Array.range (len*i.size)).map (z.cells[·%z.cells.size]!)
  have CX:ak w γ (List.replicate (len*i.size) .junk) ee.toList:=by
   refine⟨by simp[ee],fun j x v hj _=>?_⟩;simp[zzck]at hj;rw[<- hj.2];exact .junk _
  obtain⟨cells,f1,f2,f3⟩:=Qbk (w:=w) (γ:=γ) (place:=fun j=>some (j*i.size,i.size)) (parts.toList.map fun p=>(p.1*i.size,i.size,e (aB p.2))) (parts.toList.map fun p=>(p.1,a.eval p.2)) _ ee zd (fun j p q dL ot=>by
    simp at dL ot;obtain⟨x1,x2,PK,rfl⟩:=dL;obtain⟨y1,y2,hy1,rfl⟩:=ot;rw[PK]at hy1;cases hy1;exact⟨rfl,h1 (x1,x2) (zzcx PK)⟩) CX (by simpa[Function.comp_def]using fe)
  generalize hq:(fillA (List.replicate (len*i.size) .junk) (parts.toList.map fun p=>(p.1*i.size,i.size,e (aB p.2)))).2=A at f2
  have hq':(fillA (List.replicate (len*i.size) .junk) ((parts.toList.map fun p=>(p.1,aB p.2)).map fun p=>(p.1*i.size,i.size,e p.2))).2=A:=by
   rw[<- hq];simp[Function.comp_def]
  rw[hq']at zH hc3;simp only[hq'];have qC:cells.size=len*i.size:=by rw[f3];simp[ee]
  have hAl:A.length=len*i.size:=by have:=f2.1;simp at this;omega
  have hb:Below w.heap.size w (w.alloc (.cells cells te)):=(Below.refl _ w).alloc (zzaa _) _
  have aX:(execOp a.eval ⟨dst,.buildSlice t len parts,ty,pos,after,guard⟩).run P w=.ok (.value (.slice (some ⟨w.heap.size,0,none⟩) len len)) (w.alloc (.cells cells te)):=by
   have VC:¬(16777216<len*i.size):=zE
   by_cases ov:len*i.size=0
   ·have dD:ee=(Array.range (len*i.size)).map ((#[]:PP)[·%(#[]:PP).size]!):=by
     simp[ee,ov]
    rw[dD]at f1
    have gr:len=0:=by
     rcases Nat.mul_eq_zero.1 ov with h|h
     ·exact h
     exact absurd h J6
    simp[ov]at f1;simp[execOp,Instr.buildSlice,run_underlying hu,sizeOf,typeInfo,hi,ov,f1,newRow]
   simp only[execOp,Instr.buildSlice];have f1':Instr.fill (fun j=>some (j*i.size,i.size)) ((Array.range (len*i.size)).map (z.cells[·%z.cells.size]!)) (parts.toList.map fun p=>(p.1,a.eval p.2))=some cells:=f1;simp[run_underlying hu,sizeOf,typeInfo,zeroValue,hi,fV,ov,VC,f1',newRow]
  refine A1 (hm.grow hb) (hm.cG hb) aX ?_;have aH:((List.range len).map fun k=>((A.map (bE m 6)).drop (k*i.size)).take i.size).length=len:=zd
  have eW:(w.alloc (.cells cells te)).heap[w.heap.size]?=some (.cells cells te (0,0)):=by show(w.heap.push _)[w.heap.size]?=_;simp
  have ou:∀(k j:Nat)(c:AV),Qs ((List.range len).map fun k=>((A.map (bE m 6)).drop (k*i.size)).take i.size) k j=some c->∃c' u,A[k*i.size+j]?=some c'/\c=bE m 6 c'/\cells[k*i.size+j]?=some u/\cells.getD (k*i.size+j) undef=u/\au w γ c' u:=fun k j c h=>by
   unfold Qs at h;rcases zzab k len with hk|hk
   ·simp[hk]at h;rw[zzbk]at h;split at h
    ·simp at h;obtain⟨c',uw,rfl⟩:=h;have aa:k*i.size+j<cells.size:=by rw[qC,<- hAl];exact(zza.1 uw).1
     have hu':cells[k*i.size+j]?=some cells[k*i.size+j]:=zzag aa;exact⟨c',_,uw,rfl,hu',by simp[aa],f2.2 _ _ _ uw (by simp[aa])⟩
    cases h
   simp[zzbn.2 hk]at h
  have iZ:qB (w.alloc (.cells cells te)) (γ.grow w.heap.size (w.alloc (.cells cells te)).heap.size) ((List.range len).map fun k=>((A.map (bE m 6)).drop (k*i.size)).take i.size) (some ⟨w.heap.size,0,none⟩) len w.heap.size 0 i.size
    (fun k j=>cells.getD (k*i.size+j) undef):=by
   refine⟨zd,fun h=>(by cases h),fun _=>⟨rfl,zd⟩,fun row ai=>?_,fun k j c h=>?_,fun k j c h=>?_⟩
   ·simp at ai;obtain⟨k,hk,rfl⟩:=ai;have:(k+1)*i.size<=len*i.size:=zzbb _ hk;rw[zzbl,zzdl]at this;simp;omega
   ·obtain⟨c',u,g1,rfl,g3,g4,g5⟩:=ou k j c h;rw[zzbm,aN eW,g3,g4];refine⟨rfl,.inr ⟨zzaa _,zd⟩,uv g5 (zzbe.1 zH c' (zzac g1))⟩
   obtain⟨c',u,g1,rfl,g3,g4,g5⟩:=ou k j c h;rw[g4]
   have:=Qeb hm hB (ro':=γ.ro) (fun _ _ h=>h) 6 c' u g5 fun hp=>by
    have:A.any (Yf 6)=true:=zzbv.2 ⟨c',zzac g1,hp⟩;rw[hc3]at this;cases this
   exact this.mono (hm.cG hb).cW
  have:=iZ.mk' (rt:=.full) aH.symm;rwa [aH]at this
end
section
variable {N:Nat} {w0:fc} {an:Nat->Nat->Prop} {γ:G} {w:World} {B:Nat->QQ} {L:Nat->Option Nat} {P:Program} {o:Oper} {a:Act} {r:AV}
variable {dst:Option Tmp} {ty:TypeId} {pos:String} {after:Array Edge} {guard:Option (Nat×Bool)} {gl:Nat->AV} {orc:X1} {e:bM->AV} {m:AM}
def ak.zK{cs:PQ}{vs:PH}(h:ak w γ cs vs):au w γ (.aQ cs) (.tuple vs.toArray):=.aQ (Pi h.1) fun i c v h1 h2=>h.2 i c v h1 (Pi h2)
def au.ux{rt:Rt}{rows:X2}{v:Value}(h:au w γ (.sl rt rows) v)(hf:U1 rt=true):au w γ (.sl .full rows) v:=by
 cases h with
 |sl b off sz cv hcap hnil ha hsz hc hr bk=>
  refine .sl b off sz cv hcap hnil ha hsz hc hr ?_;cases rt with
  |full=>exact bk
  |nil=>
   show _=_;have:=hnil bk;omega
  |_=>simp[U1]at hf
def PV{t te:TypeId}{op:BinOp}(hu:P.underlying t=some (.slice te)){p:Option Addr}{n c:Nat}(eC:op=.eql\/op=.neq):(binOp op t (.slice p n c) (.slice none 0 0)).run P w=.ok (.bool (if op=.eql then p.isNone else !p.isNone)) w:=by
 have h:∀d,(Op.equalIn (d+1) t (.slice p n c) (.slice none 0 0)).run P w=.ok p.isNone w:=fun d=>by
  unfold Op.equalIn;cases p<;>simp[run_underlying hu]
 have h':(Op.equal t (.slice p n c) (.slice none 0 0)).run P w=.ok p.isNone w:=h 9999;rcases eC with rfl|rfl<;>simp[binOp,h']
def PW(hm:aq N w0 an γ w B L){op:BinOp}{t te t':TypeId}{x y:Operand}(hu:P.underlying t=some (.slice te))(h1:au w γ (e (aB x)) (a.eval x))(hc:(rop P gl orc e m dst (iT op x y)).1):
  Step N w0 an P ⟨dst,.binOp op t x y t',ty,pos,after,guard⟩ a γ w B L (rop P gl orc e m dst (iT op x y)).2:=by
 have key:∀neg:Bool,(op=.eql/\neg=false\/op=.neq/\neg=true)->y=.const (.slice none 0 0)->(rop P gl orc e m dst (.nilS neg (aB x))).1->Step N w0 an P ⟨dst,.binOp op t x y t',ty,pos,after,guard⟩ a γ w B L (rop P gl orc e m dst (.nilS neg (aB x))).2:=by
  clear hc;intro neg eC hy hc;subst hy;have alr:op=.eql\/op=.neq:=eC.imp And.left And.left
  have run:∀p n c,a.eval x=.slice p n c->(execOp a.eval ⟨dst,.binOp op t x (.const (.slice none 0 0)) t',ty,pos,after,guard⟩).run P w=.ok (.value (.bool (if neg then !p.isNone else p.isNone))) w:=fun p n c hv=>by
   have:=PV (P:=P) (w:=w) (op:=op) hu (p:=p) (n:=n) (c:=c) alr;have J7:a.eval (.const (.slice none 0 0))=.slice none 0 0:=rfl;rcases eC with⟨rfl,rfl⟩|⟨rfl,rfl⟩<;>simp at this<;>simp[execOp,hv,J7,eqGuard,this]
  simp only[rop]at hc |-
  split at hc
  ·rename_i rows e1;rw[e1]at h1;obtain⟨a',cap,b,off,sz,cv,hv,_,bk⟩:=h1.cr;have:a'=none:=bk;subst this;refine Qr hm (run _ _ _ hv) ?_;cases neg<;>exact .bool _
  ·rename_i rows e1;rw[e1]at h1;obtain⟨a',cap,b,off,sz,cv,hv,_,bk⟩:=h1.cr;have:a'≠none:=bk;refine Qr hm (run _ _ _ hv) ?_;cases a' with
   |none=>exact absurd rfl this
   |some a'=>cases neg<;>exact .bool _
  ·rename_i rt row rows qM eP e1;rw[e1]at h1;obtain⟨a',cap,b,off,sz,cv,hv,s1,bk⟩:=h1.cr;have:=(s1.at_ zd).1;subst this;refine Qr hm (run _ _ _ hv) ?_;cases neg<;>exact .bool _
  ·rename_i id off len sz e1;rw[e1]at h1;obtain⟨b,cap,arr,zm,hb,hv,_⟩:=h1.dg;refine Qr hm (run _ _ _ hv) ?_;cases neg<;>exact .bool _
  exact hc.elim
 unfold iT at hc |-
 split at hc
 ·exact key false (.inl ⟨rfl,rfl⟩) rfl hc
 ·exact key true (.inr ⟨rfl,rfl⟩) rfl hc
 exact hc.elim
def VD{v:Value}(h:au w γ (.nilv true) v):v=.pointer none:=by cases h;rfl
def J8{t te:TypeId}{op:BinOp}(hu:P.underlying t=some (.pointer te)){p:Option Addr}(eC:op=.eql\/op=.neq):(binOp op t (.pointer p) (.pointer none)).run P w=.ok (.bool (if op=.eql then p.isNone else !p.isNone)) w:=by
 have h:∀d,(Op.equalIn (d+1) t (.pointer p) (.pointer none)).run P w=.ok p.isNone w:=fun d=>by
  unfold Op.equalIn;cases p<;>simp[run_underlying hu]
 have h':(Op.equal t (.pointer p) (.pointer none)).run P w=.ok p.isNone w:=h 9999;rcases eC with rfl|rfl<;>simp[binOp,h']
def PX(hm:aq N w0 an γ w B L){op:BinOp}{t te t':TypeId}{x y:Operand}(hu:P.underlying t=some (.pointer te))(h1:au w γ (e (aB x)) (a.eval x))(hc:(rop P gl orc e m dst (U0 op x y)).1):
  Step N w0 an P ⟨dst,.binOp op t x y t',ty,pos,after,guard⟩ a γ w B L (rop P gl orc e m dst (U0 op x y)).2:=by
 have key:∀neg:Bool,(op=.eql/\neg=false\/op=.neq/\neg=true)->y=.const (.pointer none)->(rop P gl orc e m dst (.nilP neg (aB x))).1->Step N w0 an P ⟨dst,.binOp op t x y t',ty,pos,after,guard⟩ a γ w B L (rop P gl orc e m dst (.nilP neg (aB x))).2:=by
  clear hc;intro neg eC hy hc;subst hy;have alr:op=.eql\/op=.neq:=eC.imp And.left And.left
  have run:∀p,a.eval x=.pointer p->(execOp a.eval ⟨dst,.binOp op t x (.const (.pointer none)) t',ty,pos,after,guard⟩).run P w=.ok (.value (.bool (if neg then !p.isNone else p.isNone))) w:=fun p hv=>by
   have:=J8 (P:=P) (w:=w) (op:=op) hu (p:=p) alr;have J7:a.eval (.const (.pointer none))=.pointer none:=rfl;rcases eC with⟨rfl,rfl⟩|⟨rfl,rfl⟩<;>simp at this<;>simp[execOp,hv,J7,eqGuard,this]
  simp only[rop]at hc |-
  split at hc
  ·rename_i id o e1;rw[e1]at h1;obtain⟨b,hb,hv⟩:=h1.dN;refine Qr hm (run _ hv) ?_;cases neg<;>exact .bool _
  ·rename_i row o e1;rw[e1]at h1;obtain⟨b,off,cv,hv,_⟩:=h1.gE;refine Qr hm (run _ hv) ?_;cases neg<;>exact .bool _
  ·rename_i e1;rw[e1]at h1;have hv:a.eval x=.pointer none:=VD h1;refine Qr hm (run _ hv) ?_;cases neg<;>exact .bool _
  exact hc.elim
 unfold U0 at hc |-
 split at hc
 ·exact key false (.inl ⟨rfl,rfl⟩) rfl hc
 ·exact key true (.inr ⟨rfl,rfl⟩) rfl hc
 exact hc.elim
def vW:∀{rows:X2}{l:List UInt8},Ud rows=some l->∃ns:P2,rows=ns.map (fun n=>[.int .u8 n])/\l=ns.map fun n=>UInt8.ofNat n.toNat
 |[],l,h=>⟨[],rfl,by simpa[Ud]using h.symm⟩
 |row::rows,l,h=>by
  simp only[Ud]at h;cases hb:byteOf row with
  |none=>simp[hb]at h
  |some x=>
   cases hr:Ud rows with
   |none=>simp[hb,hr]at h
   |some l'=>
    simp[hb,hr]at h;obtain⟨ns,h1,h2⟩:=vW hr;unfold byteOf at hb;split at hb
    ·rename_i n;simp at hb;exact⟨n::ns,by simp[h1],by simp[<- h,h2,hb]⟩
    cases hb
def vX(ns:P2):∀s:ByteArray,ns.foldl (fun r n=>r.push (UInt8.ofNat n.toNat)) s=⟨s.data++(ns.map fun n=>UInt8.ofNat n.toNat).toArray⟩:=by
 induction ns with
 |nil=>intro s;simp
 |cons n ns ih=>intro s;rw[zzda,ih];simp[ByteArray.push]
def VE(hm:aq N w0 an γ w B L){s d te:TypeId}{x:Operand}(hs:P.underlying s=some (.slice te))(hd:P.underlying d=some .string)(ht:P.underlying te=some (.int .u8))(h1:au w γ (e (aB x)) (a.eval x))(iZ:∃rt rows,e (aB x)=.sl rt rows)(hc:(rop P gl orc e m dst (.b2s (aB x))).1):
  Step N w0 an P ⟨dst,.convert s d x,ty,pos,after,guard⟩ a γ w B L (rop P gl orc e m dst (.b2s (aB x))).2:=by
 simp only[rop]at hc |-
 split at hc
 case h_3=>exact hc.elim
 case h_2=>
  rename_i e1;obtain⟨rt,rows,e2⟩:=iZ;rw[e2]at e1;cases e1
 rename_i rt rows e1;rw[e1]at h1;try simp only[e1]
 split at hc
 case h_2=>exact hc.elim
 rename_i l hl;try simp only[hl]
 obtain⟨ns,rfl,rfl⟩:=vW hl;obtain⟨p,cap,b,off,sz,cv,hv,s1,_⟩:=h1.cr;cases p with
 |none=>
  have h0:ns=[]:=by
   have:=s1.hnil rfl;have h2:=s1.hcap;simp at h2;exact zzbc zE
  subst h0;refine Qr hm (v:=.string ⟨#[]⟩) ?_ (.str _);simp[execOp,hv,convert,run_underlying hs,run_underlying hd,run_underlying ht,Conv.bytesToString];rfl
 |some p=>
  have VF:(loadCells p ns.length).run P w=.ok (ns.map (Value.int .u8)).toArray w:=by
   have:=run_loadCells_list (P:=P) (w:=w) p (ns.map (Value.int .u8)) fun j v hj=>?_
   ·simpa using this
   simp at hj;obtain⟨n,hn,rfl⟩:=hj;have aJ:ns.map (fun n=>[AV.int .u8 n])≠[]:=by rintro h;simp at h;subst h;simp at hn
   obtain⟨e2,_⟩:=s1.at_ aJ;cases e2
   have awK:sz=1:=by
    cases ns with
    |nil=>simp at hn
    |cons n' ns=>have:=s1.hsz [.int .u8 n'] zd;simpa using this.symm
   subst awK;have ou:Qs (ns.map fun n=>[AV.int .u8 n]) j 0=some (.int .u8 n):=by simp[Qs,hn]
   have c1:=(s1.cell j 0 _ ou).1;have c2:=(s1.rep j 0 _ ou).aI;rw[bq];rw[c2]at c1;simpa using c1
  refine Qr hm (v:=.string ⟨(ns.map fun n=>UInt8.ofNat n.toNat).toArray⟩) ?_ (.str _);have aX:=run_bytesToString w p ns.length cap ns VF;rw[vX]at aX
  have:(⟨ByteArray.empty.data++(ns.map fun n=>UInt8.ofNat n.toNat).toArray⟩:ByteArray)=⟨(ns.map fun n=>UInt8.ofNat n.toNat).toArray⟩:=by
   have:ByteArray.empty.data=#[]:=rfl;rw[this];simp
  rw[this]at aX;simp[execOp,hv,convert,run_underlying hs,run_underlying hd,run_underlying ht,aX]
end
section
variable {N:Nat} {w0:fc} {an:Nat->Nat->Prop} {γ:G} {w:World} {B:Nat->QQ} {L:Nat->Option Nat} {P:Program} {o:Oper} {a:Act} {r:AV}
variable {dst:Option Tmp} {ty:TypeId} {pos:String} {after:Array Edge} {guard:Option (Nat×Bool)} {gl:Nat->AV} {orc:X1} {e:bM->AV} {m:AM}
def nc{t:TypeId}{k:Nat}(h:Fc P t=some k):(P.underlying t=some .bool/\k=0)\/(∃i,P.underlying t=some (.int i)/\k=1)\/(P.underlying t=some .string/\k=2):=by
 unfold Fc at h;split at h
 ·cases h;exact .inl ⟨by assumption,rfl⟩
 ·cases h;exact .inr (.inl ⟨_,by assumption,rfl⟩)
 ·cases h;exact .inr (.inr ⟨by assumption,rfl⟩)
 cases h
def aef{t:TypeId}{k d:Nat}(hk:Fc P t=some k){x y:AV}{u v:Value}(hx:au w γ x u)(hy:au w γ y v)(hf:kindF k x y=true):(Op.equalIn (d+1) t u v).run P w=.ok (eqF x y) w:=by
 rcases nc hk with⟨hu,rfl⟩|⟨i,hu,rfl⟩|⟨hu,rfl⟩
 ·cases x<;>cases y<;>simp[kindF]at hf;rw[hx.bz,hy.bz];exact run_equalIn_bool' w d t _ _ hu
 ·cases x<;>cases y<;>simp[kindF]at hf;subst hf;rw[hx.aI,hy.aI];exact run_equalIn_int w d t _ _ _ _ hu
 cases x<;>cases y<;>simp[kindF]at hf;rw[hx.cE,hy.cE];exact run_equalIn_string w d t _ _ hu
def vY{t:TypeId}{k i:Nat}(hk:Fc P t=some k){xs:PP}{v:Value}(h:xs[i]?=some v):(part t xs i).run P w=.ok v w:=by
 rcases nc hk with⟨hu,_⟩|⟨_,hu,_⟩|⟨hu,_⟩<;>simp[part,isAgg,run_underlying hu,h]
def vZ{d:Nat}{xs ys:PP}:∀(fs:List Field)(i:Nat)(ks:P1)(as' bs:PQ),Wx P fs i=some ks->Qcm ks as' bs=true->
  (∀(j:Nat)(c:AV),as'[j]?=some c->∃v,xs[i+j]?=some v/\au w γ c v)->(∀(j:Nat)(c:AV),bs[j]?=some c->∃v,ys[i+j]?=some v/\au w γ c v)->
  (Op.eqFields (d+1) xs ys fs).run P w=.ok (eqFs as' bs) w
 |[],i,ks,as',bs,hk,hf,_,_=>by
  cases hk;cases as'<;>cases bs<;>simp[Qcm]at hf;simp[Op.eqFields,eqFs]
 |f::fs,i,ks,as',bs,hk,hf,hx,hy=>by
  simp only[Wx]at hk;split at hk
  case h_2=>cases hk
  rename_i k ks' h0 h1 h2;cases hk;simp only[zzai,beq_iff_eq,bne_iff_ne]at h0;cases as' with
  |nil=>cases bs<;>simp[Qcm]at hf
  |cons c as'=>
   cases bs with
   |nil=>simp[Qcm]at hf
   |cons c' bs=>
    simp only[Qcm,zzai]at hf;obtain⟨u,hu1,J9⟩:=hx 0 c rfl;obtain⟨v,hv1,zn⟩:=hy 0 c' rfl;have ih:=vZ (d:=d) (xs:=xs) (ys:=ys) fs (i+1) ks' as' bs h2 hf.2 (fun j c hj=>by have:=hx (j+1) c (Pi hj);rwa [show i+1+j=i+(j+1) by omega]) (fun j c hj=>by have:=hy (j+1) c (Pi hj);rwa [show i+1+j=i+(j+1) by omega]);have p1:=vY (w:=w) h1 hu1;have p2:=vY (w:=w) h1 hv1;have p3:=aef (d:=d) h1 J9 zn hf.1;simp only[zzcl]at p1 p2;simp only[Op.eqFields,ne_eq,h0.2,not_false_eq_true,if_true,Sem.run_bind,h0.1,p1,p2,p3,Result.andThen_ok,Sem.run_ite];cases hc:eqF c c'<;>simp[eqFs,hc,ih]
def VG(hm:aq N w0 an γ w B L){op:BinOp}{t t':TypeId}{fs:Array Field}{x y:Operand}(hu:P.underlying t=some (.struct fs))(h1:au w γ (e (aB x)) (a.eval x))(h2:au w γ (e (aB y)) (a.eval y))
  (hc:(rop P gl orc e m dst (vP P t fs.toList op x y)).1):
  Step N w0 an P ⟨dst,.binOp op t x y t',ty,pos,after,guard⟩ a γ w B L (rop P gl orc e m dst (vP P t fs.toList op x y)).2:=by
 have main:∀(neg:Bool)(ks:P1),Wx P fs.toList 0=some ks->(P.stoodInHeld t||P.eqGuardType P.depth t)=false->(op=if neg then .neq else .eql)->(rop P gl orc e m dst (.eqA neg ks (aB x) (aB y))).1->
   Step N w0 an P ⟨dst,.binOp op t x y t',ty,pos,after,guard⟩ a γ w B L (rop P gl orc e m dst (.eqA neg ks (aB x) (aB y))).2:=by
  clear hc;intro neg ks hk hg eC hc;simp only[rop]at hc |-
  split at hc
  case h_2=>exact hc.elim
  rename_i xs ys e1 e2;rw[e1]at h1;rw[e2]at h2;try simp only[e1,e2]
  obtain⟨ax,hv1,r1⟩:=h1.dO;obtain⟨ay,zn,r2⟩:=h2.dO;simp only[Bool.or_eq_false_iff]at hg;have hf:P.fieldsOf t=fs:=by simp[Program.fieldsOf,hu]
  have cB:∀{cs:PQ}{arr:PP},ak w γ cs arr.toList->∀(j:Nat)(c:AV),cs[j]?=some c->∃v,arr[0+j]?=some v/\au w γ c v:=fun{cs arr}hr j c hj=>by
   have h0:=(zza.1 hj).1;have h3:=hr.1;have aa:j<arr.size:=by simp at h3;omega
   exact⟨arr[j],by simp[aa],hr.2 j c _ hj (by simp[aa])⟩
  have aX:(Op.equalIn 10000 t (.agg ax) (.agg ay)).run P w=.ok (eqFs xs ys) w:=by
   rw[run_equalIn_struct w 9999 t ax ay (by rw[hf];exact hu) hg.1,hf];exact vZ (d:=9998) fs.toList 0 ks xs ys hk hc (cB r1) (cB r2)
  have VH:=run_eqGuard_agg (P:=P) w op t x y ax ay hg.2;cases neg with
  |false=>
   simp at eC;subst eC;refine Qr hm (v:=.bool (eqFs xs ys)) ?_ (.bool _);simp[execOp,hv1,zn,VH,run_eql_struct,aX]
  |true=>
   simp at eC;subst eC;refine Qr hm (v:=.bool (!(eqFs xs ys))) ?_ (.bool _);simp[execOp,hv1,zn,VH,run_neq_struct,aX]
 unfold vP at hc |-
 split at hc
 ·rename_i ks h3 h4;exact main false ks h3 h4 rfl hc
 ·rename_i ks h3 h4;exact main true ks h3 h4 rfl hc
 exact hc.elim
def ng{isS:Bool}{len cap:Nat}{lo hi:Option Operand}{l h:Int}(hl:loOf ((lo.map aB).map e)=some l)(hh:hiOf len ((hi.map aB).map e)=some h)(h2:∀y∈lo,au w γ (e (aB y)) (a.eval y))(h3:∀y∈hi,au w γ (e (aB y)) (a.eval y))
  (c0:0<=l)(c1:l<=h)(c2:h<=len)(c3:len<=cap):(Instr.sliceBounds isS len cap (lo.map a.eval) (hi.map a.eval) none).run P w=.ok (l.toNat,h.toNat,cap) w:=by
 have k1:lo=none/\l=0\/∃y k,lo=some y/\a.eval y=.int k l:=by
  cases lo with
  |none=>simp[loOf]at hl;exact .inl ⟨rfl,hl.symm⟩
  |some y=>
   have:=h2 y zd;simp only[zzcf]at hl;cases he:e (aB y)<;>rw[he]at hl<;>simp[loOf]at hl;subst hl;rw[he]at this;exact .inr ⟨y,_,rfl,this.aI⟩
 have k2:hi=none/\h=len\/∃y k,hi=some y/\a.eval y=.int k h:=by
  cases hi with
  |none=>simp[hiOf]at hh;exact .inl ⟨rfl,hh.symm⟩
  |some y=>
   have:=h3 y zd;simp only[zzcf]at hh;cases he:e (aB y)<;>rw[he]at hh<;>simp[hiOf]at hh;subst hh;rw[he]at this;exact .inr ⟨y,_,rfl,this.aI⟩
 have c4:0<=h:=zE
 have c5:h<=(cap:Int):=zE
 have c6:l<=(h.toNat:Int):=zE
 rcases k1 with⟨rfl,rfl⟩|⟨y,k,rfl,hy⟩<;>obtain⟨rfl,rfl⟩|⟨y',k',rfl,hy'⟩:=k2
 ·simp[Instr.sliceBounds]
 ·simp[Instr.sliceBounds,Instr.sliceBound,asIntOf,hy',c4,c5]
 ·simp[Instr.sliceBounds,Instr.sliceBound,asIntOf,hy,c0,c1]
 have c7:¬(max h 0<l):=zE
 have c8:l<=max h 0:=zE
 simp[Instr.sliceBounds,Instr.sliceBound,asIntOf,hy,hy',c0,c4,c5,c8]
def oR{rows:X2}{l k i j:Nat}{c:AV}(h:Qs ((rows.drop l).take k) i j=some c):Qs rows (l+i) j=some c/\i<k:=by
 unfold Qs at*
 rw[zzbk]at h;split at h
 ·rename_i hi;rw[zzbo]at h;exact⟨h,hi⟩
 simp at h
def VI(hm:aq N w0 an γ w B L){t te:TypeId}{i:TypeInfo}{x:Operand}{lo hi:Option Operand}(hu:P.underlying t=some (.slice te))(dn:P.info? te=some i)
  (h1:au w γ (e (aB x)) (a.eval x))(h2:∀y∈lo,au w γ (e (aB y)) (a.eval y))(h3:∀y∈hi,au w γ (e (aB y)) (a.eval y))
  (hc:(rop P gl orc e m dst (.slL i.size (aB x) (lo.map aB) (hi.map aB))).1):
  Step N w0 an P ⟨dst,.slice t x lo hi none,ty,pos,after,guard⟩ a γ w B L (rop P gl orc e m dst (.slL i.size (aB x) (lo.map aB) (hi.map aB))).2:=by
 simp only[rop]at hc |-
 split at hc
 ·rename_i rt rows e1;rw[e1]at h1;try simp only[e1]
  split at hc
  case h_2=>exact hc.elim
  rename_i l h hl hh;try simp only[hl,hh]
  obtain⟨⟨c0,c1,c2⟩,hsz⟩:=hc;obtain⟨p,cap,b,off,sz,cv,hv,s1,_⟩:=h1.cr;replace s1:=s1.fix (sz:=i.size) hsz;have hb:=ng (P:=P) (w:=w) (a:=a) (isS:=true) (cap:=cap) hl hh h2 h3 c0 c1 c2 s1.hcap;have aH:((rows.drop l.toNat).take (h.toNat-l.toNat)).length=h.toNat-l.toNat:=by simp;omega
  have hcap:=s1.hcap;refine Qr hm (v:=.slice (if cap=l.toNat then p else p.map (·.add (l.toNat*i.size))) (h.toNat-l.toNat) (cap-l.toNat)) ?_ ?_
  ·simp[execOp,Instr.sliceAt,Instr.slice,run_underlying hu,hv,hb,sizeOf,typeInfo,dn]
  have main:au w γ (.sl .ro ((rows.drop l.toNat).take (h.toNat-l.toNat))) (.slice (if cap=l.toNat then p else p.map (·.add (l.toNat*i.size))) ((rows.drop l.toNat).take (h.toNat-l.toNat)).length (cap-l.toNat)):=?_
  ·rw[aH]at main;exact main
  refine .sl b (off+l.toNat*i.size) i.size (fun k j=>cv (l.toNat+k) j) (by rw[aH];omega) (fun hn=>?_) (fun hn=>?_) (fun row hr=>hsz row (zzdd (zzce hr))) (fun k j c hk=>?_) (fun k j c hk=>?_) trivial
  ·have:p=none:=by
    split at hn
    ·exact hn
    simpa using hn
   have:=s1.hnil this;omega
  ·have aJ:rows≠[]:=by rintro rfl;simp at hn
   obtain⟨hp,aa⟩:=s1.at_ aJ
   have hlh:l.toNat<h.toNat:=by
    rcases zzab l.toNat h.toNat with h'|h'
    ·exact h'
    exact absurd (zzbc (by rw[aH];omega)) hn
   refine⟨?_,aa⟩;rw[if_neg zE,hp];simp[bq]
  ·obtain⟨g1,_⟩:=oR hk;obtain⟨g2,g3,g4⟩:=s1.cell _ j c g1;rw[zzbl,<- zzan]at g2 g3;exact⟨g2,g3,g4⟩
  obtain⟨g1,_⟩:=oR hk;exact s1.rep _ j c g1
 ·rename_i id off len gA e1;rw[e1]at h1;try simp only[e1]
  split at hc
  case h_2=>exact hc.elim
  rename_i l h hl hh;try simp only[hl,hh]
  obtain⟨⟨c0,c1,c2⟩,rfl⟩:=hc;obtain⟨b,cap,arr,zm,hβ,hv,cR,hblk,hs⟩:=h1.dg;have hb:=ng (P:=P) (w:=w) (a:=a) (isS:=true) (cap:=cap) hl hh h2 h3 c0 c1 c2 cR;refine Qr hm (v:=.slice (if cap=l.toNat then some ⟨b,off,none⟩else(some ⟨b,off,none⟩:Option Addr).map (·.add (l.toNat*i.size))) (h.toNat-l.toNat) (cap-l.toNat)) ?_ ?_
  ·simp[execOp,Instr.sliceAt,Instr.slice,run_underlying hu,hv,hb,sizeOf,typeInfo,dn]
  split
  ·rename_i hor
   have ha:(if cap=l.toNat then some (⟨b,off,none⟩:Addr)else(some ⟨b,off,none⟩:Option Addr).map (·.add (l.toNat*i.size)))=some ⟨b,off+l.toNat*i.size,none⟩:=by
    obtain h'|h':=hor
    ·rw[if_neg zE];simp[bq]
    subst h';split<;>simp[bq]
   rw[ha];refine .bs hβ zE hblk ?_;have:(l.toNat+(cap-l.toNat))*i.size=cap*i.size:=by congr 1;omega
   rw[zzbl]at this;omega
  have hz:h.toNat-l.toNat=0:=zE
  rw[hz]
  have:au w γ (.sl .nn []) (.slice (if cap=l.toNat then some (⟨b,off,none⟩:Addr)else(some ⟨b,off,none⟩:Option Addr).map (·.add (l.toNat*i.size))) ([]:X2).length (cap-l.toNat)):=
   .sl b off i.size (fun _ _=>undef) (zzbi _) (fun hn=>by split at hn<;>simp at hn) (fun hn=>absurd rfl hn) (fun _ h=>by cases h) (fun i j c h=>by simp[Qs]at h) (fun i j c h=>by simp[Qs]at h) (by
    show _≠none;split<;>simp)
  exact this
 exact hc.elim
def v7(hm:aq N w0 an γ w B L)(hB:∀id cells,m.boxes[id]?=some cells->B id=some cells){id b:Nat}(hb:γ.β id=some b){arr:PP}{te:TypeId}(hh:w.heap[b]?=some (.cells arr te (0,0))){k:Nat}{c:AV}
  (hk:(m.boxes.getD id [])[k]?=some c):∃u,arr[k]?=some u/\au w γ c u/\u.oneCell'=true:=by
 cases gV:m.boxes[id]? with
 |none=>simp[List.getD,gV]at hk
 |some cells=>
  have:m.boxes.getD id []=cells:=by simp[List.getD,gV]
  rw[this]at hk;obtain⟨bN,e',g2,g3,g4⟩:=hm.box id cells b (hB id cells gV) hb;rw[hh]at g2;cases g2;have h1:=(zza.1 hk).1;have h2:=g3.1;have bK:k<arr.size:=by simp at h2;omega
  exact⟨arr[k],zzag bK,g3.2 _ c _ hk (by simp[bK]),g4 _ zd⟩
def VJ(hm:aq N w0 an γ w B L)(hB:∀id cells,m.boxes[id]?=some cells->B id=some cells){id b:Nat}(hb:γ.β id=some b){arr:PP}{te:TypeId}(hh:w.heap[b]?=some (.cells arr te (0,0))):
  (m.boxes.getD id []).length<=arr.size:=by
 rcases zzcc (m.boxes.getD id []).length with h|h
 ·omega
 obtain⟨u,h1,_⟩:=v7 hm hB hb hh (k:=(m.boxes.getD id []).length-1) (zzad zE);have:=(zzbr.1 h1).1;omega
def VK(hm:aq N w0 an γ w B L)(hB:∀id cells,m.boxes[id]?=some cells->B id=some cells){t te:TypeId}{n:Nat}{i:TypeInfo}{x:Operand}{lo hi:Option Operand}(hu:P.underlying t=some (.array n te))(dn:P.info? te=some i)
  (h1:au w γ (e (aB x)) (a.eval x))(h2:∀y∈lo,au w γ (e (aB y)) (a.eval y))(h3:∀y∈hi,au w γ (e (aB y)) (a.eval y))
  (hc:(rop P gl orc e m dst (.slA n i.size (aB x) (lo.map aB) (hi.map aB))).1):
  Step N w0 an P ⟨dst,.slice t x lo hi none,ty,pos,after,guard⟩ a γ w B L (rop P gl orc e m dst (.slA n i.size (aB x) (lo.map aB) (hi.map aB))).2:=by
 simp only[rop]at hc |-
 split at hc
 case h_2=>exact hc.elim
 rename_i id o' e1;rw[e1]at h1;try simp only[e1]
 split at hc
 case h_2=>exact hc.elim
 rename_i l h hl hh;try simp only[hl,hh]
 obtain⟨⟨c0,c1,c2⟩,cS,aM⟩:=hc;obtain⟨b,hβ,hv⟩:=h1.dN;have gV:m.boxes[id]?=some (m.boxes.getD id []):=by simp[aM]
 obtain⟨arr,zm,hblk,g3,g4⟩:=hm.box id _ b (hB id _ gV) hβ;have cR:=g3.1;simp only[zzbj]at cR;have hb:=ng (P:=P) (w:=w) (a:=a) (isS:=false) (cap:=n) hl hh h2 h3 c0 c1 c2 (zzaa n);refine Qr hm (v:=.slice (some (if n=l.toNat then⟨b,o',none⟩else⟨b,o'+l.toNat*i.size,none⟩)) (h.toNat-l.toNat) (n-l.toNat)) ?_ ?_
 ·simp[execOp,Instr.sliceAt,Instr.sureAddr,run_underlying hu,hv,hb,sizeOf,typeInfo,dn,bq]
 split
 ·rename_i hor
  have ha:(if n=l.toNat then(⟨b,o',none⟩:Addr)else⟨b,o'+l.toNat*i.size,none⟩)=⟨b,o'+l.toNat*i.size,none⟩:=by
   obtain h'|h':=hor
   ·rw[if_neg zE]
   subst h';split<;>simp
  rw[ha];refine .bs hβ zE hblk ?_;have:(l.toNat+(n-l.toNat))*i.size=n*i.size:=by congr 1;omega
  rw[zzbl]at this;omega
 have hz:h.toNat-l.toNat=0:=zE
 rw[hz]
 have:au w γ (.sl .nn []) (.slice (some (if n=l.toNat then⟨b,o',none⟩else⟨b,o'+l.toNat*i.size,none⟩)) ([]:X2).length (n-l.toNat)):=
  .sl b 0 i.size (fun _ _=>undef) (zzbi _) (fun hn=>by cases hn) (fun hn=>absurd rfl hn) (fun _ h=>by cases h) (fun i j c h=>by simp[Qs]at h) (fun i j c h=>by simp[Qs]at h) (by
   show _≠none;simp)
 exact this
def PY(hm:aq N w0 an γ w B L)(hB:∀id cells,m.boxes[id]?=some cells->B id=some cells){s d te:TypeId}{x:Operand}(hs:P.underlying s=some (.slice te))(hd:P.underlying d=some .string)(ht:P.underlying te=some (.int .u8))
  (h1:au w γ (e (aB x)) (a.eval x)){id off len sz:Nat}(e1:e (aB x)=.bs id off len sz){l:List UInt8}(hl:Ud (aW 1 len ((m.boxes.getD id []).drop off))=some l):
  Step N w0 an P ⟨dst,.convert s d x,ty,pos,after,guard⟩ a γ w B L (.str ⟨l.toArray⟩):=by
 rw[e1]at h1;obtain⟨b,cap,arr,zm,hβ,hv,cR,hblk,_⟩:=h1.dg;obtain⟨ns,ew,rfl⟩:=vW hl;have aH:len=ns.length:=by have:=congrArg List.length ew;simpa[Qdu]using this
 have VF:(loadCells ⟨b,off,none⟩ ns.length).run P w=.ok (ns.map (Value.int .u8)).toArray w:=by
  have:=run_loadCells_list (P:=P) (w:=w) ⟨b,off,none⟩ (ns.map (Value.int .u8)) fun j v hj=>?_
  ·simpa using this
  simp at hj;obtain⟨n,hn,rfl⟩:=hj;have ou:Qs (aW 1 len ((m.boxes.getD id []).drop off)) j 0=some (.int .u8 n):=by rw[ew];simp[Qs,hn]
  obtain⟨_,_,h3⟩:=Wi ou;rw[zzbo]at h3;obtain⟨u,h4,h5,_⟩:=v7 hm hB hβ hblk h3;rw[h5.aI]at h4;rw[bq,aN hblk];simpa using h4
 refine Qr hm (v:=.string ⟨(ns.map fun n=>UInt8.ofNat n.toNat).toArray⟩) ?_ (.str _);have aX:=run_bytesToString w ⟨b,off,none⟩ ns.length cap ns VF;rw[vX]at aX
 have:(⟨ByteArray.empty.data++(ns.map fun n=>UInt8.ofNat n.toNat).toArray⟩:ByteArray)=⟨(ns.map fun n=>UInt8.ofNat n.toNat).toArray⟩:=by
  have:ByteArray.empty.data=#[]:=rfl;rw[this];simp
 rw[this]at aX;rw[aH]at hv;simp[execOp,hv,convert,run_underlying hs,run_underlying hd,run_underlying ht,aX]
end
section
variable {N:Nat} {w0:fc} {an:Nat->Nat->Prop} {γ:G} {w:World} {B:Nat->QQ} {L:Nat->Option Nat} {P:Program} {o:Oper} {a:Act} {r:AV}
variable {dst:Option Tmp} {ty:TypeId} {pos:String} {after:Array Edge} {guard:Option (Nat×Bool)} {gl:Nat->AV} {orc:X1} {e:bM->AV} {m:AM}
def alu(P:Program)(k:TypeId)(kn:Nat):Prop:=(kn=0/\P.underlying k=some (.int .i64))\/
 (∃fs ks,P.underlying k=some (.struct fs)/\Wx P fs.toList 0=some ks/\(∀x∈ks,x=1)/\fs.size=kn/\kn≠0/\P.stoodInHeld k=false)
def kL{t:TypeId}{kn:Nat}{z:AV}(h:Fe P t=some (kn,z)):∃k v i zv,P.underlying t=some (.map k v)/\alu P k kn/\P.info? v=some i/\i.zero=some zv/\z=AW zv:=by
 unfold Fe at h;split at h
 case h_2=>cases h
 rename_i k v hu;split at h
 ·rename_i i hk hi;cases hz:i.zero with
  |none=>simp[hz]at h
  |some zv=>simp[hz]at h;obtain⟨rfl,rfl⟩:=h;exact⟨k,v,i,zv,hu,.inl ⟨rfl,hk⟩,hi,hz,rfl⟩
 ·rename_i fs i hk hi;cases IK:Wx P fs.toList 0 with
  |none=>simp[IK]at h
  |some ks=>
   simp only[IK]at h;by_cases hc:(ks.all (·==1)&&(fs.size !=0)&&!(P.stoodInHeld k))=true
   ·rw[if_pos hc]at h;simp only[zzai,zzbe,beq_iff_eq,bne_iff_ne,Bool.not_eq_true']at hc;cases hz:i.zero with
    |none=>rw[hz]at h;cases h
    |some zv=>
     rw[hz]at h;simp only[zzcf,Option.some.injEq,Prod.mk.injEq]at h;obtain⟨rfl,rfl⟩:=h;exact⟨k,v,i,zv,hu,.inr ⟨fs,ks,hk,IK,hc.1.1,rfl,hc.1.2,hc.2⟩,hi,hz,rfl⟩
   rw[if_neg hc]at h;cases h
 cases h
def Fl:∀{cs:PQ}{ns:P2},intsA cs=some ns->cs=ns.map (AV.int .i64)
 |[],ns,h=>by cases h;rfl
 |c::cs,ns,h=>by
  cases c<;>try(simp[intsA]at h;done)
  rename_i k n;cases k<;>try(simp[intsA]at h;done)
  simp only[intsA]at h;split at h
  ·rename_i ns' h';cases h;rw[Fl h'];rfl
  cases h
def CY{kn:Nat}{av:AV}{ns:P2}(h:keyA kn av=some ns):av=keyAV kn ns/\Wq kn ns:=by
 cases kn with
 |zero=>
  cases av<;>try(simp[keyA]at h;done)
  rename_i k n;cases k<;>try(simp[keyA]at h;done)
  cases h;exact⟨rfl,rfl⟩
 |succ kn=>
  cases av<;>try(simp[keyA]at h;done)
  rename_i cs;simp only[keyA]at h;split at h
  case h_2=>cases h
  rename_i ns' h';split at h
  case isFalse=>cases h
  cases h;exact⟨by rw[Fl h'];rfl,by assumption⟩
def PZ{ns:P2}:∀{vs:PH},ak w γ (ns.map (AV.int .i64)) vs->vs=ns.map (Value.int .i64):=by
 induction ns with
 |nil=>intro vs h;exact zzbc (by have:=h.1;simpa using this.symm)
 |cons n ns ih=>
  intro vs h;cases vs with
  |nil=>have:=h.1;simp at this
  |cons v vs=>
   have h0:=(h.2 0 (.int .i64 n) v rfl rfl).aI;rw[h0,ih (vs:=vs) ⟨by have:=h.1;simpa using this,fun i a u h1 h2=>h.2 (i+1) a u (Pi h1) (Pi h2)⟩];rfl
def v8(w:World)(γ:G):∀ns:P2,ak w γ (ns.map (AV.int .i64)) (ns.map (Value.int .i64))
 |[]=>ak.nil
 |n::ns=>ak.cons (.int .i64 n) (v8 w γ ns)
def qQ{kn:Nat}{ns:P2}{v:Value}(hk:Wq kn ns)(h:au w γ (keyAV kn ns) v):v=Ym kn ns:=by
 cases kn with
 |zero=>
  match ns,hk with
  |[n],_=>exact h.aI
 |succ kn=>
  obtain⟨arr,rfl,hr⟩:=au.dO (cs:=ns.map (AV.int .i64)) h;have:=PZ hr;simp only[Ym];congr 1;apply Array.ext';simpa using this
def A4{kn:Nat}{ns:P2}(hk:Wq kn ns):au w γ (keyAV kn ns) (Ym kn ns):=by
 cases kn with
 |zero=>
  match ns,hk with
  |[n],_=>exact .int .i64 n
 |succ kn=>
  have:=(v8 w γ ns);exact .agg zd fun i c v h1 h2=>this.2 i c v h1 (Pi h2)
def we:∀{fs:List Field}{i:Nat}{ks:P1},Wx P fs i=some ks->ks.length=fs.length
 |[],_,ks,h=>by cases h;rfl
 |f::fs,i,ks,h=>by
  simp only[Wx]at h;split at h
  case h_2=>cases h
  rename_i k ks' h0 h1 h2;cases h;simp[we h2]
def sI:∀{ks:P1}{as' bs:P2},(∀x∈ks,x=1)->as'.length=ks.length->bs.length=ks.length->Qcm ks (as'.map (AV.int .i64)) (bs.map (AV.int .i64))=true
 |[],[],[],_,_,_=>rfl
 |k::ks,a::as',b::bs,h,h1,h2=>by
  have:=h k zd;subst this;simp only[zzay,Qcm,kindF,decide_true,zzea];exact sI (fun x hx=>h x (by simp[hx])) (Pi h1) (Pi h2)
 |[],_::_,_,_,h,_=>by simp at h
 |[],_,_::_,_,_,h=>by simp at h
 |_::_,[],_,_,h,_=>by simp at h
 |_::_,_,[],_,_,h=>by simp at h
def A5:∀{as' bs:P2},as'.length=bs.length->eqFs (as'.map (AV.int .i64)) (bs.map (AV.int .i64))=decide (as'=bs)
 |[],[],_=>rfl
 |a::as',b::bs,h=>by
  simp only[zzay,eqFs,eqF,A5 (as':=as') (bs:=bs) (Pi h)];by_cases h1:a=b<;>by_cases h2:as'=bs<;>simp[h1,h2]
 |[],_::_,h=>by simp at h
 |_::_,[],h=>by simp at h
def P0{k:TypeId}{kn:Nat}{fs:Array Field}{ks:P1}(hu:P.underlying k=some (.struct fs))(hk:Wx P fs.toList 0=some ks)(h1:∀x∈ks,x=1)(hs:fs.size=kn)(hg:P.stoodInHeld k=false){as' bs:P2}(ha:as'.length=kn)(hb:bs.length=kn):
  (Op.equal k (.agg (as'.map (Value.int .i64)).toArray) (.agg (bs.map (Value.int .i64)).toArray)).run P w=.ok (decide (as'=bs)) w:=by
 have hf:P.fieldsOf k=fs:=by simp[Program.fieldsOf,hu]
 have hl:=we hk;simp only[zzbj]at hl;show(Op.equalIn 10000 k _ _).run P w=_;rw[run_equalIn_struct w 9999 k _ _ (by rw[hf];exact hu) hg,hf];rw[vZ (w:=w) (γ:=G0 fun _ _=>False) (d:=9998) fs.toList 0 ks (as'.map (AV.int .i64)) (bs.map (AV.int .i64)) hk (sI h1 zE zE) ?_ ?_,A5 zE]
 ·intro j c hj;simp at hj;obtain⟨n,hn,rfl⟩:=hj;exact⟨.int .i64 n,by simp[hn],.int .i64 n⟩
 intro j c hj;simp at hj;obtain⟨n,hn,rfl⟩:=hj;exact⟨.int .i64 n,by simp[hn],.int .i64 n⟩
def VL{n:Int}:∀{kvs:List (P2×AV)}{es:List MapEntry}(i:Nat),kvs.length=es.length->(∀(j:Nat)(k:P2)(c:AV)(x:MapEntry),kvs[j]?=some (k,c)->es[j]?=some x->Wq 0 k/\x.key=Ym 0 k/\au w γ c x.val)->
  (Xi [n] kvs i=none->Instr.findNow (.int .i64) (.int .i64 n) es i=some none)/\
  (∀j c,Xi [n] kvs i=some (j,c)->∃v,Instr.findNow (.int .i64) (.int .i64 n) es i=some (some (j,v))/\au w γ c v/\i<=j/\j<i+kvs.length/\kvs[j-i]?=some ([n],c))
 |[],[],i,_,_=>⟨fun _=>rfl,fun j c h=>by cases h⟩
 |[],_::_,_,h,_=>by simp at h
 |_::_,[],_,h,_=>by simp at h
 |(k,c)::kvs,x::es,i,hl,hk=>by
  obtain⟨g0,g1,g2⟩:=hk 0 k c x rfl rfl;obtain⟨ih1,ih2⟩:=VL (n:=n) (kvs:=kvs) (es:=es) (i+1) (Pi hl) fun j k' c' x' q1 q2=>hk (j+1) k' c' x' (Pi q1) (Pi q2)
  match k,g0 with
  |[k],_=>
   simp only[Ym]at g1;by_cases hnk:n=k
   ·subst hnk;have hf:Instr.findNow (.int .i64) (.int .i64 n) (x::es) i=some (some (i,x.val)):=by simp[Instr.findNow,Instr.sameNow,g1]
    refine⟨fun h=>by simp[Xi]at h,fun j c' h=>?_⟩;simp[Xi]at h;obtain⟨rfl,rfl⟩:=h;exact⟨x.val,hf,g2,zzaa _,zd,zd⟩
   have awL:(n==k)=false:=by simpa using hnk
   have hf:Instr.findNow (.int .i64) (.int .i64 n) (x::es) i=Instr.findNow (.int .i64) (.int .i64 n) es (i+1):=by simp[Instr.findNow,Instr.sameNow,g1,awL]
   rw[hf];have awM:¬[n]=[k]:=by simpa using hnk
   simp only[Xi,if_neg awM];refine⟨ih1,fun j c' h=>?_⟩;obtain⟨v,q1,q2,q3,q4,q5⟩:=ih2 j c' h;refine⟨v,q1,q2,zE,by simp;omega,?_⟩;rw[show j-i=(j-(i+1))+1 by omega];simpa using q5
def VM{kt:TypeId}{kn:Nat}{n:P2}(A6:∀k',Wq kn k'->(Op.equal kt (Ym kn n) (Ym kn k')).run P w=.ok (decide (n=k')) w):∀{kvs:List (P2×AV)}{es:List MapEntry}(i:Nat),kvs.length=es.length->
  (∀(j:Nat)(k:P2)(c:AV)(x:MapEntry),kvs[j]?=some (k,c)->es[j]?=some x->Wq kn k/\x.key=Ym kn k/\au w γ c x.val)->
  (Xi n kvs i=none->(Instr.findAsking kt (Ym kn n) es i).run P w=.ok none w)/\
  (∀j c,Xi n kvs i=some (j,c)->∃v,(Instr.findAsking kt (Ym kn n) es i).run P w=.ok (some (j,v)) w/\au w γ c v/\i<=j/\j<i+kvs.length/\kvs[j-i]?=some (n,c))
 |[],[],i,_,_=>⟨fun _=>by simp[Instr.findAsking],fun j c h=>by cases h⟩
 |[],_::_,_,h,_=>by simp at h
 |_::_,[],_,h,_=>by simp at h
 |(k,c)::kvs,x::es,i,hl,hk=>by
  obtain⟨g0,g1,g2⟩:=hk 0 k c x rfl rfl;obtain⟨ih1,ih2⟩:=VM A6 (kvs:=kvs) (es:=es) (i+1) (Pi hl) fun j k' c' x' q1 q2=>hk (j+1) k' c' x' (Pi q1) (Pi q2);have hq:=A6 k g0;rw[<- g1]at hq;by_cases hnk:n=k
  ·subst hnk;simp only[decide_true]at hq;have hf:(Instr.findAsking kt (Ym kn n) (x::es) i).run P w=.ok (some (i,x.val)) w:=by simp[Instr.findAsking,hq]
   refine⟨fun h=>by simp[Xi]at h,fun j c' h=>?_⟩;simp[Xi]at h;obtain⟨rfl,rfl⟩:=h;exact⟨x.val,hf,g2,zzaa _,zd,zd⟩
  simp only[hnk,decide_false]at hq;have hf:(Instr.findAsking kt (Ym kn n) (x::es) i).run P w=(Instr.findAsking kt (Ym kn n) es (i+1)).run P w:=by simp[Instr.findAsking,hq]
  rw[hf];simp only[Xi,if_neg hnk];refine⟨ih1,fun j c' h=>?_⟩;obtain⟨v,q1,q2,q3,q4,q5⟩:=ih2 j c' h;refine⟨v,q1,q2,zE,by simp;omega,?_⟩;rw[show j-i=(j-(i+1))+1 by omega];simpa using q5
def CZ{kt:TypeId}{kn:Nat}{n:P2}(hkt:alu P kt kn)(hn:Wq kn n){kvs:List (P2×AV)}{es:List MapEntry}(hl:kvs.length=es.length)
  (hk:∀(j:Nat)(k:P2)(c:AV)(x:MapEntry),kvs[j]?=some (k,c)->es[j]?=some x->Wq kn k/\x.key=Ym kn k/\au w γ c x.val):
  (Xi n kvs 0=none->(Instr.findKey kt (Ym kn n) es).run P w=.ok none w)/\
  (∀j c,Xi n kvs 0=some (j,c)->∃v,(Instr.findKey kt (Ym kn n) es).run P w=.ok (some (j,v)) w/\au w γ c v/\j<kvs.length/\kvs[j]?=some (n,c)):=by
 obtain⟨rfl,hu⟩|⟨fs,ks,hu,IK,h1,hs,h0,hg⟩:=hkt
 ·match n,hn with
  |[n],_=>
   obtain⟨f1,f2⟩:=VL (w:=w) (γ:=γ) (n:=n) 0 hl hk;refine⟨fun h=>MapKept.run_findKey hu (f1 h),fun j c h=>?_⟩;obtain⟨v,q1,q2,_,q4,q5⟩:=f2 j c h;exact⟨v,MapKept.run_findKey hu q1,q2,zE,Pi q5⟩
 cases kn with
 |zero=>exact absurd rfl h0
 |succ kn=>
  obtain⟨f1,f2⟩:=VM (w:=w) (γ:=γ) (P:=P) (kt:=kt) (n:=n) (kn:=kn+1) (fun k' zk=>P0 hu IK h1 hs hg hn zk) 0 hl hk;have e1:(Instr.findKey kt (Ym (kn+1) n) es).run P w=(Instr.findAsking kt (Ym (kn+1) n) es).run P w:=run_findKey_eq w (by simp[hu]) _ _;rw[e1];refine⟨f1,fun j c h=>?_⟩;obtain⟨v,q1,q2,_,q4,q5⟩:=f2 j c h;exact⟨v,q1,q2,zE,Pi q5⟩
def run_checkKey{b:Bool}{k:TypeId}{kn:Nat}{n:P2}(hk:alu P k kn)(hn:Wq kn n):(Instr.checkKey b 10000 k (Ym kn n)).run P w=.ok () w:=by
 obtain⟨rfl,hu⟩|⟨fs,ks,hu,IK,h1,hs,h0,hg⟩:=hk
 ·match n,hn with
  |[n],_=>
   have h:∀d,(Instr.checkKey b (d+1) k (.int .i64 n)).run P w=.ok () w:=fun d=>by
    unfold Instr.checkKey;simp[run_underlying hu]
   exact h 9999
 cases kn with
 |zero=>exact absurd rfl h0
 |succ kn=>
  have h:∀d,(Instr.checkKey b (d+1+1) k (.agg (n.map (Value.int .i64)).toArray)).run P w=.ok () w:=fun d=>by
   rw[Instr.checkKey];simp only[Sem.run_bind,run_underlying hu,Result.andThen_ok];rw[<- Array.forIn_toList];have qD:n.length=kn+1:=hn
   have ha:∀j,0<=j->j<0+fs.toList.length->∃n',(n.map (Value.int .i64)).toArray[j]?=some (.int .i64 n'):=fun j _ hj=>by
    simp at hj;exact⟨n[j]' zE,by simp[show j<n.length by omega]⟩
   generalize(n.map (Value.int .i64)).toArray=arr at ha;generalize fs.toList=Lf at IK ha;generalize(0:Nat)=i0 at IK ha;clear hs hu qD hn h0 hg;induction Lf generalizing i0 ks with
   |nil=>simp
   |cons f Lf ih=>
    simp only[Wx]at IK;split at IK
    case h_2=>cases IK
    rename_i k' ks' h0 dF ey;cases IK;simp only[zzai,beq_iff_eq,bne_iff_ne]at h0;have ih:=ih ks' (fun x hx=>h1 x (by simp[hx])) (i0+1) ey fun j dL ot=>ha j zE (by simp;omega);obtain⟨n',qD⟩:=ha i0 (zzaa _) zd;have hp:=vY (P:=P) (w:=w) dF qD
    have hc:(Instr.checkKey b (d+1) f.type (.int .i64 n')).run P w=.ok () w:=by
     rcases nc dF with⟨hu,_⟩|⟨_,hu,_⟩|⟨hu,_⟩<;>simp[Instr.checkKey,run_underlying hu]
    simp only[List.forIn_cons,Sem.run_bind,h0.2,ne_eq,not_false_eq_true,if_true,h0.1,hp,hc,Result.andThen_ok,Sem.run_pure];exact ih
  exact h 9998
def oS{α:Type}:∀{l:List α}{x y:α},(x,y)∈l.zip l->x=y/\x∈l
 |[],_,_,h=>by simp at h
 |a::l,x,y,h=>by
  rw[zzdy]at h;rcases zzao.1 h with h|h
  ·cases h;exact⟨rfl,zd⟩
  obtain⟨h1,h2⟩:=oS h;exact⟨h1,by simp[h2]⟩
def zL(d:Nat)(n:P2):Instr.sameBits (d+1+1) (.agg (n.map (Value.int .i64)).toArray) (.agg (n.map (Value.int .i64)).toArray)=true:=by
 simp only[Instr.sameBits,beq_self_eq_true,zzea,zzbe];rintro⟨x,y⟩ hxy
 have h:x=y/\x∈n.map (Value.int .i64):=by
  try simp only[List.toList_toArray]at hxy
  exact oS hxy
 obtain⟨rfl,h2⟩:=h;obtain⟨k,_,rfl⟩:=zzbh.1 h2;simp[Instr.sameBits]
def oT{old new:Value}{kn:Nat}{n:P2}(hn:Wq kn n)(h1:old=Ym kn n)(h2:new=Ym kn n):(Instr.keyThatStays old new).run P w=.ok new w:=by
 subst h1;subst h2;cases kn with
 |zero=>
  match n,hn with
  |[n],_=>simp[Instr.keyThatStays,Instr.sameBits,Ym]
 |succ kn=>
  have:=zL 9998 n;simp[Instr.keyThatStays,Ym,this]
def aq.ja(hm:aq N w0 an γ w B L){id kn:Nat}{kvs:List (P2×AV)}{v:Value}(h1:au w γ (.mp id) v)(hB:B id=some [.aL kn kvs]):
  ∃b es,γ.mm id=some b/\v=.map (some b)/\w.heap[b]?=some (.map es es.size)/\kvs.length=es.size/\
   ∀(i:Nat)(k:P2)(a:AV)(e:MapEntry),kvs[i]?=some (k,a)->es[i]?=some e->Wq kn k/\e.key=Ym kn k/\e.born=i/\au w γ a e.val:=by
 cases h1 with
 |mp h=>
  rename_i b;obtain⟨_,_,_,_,_,_,_,a,o,q1,q2,q3⟩:=hm.mm id b h;rw[hB]at q1;cases q1;cases o<;>try exact q3.elim
  rename_i es clock;obtain⟨rfl,q4,q5⟩:=q3;exact⟨b,es,h,rfl,q2,q4,q5⟩
def aq.NR(hm:aq N w0 an γ w B L){id mid n:Nat}{seen:P1}{v:Value}(h1:au w γ (.it id) v)(hB:B id=some [.mitr mid n seen]):
  ∃b mb,γ.mm id=some b/\v=.pointer (some ⟨b,0,none⟩)/\w.heap[b]?=some (.mapIter (some mb) n seen.toArray n)/\γ.mm mid=some mb:=by
 cases h1 with
 |it h=>
  rename_i b;obtain⟨_,_,_,_,_,_,_,a,o,q1,q2,q3⟩:=hm.mm id b h;rw[hB]at q1;cases q1;cases o<;>try exact q3.elim
  rename_i mp NN sn st;cases mp<;>try exact q3.elim
  rename_i mb;obtain⟨q4,rfl,rfl,rfl⟩:=q3;exact⟨b,mb,h,rfl,Pi q2,q4⟩
def Qec{kn:Nat}{kvs:List (P2×AV)}{es:Array MapEntry}(hl:kvs.length=es.size)(hk:∀(i:Nat)(k:P2)(a:AV)(e:MapEntry),kvs[i]?=some (k,a)->es[i]?=some e->Wq kn k/\e.key=Ym kn k/\e.born=i/\au w γ a e.val){i:Nat}(hi:i<es.size):es[i].born=i:=by
 have:=hk i (kvs[i]' zE).1 (kvs[i]' zE).2 es[i] (by simp[show i<kvs.length by omega]) (by simp[hi]);exact this.2.2.1
def wg{id:Nat}{x:AV}(hB:∀id cells,m.boxes[id]?=some cells->B id=some cells)(h:m.boxes.getD id []=[x]):B id=some [x]:=hB id _ (by
 cases hh:m.boxes[id]? with
 |none=>simp[List.getD,hh]at h
 |some c=>simp[List.getD,hh]at h;rw[h])
def P3(hm:aq N w0 an γ w B L)(hB:∀id cells,m.boxes[id]?=some cells->B id=some cells){t:TypeId}{kn:Nat}{z:AV}{x k:Operand}{ok:Bool}(ht:Fe P t=some (kn,z))(h1:au w γ (e (aB x)) (a.eval x))(h2:au w γ (e (aB k)) (a.eval k))
  (hc:(rop P gl orc e m dst (.look kn ok z (aB x) (aB k))).1):
  Step N w0 an P ⟨dst,.lookup t x k ok,ty,pos,after,guard⟩ a γ w B L (rop P gl orc e m dst (.look kn ok z (aB x) (aB k))).2:=by
 simp only[rop]at hc |-
 split at hc
 case h_2=>exact hc.elim
 rename_i id n e1 e2;rw[e1]at h1;obtain⟨e3,hn⟩:=CY e2;rw[e3]at h2;try simp only[e1,e2]
 split at hc
 case h_2=>exact hc.elim
 rename_i AX kvs fI;simp only at hc;subst hc;try simp only[fI]
 obtain⟨kt,vt,i,zv,hu,hk,hi,hz,rfl⟩:=kL ht;obtain⟨b,es,hb,hv,q2,q3,q4⟩:=hm.ja h1 (wg hB fI)
 obtain⟨f1,f2⟩:=CZ (w:=w) (γ:=γ) (P:=P) hk hn (kvs:=kvs) (es:=es.toList) (Pi q3) fun j k' c x' g1 g2=>by
  obtain⟨p1,p2,_,p3⟩:=q4 j k' c x' g1 (Pi g2);exact⟨p1,p2,p3⟩
 have cB:=MapKept.run_getObj_map (P:=P) q2;have kM:∀b,(Instr.checkKey b 10000 kt (Ym AX n)).run P w=.ok () w:=fun b=>run_checkKey hk hn;have SQ:=qQ hn h2;cases hf:Xi n kvs 0 with
 |none=>
  have P4:=f1 hf
  have aX:(execOp a.eval ⟨dst,.lookup t x k ok,ty,pos,after,guard⟩).run P w=.ok (.value (if ok then .tuple #[zv,.bool false]else zv)) w:=by
   simp[execOp,Instr.lookup,run_underlying hu,hv,SQ,cB,kM,P4,zeroValue,typeInfo,hi,hz]
  refine Qr hm aX ?_;cases ok
  ·exact Js w γ zv
  exact(ak.cons (Js w γ zv) (ak.cons (.bool false) ak.nil)).zK
 |some p=>
  obtain⟨j,c⟩:=p;obtain⟨vv,P4,g2,_⟩:=f2 j c hf
  have aX:(execOp a.eval ⟨dst,.lookup t x k ok,ty,pos,after,guard⟩).run P w=.ok (.value (if ok then .tuple #[vv,.bool true]else vv)) w:=by
   simp[execOp,Instr.lookup,run_underlying hu,hv,SQ,cB,kM,P4]
  refine Qr hm aX ?_;cases ok
  ·exact g2
  exact(ak.cons g2 (ak.cons (.bool true) ak.nil)).zK
def P5(hm:aq N w0 an γ w B L)(hB:∀id cells,m.boxes[id]?=some cells->B id=some cells){x:Operand}(h1:au w γ (e (aB x)) (a.eval x))
  (hc:(rop P gl orc e m dst (.entr (aB x))).1):
  Step N w0 an P ⟨dst,.entry x,ty,pos,after,guard⟩ a γ w B L (rop P gl orc e m dst (.entr (aB x))).2:=by
 simp only[rop]at hc |-
 split at hc
 case h_2=>exact hc.elim
 rename_i id e1;rw[e1]at h1;try simp only[e1]
 split at hc
 case h_2=>exact hc.elim
 rename_i mid n seen fI;try simp only[fI]
 split at hc
 case h_2=>exact hc.elim
 rename_i kn kvs i gV ow;try simp only[gV,ow]
 obtain⟨Ez,bU⟩:=hc;obtain⟨b,mb,hb,hv,q1,q2⟩:=hm.NR h1 (wg hB fI);obtain⟨b',es,cA,A7,q3,q4,q5⟩:=hm.ja (v:=.map (some mb)) (.mp q2) (wg hB gV);cases A7;have hie:i<es.size:=zE
 have VN:=Qec q4 q5 hie
 obtain⟨ini,awN⟩:∃ini,seen=ini++[i]:=by
  rw[zzfg]at ow;exact ow
 have ara:seen.toArray=ini.toArray.push es[i].born:=by rw[VN,awN];simp
 have qE:(es.toList.map (·.born)).Nodup:=by
  have:es.toList.map (·.born)=List.range es.size:=by
   apply zzey
   ·simp
   intro j h1 h2;simp at h1;simp[Qec q4 q5 h1]
  rw[this];exact zzdo
 have aX:=run_entry_at (P:=P) w b mb n ini.toArray es es.size es[i] (by rw[<- ara,q1];congr 2;omega) q3 zd qE;obtain⟨p1,p2,_,p3⟩:=q5 i (kvs[i]' zE).1 (kvs[i]' zE).2 es[i] (by simp[show i<kvs.length by omega]) (by simp[hie]);have VH:kvs.getD i ([],.junk)=kvs[i]' zE:=by simp[List.getD,show i<kvs.length by omega]
 rw[VH];refine Qr hm (v:=.tuple #[es[i].key,es[i].val]) (by simp[execOp,hv,aX]) ?_;rw[p2];exact(ak.cons (A4 p1) (ak.cons p3 ak.nil)).zK
end
section
variable {N:Nat} {w0:fc} {an:Nat->Nat->Prop} {γ:G} {w:World} {B:Nat->QQ} {L:Nat->Option Nat} {P:Program} {o:Oper} {a:Act} {r:AV}
variable {dst:Option Tmp} {ty:TypeId} {pos:String} {after:Array Edge} {guard:Option (Nat×Bool)} {gl:Nat->AV} {orc:X1} {e:bM->AV} {m:AM}
def qR{xs:Array Operand}(h:∀x∈xs,au w γ (e (aB x)) (a.eval x)):ak w γ ((xs.toList.map aB).map e) (xs.map a.eval).toList:=by
 refine⟨zd,fun i c v h1 h2=>?_⟩;simp at h1 h2;obtain⟨x,hx,rfl⟩:=h1;obtain⟨x',kH,rfl⟩:=h2;rw[hx]at kH;cases kH;exact h x (zzcx hx)
def Qan{f:FuncId}{args:PP}(h:bw P f):(callFunc f args).run P w=.ok (.enter f args) w:=by
 obtain⟨fn,h1,h2,h3⟩:=h;have Fm:¬fn.body=none:=by intro h;simp[h]at h2
 have h3':¬fn.name= "runtime.NumGoroutine":=by simpa using h3
 simp[callFunc,h1,Fm,h3']
def P6(hm:aq N w0 an γ w B L)(hB:∀id cells,m.boxes[id]?=some cells->B id=some cells)(eG:∀g,au w γ.cW (gl g) (.pointer (some ⟨g,0,none⟩))){f:Operand}{args:Array Operand}{ts:Array TypeId}
  (h1:au w γ (e (aB f)) (a.eval f))(h2:∀x∈args,au w γ (e (aB x)) (a.eval x))(hc:(rop P gl orc e m dst (.call (aB f) (args.toList.map aB))).1):
  Step N w0 an P ⟨dst,.call ⟨.value f,args,ts⟩,ty,pos,after,guard⟩ a γ w B L (rop P gl orc e m dst (.call (aB f) (args.toList.map aB))).2:=by
 simp only[rop]at hc |-
 split at hc
 case h_2=>exact hc.elim
 rename_i g first cap e1
 try simp only[e1]
 rw[e1]at h1;obtain⟨fa,ca,hv,r1,r2⟩:=h1.mX;have iV:=(r1.append (qR h2)).append r2;generalize orc (dst.getD 0) g ((first++(args.toList.map aB).map e++cap).map (bE m 6))=x at hc
 have aX:bw P g->(execOp a.eval ⟨dst,.call ⟨.value f,args,ts⟩,ty,pos,after,guard⟩).run P w=.ok (.enter g ((fa.toList++(args.map a.eval).toList++ca.toList).toArray)) w:=fun oU=>by
  simp[execOp,resolve,hv,Deferred.ofValue,invoke,Qan oU]
 have pure:∀r,(Pure P gl g ((first++(args.toList.map aB).map e++cap).map (bE m 6)) r/\((first++(args.toList.map aB).map e++cap).any (Yf 6)=true->flat r=true))->Step N w0 an P ⟨dst,.call ⟨.value f,args,ts⟩,ty,pos,after,guard⟩ a γ w B L r:=fun r⟨hp,gG⟩rd next Q hk=>
  Ff (aX hp.1) (JZ hm hB eG iV hp gG fun v w' γ' h3 h4 h5=>hk v w' γ' h3 h4 h5)
 cases x with
 |gd b r=>
  intro rd next Q hk
  refine Ff (aX hc.1) ((hc.2 N w0 an γ w B L _ hm hB eG iV).mono ?_);rintro en w' ⟨v,γ',rfl,h3,h4,h5⟩;exact hk v w' γ' h3 h4 h5
 |_=>exact pure _ hc
def P7(hm:aq N w0 an γ w B L){x:Operand}{t:TypeId}(hu:P.underlying t=some .string)(h1:au w γ (e (aB x)) (a.eval x))(hc:(rop P gl orc e m dst (.lenS (aB x))).1):
  Step N w0 an P ⟨dst,.call ⟨.builtin .len,#[x],#[t]⟩,ty,pos,after,guard⟩ a γ w B L (rop P gl orc e m dst (.lenS (aB x))).2:=by
 simp only[rop]at hc |-
 split at hc
 case h_2=>exact hc.elim
 rename_i s e1;rw[e1]at h1;exact Qr hm (v:=.int .i64 s.size) (by simp[execOp,resolve,invoke,builtin,Builtin.len_,run_underlying hu,h1.cE,goInt]) (.int _ _)
def VO(hm:aq N w0 an γ w B L){x:Operand}{t te:TypeId}(hu:P.underlying t=some (.slice te))(h1:au w γ (e (aB x)) (a.eval x))(hc:(rop P gl orc e m dst (.len (aB x))).1):
  Step N w0 an P ⟨dst,.call ⟨.builtin .len,#[x],#[t]⟩,ty,pos,after,guard⟩ a γ w B L (rop P gl orc e m dst (.len (aB x))).2:=by
 simp only[rop]at hc |-
 split at hc
 case h_3=>exact hc.elim
 case h_2=>
  rename_i id off len sz e1;rw[e1]at h1;try simp only[e1]
  obtain⟨b,cap,arr,zm,hb,hv,_⟩:=h1.dg;exact Qr hm (v:=.int .i64 len) (by simp[execOp,resolve,invoke,builtin,Builtin.len_,run_underlying hu,hv,goInt]) (.int _ _)
 rename_i rt rows e1;rw[e1]at h1;try simp only[e1]
 obtain⟨a',cap,b,off,sz,cv,hv,_⟩:=h1.cr;exact Qr hm (v:=.int .i64 rows.length) (by simp[execOp,resolve,invoke,builtin,Builtin.len_,run_underlying hu,hv,goInt]) (.int _ _)
def aeg(hm:aq N w0 an γ w B L){x y:Operand}{ts:Array TypeId}(h1:au w γ (e (aB x)) (a.eval x))(h2:au w γ (e (aB y)) (a.eval y))(hc:(rop P gl orc e m dst (.mn (aB x) (aB y))).1):
  Step N w0 an P ⟨dst,.call ⟨.builtin .min,#[x,y],ts⟩,ty,pos,after,guard⟩ a γ w B L (rop P gl orc e m dst (.mn (aB x) (aB y))).2:=by
 simp only[rop]at hc |-
 split at hc
 case h_2=>exact hc.elim
 rename_i k p k' q e1 e2;rw[e1]at h1;rw[e2]at h2;exact Qr hm (v:=.int k (if q<p then q else p)) (by simp[execOp,resolve,invoke,builtin,Builtin.min_,Builtin.min2,h1.aI,h2.aI]) (.int _ _)
def aeh(hm:aq N w0 an γ w B L){x y:Operand}{ts:Array TypeId}(h1:au w γ (e (aB x)) (a.eval x))(h2:au w γ (e (aB y)) (a.eval y))(hc:(rop P gl orc e m dst (.mx (aB x) (aB y))).1):
  Step N w0 an P ⟨dst,.call ⟨.builtin .max,#[x,y],ts⟩,ty,pos,after,guard⟩ a γ w B L (rop P gl orc e m dst (.mx (aB x) (aB y))).2:=by
 simp only[rop]at hc |-
 split at hc
 case h_2=>exact hc.elim
 rename_i k p k' q e1 e2;rw[e1]at h1;rw[e2]at h2;exact Qr hm (v:=.int k (if p<q then q else p)) (by simp[execOp,resolve,invoke,builtin,Builtin.max_,Builtin.max2,h1.aI,h2.aI]) (.int _ _)
def Fo(hm:aq N w0 an γ w B L){big:Bool}{x y z:Operand}{ts:Array TypeId}(h1:au w γ (e (aB x)) (a.eval x))(h2:au w γ (e (aB y)) (a.eval y))(h3:au w γ (e (aB z)) (a.eval z))(hc:(rop P gl orc e m dst (.mm3 big (aB x) (aB y) (aB z))).1):
  Step N w0 an P ⟨dst,.call ⟨.builtin (if big=true then .max else .min),#[x,y,z],ts⟩,ty,pos,after,guard⟩ a γ w B L (rop P gl orc e m dst (.mm3 big (aB x) (aB y) (aB z))).2:=by
 simp only[rop]at hc |-
 split at hc
 case h_2=>exact hc.elim
 rename_i k p k' q k'' r e1 e2 e3;rw[e1]at h1;rw[e2]at h2;rw[e3]at h3;cases big
 ·exact Qr hm (v:=.int k (U2 false (U2 false p q) r)) (by simp[execOp,resolve,invoke,builtin,Builtin.min_,Builtin.min2,h1.aI,h2.aI,h3.aI,U2]) (.int _ _)
 exact Qr hm (v:=.int k (U2 true (U2 true p q) r)) (by simp[execOp,resolve,invoke,builtin,Builtin.max_,Builtin.max2,h1.aI,h2.aI,h3.aI,U2]) (.int _ _)
def Jo{n b:Nat}(hb:b≠0)(h:(3*n+4000)*b<=562949953421312):n<=9223372036854775807:=by
 have:(3*n+4000)*1<=(3*n+4000)*b:=Nat.mul_le_mul_left _ (Nat.one_le_iff_ne_zero.2 hb);omega
def VQ(hm:aq N w0 an γ w B L){s x:Operand}{t te:TypeId}{i:TypeInfo}{z:Value}(hu:P.underlying t=some (.slice te))(hi:P.info? te=some i)(hz:i.zero=some z)(dG:i.bytes≠0)
  (h1:au w γ (e (aB s)) (a.eval s))(h2:au w γ (e (aB x)) (a.eval x))(hc:(rop P gl orc e m dst (.app i.size i.bytes (aB s) (aB x))).1):
  Step N w0 an P ⟨dst,.call ⟨.builtin .append,#[s,x],#[t,t]⟩,ty,pos,after,guard⟩ a γ w B L (rop P gl orc e m dst (.app i.size i.bytes (aB s) (aB x))).2:=by
 simp only[rop]at hc |-
 split at hc
 case h_2=>exact hc.elim
 rename_i rt rows U5 aC e1 e2;rw[e1]at h1;rw[e2]at h2;obtain⟨hfu,hr,cS⟩:=hc;replace h1:=h1.ux hfu;obtain⟨v,w',γ',g1,g2,g3,g4⟩:=alq (ty:=ty) hm hu hi hz h1 h2 hr cS (Jo dG cS);exact A1 g3 g2 (by simp[execOp,resolve,invoke,builtin,g1]) g4
def Qcs(hm:aq N w0 an γ w B L)(hB:∀id cells,m.boxes[id]?=some cells->B id=some cells)(eG:∀g,au w γ.cW (gl g) (.pointer (some ⟨g,0,none⟩)))
  (he:∀x∈o.op.operands,au w γ (e (aB x)) (a.eval x))(hc:(rop P gl orc e m o.dst (tr P o)).1):Step N w0 an P o a γ w B L (rop P gl orc e m o.dst (tr P o)).2:=by
 obtain⟨dst,op,ty,pos,after,guard⟩:=o;cases op with
 |move x=>exact Qr hm (by simp[execOp]) (he x (by simp[Op.operands]))
 |assign x=>exact Qr hm (by simp[execOp]) (he x (by simp[Op.operands]))
 |pick c x y=>exact PM hm (he c (by simp[Op.operands])) (he x (by simp[Op.operands])) (he y (by simp[Op.operands])) hc
 |load t x=>exact PN hm hB (he x (by simp[Op.operands])) hc
 |fieldAddr t x f=>exact J2 hm (he x (by simp[Op.operands])) hc
 |field t x f=>exact U7 hm (he x (by simp[Op.operands])) hc
 |indexAddr t x y=>exact J3 hm (he x (by simp[Op.operands])) (he y (by simp[Op.operands])) hc
 |index t x y=>exact PO hm (he x (by simp[Op.operands])) (he y (by simp[Op.operands])) hc
 |binOp op t x y t'=>
  have h1:=he x (by simp[Op.operands]);have h2:=he y (by simp[Op.operands]);simp only[tr]at hc |-
  split at hc
  ·rename_i hu;exact PR hm hu h1 h2 hc
  ·exact Fj hm h1 h2 hc
  ·exact Fj hm h1 h2 hc
  ·rename_i te hu;exact PW hm hu h1 hc
  ·rename_i te hu;exact PX hm hu h1 hc
  ·rename_i fs hu;exact VG hm hu h1 h2 hc
  exact hc.elim
 |unOp op t x=>exact aee hm (he x (by simp[Op.operands])) hc
 |convert s d x=>
  have h1:=he x (by simp[Op.operands]);simp only[tr]at hc |-
  split at hc
  ·rename_i k0 k hs hd;exact PS hm hs hd h1 hc
  ·rename_i te hs hd;split at hc
   ·rename_i ht;cases hx:e (aB x)with
    |sl rt rows=>exact VE hm hs hd ht h1 ⟨rt,rows,hx⟩ hc
    |bs id off len sz=>
     simp only[rop,hx]at hc |-
     split at hc
     ·rename_i l hl;try simp only[hl]
      exact PY hm hB hs hd ht h1 hx hl
     exact hc.elim
    |_=>simp[rop,hx]at hc
   exact hc.elim
  exact hc.elim
 |lookup t x k ok=>
  have h1:=he x (by simp[Op.operands]);have h2:=he k (by simp[Op.operands]);simp only[tr]at hc |-
  split at hc
  ·rename_i v z ht;exact P3 hm hB ht h1 h2 hc
  exact hc.elim
 |entry x=>exact P5 hm hB (he x (by simp[Op.operands])) hc
 |next x s=>cases s<;>exact hc.elim
 |build t parts=>exact J4 hm (fun p hp=>he p.2 (by simp[Op.operands];exact⟨p.1,hp⟩)) hc
 |buildSlice t len parts=>exact VB hm hB (fun p hp=>he p.2 (by simp[Op.operands];exact⟨p.1,hp⟩)) hc
 |makeFunc fn first cap=>
  cases fn with
  |func f=>exact PT hm (fun x hx=>he x (by simp[Op.operands,hx])) (fun x hx=>he x (by simp[Op.operands,hx]))
  |_=>exact hc.elim
 |extract x i=>exact Vc hm (he x (by simp[Op.operands])) hc
 |nilCheck x=>exact PU hm (he x (by simp[Op.operands])) hc
 |slice t x lo hi mx=>
  cases mx with
  |none=>
   simp only[tr]at hc |-
   split at hc
   ·rename_i hu;exact VA hm (he x (by simp[Op.operands])) (fun y hy=>he y (by simp at hy;simp[Op.operands,hy])) (fun y hy=>he y (by simp at hy;simp[Op.operands,hy])) hu hc
   ·rename_i te hu;split at hc
    ·rename_i i dn;exact VI hm hu dn (he x (by simp[Op.operands])) (fun y hy=>he y (by simp at hy;simp[Op.operands,hy])) (fun y hy=>he y (by simp at hy;simp[Op.operands,hy])) hc
    exact hc.elim
   ·rename_i n te hu;split at hc
    ·rename_i i dn;exact VK hm hB hu dn (he x (by simp[Op.operands])) (fun y hy=>he y (by simp at hy;simp[Op.operands,hy])) (fun y hy=>he y (by simp at hy;simp[Op.operands,hy])) hc
    exact hc.elim
   exact hc.elim
  |some mx=>exact hc.elim
 |call c=>
  obtain⟨callee,args,ts⟩:=c;have nh:∀x∈args,au w γ (e (aB x)) (a.eval x):=fun x hx=>he x (by simp[Op.operands,Call.operands,hx]);cases callee with
  |value f=>exact P6 hm hB eG (he f (by simp[Op.operands,Call.operands])) nh hc
  |invoke recv name=>exact hc.elim
  |builtin b=>
   cases b<;>first|exact hc.elim|skip
   case append=>
    simp only[tr,Zp]at hc |-
    split at hc
    case h_2=>exact hc.elim
    rename_i s x t t' ha ht;split at hc
    case h_2=>exact hc.elim
    rename_i te zm hu hu';split at hc
    case h_2=>exact hc.elim
    rename_i i hi;split at hc
    case isFalse=>exact hc.elim
    rename_i bV;try rw[if_pos bV]
    simp only[zzai,beq_iff_eq,bne_iff_ne]at bV;obtain⟨⟨⟨rfl,hz⟩,_⟩,dG⟩:=bV;obtain rfl:args=#[s,x]:=by cases args;simp_all
    obtain rfl:ts=#[t,t]:=by cases ts;simp_all
    cases fV:i.zero with
    |none=>simp[fV]at hz
    |some z=>exact VQ hm hu hi fV dG (nh s zd) (nh x zd) hc
   case copy=>
    simp only[tr,Zp]at hc;repeat' split at hc
    all_goals exact hc.elim
   case clear=>
    simp only[tr,Zp]at hc;repeat' split at hc
    all_goals exact hc.elim
   case len=>
    simp only[tr,Zp]at hc |-
    split at hc
    case h_2=>exact hc.elim
    rename_i x t ha ht;obtain rfl:args=#[x]:=by cases args;simp_all
    obtain rfl:ts=#[t]:=by cases ts;simp_all
    split at hc
    ·rename_i hu;exact P7 hm hu (nh x zd) hc
    ·rename_i te hu;exact VO hm hu (nh x zd) hc
    exact hc.elim
   case max=>
    simp only[tr,Zp]at hc |-
    split at hc
    case h_3=>exact hc.elim
    ·rename_i x y ha;obtain rfl:args=#[x,y]:=by cases args;simp_all
     exact aeh hm (nh x zd) (nh y zd) hc
    rename_i x y z ha;obtain rfl:args=#[x,y,z]:=by cases args;simp_all
    exact Fo (big:=true) hm (nh x zd) (nh y zd) (nh z zd) hc
   case min=>
    simp only[tr,Zp]at hc |-
    split at hc
    case h_3=>exact hc.elim
    ·rename_i x y ha;obtain rfl:args=#[x,y]:=by cases args;simp_all
     exact aeg hm (nh x zd) (nh y zd) hc
    rename_i x y z ha;obtain rfl:args=#[x,y,z]:=by cases args;simp_all
    exact Fo (big:=false) hm (nh x zd) (nh y zd) (nh z zd) hc
 |makeMap t r=>cases r<;>first|exact hc.elim|(simp only[tr]at hc;split at hc<;>exact hc.elim)
 |makeSlice t l c=>
  simp only[tr]at hc;repeat' split at hc
  all_goals exact hc.elim
 |_=>first|exact hc.elim|(simp only[tr]at hc;split at hc<;>exact hc.elim)
end
end Go.Abs
