import Derived.Test.YthjppoincojfkaaGreatDoorRTMB
set_option linter.all false
namespace Go.Abs
open Go Go.RowKit
section
variable {N:Nat} {w0:eO} {an:Nat->Nat->Prop} {γ:G} {w:World} {B:Nat->PH} {L:Nat->Option Nat} {P:Program} {o:Oper} {a:Act} {r:AV}
variable {dst:Option Tmp} {ty:TypeId} {pos:String} {after:Array Edge} {guard:Option (Nat×Bool)} {gl:Nat->AV} {orc:UV} {e:bE->AV} {m:AM}
def U7(hm:au N w0 an γ w B L){t:TypeId}{x:Operand}{f:Nat}(h1:aA w γ (e (aC x)) (a.eval x))
  (hc:(rop P gl orc e m dst (tr P ⟨dst,.field t x f,ty,pos,after,guard⟩)).1):
  Step N w0 an P ⟨dst,.field t x f,ty,pos,after,guard⟩ a γ w B L (rop P gl orc e m dst (tr P ⟨dst,.field t x f,ty,pos,after,guard⟩)).2:=by
 simp only[tr]at hc |-
 split at hc
 case h_2=>exact hc.elim
 rename_i fields hu;split at hc
 case h_2=>exact hc.elim
 rename_i fl eZ;split at hc
 case h_2=>exact hc.elim
 rename_i i d hi hd
 have main:∀(agg:Bool)(n:Nat),Jq P fl.type=agg->(agg=true->n=i.size)->(rop P gl orc e m dst (.fld agg fl.offset n (aC x))).1->
   Step N w0 an P ⟨dst,.field t x f,ty,pos,after,guard⟩ a γ w B L (rop P gl orc e m dst (.fld agg fl.offset n (aC x))).2:=by
  intro agg n bH hn hc;simp only[rop]at hc |-
  split at hc
  case h_2=>exact hc.elim
  rename_i cs he;rw[he]at h1;obtain⟨arr,hv,hr⟩:=h1.gj;obtain⟨fA,Ct⟩:=hc;have zw:=hr.drop fl.offset;cases agg with
  |true=>
   have AD:=hn rfl;subst AD;refine Qs hm (v:=.agg (arr.extract fl.offset (fl.offset+i.size))) ?_ ?_
   ·unfold Jq at bH;rw[hd]at bH;cases d<;>simp at bH<;>simp[execOp,hv,Instr.field,run_underlying hu,eZ,asAgg,part,isAgg,run_underlying hd,sizeOf,typeInfo,hi]
   simp only[Vk,if_true];refine ak.Pz ?_;have:=zw.take i.size;simpa[zzfu,List.extract]using this
  |false=>
   have qB:=Ct rfl;subst qB
   have aH:fl.offset<arr.size:=by
    rw[zzas,zzcy]at fA;have:=hr.1;simp at this;omega
   have hu':arr[fl.offset]?=some arr[fl.offset]:=zzah aH;refine Qs hm (v:=arr[fl.offset]) ?_ ?_
   ·unfold Jq at bH;rw[hd]at bH;cases d<;>simp at bH<;>simp[execOp,hv,Instr.field,run_underlying hu,eZ,asAgg,part,isAgg,run_underlying hd,hu']
   simp only[Vk];have:=zw.get 0;simp[List.getD]at this |-
   simpa[aH]using this
 cases bH:Jq P fl.type with
 |true=>simp only[bH,if_true]at hc |-;exact main true _ bH (fun _=>rfl) hc
 |false=>simp only[bH]at hc |-;exact main false 1 bH (fun h=>by cases h) hc
def PD(hm:au N w0 an γ w B L){t:TypeId}{x y:Operand}(h1:aA w γ (e (aC x)) (a.eval x))(h2:aA w γ (e (aC y)) (a.eval y))
  (hc:(rop P gl orc e m dst (tr P ⟨dst,.index t x y,ty,pos,after,guard⟩)).1):
  Step N w0 an P ⟨dst,.index t x y,ty,pos,after,guard⟩ a γ w B L (rop P gl orc e m dst (tr P ⟨dst,.index t x y,ty,pos,after,guard⟩)).2:=by
 simp only[tr]at hc |-
 split at hc
 case h_3=>exact hc.elim
 case h_2=>
  rename_i len te hu;split at hc
  case h_2=>exact hc.elim
  rename_i j d hj hd
  have main:∀(agg:Bool)(sz:Nat),Jq P te=agg->j.size=sz->(rop P gl orc e m dst (.idxA agg len sz (aC x) (aC y))).1->
    Step N w0 an P ⟨dst,.index t x y,ty,pos,after,guard⟩ a γ w B L (rop P gl orc e m dst (.idxA agg len sz (aC x) (aC y))).2:=by
   intro agg sz bH hsz hc;subst hsz;simp only[rop]at hc |-
   split at hc
   case h_2=>exact hc.elim
   rename_i cs k n e1 e2;rw[e1]at h1;rw[e2]at h2;obtain⟨arr,hv,hr⟩:=h1.gj;obtain⟨⟨gq,qB⟩,fA,Ct⟩:=hc;have zw:=hr.drop (n.toNat*j.size);cases agg with
   |true=>
    refine Qs hm (v:=.agg (arr.extract (n.toNat*j.size) (n.toNat*j.size+j.size))) ?_ ?_
    ·unfold Jq at bH;rw[hd]at bH;cases d<;>simp at bH<;>simp[execOp,hv,h2.aI,Instr.index,run_underlying hu,asIntOf,gq,qB,asAgg,part,isAgg,run_underlying hd,sizeOf,typeInfo,hj]
    simp only[Vk,if_true];refine ak.Pz ?_;have:=zw.take j.size;simpa[zzfu,List.extract]using this
   |false=>
    have azf:=Ct rfl
    have aH:n.toNat*j.size<arr.size:=by
     rw[zzas,zzcy]at fA;have:=hr.1;simp at this;omega
    have hu':arr[n.toNat*j.size]?=some arr[n.toNat*j.size]:=zzah aH;refine Qs hm (v:=arr[n.toNat*j.size]) ?_ ?_
    ·unfold Jq at bH;rw[hd]at bH;cases d<;>simp at bH<;>simp[execOp,hv,h2.aI,Instr.index,run_underlying hu,asIntOf,gq,qB,asAgg,part,isAgg,run_underlying hd,sizeOf,typeInfo,hj,hu']
    simp only[Vk];have:=zw.get 0;simp[List.getD]at this |-
    simpa[aH]using this
  cases bH:Jq P te with
  |true=>simp only[bH,if_true]at hc |-;exact main true _ bH rfl hc
  |false=>
   simp only[bH,zzbi,if_false]at hc |-
   split at hc
   ·rename_i h0;have zx:j.size=1:=by simpa using h0
    rw[ac h0];exact main false 1 bH zx hc
   exact hc.elim
 rename_i hu;simp only[rop]at hc |-
 split at hc
 case h_2=>exact hc.elim
 rename_i s k n e1 e2;rw[e1]at h1;rw[e2]at h2;obtain⟨gq,qB⟩:=hc;have ah:n.toNat<s.size:=zE
 have hg:s[n.toNat]?=some (s.data.toList.getD n.toNat 0):=by
  have h3:n.toNat<s.data.size:=ah;have:s[n.toNat]?=some s[n.toNat]:=by simp[ah]
  rw[this];congr 1
  have h4:s.data.toList.getD n.toNat 0=s.data[n.toNat]:=by
   show(s.data.toList[n.toNat]?).getD 0=_;rw[zzce,zzah h3];rfl
  rw[h4];rfl
 refine Qs hm (v:=.int .u8 (s.data.toList.getD n.toNat 0).toNat) ?_ (.int _ _);simp[execOp,h1.cp,h2.aI,Instr.index,asIntOf,run_underlying hu,gq,hg]
def U8{op:BinOp}{k:IntKind}{x y:Int}{t:TypeId}(dh:op≠.shl/\op≠.shr)(hc:(binI op k x y).1):∃v,(binOp op t (.int k x) (.int k y)).run P w=.ok v w/\aA w γ (binI op k x y).2 v:=by
 cases op<;>simp only[binI]at hc |-<;>first
  |exact hc.elim
  |(simp at dh;done)
  |(refine⟨.bool _,?_,.bool _⟩;simp[binOp,Op.intCmp];done)
  |(refine⟨.int k _,?_,.int k _⟩;simp[binOp,Op.intArith,Op.intBits];done)
  |(refine⟨.int k _,?_,.int k _⟩;simp[binOp,Op.intDiv,hc];done)
def U9{op:BinOp}{x y:ByteArray}{t:TypeId}(dh:op≠.shl/\op≠.shr)(hc:(binS op x y).1):∃v,(binOp op t (.string x) (.string y)).run P w=.ok v w/\aA w γ (binS op x y).2 v:=by
 cases op<;>simp only[binS]at hc |-<;>first
  |exact hc.elim
  |(simp at dh;done)
  |(refine⟨.bool _,?_,.bool _⟩;simp[binOp,Op.stringOp];done)
  |(
   refine⟨.string (x++y),?_,.str _⟩
   have h1:¬(((x.size+y.size:Nat):Int)> IntKind.i64.max):=by
     have:IntKind.i64.max=9223372036854775807:=by decide
     rw[this];omega
   simp only[binOp,Op.stringOp,ab h1];rfl)
def iO{op:BinOp}{t:TypeId}{x y:Operand}{k k':IntKind}{p q:Int}:(eqGuard op t x y (.int k p) (.int k' q)).run P w=.ok () w:=by
 cases op<;>simp[eqGuard]
def ET{op:BinOp}{t:TypeId}{x y:Operand}{p q:ByteArray}:(eqGuard op t x y (.string p) (.string q)).run P w=.ok () w:=by
 cases op<;>simp[eqGuard]
def ow{op:BinOp}{t:TypeId}{x y:Operand}{p q:Bool}:(eqGuard op t x y (.bool p) (.bool q)).run P w=.ok () w:=by
 cases op<;>simp[eqGuard]
def EU(hm:au N w0 an γ w B L){op:BinOp}{t t':TypeId}{x y:Operand}(h1:aA w γ (e (aC x)) (a.eval x))(h2:aA w γ (e (aC y)) (a.eval y))
  (hc:(binV op (e (aC x)) (e (aC y))).1):
  Step N w0 an P ⟨dst,.binOp op t x y t',ty,pos,after,guard⟩ a γ w B L (binV op (e (aC x)) (e (aC y))).2:=by
 unfold binV at hc |-
 split at hc
 ·split at hc
  case h_2=>exact hc.elim
  rename_i k p k' q e1 e2;try simp only[e1,e2]
  rw[e1]at h1;rw[e2]at h2;have hq:¬q<0:=zE
  refine Qs hm (v:=.int k (k.wrap (p*2 ^ (min q.toNat k.bits)))) ?_ (.int _ _);simp[execOp,h1.aI,h2.aI,iO,binOp,Op.shift,hq]
 ·split at hc
  case h_2=>exact hc.elim
  rename_i k p k' q e1 e2;try simp only[e1,e2]
  rw[e1]at h1;rw[e2]at h2;have hq:¬q<0:=zE
  refine Qs hm (v:=.int k (p.fdiv (2 ^ (min q.toNat k.bits)))) ?_ (.int _ _);simp[execOp,h1.aI,h2.aI,iO,binOp,Op.shift,hq]
 rename_i op' arb arc;split at hc
 ·rename_i k p k' q e1 e2;try simp only[e1,e2]
  rw[e1]at h1;rw[e2]at h2;obtain⟨rfl,hc⟩:=hc;obtain⟨v,hv,hr⟩:=U8 (P:=P) (w:=w) (γ:=γ) (t:=t) ⟨fun h=>arb h,fun h=>arc h⟩ hc;exact Qs hm (v:=v) (by simp[execOp,h1.aI,h2.aI,iO,hv]) hr
 ·rename_i p q e1 e2;try simp only[e1,e2]
  rw[e1]at h1;rw[e2]at h2;obtain⟨v,hv,hr⟩:=U9 (P:=P) (w:=w) (γ:=γ) (t:=t) ⟨fun h=>arb h,fun h=>arc h⟩ hc;exact Qs hm (v:=v) (by simp[execOp,h1.cp,h2.cp,ET,hv]) hr
 exact hc.elim
def run_equalIn_bool{t:TypeId}(hu:P.underlying t=some .bool)(p q:Bool)(d:Nat):(Op.equalIn (d+1) t (.bool p) (.bool q)).run P w=.ok (p==q) w:=by
 simp[Op.equalIn,run_underlying hu]
def PE(hm:au N w0 an γ w B L){op:BinOp}{t t':TypeId}{x y:Operand}(hu:P.underlying t=some .bool)(h1:aA w γ (e (aC x)) (a.eval x))(h2:aA w γ (e (aC y)) (a.eval y))
  (hc:(binBool op (e (aC x)) (e (aC y))).1):
  Step N w0 an P ⟨dst,.binOp op t x y t',ty,pos,after,guard⟩ a γ w B L (binBool op (e (aC x)) (e (aC y))).2:=by
 unfold binBool at hc |-
 split at hc
 ·rename_i p q e1 e2;try simp only[e1,e2]
  rw[e1]at h1;rw[e2]at h2;have:=run_equalIn_bool (P:=P) (w:=w) hu p q 9999;exact Qs hm (v:=.bool (p==q)) (by simp[execOp,h1.bw,h2.bw,ow,binOp,Op.equal,Op.maxDepth,this]) (.bool _)
 ·rename_i p q e1 e2;try simp only[e1,e2]
  rw[e1]at h1;rw[e2]at h2;have:=run_equalIn_bool (P:=P) (w:=w) hu p q 9999;exact Qs hm (v:=.bool (!(p==q))) (by simp[execOp,h1.bw,h2.bw,ow,binOp,Op.equal,Op.maxDepth,this]) (.bool _)
 exact hc.elim
def ad3(hm:au N w0 an γ w B L){op:UnOp}{t:TypeId}{x:Operand}(h1:aA w γ (e (aC x)) (a.eval x))(hc:(rop P gl orc e m dst (.un op (aC x))).1):
  Step N w0 an P ⟨dst,.unOp op t x,ty,pos,after,guard⟩ a γ w B L (rop P gl orc e m dst (.un op (aC x))).2:=by
 simp only[rop]at hc |-
 split at hc
 ·rename_i b e1;try simp only[e1]
  rw[e1]at h1;exact Qs hm (v:=.bool (!b)) (by simp[execOp,h1.bw,Op.unary]) (.bool _)
 ·rename_i k n e1;try simp only[e1]
  rw[e1]at h1;exact Qs hm (v:=.int k (k.wrap (0-n))) (by simp[execOp,h1.aI,Op.unary,Op.intArith]) (.int _ _)
 ·rename_i k n e1;try simp only[e1]
  rw[e1]at h1;refine Qs hm ?_ (.int _ _);simp[execOp,h1.aI,Op.unary,Op.intBits]
 exact hc.elim
def PF(hm:au N w0 an γ w B L){s d:TypeId}{x:Operand}{k0 k:IntKind}(hs:P.underlying s=some (.int k0))(hd:P.underlying d=some (.int k))(h1:aA w γ (e (aC x)) (a.eval x))(hc:(rop P gl orc e m dst (.conv k (aC x))).1):
  Step N w0 an P ⟨dst,.convert s d x,ty,pos,after,guard⟩ a γ w B L (rop P gl orc e m dst (.conv k (aC x))).2:=by
 simp only[rop]at hc |-
 split at hc
 case h_2=>exact hc.elim
 rename_i k1 n e1;rw[e1]at h1;exact Qs hm (v:=.int k (k.wrap n)) (by simp[execOp,h1.aI,convert,run_underlying hs,run_underlying hd,Conv.intToInt]) (.int _ _)
def PG(hm:au N w0 an γ w B L){f:FuncId}{first cap:Array Operand}(h1:∀x∈first,aA w γ (e (aC x)) (a.eval x))(h2:∀x∈cap,aA w γ (e (aC x)) (a.eval x)):
  Step N w0 an P ⟨dst,.makeFunc (.func f) first cap,ty,pos,after,guard⟩ a γ w B L (.fn f ((first.toList.map aC).map e) ((cap.toList.map aC).map e)):=by
 refine Qs hm (v:=.func (.func f) (first.map a.eval) (cap.map a.eval)) (by simp[execOp,Instr.makeFunc]) ?_;refine .fn zd (fun i c v g1 g2=>?_) zd fun i c v g1 g2=>?_
 ·simp at g1 g2;obtain⟨x,hx,rfl⟩:=g1;obtain⟨x',jY,rfl⟩:=g2;rw[hx]at jY;cases jY;exact h1 x (zzde hx)
 simp at g1 g2;obtain⟨x,hx,rfl⟩:=g1;obtain⟨x',jY,rfl⟩:=g2;rw[hx]at jY;cases jY;exact h2 x (zzde hx)
def Vc(hm:au N w0 an γ w B L){x:Operand}{i:Nat}(h1:aA w γ (e (aC x)) (a.eval x))(hc:(rop P gl orc e m dst (.ext (aC x) i)).1):
  Step N w0 an P ⟨dst,.extract x i,ty,pos,after,guard⟩ a γ w B L (rop P gl orc e m dst (.ext (aC x) i)).2:=by
 simp only[rop]at hc |-
 split at hc
 case h_2=>exact hc.elim
 rename_i vs e1;rw[e1]at h1;obtain⟨arr,hv,hr⟩:=h1.Co;have ah:i<arr.size:=by have:=hr.1;simp at this;omega
 have hu:arr[i]?=some arr[i]:=zzah ah;refine Qs hm (v:=arr[i]) (by simp[execOp,hv,Instr.extract,hu]) ?_;have:=hr.get i;simpa[List.getD,ah]using this
def PI(hm:au N w0 an γ w B L){x:Operand}(h1:aA w γ (e (aC x)) (a.eval x))(hc:(rop P gl orc e m dst (.nilc (aC x))).1):
  Step N w0 an P ⟨dst,.nilCheck x,ty,pos,after,guard⟩ a γ w B L (rop P gl orc e m dst (.nilc (aC x))).2:=by
 simp only[rop]at hc |-
 split at hc
 ·rename_i id o' e1;try simp only[e1]
  rw[e1]at h1;have mJ:=h1;obtain⟨b,hb,hv⟩:=h1.dG;exact Qs hm (v:=a.eval x) (by simp[execOp,hv]) mJ
 ·rename_i row o' e1;try simp only[e1]
  rw[e1]at h1;have mJ:=h1;obtain⟨b,off,cv,hv,_⟩:=h1.iM;exact Qs hm (v:=a.eval x) (by simp[execOp,hv]) mJ
 ·rename_i f first cap e1
  try simp only[e1]
  rw[e1]at h1;have mJ:=h1;obtain⟨fa,ca,hv,_⟩:=h1.qA;exact Qs hm (v:=a.eval x) (by simp[execOp,hv]) mJ
 exact hc.elim
def VA(hm:au N w0 an γ w B L){t:TypeId}{x:Operand}{lo hi:Option Operand}(h1:aA w γ (e (aC x)) (a.eval x))(h2:∀y∈lo,aA w γ (e (aC y)) (a.eval y))(h3:∀y∈hi,aA w γ (e (aC y)) (a.eval y))
  (hu:P.underlying t=some .string)(hc:(rop P gl orc e m dst (.slS (aC x) (lo.map aC) (hi.map aC))).1):
  Step N w0 an P ⟨dst,.slice t x lo hi none,ty,pos,after,guard⟩ a γ w B L (rop P gl orc e m dst (.slS (aC x) (lo.map aC) (hi.map aC))).2:=by
 simp only[rop]at hc |-
 split at hc
 ·rename_i s k l k' h e1 e2 e3;rw[e1]at h1;cases lo with
  |none=>simp at e2
  |some lo=>
   cases hi with
   |none=>simp at e3
   |some hi=>
    simp at e2 e3;have r2:=h2 lo zd;have r3:=h3 hi zd;rw[e2]at r2;rw[e3]at r3;obtain⟨c1,c2,c3⟩:=hc;have c4:(0:Int)<=h:=zE
    have c5:l<=(h.toNat:Int):=zE
    try simp only[e1,e2,e3,zzcv]
    refine Qs hm (v:=.string (s.extract l.toNat h.toNat)) ?_ (.str _);simp[execOp,h1.cp,r2.aI,r3.aI,Instr.sliceAt,Instr.slice,Instr.sliceBounds,Instr.sliceBound,asIntOf,run_underlying hu,c1,c3,c4,c5];intro ah;exact absurd ah (by rw[Int.max_eq_left c4];omega)
 ·rename_i s k h e1 e2 e3;rw[e1]at h1;cases lo with
  |some lo=>simp at e2
  |none=>
   cases hi with
   |none=>simp at e3
   |some hi=>
    simp at e3;have r3:=h3 hi zd;rw[e3]at r3;obtain⟨c1,c3⟩:=hc;try simp only[e1,e3,zzcv,Option.map_none]
    refine Qs hm (v:=.string (s.extract 0 h.toNat)) ?_ (.str _);simp[execOp,h1.cp,r3.aI,Instr.sliceAt,Instr.slice,Instr.sliceBounds,Instr.sliceBound,asIntOf,run_underlying hu,c1,c3]
 ·rename_i s k l e1 e2 e3;rw[e1]at h1;cases lo with
  |none=>simp at e2
  |some lo=>
   cases hi with
   |some hi=>simp at e3
   |none=>
    simp at e2;have r2:=h2 lo zd;rw[e2]at r2;obtain⟨c1,c3⟩:=hc;try simp only[e1,e2,zzcv,Option.map_none]
    refine Qs hm (v:=.string (s.extract l.toNat s.size)) ?_ (.str _);simp[execOp,h1.cp,r2.aI,Instr.sliceAt,Instr.slice,Instr.sliceBounds,Instr.sliceBound,asIntOf,run_underlying hu,c1,c3]
 exact hc.elim
end
section
variable {N:Nat} {w0:eO} {an:Nat->Nat->Prop} {γ:G} {w:World} {B:Nat->PH} {L:Nat->Option Nat} {P:Program} {o:Oper} {a:Act} {r:AV}
variable {dst:Option Tmp} {ty:TypeId} {pos:String} {after:Array Edge} {guard:Option (Nat×Bool)} {gl:Nat->AV} {orc:UV} {e:bE->AV} {m:AM}
def jZ{x:AV}{v:Value}(h:aA w γ x v)(hx:bare x=true):ak w γ (cellsOf x) v.cells.toList:=by
 cases x with
 |junk=>simp[bare]at hx
 |gd g y=>simp[bare]at hx
 |aS cs=>simp[bare]at hx
 |agg cs=>obtain⟨arr,rfl,hr⟩:=h.gj;exact hr
 |bool b=>cases h;exact ak.cons (.bool b) ak.nil
 |int k n=>cases h;exact ak.cons (.int k n) ak.nil
 |str s=>cases h;exact ak.cons (.str s) ak.nil
 |nilfn=>cases h;exact ak.cons .nilfn ak.nil
 |yld l=>cases h with|yld h=>exact ak.cons (.yld h) ak.nil
 |mp id=>cases h with|mp h=>exact ak.cons (.mp h) ak.nil
 |nilv p=>cases h;cases p<;>exact ak.cons (.nilv _) ak.nil
 |it id=>cases h with|it h=>exact ak.cons (.it h) ak.nil
 |aJ kn kvs=>simp[bare]at hx
 |mitr mid n s=>simp[bare]at hx
 |sl rt rows=>have h':=h;obtain⟨_,_,_,_,_,_,rfl,_⟩:=h.bZ;exact ak.cons h' ak.nil
 |ep row o=>have h':=h;obtain⟨_,_,_,rfl,_⟩:=h.iM;exact ak.cons h' ak.nil
 |ptr id o=>have h':=h;obtain⟨_,_,rfl⟩:=h.dG;exact ak.cons h' ak.nil
 |bs id off len sz=>have h':=h;obtain⟨_,_,_,_,_,rfl,_⟩:=h.cL;exact ak.cons h' ak.nil
 |fn f first cap=>have h':=h;obtain⟨_,_,rfl,_⟩:=h.qA;exact ak.cons h' ak.nil
def vM(off:Nat):∀(l:PQ)(k:Nat)(arr:P1),(l.zipIdx k).foldl (fun(cs:P1)(p:Value×Nat)=>cs.setIfInBounds (off+p.2) p.1) arr=tF arr (off+k) l
 |[],_,_=>rfl
 |v::l,k,arr=>by
  simp only[List.zipIdx_cons,zzda,tF];exact vM off l (k+1) _
def EV(off:Nat)(vs arr:P1):vs.zipIdx.foldl (fun(cs:P1)(p:Value×Nat)=>cs.setIfInBounds (off+p.2) p.1) arr=tF arr off vs.toList:=by
 rw[<- Array.foldl_toList,Array.toList_zipIdx];exact vM off vs.toList 0 arr
def Qbk{place:Nat->Option (Nat×Nat)}:∀(ps:List (Nat×Nat×AV))(vs:List (Nat×Value))(cs:P2)(arr:P1),ps.length=vs.length->
  (∀(i:Nat)(p:Nat×Nat×AV)(q:Nat×Value),ps[i]?=some p->vs[i]?=some q->place q.1=some (p.1,p.2.1)/\aA w γ p.2.2 q.2)->ak w γ cs arr.toList->(Qda cs ps).1->
  ∃cells,Instr.fill place arr vs=some cells/\ak w γ (Qda cs ps).2 cells.toList/\cells.size=arr.size
 |[],[],cs,arr,_,_,hr,_=>⟨arr,rfl,hr,rfl⟩
 |[],_::_,_,_,h,_,_,_=>by simp at h
 |_::_,[],_,_,h,_,_,_=>by simp at h
 |(off,size,x)::ps,(i,v)::vs,cs,arr,hl,hp,hr,hc=>by
  obtain⟨h1,h2,h3,h4⟩:=hc;obtain⟨g1,g2⟩:=hp 0 _ _ rfl rfl;have hx:=jZ g2 h1;have hsz:v.cells.size=size:=by have:=hx.1;simp at this;omega
  have cw:¬(off+v.cells.size> arr.size):=by have:=hr.1;simp at this;omega
  have zy:=hx.setA (o:=off) hr;obtain⟨cells,q1,q2,q3⟩:=Qbk ps vs (setA cs off (cellsOf x)) (tF arr off v.cells.toList) (Nm hl) (fun j p q dX nV=>hp (j+1) p q (Nm dX) (Nm nV)) zy h4;refine⟨cells,?_,q2,by rw[q3,Vd]⟩;simp only at g1;have hz:=EV off v.cells arr;simp only[Instr.fill,g1];rw[ab (by simp[hsz];omega)];rw[<- hz]at q1;exact q1
def AE:∀(fs:List Field),fs.all (fun f=>(P.info? f.type).isSome)=true->∃places,fs.mapM (fun f=>(P.info? f.type).map fun i=>(f.offset,i.size))=some places/\
  ∀i:Nat,places[i]?=(fs[i]?).bind fun f=>(P.info? f.type).map fun i=>(f.offset,i.size)
 |[],_=>⟨[],zd,fun i=>zd⟩
 |f::fs,h=>by
  simp at h;obtain⟨h1,h2⟩:=h;obtain⟨places,g1,g2⟩:=AE fs (Nm h2);obtain⟨i,hi⟩:=zzby.1 h1;refine⟨(f.offset,i.size)::places,by simp[zzhe,hi,g1],fun j=>?_⟩;cases j with
  |zero=>simp[hi]
  |succ j=>simpa using g2 j
def Qcx{α β:Type}(f:α->Option β):∀(l:List α)(l':List β),l.mapM f=some l'->l'.length=l.length/\∀(i:Nat)(x:α)(y:β),l[i]?=some x->l'[i]?=some y->f x=some y
 |[],l',h=>by simp at h;subst h;simp
 |x::l,l',h=>by
  simp only[zzhe,Option.bind_eq_bind,Option.pure_def]at h;cases hx:f x with
  |none=>simp[hx]at h
  |some y=>
   cases hr:l.mapM f with
   |none=>simp[hx,hr]at h
   |some rest=>
    simp[hx,hr]at h;subst h;obtain⟨g1,g2⟩:=Qcx f l rest hr;refine⟨by simp[g1],fun i x' y' h1 h2=>?_⟩;cases i with
    |zero=>simp at h1 h2;subst h1;subst h2;exact hx
    |succ i=>simp at h1 h2;exact g2 i x' y' h1 h2
def iP{t:TypeId}{zs:P2}(h:zc P t=some zs):∃i z,P.info? t=some i/\i.zero=some z/\ak w γ zs z.cells.toList:=by
 unfold zc at h;cases hi:P.info? t with
 |none=>simp[hi]at h
 |some i=>
  cases hz:i.zero with
  |none=>simp[hi,hz]at h
  |some z=>
   simp[hi,hz]at h;subst h;refine⟨i,z,rfl,hz,zd,fun j x v h1 h2=>?_⟩;simp at h1 h2;obtain⟨v',h3,rfl⟩:=h1;rw[h2]at h3;cases h3;exact mF w γ v
def JI(hm:au N w0 an γ w B L){t:TypeId}{parts:Array (Nat×Operand)}(h1:∀p∈parts,aA w γ (e (aC p.2)) (a.eval p.2))
  (hc:(rop P gl orc e m dst (Wn P t parts)).1):
  Step N w0 an P ⟨dst,.build t parts,ty,pos,after,guard⟩ a γ w B L (rop P gl orc e m dst (Wn P t parts)).2:=by
 unfold Wn at hc |-
 split at hc
 case h_2=>exact hc.elim
 rename_i fields zs hu hz;split at hc
 case h_2=>exact hc.elim
 rename_i ps hps;split at hc
 case isFalse=>exact hc.elim
 rename_i bD;try rw[ac bD]
 simp only[rop]at hc |-
 obtain⟨i,z,hi,iQ,JJ⟩:=iP (w:=w) (γ:=γ) hz;obtain⟨places,ug,hpg⟩:=AE (P:=P) fields.toList bD;obtain⟨aH,cm⟩:=Qcx _ _ _ hps
 obtain⟨cells,f1,f2,_⟩:=Qbk (w:=w) (γ:=γ) (place:=fun i=>places[i]?) (ps.map fun p=>(p.1,p.2.1,e p.2.2)) (parts.toList.map fun p=>(p.1,a.eval p.2)) zs z.cells (by simp[aH]) (fun j p q dX nV=>by
   simp at dX nV;obtain⟨o1,o2,o3,hp1,rfl⟩:=dX;obtain⟨x1,x2,JF,rfl⟩:=nV;have:=cm j (x1,x2) (o1,o2,o3) (Nm JF) hp1;simp only at this |-
   rw[hpg];cases hf:fields[x1]? with
   |none=>simp[hf]at this
   |some f=>
    cases hfi:P.info? f.type with
    |none=>simp[hf,hfi]at this
    |some fi=>
     simp[hf,hfi]at this;obtain⟨rfl,rfl,rfl⟩:=this;exact⟨by simp[hf,hfi],h1 (x1,x2) (zzde JF)⟩) JJ hc
 have hb:P.built t (parts.map fun p=>(p.1,a.eval p.2)).toList=some cells:=by
  unfold Program.built;simp only[hi,hu,iQ,ug];simpa using f1
 have bh:=run_build (P:=P) w t (parts.map fun p=>(p.1,a.eval p.2)) cells hb;refine Qs hm (v:=.agg cells) ?_ (ak.Pz f2);simp[execOp,bh]
def VB(hm:au N w0 an γ w B L)(hB:∀id cells,m.boxes[id]?=some cells->B id=some cells){t:TypeId}{len:Nat}{parts:Array (Nat×Operand)}(h1:∀p∈parts,aA w γ (e (aC p.2)) (a.eval p.2))
  (hc:(rop P gl orc e m dst (tr P ⟨dst,.buildSlice t len parts,ty,pos,after,guard⟩)).1):
  Step N w0 an P ⟨dst,.buildSlice t len parts,ty,pos,after,guard⟩ a γ w B L (rop P gl orc e m dst (tr P ⟨dst,.buildSlice t len parts,ty,pos,after,guard⟩)).2:=by
 simp only[tr]at hc |-
 split at hc
 case h_2=>exact hc.elim
 rename_i te hu;split at hc
 case h_2=>exact hc.elim
 rename_i i hi;split at hc
 case isFalse=>exact hc.elim
 rename_i bQ;try rw[ac bQ]
 simp only[zzac,beq_iff_eq,bne_iff_ne,am]at bQ;obtain⟨⟨hz,Ee⟩,vJ⟩:=bQ;cases iQ:i.zero with
 |none=>simp[iQ]at hz
 |some z=>
  simp[iQ]at hz;simp only[rop]at hc |-
  rw[Qaa];obtain⟨fA,Ct,hc3⟩:=hc
  let dY:P1:=(Array.range (len*i.size)).map (z.cells[·%z.cells.size]!)
  have Cu:ak w γ (List.replicate (len*i.size) .junk) dY.toList:=by
   refine⟨by simp[dY],fun j x v hj _=>?_⟩;simp[zzck]at hj;rw[<- hj.2];exact .junk _
  obtain⟨cells,f1,f2,f3⟩:=Qbk (w:=w) (γ:=γ) (place:=fun j=>some (j*i.size,i.size)) (parts.toList.map fun p=>(p.1*i.size,i.size,e (aC p.2))) (parts.toList.map fun p=>(p.1,a.eval p.2)) _ dY zd (fun j p q dX nV=>by
    simp at dX nV;obtain⟨x1,x2,JF,rfl⟩:=dX;obtain⟨y1,y2,hy1,rfl⟩:=nV;rw[JF]at hy1;cases hy1;exact⟨rfl,h1 (x1,x2) (zzde JF)⟩) Cu (by simpa[Function.comp_def]using fA)
  generalize hq:(Qda (List.replicate (len*i.size) .junk) (parts.toList.map fun p=>(p.1*i.size,i.size,e (aC p.2)))).2=A at f2
  have hq':(Qda (List.replicate (len*i.size) .junk) ((parts.toList.map fun p=>(p.1,aC p.2)).map fun p=>(p.1*i.size,i.size,e p.2))).2=A:=by
   rw[<- hq];simp[Function.comp_def]
  rw[hq']at Ct hc3;simp only[hq'];have j4:cells.size=len*i.size:=by rw[f3];simp[dY]
  have hAl:A.length=len*i.size:=by have:=f2.1;simp at this;omega
  have hb:Below w.heap.size w (w.alloc (.cells cells te)):=(Below.refl _ w).alloc (zzab _) _
  have bh:(execOp a.eval ⟨dst,.buildSlice t len parts,ty,pos,after,guard⟩).run P w=.ok (.value (.slice (some ⟨w.heap.size,0,none⟩) len len)) (w.alloc (.cells cells te)):=by
   have VC:¬(16777216<len*i.size):=zE
   by_cases qf:len*i.size=0
   ·have fc:dY=(Array.range (len*i.size)).map ((#[]:P1)[·%(#[]:P1).size]!):=by
     simp[dY,qf]
    rw[fc]at f1
    have gK:len=0:=by
     rcases Nat.mul_eq_zero.1 qf with h|h
     ·exact h
     exact absurd h Ee
    simp[qf]at f1;simp[execOp,Instr.buildSlice,run_underlying hu,sizeOf,typeInfo,hi,qf,f1,newRow]
   simp only[execOp,Instr.buildSlice];have f1':Instr.fill (fun j=>some (j*i.size,i.size)) ((Array.range (len*i.size)).map (z.cells[·%z.cells.size]!)) (parts.toList.map fun p=>(p.1,a.eval p.2))=some cells:=f1;simp[run_underlying hu,sizeOf,typeInfo,zeroValue,hi,iQ,qf,VC,f1',newRow]
  refine AB (hm.grow hb) (hm.dm hb) bh ?_;have aH:((List.range len).map fun k=>((A.map (bB m 6)).drop (k*i.size)).take i.size).length=len:=zd
  have fT:(w.alloc (.cells cells te)).heap[w.heap.size]?=some (.cells cells te (0,0)):=by show(w.heap.push _)[w.heap.size]?=_;simp
  have nW:∀(k j:Nat)(c:AV),Qu ((List.range len).map fun k=>((A.map (bB m 6)).drop (k*i.size)).take i.size) k j=some c->∃c' u,A[k*i.size+j]?=some c'/\c=bB m 6 c'/\cells[k*i.size+j]?=some u/\cells.getD (k*i.size+j) undef=u/\aA w γ c' u:=fun k j c h=>by
   unfold Qu at h;rcases zzaa k len with hk|hk
   ·simp[hk]at h;rw[zzbk]at h;split at h
    ·simp at h;obtain⟨c',uh,rfl⟩:=h;have ah:k*i.size+j<cells.size:=by rw[j4,<- hAl];exact(zza.1 uh).1
     have hu':cells[k*i.size+j]?=some cells[k*i.size+j]:=zzah ah;exact⟨c',_,uh,rfl,hu',by simp[ah],f2.2 _ _ _ uh (by simp[ah])⟩
    cases h
   simp[zzbm.2 hk]at h
  have fU:qd (w.alloc (.cells cells te)) (γ.grow w.heap.size (w.alloc (.cells cells te)).heap.size) ((List.range len).map fun k=>((A.map (bB m 6)).drop (k*i.size)).take i.size) (some ⟨w.heap.size,0,none⟩) len w.heap.size 0 i.size
    (fun k j=>cells.getD (k*i.size+j) undef):=by
   refine⟨zd,fun h=>(by cases h),fun _=>⟨rfl,zd⟩,fun row ai=>?_,fun k j c h=>?_,fun k j c h=>?_⟩
   ·simp at ai;obtain⟨k,hk,rfl⟩:=ai;have:(k+1)*i.size<=len*i.size:=zzbc _ hk;rw[zzbr,zzdv]at this;simp;omega
   ·obtain⟨c',u,g1,rfl,g3,g4,g5⟩:=nW k j c h;rw[zzbs,aN fT,g3,g4];refine⟨rfl,.inr ⟨zzab _,zd⟩,uf g5 (zzax.1 Ct c' (zzad g1))⟩
   obtain⟨c',u,g1,rfl,g3,g4,g5⟩:=nW k j c h;rw[g4]
   have:=jW hm hB (ro':=γ.ro) (fun _ _ h=>h) 6 c' u g5 fun hp=>by
    have:A.any (Vi 6)=true:=zzbt.2 ⟨c',zzad g1,hp⟩;rw[hc3]at this;cases this
   exact this.mono (hm.dm hb).cS
  have:=fU.mk' (rt:=.full) aH.symm;rwa [aH]at this
end
section
variable {N:Nat} {w0:eO} {an:Nat->Nat->Prop} {γ:G} {w:World} {B:Nat->PH} {L:Nat->Option Nat} {P:Program} {o:Oper} {a:Act} {r:AV}
variable {dst:Option Tmp} {ty:TypeId} {pos:String} {after:Array Edge} {guard:Option (Nat×Bool)} {gl:Nat->AV} {orc:UV} {e:bE->AV} {m:AM}
def ak.zz{cs:P2}{vs:PQ}(h:ak w γ cs vs):aA w γ (.aS cs) (.tuple vs.toArray):=.aS (Nm h.1) fun i c v h1 h2=>h.2 i c v h1 (Nm h2)
def aA.uj{rt:Rt}{rows:T5}{v:Value}(h:aA w γ (.sl rt rows) v)(hf:Jj rt=true):aA w γ (.sl .full rows) v:=by
 cases h with
 |sl b off sz cv hcap hnil ha hsz hc hr aY=>
  refine .sl b off sz cv hcap hnil ha hsz hc hr ?_;cases rt with
  |full=>exact aY
  |nil=>
   show _=_;have:=hnil aY;omega
  |_=>simp[Jj]at hf
def PJ{t te:TypeId}{op:BinOp}(hu:P.underlying t=some (.slice te)){p:Option Addr}{n c:Nat}(dh:op=.eql\/op=.neq):(binOp op t (.slice p n c) (.slice none 0 0)).run P w=.ok (.bool (if op=.eql then p.isNone else !p.isNone)) w:=by
 have h:∀d,(Op.equalIn (d+1) t (.slice p n c) (.slice none 0 0)).run P w=.ok p.isNone w:=fun d=>by
  unfold Op.equalIn;cases p<;>simp[run_underlying hu]
 have h':(Op.equal t (.slice p n c) (.slice none 0 0)).run P w=.ok p.isNone w:=h 9999;rcases dh with rfl|rfl<;>simp[binOp,h']
def PK(hm:au N w0 an γ w B L){op:BinOp}{t te t':TypeId}{x y:Operand}(hu:P.underlying t=some (.slice te))(h1:aA w γ (e (aC x)) (a.eval x))(hc:(rop P gl orc e m dst (lI op x y)).1):
  Step N w0 an P ⟨dst,.binOp op t x y t',ty,pos,after,guard⟩ a γ w B L (rop P gl orc e m dst (lI op x y)).2:=by
 have key:∀neg:Bool,(op=.eql/\neg=false\/op=.neq/\neg=true)->y=.const (.slice none 0 0)->(rop P gl orc e m dst (.nilS neg (aC x))).1->Step N w0 an P ⟨dst,.binOp op t x y t',ty,pos,after,guard⟩ a γ w B L (rop P gl orc e m dst (.nilS neg (aC x))).2:=by
  clear hc;intro neg dh hy hc;subst hy;have alg:op=.eql\/op=.neq:=dh.imp And.left And.left
  have run:∀p n c,a.eval x=.slice p n c->(execOp a.eval ⟨dst,.binOp op t x (.const (.slice none 0 0)) t',ty,pos,after,guard⟩).run P w=.ok (.value (.bool (if neg then !p.isNone else p.isNone))) w:=fun p n c hv=>by
   have:=PJ (P:=P) (w:=w) (op:=op) hu (p:=p) (n:=n) (c:=c) alg;have JK:a.eval (.const (.slice none 0 0))=.slice none 0 0:=rfl;rcases dh with⟨rfl,rfl⟩|⟨rfl,rfl⟩<;>simp at this<;>simp[execOp,hv,JK,eqGuard,this]
  simp only[rop]at hc |-
  split at hc
  ·rename_i rows e1;rw[e1]at h1;obtain⟨a',cap,b,off,sz,cv,hv,_,aY⟩:=h1.bZ;have:a'=none:=aY;subst this;refine Qs hm (run _ _ _ hv) ?_;cases neg<;>exact .bool _
  ·rename_i rows e1;rw[e1]at h1;obtain⟨a',cap,b,off,sz,cv,hv,_,aY⟩:=h1.bZ;have:a'≠none:=aY;refine Qs hm (run _ _ _ hv) ?_;cases a' with
   |none=>exact absurd rfl this
   |some a'=>cases neg<;>exact .bool _
  ·rename_i rt row rows qB vL e1;rw[e1]at h1;obtain⟨a',cap,b,off,sz,cv,hv,s1,aY⟩:=h1.bZ;have:=(s1.at_ zd).1;subst this;refine Qs hm (run _ _ _ hv) ?_;cases neg<;>exact .bool _
  ·rename_i id off len sz e1;rw[e1]at h1;obtain⟨b,cap,arr,y7,hb,hv,_⟩:=h1.cL;refine Qs hm (run _ _ _ hv) ?_;cases neg<;>exact .bool _
  exact hc.elim
 unfold lI at hc |-
 split at hc
 ·exact key false (.inl ⟨rfl,rfl⟩) rfl hc
 ·exact key true (.inr ⟨rfl,rfl⟩) rfl hc
 exact hc.elim
def VD{v:Value}(h:aA w γ (.nilv true) v):v=.pointer none:=by cases h;rfl
def JL{t te:TypeId}{op:BinOp}(hu:P.underlying t=some (.pointer te)){p:Option Addr}(dh:op=.eql\/op=.neq):(binOp op t (.pointer p) (.pointer none)).run P w=.ok (.bool (if op=.eql then p.isNone else !p.isNone)) w:=by
 have h:∀d,(Op.equalIn (d+1) t (.pointer p) (.pointer none)).run P w=.ok p.isNone w:=fun d=>by
  unfold Op.equalIn;cases p<;>simp[run_underlying hu]
 have h':(Op.equal t (.pointer p) (.pointer none)).run P w=.ok p.isNone w:=h 9999;rcases dh with rfl|rfl<;>simp[binOp,h']
def PL(hm:au N w0 an γ w B L){op:BinOp}{t te t':TypeId}{x y:Operand}(hu:P.underlying t=some (.pointer te))(h1:aA w γ (e (aC x)) (a.eval x))(hc:(rop P gl orc e m dst (Qci op x y)).1):
  Step N w0 an P ⟨dst,.binOp op t x y t',ty,pos,after,guard⟩ a γ w B L (rop P gl orc e m dst (Qci op x y)).2:=by
 have key:∀neg:Bool,(op=.eql/\neg=false\/op=.neq/\neg=true)->y=.const (.pointer none)->(rop P gl orc e m dst (.nilP neg (aC x))).1->Step N w0 an P ⟨dst,.binOp op t x y t',ty,pos,after,guard⟩ a γ w B L (rop P gl orc e m dst (.nilP neg (aC x))).2:=by
  clear hc;intro neg dh hy hc;subst hy;have alg:op=.eql\/op=.neq:=dh.imp And.left And.left
  have run:∀p,a.eval x=.pointer p->(execOp a.eval ⟨dst,.binOp op t x (.const (.pointer none)) t',ty,pos,after,guard⟩).run P w=.ok (.value (.bool (if neg then !p.isNone else p.isNone))) w:=fun p hv=>by
   have:=JL (P:=P) (w:=w) (op:=op) hu (p:=p) alg;have JK:a.eval (.const (.pointer none))=.pointer none:=rfl;rcases dh with⟨rfl,rfl⟩|⟨rfl,rfl⟩<;>simp at this<;>simp[execOp,hv,JK,eqGuard,this]
  simp only[rop]at hc |-
  split at hc
  ·rename_i id o e1;rw[e1]at h1;obtain⟨b,hb,hv⟩:=h1.dG;refine Qs hm (run _ hv) ?_;cases neg<;>exact .bool _
  ·rename_i row o e1;rw[e1]at h1;obtain⟨b,off,cv,hv,_⟩:=h1.iM;refine Qs hm (run _ hv) ?_;cases neg<;>exact .bool _
  ·rename_i e1;rw[e1]at h1;have hv:a.eval x=.pointer none:=VD h1;refine Qs hm (run _ hv) ?_;cases neg<;>exact .bool _
  exact hc.elim
 unfold Qci at hc |-
 split at hc
 ·exact key false (.inl ⟨rfl,rfl⟩) rfl hc
 ·exact key true (.inr ⟨rfl,rfl⟩) rfl hc
 exact hc.elim
def vN:∀{rows:T5}{l:List UInt8},Ju rows=some l->∃ns:Pi,rows=ns.map (fun n=>[.int .u8 n])/\l=ns.map fun n=>UInt8.ofNat n.toNat
 |[],l,h=>⟨[],rfl,by simpa[Ju]using h.symm⟩
 |row::rows,l,h=>by
  simp only[Ju]at h;cases hb:byteOf row with
  |none=>simp[hb]at h
  |some x=>
   cases hr:Ju rows with
   |none=>simp[hb,hr]at h
   |some l'=>
    simp[hb,hr]at h;obtain⟨ns,h1,h2⟩:=vN hr;unfold byteOf at hb;split at hb
    ·rename_i n;simp at hb;exact⟨n::ns,by simp[h1],by simp[<- h,h2,hb]⟩
    cases hb
def vO(ns:Pi):∀s:ByteArray,ns.foldl (fun r n=>r.push (UInt8.ofNat n.toNat)) s=⟨s.data++(ns.map fun n=>UInt8.ofNat n.toNat).toArray⟩:=by
 induction ns with
 |nil=>intro s;simp
 |cons n ns ih=>intro s;rw[zzda,ih];simp[ByteArray.push]
def VE(hm:au N w0 an γ w B L){s d te:TypeId}{x:Operand}(hs:P.underlying s=some (.slice te))(hd:P.underlying d=some .string)(ht:P.underlying te=some (.int .u8))(h1:aA w γ (e (aC x)) (a.eval x))(fU:∃rt rows,e (aC x)=.sl rt rows)(hc:(rop P gl orc e m dst (.b2s (aC x))).1):
  Step N w0 an P ⟨dst,.convert s d x,ty,pos,after,guard⟩ a γ w B L (rop P gl orc e m dst (.b2s (aC x))).2:=by
 simp only[rop]at hc |-
 split at hc
 case h_3=>exact hc.elim
 case h_2=>
  rename_i e1;obtain⟨rt,rows,e2⟩:=fU;rw[e2]at e1;cases e1
 rename_i rt rows e1;rw[e1]at h1;try simp only[e1]
 split at hc
 case h_2=>exact hc.elim
 rename_i l hl;try simp only[hl]
 obtain⟨ns,rfl,rfl⟩:=vN hl;obtain⟨p,cap,b,off,sz,cv,hv,s1,_⟩:=h1.bZ;cases p with
 |none=>
  have h0:ns=[]:=by
   have:=s1.hnil rfl;have h2:=s1.hcap;simp at h2;exact zzbe zE
  subst h0;refine Qs hm (v:=.string ⟨#[]⟩) ?_ (.str _);simp[execOp,hv,convert,run_underlying hs,run_underlying hd,run_underlying ht,Conv.bytesToString];rfl
 |some p=>
  have VF:(loadCells p ns.length).run P w=.ok (ns.map (Value.int .u8)).toArray w:=by
   have:=run_loadCells_list (P:=P) (w:=w) p (ns.map (Value.int .u8)) fun j v hj=>?_
   ·simpa using this
   simp at hj;obtain⟨n,hn,rfl⟩:=hj;have aO:ns.map (fun n=>[AV.int .u8 n])≠[]:=by rintro h;simp at h;subst h;simp at hn
   obtain⟨e2,_⟩:=s1.at_ aO;cases e2
   have awF:sz=1:=by
    cases ns with
    |nil=>simp at hn
    |cons n' ns=>have:=s1.hsz [.int .u8 n'] zd;simpa using this.symm
   subst awF;have nW:Qu (ns.map fun n=>[AV.int .u8 n]) j 0=some (.int .u8 n):=by simp[Qu,hn]
   have c1:=(s1.cell j 0 _ nW).1;have c2:=(s1.rep j 0 _ nW).aI;rw[bq];rw[c2]at c1;simpa using c1
  refine Qs hm (v:=.string ⟨(ns.map fun n=>UInt8.ofNat n.toNat).toArray⟩) ?_ (.str _);have bh:=run_bytesToString w p ns.length cap ns VF;rw[vO]at bh
  have:(⟨ByteArray.empty.data++(ns.map fun n=>UInt8.ofNat n.toNat).toArray⟩:ByteArray)=⟨(ns.map fun n=>UInt8.ofNat n.toNat).toArray⟩:=by
   have:ByteArray.empty.data=#[]:=rfl;rw[this];simp
  rw[this]at bh;simp[execOp,hv,convert,run_underlying hs,run_underlying hd,run_underlying ht,bh]
end
section
variable {N:Nat} {w0:eO} {an:Nat->Nat->Prop} {γ:G} {w:World} {B:Nat->PH} {L:Nat->Option Nat} {P:Program} {o:Oper} {a:Act} {r:AV}
variable {dst:Option Tmp} {ty:TypeId} {pos:String} {after:Array Edge} {guard:Option (Nat×Bool)} {gl:Nat->AV} {orc:UV} {e:bE->AV} {m:AM}
def mM{t:TypeId}{k:Nat}(h:EO P t=some k):(P.underlying t=some .bool/\k=0)\/(∃i,P.underlying t=some (.int i)/\k=1)\/(P.underlying t=some .string/\k=2):=by
 unfold EO at h;split at h
 ·cases h;exact .inl ⟨by assumption,rfl⟩
 ·cases h;exact .inr (.inl ⟨_,by assumption,rfl⟩)
 ·cases h;exact .inr (.inr ⟨by assumption,rfl⟩)
 cases h
def ad4{t:TypeId}{k d:Nat}(hk:EO P t=some k){x y:AV}{u v:Value}(hx:aA w γ x u)(hy:aA w γ y v)(hf:kindF k x y=true):(Op.equalIn (d+1) t u v).run P w=.ok (eqF x y) w:=by
 rcases mM hk with⟨hu,rfl⟩|⟨i,hu,rfl⟩|⟨hu,rfl⟩
 ·cases x<;>cases y<;>simp[kindF]at hf;rw[hx.bw,hy.bw];exact run_equalIn_bool' w d t _ _ hu
 ·cases x<;>cases y<;>simp[kindF]at hf;subst hf;rw[hx.aI,hy.aI];exact run_equalIn_int w d t _ _ _ _ hu
 cases x<;>cases y<;>simp[kindF]at hf;rw[hx.cp,hy.cp];exact run_equalIn_string w d t _ _ hu
def vP{t:TypeId}{k i:Nat}(hk:EO P t=some k){xs:P1}{v:Value}(h:xs[i]?=some v):(part t xs i).run P w=.ok v w:=by
 rcases mM hk with⟨hu,_⟩|⟨_,hu,_⟩|⟨hu,_⟩<;>simp[part,isAgg,run_underlying hu,h]
def vQ{d:Nat}{xs ys:P1}:∀(fs:List Field)(i:Nat)(ks:Pa)(as' bs:P2),St P fs i=some ks->Qbf ks as' bs=true->
  (∀(j:Nat)(c:AV),as'[j]?=some c->∃v,xs[i+j]?=some v/\aA w γ c v)->(∀(j:Nat)(c:AV),bs[j]?=some c->∃v,ys[i+j]?=some v/\aA w γ c v)->
  (Op.eqFields (d+1) xs ys fs).run P w=.ok (eqFs as' bs) w
 |[],i,ks,as',bs,hk,hf,_,_=>by
  cases hk;cases as'<;>cases bs<;>simp[Qbf]at hf;simp[Op.eqFields,eqFs]
 |f::fs,i,ks,as',bs,hk,hf,hx,hy=>by
  simp only[St]at hk;split at hk
  case h_2=>cases hk
  rename_i k ks' h0 h1 h2;cases hk;simp only[zzac,beq_iff_eq,bne_iff_ne]at h0;cases as' with
  |nil=>cases bs<;>simp[Qbf]at hf
  |cons c as'=>
   cases bs with
   |nil=>simp[Qbf]at hf
   |cons c' bs=>
    simp only[Qbf,zzac]at hf;obtain⟨u,hu1,JM⟩:=hx 0 c rfl;obtain⟨v,hv1,y8⟩:=hy 0 c' rfl;have ih:=vQ (d:=d) (xs:=xs) (ys:=ys) fs (i+1) ks' as' bs h2 hf.2 (fun j c hj=>by have:=hx (j+1) c (Nm hj);rwa [show i+1+j=i+(j+1) by omega]) (fun j c hj=>by have:=hy (j+1) c (Nm hj);rwa [show i+1+j=i+(j+1) by omega]);have p1:=vP (w:=w) h1 hu1;have p2:=vP (w:=w) h1 hv1;have p3:=ad4 (d:=d) h1 JM y8 hf.1;simp only[zzcm]at p1 p2;simp only[Op.eqFields,ne_eq,h0.2,not_false_eq_true,if_true,Sem.run_bind,h0.1,p1,p2,p3,Result.andThen_ok,Sem.run_ite];cases hc:eqF c c'<;>simp[eqFs,hc,ih]
def VG(hm:au N w0 an γ w B L){op:BinOp}{t t':TypeId}{fs:Array Field}{x y:Operand}(hu:P.underlying t=some (.struct fs))(h1:aA w γ (e (aC x)) (a.eval x))(h2:aA w γ (e (aC y)) (a.eval y))
  (hc:(rop P gl orc e m dst (zq P t fs.toList op x y)).1):
  Step N w0 an P ⟨dst,.binOp op t x y t',ty,pos,after,guard⟩ a γ w B L (rop P gl orc e m dst (zq P t fs.toList op x y)).2:=by
 have main:∀(neg:Bool)(ks:Pa),St P fs.toList 0=some ks->(P.stoodInHeld t||P.eqGuardType P.depth t)=false->(op=if neg then .neq else .eql)->(rop P gl orc e m dst (.eqA neg ks (aC x) (aC y))).1->
   Step N w0 an P ⟨dst,.binOp op t x y t',ty,pos,after,guard⟩ a γ w B L (rop P gl orc e m dst (.eqA neg ks (aC x) (aC y))).2:=by
  clear hc;intro neg ks hk hg dh hc;simp only[rop]at hc |-
  split at hc
  case h_2=>exact hc.elim
  rename_i xs ys e1 e2;rw[e1]at h1;rw[e2]at h2;try simp only[e1,e2]
  obtain⟨ax,hv1,r1⟩:=h1.gj;obtain⟨ay,y8,r2⟩:=h2.gj;simp only[Bool.or_eq_false_iff]at hg;have hf:P.fieldsOf t=fs:=by simp[Program.fieldsOf,hu]
  have cm:∀{cs:P2}{arr:P1},ak w γ cs arr.toList->∀(j:Nat)(c:AV),cs[j]?=some c->∃v,arr[0+j]?=some v/\aA w γ c v:=fun{cs arr}hr j c hj=>by
   have h0:=(zza.1 hj).1;have h3:=hr.1;have ah:j<arr.size:=by simp at h3;omega
   exact⟨arr[j],by simp[ah],hr.2 j c _ hj (by simp[ah])⟩
  have bh:(Op.equalIn 10000 t (.agg ax) (.agg ay)).run P w=.ok (eqFs xs ys) w:=by
   rw[run_equalIn_struct w 9999 t ax ay (by rw[hf];exact hu) hg.1,hf];exact vQ (d:=9998) fs.toList 0 ks xs ys hk hc (cm r1) (cm r2)
  have JN:=run_eqGuard_agg (P:=P) w op t x y ax ay hg.2;cases neg with
  |false=>
   simp at dh;subst dh;refine Qs hm (v:=.bool (eqFs xs ys)) ?_ (.bool _);simp[execOp,hv1,y8,JN,run_eql_struct,bh]
  |true=>
   simp at dh;subst dh;refine Qs hm (v:=.bool (!(eqFs xs ys))) ?_ (.bool _);simp[execOp,hv1,y8,JN,run_neq_struct,bh]
 unfold zq at hc |-
 split at hc
 ·rename_i ks h3 h4;exact main false ks h3 h4 rfl hc
 ·rename_i ks h3 h4;exact main true ks h3 h4 rfl hc
 exact hc.elim
def mN{isS:Bool}{len cap:Nat}{lo hi:Option Operand}{l h:Int}(hl:loOf ((lo.map aC).map e)=some l)(hh:hiOf len ((hi.map aC).map e)=some h)(h2:∀y∈lo,aA w γ (e (aC y)) (a.eval y))(h3:∀y∈hi,aA w γ (e (aC y)) (a.eval y))
  (c0:0<=l)(c1:l<=h)(c2:h<=len)(c3:len<=cap):(Instr.sliceBounds isS len cap (lo.map a.eval) (hi.map a.eval) none).run P w=.ok (l.toNat,h.toNat,cap) w:=by
 have k1:lo=none/\l=0\/∃y k,lo=some y/\a.eval y=.int k l:=by
  cases lo with
  |none=>simp[loOf]at hl;exact .inl ⟨rfl,hl.symm⟩
  |some y=>
   have:=h2 y zd;simp only[zzcv]at hl;cases he:e (aC y)<;>rw[he]at hl<;>simp[loOf]at hl;subst hl;rw[he]at this;exact .inr ⟨y,_,rfl,this.aI⟩
 have k2:hi=none/\h=len\/∃y k,hi=some y/\a.eval y=.int k h:=by
  cases hi with
  |none=>simp[hiOf]at hh;exact .inl ⟨rfl,hh.symm⟩
  |some y=>
   have:=h3 y zd;simp only[zzcv]at hh;cases he:e (aC y)<;>rw[he]at hh<;>simp[hiOf]at hh;subst hh;rw[he]at this;exact .inr ⟨y,_,rfl,this.aI⟩
 have c4:0<=h:=zE
 have c5:h<=(cap:Int):=zE
 have c6:l<=(h.toNat:Int):=zE
 rcases k1 with⟨rfl,rfl⟩|⟨y,k,rfl,hy⟩<;>obtain⟨rfl,rfl⟩|⟨y',k',rfl,hy'⟩:=k2
 ·simp[Instr.sliceBounds]
 ·simp[Instr.sliceBounds,Instr.sliceBound,asIntOf,hy',c4,c5]
 ·simp[Instr.sliceBounds,Instr.sliceBound,asIntOf,hy,c0,c1]
 have c7:¬(max h 0<l):=zE
 have c8:l<=max h 0:=zE
 simp[Instr.sliceBounds,Instr.sliceBound,asIntOf,hy,hy',c0,c4,c5,c8]
def oy{rows:T5}{l k i j:Nat}{c:AV}(h:Qu ((rows.drop l).take k) i j=some c):Qu rows (l+i) j=some c/\i<k:=by
 unfold Qu at*
 rw[zzbk]at h;split at h
 ·rename_i hi;rw[zzbl]at h;exact⟨h,hi⟩
 simp at h
def VH(hm:au N w0 an γ w B L){t te:TypeId}{i:TypeInfo}{x:Operand}{lo hi:Option Operand}(hu:P.underlying t=some (.slice te))(c9:P.info? te=some i)
  (h1:aA w γ (e (aC x)) (a.eval x))(h2:∀y∈lo,aA w γ (e (aC y)) (a.eval y))(h3:∀y∈hi,aA w γ (e (aC y)) (a.eval y))
  (hc:(rop P gl orc e m dst (.slL i.size (aC x) (lo.map aC) (hi.map aC))).1):
  Step N w0 an P ⟨dst,.slice t x lo hi none,ty,pos,after,guard⟩ a γ w B L (rop P gl orc e m dst (.slL i.size (aC x) (lo.map aC) (hi.map aC))).2:=by
 simp only[rop]at hc |-
 split at hc
 ·rename_i rt rows e1;rw[e1]at h1;try simp only[e1]
  split at hc
  case h_2=>exact hc.elim
  rename_i l h hl hh;try simp only[hl,hh]
  obtain⟨⟨c0,c1,c2⟩,hsz⟩:=hc;obtain⟨p,cap,b,off,sz,cv,hv,s1,_⟩:=h1.bZ;replace s1:=s1.fix (sz:=i.size) hsz;have hb:=mN (P:=P) (w:=w) (a:=a) (isS:=true) (cap:=cap) hl hh h2 h3 c0 c1 c2 s1.hcap;have aH:((rows.drop l.toNat).take (h.toNat-l.toNat)).length=h.toNat-l.toNat:=by simp;omega
  have hcap:=s1.hcap;refine Qs hm (v:=.slice (if cap=l.toNat then p else p.map (·.add (l.toNat*i.size))) (h.toNat-l.toNat) (cap-l.toNat)) ?_ ?_
  ·simp[execOp,Instr.sliceAt,Instr.slice,run_underlying hu,hv,hb,sizeOf,typeInfo,c9]
  have main:aA w γ (.sl .ro ((rows.drop l.toNat).take (h.toNat-l.toNat))) (.slice (if cap=l.toNat then p else p.map (·.add (l.toNat*i.size))) ((rows.drop l.toNat).take (h.toNat-l.toNat)).length (cap-l.toNat)):=?_
  ·rw[aH]at main;exact main
  refine .sl b (off+l.toNat*i.size) i.size (fun k j=>cv (l.toNat+k) j) (by rw[aH];omega) (fun hn=>?_) (fun hn=>?_) (fun row hr=>hsz row (zzdk (zzcc hr))) (fun k j c hk=>?_) (fun k j c hk=>?_) trivial
  ·have:p=none:=by
    split at hn
    ·exact hn
    simpa using hn
   have:=s1.hnil this;omega
  ·have aO:rows≠[]:=by rintro rfl;simp at hn
   obtain⟨hp,ah⟩:=s1.at_ aO
   have hlh:l.toNat<h.toNat:=by
    rcases zzaa l.toNat h.toNat with h'|h'
    ·exact h'
    exact absurd (zzbe (by rw[aH];omega)) hn
   refine⟨?_,ah⟩;rw[ab zE,hp];simp[bq]
  ·obtain⟨g1,_⟩:=oy hk;obtain⟨g2,g3,g4⟩:=s1.cell _ j c g1;rw[zzbr,<- zzap]at g2 g3;exact⟨g2,g3,g4⟩
  obtain⟨g1,_⟩:=oy hk;exact s1.rep _ j c g1
 ·rename_i id off len dy e1;rw[e1]at h1;try simp only[e1]
  split at hc
  case h_2=>exact hc.elim
  rename_i l h hl hh;try simp only[hl,hh]
  obtain⟨⟨c0,c1,c2⟩,rfl⟩:=hc;obtain⟨b,cap,arr,y7,hβ,hv,cw,hblk,hs⟩:=h1.cL;have hb:=mN (P:=P) (w:=w) (a:=a) (isS:=true) (cap:=cap) hl hh h2 h3 c0 c1 c2 cw;refine Qs hm (v:=.slice (if cap=l.toNat then some ⟨b,off,none⟩else(some ⟨b,off,none⟩:Option Addr).map (·.add (l.toNat*i.size))) (h.toNat-l.toNat) (cap-l.toNat)) ?_ ?_
  ·simp[execOp,Instr.sliceAt,Instr.slice,run_underlying hu,hv,hb,sizeOf,typeInfo,c9]
  split
  ·rename_i hor
   have ha:(if cap=l.toNat then some (⟨b,off,none⟩:Addr)else(some ⟨b,off,none⟩:Option Addr).map (·.add (l.toNat*i.size)))=some ⟨b,off+l.toNat*i.size,none⟩:=by
    obtain h'|h':=hor
    ·rw[ab zE];simp[bq]
    subst h';split<;>simp[bq]
   rw[ha];refine .bs hβ zE hblk ?_;have:(l.toNat+(cap-l.toNat))*i.size=cap*i.size:=by congr 1;omega
   rw[zzbr]at this;omega
  have hz:h.toNat-l.toNat=0:=zE
  rw[hz]
  have:aA w γ (.sl .nn []) (.slice (if cap=l.toNat then some (⟨b,off,none⟩:Addr)else(some ⟨b,off,none⟩:Option Addr).map (·.add (l.toNat*i.size))) ([]:T5).length (cap-l.toNat)):=
   .sl b off i.size (fun _ _=>undef) (zzbv _) (fun hn=>by split at hn<;>simp at hn) (fun hn=>absurd rfl hn) (fun _ h=>by cases h) (fun i j c h=>by simp[Qu]at h) (fun i j c h=>by simp[Qu]at h) (by
    show _≠none;split<;>simp)
  exact this
 exact hc.elim
def vR(hm:au N w0 an γ w B L)(hB:∀id cells,m.boxes[id]?=some cells->B id=some cells){id b:Nat}(hb:γ.β id=some b){arr:P1}{te:TypeId}(hh:w.heap[b]?=some (.cells arr te (0,0))){k:Nat}{c:AV}
  (hk:(m.boxes.getD id [])[k]?=some c):∃u,arr[k]?=some u/\aA w γ c u/\u.oneCell'=true:=by
 cases gJ:m.boxes[id]? with
 |none=>simp[List.getD,gJ]at hk
 |some cells=>
  have:m.boxes.getD id []=cells:=by simp[List.getD,gJ]
  rw[this]at hk;obtain⟨bN,e',g2,g3,g4⟩:=hm.box id cells b (hB id cells gJ) hb;rw[hh]at g2;cases g2;have h1:=(zza.1 hk).1;have h2:=g3.1;have cn:k<arr.size:=by simp at h2;omega
  exact⟨arr[k],zzah cn,g3.2 _ c _ hk (by simp[cn]),g4 _ zd⟩
def VI(hm:au N w0 an γ w B L)(hB:∀id cells,m.boxes[id]?=some cells->B id=some cells){id b:Nat}(hb:γ.β id=some b){arr:P1}{te:TypeId}(hh:w.heap[b]?=some (.cells arr te (0,0))):
  (m.boxes.getD id []).length<=arr.size:=by
 rcases zzci (m.boxes.getD id []).length with h|h
 ·omega
 obtain⟨u,h1,_⟩:=vR hm hB hb hh (k:=(m.boxes.getD id []).length-1) (zzaf zE);have:=(zzbz.1 h1).1;omega
def VJ(hm:au N w0 an γ w B L)(hB:∀id cells,m.boxes[id]?=some cells->B id=some cells){t te:TypeId}{n:Nat}{i:TypeInfo}{x:Operand}{lo hi:Option Operand}(hu:P.underlying t=some (.array n te))(c9:P.info? te=some i)
  (h1:aA w γ (e (aC x)) (a.eval x))(h2:∀y∈lo,aA w γ (e (aC y)) (a.eval y))(h3:∀y∈hi,aA w γ (e (aC y)) (a.eval y))
  (hc:(rop P gl orc e m dst (.slA n i.size (aC x) (lo.map aC) (hi.map aC))).1):
  Step N w0 an P ⟨dst,.slice t x lo hi none,ty,pos,after,guard⟩ a γ w B L (rop P gl orc e m dst (.slA n i.size (aC x) (lo.map aC) (hi.map aC))).2:=by
 simp only[rop]at hc |-
 split at hc
 case h_2=>exact hc.elim
 rename_i id o' e1;rw[e1]at h1;try simp only[e1]
 split at hc
 case h_2=>exact hc.elim
 rename_i l h hl hh;try simp only[hl,hh]
 obtain⟨⟨c0,c1,c2⟩,cH,aK⟩:=hc;obtain⟨b,hβ,hv⟩:=h1.dG;have gJ:m.boxes[id]?=some (m.boxes.getD id []):=by simp[aK]
 obtain⟨arr,y7,hblk,g3,g4⟩:=hm.box id _ b (hB id _ gJ) hβ;have cw:=g3.1;simp only[zzbj]at cw;have hb:=mN (P:=P) (w:=w) (a:=a) (isS:=false) (cap:=n) hl hh h2 h3 c0 c1 c2 (zzab n);refine Qs hm (v:=.slice (some (if n=l.toNat then⟨b,o',none⟩else⟨b,o'+l.toNat*i.size,none⟩)) (h.toNat-l.toNat) (n-l.toNat)) ?_ ?_
 ·simp[execOp,Instr.sliceAt,Instr.sureAddr,run_underlying hu,hv,hb,sizeOf,typeInfo,c9,bq]
 split
 ·rename_i hor
  have ha:(if n=l.toNat then(⟨b,o',none⟩:Addr)else⟨b,o'+l.toNat*i.size,none⟩)=⟨b,o'+l.toNat*i.size,none⟩:=by
   obtain h'|h':=hor
   ·rw[ab zE]
   subst h';split<;>simp
  rw[ha];refine .bs hβ zE hblk ?_;have:(l.toNat+(n-l.toNat))*i.size=n*i.size:=by congr 1;omega
  rw[zzbr]at this;omega
 have hz:h.toNat-l.toNat=0:=zE
 rw[hz]
 have:aA w γ (.sl .nn []) (.slice (some (if n=l.toNat then⟨b,o',none⟩else⟨b,o'+l.toNat*i.size,none⟩)) ([]:T5).length (n-l.toNat)):=
  .sl b 0 i.size (fun _ _=>undef) (zzbv _) (fun hn=>by cases hn) (fun hn=>absurd rfl hn) (fun _ h=>by cases h) (fun i j c h=>by simp[Qu]at h) (fun i j c h=>by simp[Qu]at h) (by
   show _≠none;simp)
 exact this
def PM(hm:au N w0 an γ w B L)(hB:∀id cells,m.boxes[id]?=some cells->B id=some cells){s d te:TypeId}{x:Operand}(hs:P.underlying s=some (.slice te))(hd:P.underlying d=some .string)(ht:P.underlying te=some (.int .u8))
  (h1:aA w γ (e (aC x)) (a.eval x)){id off len sz:Nat}(e1:e (aC x)=.bs id off len sz){l:List UInt8}(hl:Ju (aZ 1 len ((m.boxes.getD id []).drop off))=some l):
  Step N w0 an P ⟨dst,.convert s d x,ty,pos,after,guard⟩ a γ w B L (.str ⟨l.toArray⟩):=by
 rw[e1]at h1;obtain⟨b,cap,arr,y7,hβ,hv,cw,hblk,_⟩:=h1.cL;obtain⟨ns,ee,rfl⟩:=vN hl;have aH:len=ns.length:=by have:=congrArg List.length ee;simpa[Qec]using this
 have VF:(loadCells ⟨b,off,none⟩ ns.length).run P w=.ok (ns.map (Value.int .u8)).toArray w:=by
  have:=run_loadCells_list (P:=P) (w:=w) ⟨b,off,none⟩ (ns.map (Value.int .u8)) fun j v hj=>?_
  ·simpa using this
  simp at hj;obtain⟨n,hn,rfl⟩:=hj;have nW:Qu (aZ 1 len ((m.boxes.getD id []).drop off)) j 0=some (.int .u8 n):=by rw[ee];simp[Qu,hn]
  obtain⟨_,_,h3⟩:=Wo nW;rw[zzbl]at h3;obtain⟨u,h4,h5,_⟩:=vR hm hB hβ hblk h3;rw[h5.aI]at h4;rw[bq,aN hblk];simpa using h4
 refine Qs hm (v:=.string ⟨(ns.map fun n=>UInt8.ofNat n.toNat).toArray⟩) ?_ (.str _);have bh:=run_bytesToString w ⟨b,off,none⟩ ns.length cap ns VF;rw[vO]at bh
 have:(⟨ByteArray.empty.data++(ns.map fun n=>UInt8.ofNat n.toNat).toArray⟩:ByteArray)=⟨(ns.map fun n=>UInt8.ofNat n.toNat).toArray⟩:=by
  have:ByteArray.empty.data=#[]:=rfl;rw[this];simp
 rw[this]at bh;rw[aH]at hv;simp[execOp,hv,convert,run_underlying hs,run_underlying hd,run_underlying ht,bh]
end
section
variable {N:Nat} {w0:eO} {an:Nat->Nat->Prop} {γ:G} {w:World} {B:Nat->PH} {L:Nat->Option Nat} {P:Program} {o:Oper} {a:Act} {r:AV}
variable {dst:Option Tmp} {ty:TypeId} {pos:String} {after:Array Edge} {guard:Option (Nat×Bool)} {gl:Nat->AV} {orc:UV} {e:bE->AV} {m:AM}
def alh(P:Program)(k:TypeId)(kn:Nat):Prop:=(kn=0/\P.underlying k=some (.int .i64))\/
 (∃fs ks,P.underlying k=some (.struct fs)/\St P fs.toList 0=some ks/\(∀x∈ks,x=1)/\fs.size=kn/\kn≠0/\P.stoodInHeld k=false)
def j5{t:TypeId}{kn:Nat}{z:AV}(h:EP P t=some (kn,z)):∃k v i zv,P.underlying t=some (.map k v)/\alh P k kn/\P.info? v=some i/\i.zero=some zv/\z=Ay zv:=by
 unfold EP at h;split at h
 case h_2=>cases h
 rename_i k v hu;split at h
 ·rename_i i hk hi;cases hz:i.zero with
  |none=>simp[hz]at h
  |some zv=>simp[hz]at h;obtain⟨rfl,rfl⟩:=h;exact⟨k,v,i,zv,hu,.inl ⟨rfl,hk⟩,hi,hz,rfl⟩
 ·rename_i fs i hk hi;cases Iw:St P fs.toList 0 with
  |none=>simp[Iw]at h
  |some ks=>
   simp only[Iw]at h;by_cases hc:(ks.all (·==1)&&(fs.size !=0)&&!(P.stoodInHeld k))=true
   ·rw[ac hc]at h;simp only[zzac,zzax,beq_iff_eq,bne_iff_ne,zzcz]at hc;cases hz:i.zero with
    |none=>rw[hz]at h;cases h
    |some zv=>
     rw[hz]at h;simp only[zzcv,Option.some.injEq,Prod.mk.injEq]at h;obtain⟨rfl,rfl⟩:=h;exact⟨k,v,i,zv,hu,.inr ⟨fs,ks,hk,Iw,hc.1.1,rfl,hc.1.2,hc.2⟩,hi,hz,rfl⟩
   rw[ab hc]at h;cases h
 cases h
def EW:∀{cs:P2}{ns:Pi},intsA cs=some ns->cs=ns.map (AV.int .i64)
 |[],ns,h=>by cases h;rfl
 |c::cs,ns,h=>by
  cases c<;>try(simp[intsA]at h;done)
  rename_i k n;cases k<;>try(simp[intsA]at h;done)
  simp only[intsA]at h;split at h
  ·rename_i ns' h';cases h;rw[EW h'];rfl
  cases h
def Cv{kn:Nat}{av:AV}{ns:Pi}(h:keyA kn av=some ns):av=keyAV kn ns/\Wx kn ns:=by
 cases kn with
 |zero=>
  cases av<;>try(simp[keyA]at h;done)
  rename_i k n;cases k<;>try(simp[keyA]at h;done)
  cases h;exact⟨rfl,rfl⟩
 |succ kn=>
  cases av<;>try(simp[keyA]at h;done)
  rename_i cs;simp only[keyA]at h;split at h
  case h_2=>cases h
  rename_i ns' h';split at h
  case isFalse=>cases h
  cases h;exact⟨by rw[EW h'];rfl,by assumption⟩
def PN{ns:Pi}:∀{vs:PQ},ak w γ (ns.map (AV.int .i64)) vs->vs=ns.map (Value.int .i64):=by
 induction ns with
 |nil=>intro vs h;exact zzbe (by have:=h.1;simpa using this.symm)
 |cons n ns ih=>
  intro vs h;cases vs with
  |nil=>have:=h.1;simp at this
  |cons v vs=>
   have h0:=(h.2 0 (.int .i64 n) v rfl rfl).aI;rw[h0,ih (vs:=vs) ⟨by have:=h.1;simpa using this,fun i a u h1 h2=>h.2 (i+1) a u (Nm h1) (Nm h2)⟩];rfl
def vS(w:World)(γ:G):∀ns:Pi,ak w γ (ns.map (AV.int .i64)) (ns.map (Value.int .i64))
 |[]=>ak.nil
 |n::ns=>ak.cons (.int .i64 n) (vS w γ ns)
def qE{kn:Nat}{ns:Pi}{v:Value}(hk:Wx kn ns)(h:aA w γ (keyAV kn ns) v):v=Yp kn ns:=by
 cases kn with
 |zero=>
  match ns,hk with
  |[n],_=>exact h.aI
 |succ kn=>
  obtain⟨arr,rfl,hr⟩:=aA.gj (cs:=ns.map (AV.int .i64)) h;have:=PN hr;simp only[Yp];congr 1;apply Array.ext';simpa using this
def AF{kn:Nat}{ns:Pi}(hk:Wx kn ns):aA w γ (keyAV kn ns) (Yp kn ns):=by
 cases kn with
 |zero=>
  match ns,hk with
  |[n],_=>exact .int .i64 n
 |succ kn=>
  have:=(vS w γ ns);exact .agg zd fun i c v h1 h2=>this.2 i c v h1 (Nm h2)
def vT:∀{fs:List Field}{i:Nat}{ks:Pa},St P fs i=some ks->ks.length=fs.length
 |[],_,ks,h=>by cases h;rfl
 |f::fs,i,ks,h=>by
  simp only[St]at h;split at h
  case h_2=>cases h
  rename_i k ks' h0 h1 h2;cases h;simp[vT h2]
def si:∀{ks:Pa}{as' bs:Pi},(∀x∈ks,x=1)->as'.length=ks.length->bs.length=ks.length->Qbf ks (as'.map (AV.int .i64)) (bs.map (AV.int .i64))=true
 |[],[],[],_,_,_=>rfl
 |k::ks,a::as',b::bs,h,h1,h2=>by
  have:=h k zd;subst this;simp only[zzar,Qbf,kindF,decide_true,zzdy];exact si (fun x hx=>h x (by simp[hx])) (Nm h1) (Nm h2)
 |[],_::_,_,_,h,_=>by simp at h
 |[],_,_::_,_,_,h=>by simp at h
 |_::_,[],_,_,h,_=>by simp at h
 |_::_,_,[],_,_,h=>by simp at h
def AG:∀{as' bs:Pi},as'.length=bs.length->eqFs (as'.map (AV.int .i64)) (bs.map (AV.int .i64))=decide (as'=bs)
 |[],[],_=>rfl
 |a::as',b::bs,h=>by
  simp only[zzar,eqFs,eqF,AG (as':=as') (bs:=bs) (Nm h)];by_cases h1:a=b<;>by_cases h2:as'=bs<;>simp[h1,h2]
 |[],_::_,h=>by simp at h
 |_::_,[],h=>by simp at h
def PO{k:TypeId}{kn:Nat}{fs:Array Field}{ks:Pa}(hu:P.underlying k=some (.struct fs))(hk:St P fs.toList 0=some ks)(h1:∀x∈ks,x=1)(hs:fs.size=kn)(hg:P.stoodInHeld k=false){as' bs:Pi}(ha:as'.length=kn)(hb:bs.length=kn):
  (Op.equal k (.agg (as'.map (Value.int .i64)).toArray) (.agg (bs.map (Value.int .i64)).toArray)).run P w=.ok (decide (as'=bs)) w:=by
 have hf:P.fieldsOf k=fs:=by simp[Program.fieldsOf,hu]
 have hl:=vT hk;simp only[zzbj]at hl;show(Op.equalIn 10000 k _ _).run P w=_;rw[run_equalIn_struct w 9999 k _ _ (by rw[hf];exact hu) hg,hf];rw[vQ (w:=w) (γ:=G0 fun _ _=>False) (d:=9998) fs.toList 0 ks (as'.map (AV.int .i64)) (bs.map (AV.int .i64)) hk (si h1 zE zE) ?_ ?_,AG zE]
 ·intro j c hj;simp at hj;obtain⟨n,hn,rfl⟩:=hj;exact⟨.int .i64 n,by simp[hn],.int .i64 n⟩
 intro j c hj;simp at hj;obtain⟨n,hn,rfl⟩:=hj;exact⟨.int .i64 n,by simp[hn],.int .i64 n⟩
def VK{n:Int}:∀{kvs:List (Pi×AV)}{es:List MapEntry}(i:Nat),kvs.length=es.length->(∀(j:Nat)(k:Pi)(c:AV)(x:MapEntry),kvs[j]?=some (k,c)->es[j]?=some x->Wx 0 k/\x.key=Yp 0 k/\aA w γ c x.val)->
  (Xh [n] kvs i=none->Instr.findNow (.int .i64) (.int .i64 n) es i=some none)/\
  (∀j c,Xh [n] kvs i=some (j,c)->∃v,Instr.findNow (.int .i64) (.int .i64 n) es i=some (some (j,v))/\aA w γ c v/\i<=j/\j<i+kvs.length/\kvs[j-i]?=some ([n],c))
 |[],[],i,_,_=>⟨fun _=>rfl,fun j c h=>by cases h⟩
 |[],_::_,_,h,_=>by simp at h
 |_::_,[],_,h,_=>by simp at h
 |(k,c)::kvs,x::es,i,hl,hk=>by
  obtain⟨g0,g1,g2⟩:=hk 0 k c x rfl rfl;obtain⟨ih1,ih2⟩:=VK (n:=n) (kvs:=kvs) (es:=es) (i+1) (Nm hl) fun j k' c' x' q1 q2=>hk (j+1) k' c' x' (Nm q1) (Nm q2)
  match k,g0 with
  |[k],_=>
   simp only[Yp]at g1;by_cases hnk:n=k
   ·subst hnk;have hf:Instr.findNow (.int .i64) (.int .i64 n) (x::es) i=some (some (i,x.val)):=by simp[Instr.findNow,Instr.sameNow,g1]
    refine⟨fun h=>by simp[Xh]at h,fun j c' h=>?_⟩;simp[Xh]at h;obtain⟨rfl,rfl⟩:=h;exact⟨x.val,hf,g2,zzab _,zd,zd⟩
   have awG:(n==k)=false:=by simpa using hnk
   have hf:Instr.findNow (.int .i64) (.int .i64 n) (x::es) i=Instr.findNow (.int .i64) (.int .i64 n) es (i+1):=by simp[Instr.findNow,Instr.sameNow,g1,awG]
   rw[hf];have awH:¬[n]=[k]:=by simpa using hnk
   simp only[Xh,ab awH];refine⟨ih1,fun j c' h=>?_⟩;obtain⟨v,q1,q2,q3,q4,q5⟩:=ih2 j c' h;refine⟨v,q1,q2,zE,by simp;omega,?_⟩;rw[show j-i=(j-(i+1))+1 by omega];simpa using q5
def VL{kt:TypeId}{kn:Nat}{n:Pi}(Ef:∀k',Wx kn k'->(Op.equal kt (Yp kn n) (Yp kn k')).run P w=.ok (decide (n=k')) w):∀{kvs:List (Pi×AV)}{es:List MapEntry}(i:Nat),kvs.length=es.length->
  (∀(j:Nat)(k:Pi)(c:AV)(x:MapEntry),kvs[j]?=some (k,c)->es[j]?=some x->Wx kn k/\x.key=Yp kn k/\aA w γ c x.val)->
  (Xh n kvs i=none->(Instr.findAsking kt (Yp kn n) es i).run P w=.ok none w)/\
  (∀j c,Xh n kvs i=some (j,c)->∃v,(Instr.findAsking kt (Yp kn n) es i).run P w=.ok (some (j,v)) w/\aA w γ c v/\i<=j/\j<i+kvs.length/\kvs[j-i]?=some (n,c))
 |[],[],i,_,_=>⟨fun _=>by simp[Instr.findAsking],fun j c h=>by cases h⟩
 |[],_::_,_,h,_=>by simp at h
 |_::_,[],_,h,_=>by simp at h
 |(k,c)::kvs,x::es,i,hl,hk=>by
  obtain⟨g0,g1,g2⟩:=hk 0 k c x rfl rfl;obtain⟨ih1,ih2⟩:=VL Ef (kvs:=kvs) (es:=es) (i+1) (Nm hl) fun j k' c' x' q1 q2=>hk (j+1) k' c' x' (Nm q1) (Nm q2);have hq:=Ef k g0;rw[<- g1]at hq;by_cases hnk:n=k
  ·subst hnk;simp only[decide_true]at hq;have hf:(Instr.findAsking kt (Yp kn n) (x::es) i).run P w=.ok (some (i,x.val)) w:=by simp[Instr.findAsking,hq]
   refine⟨fun h=>by simp[Xh]at h,fun j c' h=>?_⟩;simp[Xh]at h;obtain⟨rfl,rfl⟩:=h;exact⟨x.val,hf,g2,zzab _,zd,zd⟩
  simp only[hnk,decide_false]at hq;have hf:(Instr.findAsking kt (Yp kn n) (x::es) i).run P w=(Instr.findAsking kt (Yp kn n) es (i+1)).run P w:=by simp[Instr.findAsking,hq]
  rw[hf];simp only[Xh,ab hnk];refine⟨ih1,fun j c' h=>?_⟩;obtain⟨v,q1,q2,q3,q4,q5⟩:=ih2 j c' h;refine⟨v,q1,q2,zE,by simp;omega,?_⟩;rw[show j-i=(j-(i+1))+1 by omega];simpa using q5
def Cw{kt:TypeId}{kn:Nat}{n:Pi}(hkt:alh P kt kn)(hn:Wx kn n){kvs:List (Pi×AV)}{es:List MapEntry}(hl:kvs.length=es.length)
  (hk:∀(j:Nat)(k:Pi)(c:AV)(x:MapEntry),kvs[j]?=some (k,c)->es[j]?=some x->Wx kn k/\x.key=Yp kn k/\aA w γ c x.val):
  (Xh n kvs 0=none->(Instr.findKey kt (Yp kn n) es).run P w=.ok none w)/\
  (∀j c,Xh n kvs 0=some (j,c)->∃v,(Instr.findKey kt (Yp kn n) es).run P w=.ok (some (j,v)) w/\aA w γ c v/\j<kvs.length/\kvs[j]?=some (n,c)):=by
 obtain⟨rfl,hu⟩|⟨fs,ks,hu,Iw,h1,hs,h0,hg⟩:=hkt
 ·match n,hn with
  |[n],_=>
   obtain⟨f1,f2⟩:=VK (w:=w) (γ:=γ) (n:=n) 0 hl hk;refine⟨fun h=>MapKept.run_findKey hu (f1 h),fun j c h=>?_⟩;obtain⟨v,q1,q2,_,q4,q5⟩:=f2 j c h;exact⟨v,MapKept.run_findKey hu q1,q2,zE,Nm q5⟩
 cases kn with
 |zero=>exact absurd rfl h0
 |succ kn=>
  obtain⟨f1,f2⟩:=VL (w:=w) (γ:=γ) (P:=P) (kt:=kt) (n:=n) (kn:=kn+1) (fun k' Cp=>PO hu Iw h1 hs hg hn Cp) 0 hl hk;have e1:(Instr.findKey kt (Yp (kn+1) n) es).run P w=(Instr.findAsking kt (Yp (kn+1) n) es).run P w:=run_findKey_eq w (by simp[hu]) _ _;rw[e1];refine⟨f1,fun j c h=>?_⟩;obtain⟨v,q1,q2,_,q4,q5⟩:=f2 j c h;exact⟨v,q1,q2,zE,Nm q5⟩
def run_checkKey{b:Bool}{k:TypeId}{kn:Nat}{n:Pi}(hk:alh P k kn)(hn:Wx kn n):(Instr.checkKey b 10000 k (Yp kn n)).run P w=.ok () w:=by
 obtain⟨rfl,hu⟩|⟨fs,ks,hu,Iw,h1,hs,h0,hg⟩:=hk
 ·match n,hn with
  |[n],_=>
   have h:∀d,(Instr.checkKey b (d+1) k (.int .i64 n)).run P w=.ok () w:=fun d=>by
    unfold Instr.checkKey;simp[run_underlying hu]
   exact h 9999
 cases kn with
 |zero=>exact absurd rfl h0
 |succ kn=>
  have h:∀d,(Instr.checkKey b (d+1+1) k (.agg (n.map (Value.int .i64)).toArray)).run P w=.ok () w:=fun d=>by
   rw[Instr.checkKey];simp only[Sem.run_bind,run_underlying hu,Result.andThen_ok];rw[<- Array.forIn_toList];have qh:n.length=kn+1:=hn
   have ha:∀j,0<=j->j<0+fs.toList.length->∃n',(n.map (Value.int .i64)).toArray[j]?=some (.int .i64 n'):=fun j _ hj=>by
    simp at hj;exact⟨n[j]' zE,by simp[show j<n.length by omega]⟩
   generalize(n.map (Value.int .i64)).toArray=arr at ha;generalize fs.toList=Lf at Iw ha;generalize(0:Nat)=i0 at Iw ha;clear hs hu qh hn h0 hg;induction Lf generalizing i0 ks with
   |nil=>simp
   |cons f Lf ih=>
    simp only[St]at Iw;split at Iw
    case h_2=>cases Iw
    rename_i k' ks' h0 dK eE;cases Iw;simp only[zzac,beq_iff_eq,bne_iff_ne]at h0;have ih:=ih ks' (fun x hx=>h1 x (by simp[hx])) (i0+1) eE fun j dX nV=>ha j zE (by simp;omega);obtain⟨n',qh⟩:=ha i0 (zzab _) zd;have hp:=vP (P:=P) (w:=w) dK qh
    have hc:(Instr.checkKey b (d+1) f.type (.int .i64 n')).run P w=.ok () w:=by
     rcases mM dK with⟨hu,_⟩|⟨_,hu,_⟩|⟨hu,_⟩<;>simp[Instr.checkKey,run_underlying hu]
    simp only[List.forIn_cons,Sem.run_bind,h0.2,ne_eq,not_false_eq_true,if_true,h0.1,hp,hc,Result.andThen_ok,Sem.run_pure];exact ih
  exact h 9998
def oA{α:Type}:∀{l:List α}{x y:α},(x,y)∈l.zip l->x=y/\x∈l
 |[],_,_,h=>by simp at h
 |a::l,x,y,h=>by
  rw[zzdj]at h;rcases zzao.1 h with h|h
  ·cases h;exact⟨rfl,zd⟩
  obtain⟨h1,h2⟩:=oA h;exact⟨h1,by simp[h2]⟩
def zA(d:Nat)(n:Pi):Instr.sameBits (d+1+1) (.agg (n.map (Value.int .i64)).toArray) (.agg (n.map (Value.int .i64)).toArray)=true:=by
 simp only[Instr.sameBits,beq_self_eq_true,zzdy,zzax];rintro⟨x,y⟩ hxy
 have h:x=y/\x∈n.map (Value.int .i64):=by
  try simp only[List.toList_toArray]at hxy
  exact oA hxy
 obtain⟨rfl,h2⟩:=h;obtain⟨k,_,rfl⟩:=zzan.1 h2;simp[Instr.sameBits]
def oB{old new:Value}{kn:Nat}{n:Pi}(hn:Wx kn n)(h1:old=Yp kn n)(h2:new=Yp kn n):(Instr.keyThatStays old new).run P w=.ok new w:=by
 subst h1;subst h2;cases kn with
 |zero=>
  match n,hn with
  |[n],_=>simp[Instr.keyThatStays,Instr.sameBits,Yp]
 |succ kn=>
  have:=zA 9998 n;simp[Instr.keyThatStays,Yp,this]
def au.iR(hm:au N w0 an γ w B L){id kn:Nat}{kvs:List (Pi×AV)}{v:Value}(h1:aA w γ (.mp id) v)(hB:B id=some [.aJ kn kvs]):
  ∃b es,γ.mm id=some b/\v=.map (some b)/\w.heap[b]?=some (.map es es.size)/\kvs.length=es.size/\
   ∀(i:Nat)(k:Pi)(a:AV)(e:MapEntry),kvs[i]?=some (k,a)->es[i]?=some e->Wx kn k/\e.key=Yp kn k/\e.born=i/\aA w γ a e.val:=by
 cases h1 with
 |mp h=>
  rename_i b;obtain⟨_,_,_,_,_,_,_,a,o,q1,q2,q3⟩:=hm.mm id b h;rw[hB]at q1;cases q1;cases o<;>try exact q3.elim
  rename_i es clock;obtain⟨rfl,q4,q5⟩:=q3;exact⟨b,es,h,rfl,q2,q4,q5⟩
def au.Nv(hm:au N w0 an γ w B L){id mid n:Nat}{seen:Pa}{v:Value}(h1:aA w γ (.it id) v)(hB:B id=some [.mitr mid n seen]):
  ∃b mb,γ.mm id=some b/\v=.pointer (some ⟨b,0,none⟩)/\w.heap[b]?=some (.mapIter (some mb) n seen.toArray n)/\γ.mm mid=some mb:=by
 cases h1 with
 |it h=>
  rename_i b;obtain⟨_,_,_,_,_,_,_,a,o,q1,q2,q3⟩:=hm.mm id b h;rw[hB]at q1;cases q1;cases o<;>try exact q3.elim
  rename_i mp Nr sn st;cases mp<;>try exact q3.elim
  rename_i mb;obtain⟨q4,rfl,rfl,rfl⟩:=q3;exact⟨b,mb,h,rfl,Nm q2,q4⟩
def Qek{kn:Nat}{kvs:List (Pi×AV)}{es:Array MapEntry}(hl:kvs.length=es.size)(hk:∀(i:Nat)(k:Pi)(a:AV)(e:MapEntry),kvs[i]?=some (k,a)->es[i]?=some e->Wx kn k/\e.key=Yp kn k/\e.born=i/\aA w γ a e.val){i:Nat}(hi:i<es.size):es[i].born=i:=by
 have:=hk i (kvs[i]' zE).1 (kvs[i]' zE).2 es[i] (by simp[show i<kvs.length by omega]) (by simp[hi]);exact this.2.2.1
def vU{id:Nat}{x:AV}(hB:∀id cells,m.boxes[id]?=some cells->B id=some cells)(h:m.boxes.getD id []=[x]):B id=some [x]:=hB id _ (by
 cases hh:m.boxes[id]? with
 |none=>simp[List.getD,hh]at h
 |some c=>simp[List.getD,hh]at h;rw[h])
def PR(hm:au N w0 an γ w B L)(hB:∀id cells,m.boxes[id]?=some cells->B id=some cells){t:TypeId}{kn:Nat}{z:AV}{x k:Operand}{ok:Bool}(ht:EP P t=some (kn,z))(h1:aA w γ (e (aC x)) (a.eval x))(h2:aA w γ (e (aC k)) (a.eval k))
  (hc:(rop P gl orc e m dst (.look kn ok z (aC x) (aC k))).1):
  Step N w0 an P ⟨dst,.lookup t x k ok,ty,pos,after,guard⟩ a γ w B L (rop P gl orc e m dst (.look kn ok z (aC x) (aC k))).2:=by
 simp only[rop]at hc |-
 split at hc
 case h_2=>exact hc.elim
 rename_i id n e1 e2;rw[e1]at h1;obtain⟨e3,hn⟩:=Cv e2;rw[e3]at h2;try simp only[e1,e2]
 split at hc
 case h_2=>exact hc.elim
 rename_i sg kvs eY;simp only at hc;subst hc;try simp only[eY]
 obtain⟨kt,vt,i,zv,hu,hk,hi,hz,rfl⟩:=j5 ht;obtain⟨b,es,hb,hv,q2,q3,q4⟩:=hm.iR h1 (vU hB eY)
 obtain⟨f1,f2⟩:=Cw (w:=w) (γ:=γ) (P:=P) hk hn (kvs:=kvs) (es:=es.toList) (Nm q3) fun j k' c x' g1 g2=>by
  obtain⟨p1,p2,_,p3⟩:=q4 j k' c x' g1 (Nm g2);exact⟨p1,p2,p3⟩
 have cm:=MapKept.run_getObj_map (P:=P) q2;have j6:∀b,(Instr.checkKey b 10000 kt (Yp sg n)).run P w=.ok () w:=fun b=>run_checkKey hk hn;have Sw:=qE hn h2;cases hf:Xh n kvs 0 with
 |none=>
  have PS:=f1 hf
  have bh:(execOp a.eval ⟨dst,.lookup t x k ok,ty,pos,after,guard⟩).run P w=.ok (.value (if ok then .tuple #[zv,.bool false]else zv)) w:=by
   simp[execOp,Instr.lookup,run_underlying hu,hv,Sw,cm,j6,PS,zeroValue,typeInfo,hi,hz]
  refine Qs hm bh ?_;cases ok
  ·exact Kb w γ zv
  exact(ak.cons (Kb w γ zv) (ak.cons (.bool false) ak.nil)).zz
 |some p=>
  obtain⟨j,c⟩:=p;obtain⟨vv,PS,g2,_⟩:=f2 j c hf
  have bh:(execOp a.eval ⟨dst,.lookup t x k ok,ty,pos,after,guard⟩).run P w=.ok (.value (if ok then .tuple #[vv,.bool true]else vv)) w:=by
   simp[execOp,Instr.lookup,run_underlying hu,hv,Sw,cm,j6,PS]
  refine Qs hm bh ?_;cases ok
  ·exact g2
  exact(ak.cons g2 (ak.cons (.bool true) ak.nil)).zz
def PT(hm:au N w0 an γ w B L)(hB:∀id cells,m.boxes[id]?=some cells->B id=some cells){x:Operand}(h1:aA w γ (e (aC x)) (a.eval x))
  (hc:(rop P gl orc e m dst (.entr (aC x))).1):
  Step N w0 an P ⟨dst,.entry x,ty,pos,after,guard⟩ a γ w B L (rop P gl orc e m dst (.entr (aC x))).2:=by
 simp only[rop]at hc |-
 split at hc
 case h_2=>exact hc.elim
 rename_i id e1;rw[e1]at h1;try simp only[e1]
 split at hc
 case h_2=>exact hc.elim
 rename_i mid n seen eY;try simp only[eY]
 split at hc
 case h_2=>exact hc.elim
 rename_i kn kvs i gJ lJ;try simp only[gJ,lJ]
 obtain⟨Eg,bP⟩:=hc;obtain⟨b,mb,hb,hv,q1,q2⟩:=hm.Nv h1 (vU hB eY);obtain⟨b',es,cK,EX,q3,q4,q5⟩:=hm.iR (v:=.map (some mb)) (.mp q2) (vU hB gJ);cases EX;have hie:i<es.size:=zE
 have VM:=Qek q4 q5 hie
 obtain⟨ini,awI⟩:∃ini,seen=ini++[i]:=by
  rw[zzfi]at lJ;exact lJ
 have ard:seen.toArray=ini.toArray.push es[i].born:=by rw[VM,awI];simp
 have nX:(es.toList.map (·.born)).Nodup:=by
  have:es.toList.map (·.born)=List.range es.size:=by
   apply zzfd
   ·simp
   intro j h1 h2;simp at h1;simp[Qek q4 q5 h1]
  rw[this];exact zzdn
 have bh:=run_entry_at (P:=P) w b mb n ini.toArray es es.size es[i] (by rw[<- ard,q1];congr 2;omega) q3 zd nX;obtain⟨p1,p2,_,p3⟩:=q5 i (kvs[i]' zE).1 (kvs[i]' zE).2 es[i] (by simp[show i<kvs.length by omega]) (by simp[hie]);have JN:kvs.getD i ([],.junk)=kvs[i]' zE:=by simp[List.getD,show i<kvs.length by omega]
 rw[JN];refine Qs hm (v:=.tuple #[es[i].key,es[i].val]) (by simp[execOp,hv,bh]) ?_;rw[p2];exact(ak.cons (AF p1) (ak.cons p3 ak.nil)).zz
end
section
variable {N:Nat} {w0:eO} {an:Nat->Nat->Prop} {γ:G} {w:World} {B:Nat->PH} {L:Nat->Option Nat} {P:Program} {o:Oper} {a:Act} {r:AV}
variable {dst:Option Tmp} {ty:TypeId} {pos:String} {after:Array Edge} {guard:Option (Nat×Bool)} {gl:Nat->AV} {orc:UV} {e:bE->AV} {m:AM}
def AH{xs:Array Operand}(h:∀x∈xs,aA w γ (e (aC x)) (a.eval x)):ak w γ ((xs.toList.map aC).map e) (xs.map a.eval).toList:=by
 refine⟨zd,fun i c v h1 h2=>?_⟩;simp at h1 h2;obtain⟨x,hx,rfl⟩:=h1;obtain⟨x',jY,rfl⟩:=h2;rw[hx]at jY;cases jY;exact h x (zzde hx)
def Qdv{f:FuncId}{args:P1}(h:bA P f):(callFunc f args).run P w=.ok (.enter f args) w:=by
 obtain⟨fn,h1,h2,h3⟩:=h;have Nw:¬fn.body=none:=by intro h;simp[h]at h2
 have h3':¬fn.name= "runtime.NumGoroutine":=by simpa using h3
 simp[callFunc,h1,Nw,h3']
def PU(hm:au N w0 an γ w B L)(hB:∀id cells,m.boxes[id]?=some cells->B id=some cells)(iN:∀g,aA w γ.cS (gl g) (.pointer (some ⟨g,0,none⟩))){f:Operand}{args:Array Operand}{ts:Array TypeId}
  (h1:aA w γ (e (aC f)) (a.eval f))(h2:∀x∈args,aA w γ (e (aC x)) (a.eval x))(hc:(rop P gl orc e m dst (.call (aC f) (args.toList.map aC))).1):
  Step N w0 an P ⟨dst,.call ⟨.value f,args,ts⟩,ty,pos,after,guard⟩ a γ w B L (rop P gl orc e m dst (.call (aC f) (args.toList.map aC))).2:=by
 simp only[rop]at hc |-
 split at hc
 case h_2=>exact hc.elim
 rename_i g first cap e1
 try simp only[e1]
 rw[e1]at h1;obtain⟨fa,ca,hv,r1,r2⟩:=h1.qA;have oq:=(r1.append (AH h2)).append r2;generalize orc (dst.getD 0) g ((first++(args.toList.map aC).map e++cap).map (bB m 6))=x at hc
 have bh:bA P g->(execOp a.eval ⟨dst,.call ⟨.value f,args,ts⟩,ty,pos,after,guard⟩).run P w=.ok (.enter g ((fa.toList++(args.map a.eval).toList++ca.toList).toArray)) w:=fun qj=>by
  simp[execOp,resolve,hv,Deferred.ofValue,invoke,Qdv qj]
 have pure:∀r,(Pure P gl g ((first++(args.toList.map aC).map e++cap).map (bB m 6)) r/\((first++(args.toList.map aC).map e++cap).any (Vi 6)=true->flat r=true))->Step N w0 an P ⟨dst,.call ⟨.value f,args,ts⟩,ty,pos,after,guard⟩ a γ w B L r:=fun r⟨hp,eZ⟩rd next Q hk=>
  ER (bh hp.1) (JD hm hB iN oq hp eZ fun v w' γ' h3 h4 h5=>hk v w' γ' h3 h4 h5)
 cases x with
 |gd b r=>
  intro rd next Q hk
  refine ER (bh hc.1) ((hc.2 N w0 an γ w B L _ hm hB iN oq).mono ?_);rintro en w' ⟨v,γ',rfl,h3,h4,h5⟩;exact hk v w' γ' h3 h4 h5
 |_=>exact pure _ hc
def PV(hm:au N w0 an γ w B L){x:Operand}{t:TypeId}(hu:P.underlying t=some .string)(h1:aA w γ (e (aC x)) (a.eval x))(hc:(rop P gl orc e m dst (.lenS (aC x))).1):
  Step N w0 an P ⟨dst,.call ⟨.builtin .len,#[x],#[t]⟩,ty,pos,after,guard⟩ a γ w B L (rop P gl orc e m dst (.lenS (aC x))).2:=by
 simp only[rop]at hc |-
 split at hc
 case h_2=>exact hc.elim
 rename_i s e1;rw[e1]at h1;exact Qs hm (v:=.int .i64 s.size) (by simp[execOp,resolve,invoke,builtin,Builtin.len_,run_underlying hu,h1.cp,goInt]) (.int _ _)
def VN(hm:au N w0 an γ w B L){x:Operand}{t te:TypeId}(hu:P.underlying t=some (.slice te))(h1:aA w γ (e (aC x)) (a.eval x))(hc:(rop P gl orc e m dst (.len (aC x))).1):
  Step N w0 an P ⟨dst,.call ⟨.builtin .len,#[x],#[t]⟩,ty,pos,after,guard⟩ a γ w B L (rop P gl orc e m dst (.len (aC x))).2:=by
 simp only[rop]at hc |-
 split at hc
 case h_3=>exact hc.elim
 case h_2=>
  rename_i id off len sz e1;rw[e1]at h1;try simp only[e1]
  obtain⟨b,cap,arr,y7,hb,hv,_⟩:=h1.cL;exact Qs hm (v:=.int .i64 len) (by simp[execOp,resolve,invoke,builtin,Builtin.len_,run_underlying hu,hv,goInt]) (.int _ _)
 rename_i rt rows e1;rw[e1]at h1;try simp only[e1]
 obtain⟨a',cap,b,off,sz,cv,hv,_⟩:=h1.bZ;exact Qs hm (v:=.int .i64 rows.length) (by simp[execOp,resolve,invoke,builtin,Builtin.len_,run_underlying hu,hv,goInt]) (.int _ _)
def ad5(hm:au N w0 an γ w B L){x y:Operand}{ts:Array TypeId}(h1:aA w γ (e (aC x)) (a.eval x))(h2:aA w γ (e (aC y)) (a.eval y))(hc:(rop P gl orc e m dst (.mn (aC x) (aC y))).1):
  Step N w0 an P ⟨dst,.call ⟨.builtin .min,#[x,y],ts⟩,ty,pos,after,guard⟩ a γ w B L (rop P gl orc e m dst (.mn (aC x) (aC y))).2:=by
 simp only[rop]at hc |-
 split at hc
 case h_2=>exact hc.elim
 rename_i k p k' q e1 e2;rw[e1]at h1;rw[e2]at h2;exact Qs hm (v:=.int k (if q<p then q else p)) (by simp[execOp,resolve,invoke,builtin,Builtin.min_,Builtin.min2,h1.aI,h2.aI]) (.int _ _)
def ad6(hm:au N w0 an γ w B L){x y:Operand}{ts:Array TypeId}(h1:aA w γ (e (aC x)) (a.eval x))(h2:aA w γ (e (aC y)) (a.eval y))(hc:(rop P gl orc e m dst (.mx (aC x) (aC y))).1):
  Step N w0 an P ⟨dst,.call ⟨.builtin .max,#[x,y],ts⟩,ty,pos,after,guard⟩ a γ w B L (rop P gl orc e m dst (.mx (aC x) (aC y))).2:=by
 simp only[rop]at hc |-
 split at hc
 case h_2=>exact hc.elim
 rename_i k p k' q e1 e2;rw[e1]at h1;rw[e2]at h2;exact Qs hm (v:=.int k (if p<q then q else p)) (by simp[execOp,resolve,invoke,builtin,Builtin.max_,Builtin.max2,h1.aI,h2.aI]) (.int _ _)
def EY(hm:au N w0 an γ w B L){big:Bool}{x y z:Operand}{ts:Array TypeId}(h1:aA w γ (e (aC x)) (a.eval x))(h2:aA w γ (e (aC y)) (a.eval y))(h3:aA w γ (e (aC z)) (a.eval z))(hc:(rop P gl orc e m dst (.mm3 big (aC x) (aC y) (aC z))).1):
  Step N w0 an P ⟨dst,.call ⟨.builtin (if big=true then .max else .min),#[x,y,z],ts⟩,ty,pos,after,guard⟩ a γ w B L (rop P gl orc e m dst (.mm3 big (aC x) (aC y) (aC z))).2:=by
 simp only[rop]at hc |-
 split at hc
 case h_2=>exact hc.elim
 rename_i k p k' q k'' r e1 e2 e3;rw[e1]at h1;rw[e2]at h2;rw[e3]at h3;cases big
 ·exact Qs hm (v:=.int k (Px false (Px false p q) r)) (by simp[execOp,resolve,invoke,builtin,Builtin.min_,Builtin.min2,h1.aI,h2.aI,h3.aI,Px]) (.int _ _)
 exact Qs hm (v:=.int k (Px true (Px true p q) r)) (by simp[execOp,resolve,invoke,builtin,Builtin.max_,Builtin.max2,h1.aI,h2.aI,h3.aI,Px]) (.int _ _)
def Jv{n b:Nat}(hb:b≠0)(h:(3*n+4000)*b<=562949953421312):n<=9223372036854775807:=by
 have:(3*n+4000)*1<=(3*n+4000)*b:=Nat.mul_le_mul_left _ (Nat.one_le_iff_ne_zero.2 hb);omega
def VO(hm:au N w0 an γ w B L){s x:Operand}{t te:TypeId}{i:TypeInfo}{z:Value}(hu:P.underlying t=some (.slice te))(hi:P.info? te=some i)(hz:i.zero=some z)(dZ:i.bytes≠0)
  (h1:aA w γ (e (aC s)) (a.eval s))(h2:aA w γ (e (aC x)) (a.eval x))(hc:(rop P gl orc e m dst (.app i.size i.bytes (aC s) (aC x))).1):
  Step N w0 an P ⟨dst,.call ⟨.builtin .append,#[s,x],#[t,t]⟩,ty,pos,after,guard⟩ a γ w B L (rop P gl orc e m dst (.app i.size i.bytes (aC s) (aC x))).2:=by
 simp only[rop]at hc |-
 split at hc
 case h_2=>exact hc.elim
 rename_i rt rows Su aq e1 e2;rw[e1]at h1;rw[e2]at h2;obtain⟨hfu,hr,cH⟩:=hc;replace h1:=h1.uj hfu;obtain⟨v,w',γ',g1,g2,g3,g4⟩:=alf (ty:=ty) hm hu hi hz h1 h2 hr cH (Jv dZ cH);exact AB g3 g2 (by simp[execOp,resolve,invoke,builtin,g1]) g4
def Qct(hm:au N w0 an γ w B L)(hB:∀id cells,m.boxes[id]?=some cells->B id=some cells)(iN:∀g,aA w γ.cS (gl g) (.pointer (some ⟨g,0,none⟩)))
  (he:∀x∈o.op.operands,aA w γ (e (aC x)) (a.eval x))(hc:(rop P gl orc e m o.dst (tr P o)).1):Step N w0 an P o a γ w B L (rop P gl orc e m o.dst (tr P o)).2:=by
 obtain⟨dst,op,ty,pos,after,guard⟩:=o;cases op with
 |move x=>exact Qs hm (by simp[execOp]) (he x (by simp[Op.operands]))
 |assign x=>exact Qs hm (by simp[execOp]) (he x (by simp[Op.operands]))
 |pick c x y=>exact PB hm (he c (by simp[Op.operands])) (he x (by simp[Op.operands])) (he y (by simp[Op.operands])) hc
 |load t x=>exact PC hm hB (he x (by simp[Op.operands])) hc
 |fieldAddr t x f=>exact JG hm (he x (by simp[Op.operands])) hc
 |field t x f=>exact U7 hm (he x (by simp[Op.operands])) hc
 |indexAddr t x y=>exact JH hm (he x (by simp[Op.operands])) (he y (by simp[Op.operands])) hc
 |index t x y=>exact PD hm (he x (by simp[Op.operands])) (he y (by simp[Op.operands])) hc
 |binOp op t x y t'=>
  have h1:=he x (by simp[Op.operands]);have h2:=he y (by simp[Op.operands]);simp only[tr]at hc |-
  split at hc
  ·rename_i hu;exact PE hm hu h1 h2 hc
  ·exact EU hm h1 h2 hc
  ·exact EU hm h1 h2 hc
  ·rename_i te hu;exact PK hm hu h1 hc
  ·rename_i te hu;exact PL hm hu h1 hc
  ·rename_i fs hu;exact VG hm hu h1 h2 hc
  exact hc.elim
 |unOp op t x=>exact ad3 hm (he x (by simp[Op.operands])) hc
 |convert s d x=>
  have h1:=he x (by simp[Op.operands]);simp only[tr]at hc |-
  split at hc
  ·rename_i k0 k hs hd;exact PF hm hs hd h1 hc
  ·rename_i te hs hd;split at hc
   ·rename_i ht;cases hx:e (aC x)with
    |sl rt rows=>exact VE hm hs hd ht h1 ⟨rt,rows,hx⟩ hc
    |bs id off len sz=>
     simp only[rop,hx]at hc |-
     split at hc
     ·rename_i l hl;try simp only[hl]
      exact PM hm hB hs hd ht h1 hx hl
     exact hc.elim
    |_=>simp[rop,hx]at hc
   exact hc.elim
  exact hc.elim
 |lookup t x k ok=>
  have h1:=he x (by simp[Op.operands]);have h2:=he k (by simp[Op.operands]);simp only[tr]at hc |-
  split at hc
  ·rename_i v z ht;exact PR hm hB ht h1 h2 hc
  exact hc.elim
 |entry x=>exact PT hm hB (he x (by simp[Op.operands])) hc
 |next x s=>cases s<;>exact hc.elim
 |build t parts=>exact JI hm (fun p hp=>he p.2 (by simp[Op.operands];exact⟨p.1,hp⟩)) hc
 |buildSlice t len parts=>exact VB hm hB (fun p hp=>he p.2 (by simp[Op.operands];exact⟨p.1,hp⟩)) hc
 |makeFunc fn first cap=>
  cases fn with
  |func f=>exact PG hm (fun x hx=>he x (by simp[Op.operands,hx])) (fun x hx=>he x (by simp[Op.operands,hx]))
  |_=>exact hc.elim
 |extract x i=>exact Vc hm (he x (by simp[Op.operands])) hc
 |nilCheck x=>exact PI hm (he x (by simp[Op.operands])) hc
 |slice t x lo hi mx=>
  cases mx with
  |none=>
   simp only[tr]at hc |-
   split at hc
   ·rename_i hu;exact VA hm (he x (by simp[Op.operands])) (fun y hy=>he y (by simp at hy;simp[Op.operands,hy])) (fun y hy=>he y (by simp at hy;simp[Op.operands,hy])) hu hc
   ·rename_i te hu;split at hc
    ·rename_i i c9;exact VH hm hu c9 (he x (by simp[Op.operands])) (fun y hy=>he y (by simp at hy;simp[Op.operands,hy])) (fun y hy=>he y (by simp at hy;simp[Op.operands,hy])) hc
    exact hc.elim
   ·rename_i n te hu;split at hc
    ·rename_i i c9;exact VJ hm hB hu c9 (he x (by simp[Op.operands])) (fun y hy=>he y (by simp at hy;simp[Op.operands,hy])) (fun y hy=>he y (by simp at hy;simp[Op.operands,hy])) hc
    exact hc.elim
   exact hc.elim
  |some mx=>exact hc.elim
 |call c=>
  obtain⟨callee,args,ts⟩:=c;have mO:∀x∈args,aA w γ (e (aC x)) (a.eval x):=fun x hx=>he x (by simp[Op.operands,Call.operands,hx]);cases callee with
  |value f=>exact PU hm hB iN (he f (by simp[Op.operands,Call.operands])) mO hc
  |invoke recv name=>exact hc.elim
  |builtin b=>
   cases b<;>first|exact hc.elim|skip
   case append=>
    simp only[tr,Zu]at hc |-
    split at hc
    case h_2=>exact hc.elim
    rename_i s x t t' ha ht;split at hc
    case h_2=>exact hc.elim
    rename_i te y7 hu hu';split at hc
    case h_2=>exact hc.elim
    rename_i i hi;split at hc
    case isFalse=>exact hc.elim
    rename_i bQ;try rw[ac bQ]
    simp only[zzac,beq_iff_eq,bne_iff_ne]at bQ;obtain⟨⟨⟨rfl,hz⟩,_⟩,dZ⟩:=bQ;obtain rfl:args=#[s,x]:=by cases args;simp_all
    obtain rfl:ts=#[t,t]:=by cases ts;simp_all
    cases iQ:i.zero with
    |none=>simp[iQ]at hz
    |some z=>exact VO hm hu hi iQ dZ (mO s zd) (mO x zd) hc
   case copy=>
    simp only[tr,Zu]at hc;repeat' split at hc
    all_goals exact hc.elim
   case clear=>
    simp only[tr,Zu]at hc;repeat' split at hc
    all_goals exact hc.elim
   case len=>
    simp only[tr,Zu]at hc |-
    split at hc
    case h_2=>exact hc.elim
    rename_i x t ha ht;obtain rfl:args=#[x]:=by cases args;simp_all
    obtain rfl:ts=#[t]:=by cases ts;simp_all
    split at hc
    ·rename_i hu;exact PV hm hu (mO x zd) hc
    ·rename_i te hu;exact VN hm hu (mO x zd) hc
    exact hc.elim
   case max=>
    simp only[tr,Zu]at hc |-
    split at hc
    case h_3=>exact hc.elim
    ·rename_i x y ha;obtain rfl:args=#[x,y]:=by cases args;simp_all
     exact ad6 hm (mO x zd) (mO y zd) hc
    rename_i x y z ha;obtain rfl:args=#[x,y,z]:=by cases args;simp_all
    exact EY (big:=true) hm (mO x zd) (mO y zd) (mO z zd) hc
   case min=>
    simp only[tr,Zu]at hc |-
    split at hc
    case h_3=>exact hc.elim
    ·rename_i x y ha;obtain rfl:args=#[x,y]:=by cases args;simp_all
     exact ad5 hm (mO x zd) (mO y zd) hc
    rename_i x y z ha;obtain rfl:args=#[x,y,z]:=by cases args;simp_all
    exact EY (big:=false) hm (mO x zd) (mO y zd) (mO z zd) hc
 |makeMap t r=>cases r<;>first|exact hc.elim|(simp only[tr]at hc;split at hc<;>exact hc.elim)
 |makeSlice t l c=>
  simp only[tr]at hc;repeat' split at hc
  all_goals exact hc.elim
 |_=>first|exact hc.elim|(simp only[tr]at hc;split at hc<;>exact hc.elim)
end
end Go.Abs
