import Derived.Test.YtjmgelbfndnpjaaGreatDoorPPMB
set_option linter.unusedVariables false
set_option linter.unusedSimpArgs false
namespace Go.Abs
open Go Go.RowKit
section
variable {N:Nat} {w0:Bas} {ro0:Nat->Nat->Prop} {γ:G} {w:World} {B:Nat->Option (List AV)} {L:Nat->Option Nat} {P:Program} {o:Oper} {a:Act} {r:AV}
variable {dst:Option Tmp} {ty:TypeId} {pos:String} {after:Array Edge} {guard:Option (Nat×Bool)} {gl:Nat->AV} {orc:Nat->FuncId->List AV->AV} {e:Opd->AV} {m:AM}
theorem step_fld (hm:MSim N w0 ro0 γ w B L) {t:TypeId} {x:Operand} {f:Nat} (h1:Rep w γ (e (opd x)) (a.eval x))
  (hc:(rop P gl orc e m dst (tr P ⟨dst,.field t x f,ty,pos,after,guard⟩)).1) :
  Step N w0 ro0 P ⟨dst,.field t x f,ty,pos,after,guard⟩ a γ w B L (rop P gl orc e m dst (tr P ⟨dst,.field t x f,ty,pos,after,guard⟩)).2:=by
 simp only [tr] at hc |-
 split at hc
 case h_2=>exact hc.elim
 rename_i fields hu
 split at hc
 case h_2=>exact hc.elim
 rename_i fl hfl
 split at hc
 case h_2=>exact hc.elim
 rename_i i d hi hd
 have main:∀ (agg:Bool) (n:Nat),Ub P fl.type=agg->(agg=true->n=i.size)->(rop P gl orc e m dst (.fld agg fl.offset n (opd x))).1 ->
   Step N w0 ro0 P ⟨dst,.field t x f,ty,pos,after,guard⟩ a γ w B L (rop P gl orc e m dst (.fld agg fl.offset n (opd x))).2:=by
  intro agg n hagg hn hc
  simp only [rop] at hc |-
  split at hc
  case h_2=>exact hc.elim
  rename_i cs he
  rw [he] at h1
  obtain ⟨arr,hv,hr⟩:=h1.inv_agg
  obtain ⟨hc1,hc2⟩:=hc
  have hd':=hr.drop fl.offset
  cases agg with
  | true =>
   have hnn:=hn rfl
   subst hnn
   refine Qp hm (v:=.agg (arr.extract fl.offset (fl.offset+i.size))) ?_ ?_
   ·unfold Ub at hagg
    rw [hd] at hagg
    cases d<;>simp at hagg<;>simp [execOp,hv,Instr.field,run_underlying hu,hfl,asAgg,part,isAgg,run_underlying hd,sizeOf,typeInfo,hi]
   ·simp only [Zl,if_true]
    refine RepL.agg' ?_
    have:=hd'.take i.size
    simpa [Array.toList_extract,List.extract] using this
  | false =>
   have hn1:=hc2 rfl
   subst hn1
   have hlen:fl.offset < arr.size:=by
    rw [List.length_take,List.length_drop] at hc1
    have:=hr.1
    simp at this
    omega
   have hu':arr[fl.offset]? = some arr[fl.offset]:=Array.getElem?_eq_getElem hlen
   refine Qp hm (v:=arr[fl.offset]) ?_ ?_
   ·unfold Ub at hagg
    rw [hd] at hagg
    cases d<;>simp at hagg<;>simp [execOp,hv,Instr.field,run_underlying hu,hfl,asAgg,part,isAgg,run_underlying hd,hu']
   ·simp only [Zl]
    have:=hd'.get 0
    simp [List.getD] at this |-
    simpa [hlen] using this
 cases hagg:Ub P fl.type with
 | true=>simp only [hagg,if_true] at hc |-;exact main true _ hagg (fun _=>rfl) hc
 | false=>simp only [hagg] at hc |-;exact main false 1 hagg (fun h=>by cases h) hc
theorem step_idxS (hm:MSim N w0 ro0 γ w B L) {t:TypeId} {x y:Operand} (h1:Rep w γ (e (opd x)) (a.eval x)) (h2:Rep w γ (e (opd y)) (a.eval y))
  (hc:(rop P gl orc e m dst (tr P ⟨dst,.index t x y,ty,pos,after,guard⟩)).1) :
  Step N w0 ro0 P ⟨dst,.index t x y,ty,pos,after,guard⟩ a γ w B L (rop P gl orc e m dst (tr P ⟨dst,.index t x y,ty,pos,after,guard⟩)).2:=by
 simp only [tr] at hc |-
 split at hc
 case h_3=>exact hc.elim
 case h_2 =>
  rename_i len te hu
  split at hc
  case h_2=>exact hc.elim
  rename_i j d hj hd
  have main:∀ (agg:Bool) (sz:Nat),Ub P te=agg->j.size=sz->(rop P gl orc e m dst (.idxA agg len sz (opd x) (opd y))).1 ->
    Step N w0 ro0 P ⟨dst,.index t x y,ty,pos,after,guard⟩ a γ w B L (rop P gl orc e m dst (.idxA agg len sz (opd x) (opd y))).2:=by
   intro agg sz hagg hsz hc
   subst hsz
   simp only [rop] at hc |-
   split at hc
   case h_2=>exact hc.elim
   rename_i cs k n e1 e2
   rw [e1] at h1
   rw [e2] at h2
   obtain ⟨arr,hv,hr⟩:=h1.inv_agg
   obtain ⟨⟨hn0,hn1⟩,hc1,hc2⟩:=hc
   have hd':=hr.drop (n.toNat*j.size)
   cases agg with
   | true =>
    refine Qp hm (v:=.agg (arr.extract (n.toNat*j.size) (n.toNat*j.size+j.size))) ?_ ?_
    ·unfold Ub at hagg
     rw [hd] at hagg
     cases d<;>simp at hagg<;>simp [execOp,hv,h2.inv_int,Instr.index,run_underlying hu,asIntOf,hn0,hn1,asAgg,part,isAgg,run_underlying hd,sizeOf,typeInfo,hj]
    ·simp only [Zl,if_true]
     refine RepL.agg' ?_
     have:=hd'.take j.size
     simpa [Array.toList_extract,List.extract] using this
   | false =>
    have hn1':=hc2 rfl
    have hlen:n.toNat*j.size < arr.size:=by
     rw [List.length_take,List.length_drop] at hc1
     have:=hr.1
     simp at this
     omega
    have hu':arr[n.toNat*j.size]? = some arr[n.toNat*j.size]:=Array.getElem?_eq_getElem hlen
    refine Qp hm (v:=arr[n.toNat*j.size]) ?_ ?_
    ·unfold Ub at hagg
     rw [hd] at hagg
     cases d<;>simp at hagg<;>simp [execOp,hv,h2.inv_int,Instr.index,run_underlying hu,asIntOf,hn0,hn1,asAgg,part,isAgg,run_underlying hd,sizeOf,typeInfo,hj,hu']
    ·simp only [Zl]
     have:=hd'.get 0
     simp [List.getD] at this |-
     simpa [hlen] using this
  cases hagg:Ub P te with
  | true=>simp only [hagg,if_true] at hc |-;exact main true _ hagg rfl hc
  | false =>
   simp only [hagg,Bool.false_eq_true,if_false] at hc |-
   split at hc
   ·rename_i h0
    have h0':j.size=1:=by simpa using h0
    rw [if_pos h0]
    exact main false 1 hagg h0' hc
   ·exact hc.elim
 rename_i hu
 simp only [rop] at hc |-
 split at hc
 case h_2=>exact hc.elim
 rename_i s k n e1 e2
 rw [e1] at h1
 rw [e2] at h2
 obtain ⟨hn0,hn1⟩:=hc
 have hlt:n.toNat < s.size:=by omega
 have hg:s[n.toNat]? = some (s.data.toList.getD n.toNat 0):=by
  have h3:n.toNat < s.data.size:=hlt
  have:s[n.toNat]? = some s[n.toNat]:=by simp [hlt]
  rw [this]
  congr 1
  have h4:s.data.toList.getD n.toNat 0=s.data[n.toNat]:=by
   show (s.data.toList[n.toNat]?).getD 0=_
   rw [Array.getElem?_toList,Array.getElem?_eq_getElem h3];rfl
  rw [h4]
  rfl
 refine Qp hm (v:=.int .u8 (s.data.toList.getD n.toNat 0).toNat) ?_ (.int _ _)
 simp [execOp,h1.inv_str,h2.inv_int,Instr.index,asIntOf,run_underlying hu,hn0,hg]
theorem run_binI {op:BinOp} {k:IntKind} {x y:Int} {t:TypeId} (hop:op≠.shl/\op≠.shr) (hc:(binI op k x y).1):∃ v,(binOp op t (.int k x) (.int k y)).run P w=.ok v w/\Rep w γ (binI op k x y).2 v:=by
 cases op<;>simp only [binI] at hc |-<;>first
  | exact hc.elim
  | (simp at hop;done)
  | (refine ⟨.bool _,?_,.bool _⟩;simp [binOp,Op.intCmp];done)
  | (refine ⟨.int k _,?_,.int k _⟩;simp [binOp,Op.intArith,Op.intBits];done)
  | (refine ⟨.int k _,?_,.int k _⟩;simp [binOp,Op.intDiv,hc];done)
theorem run_binS {op:BinOp} {x y:ByteArray} {t:TypeId} (hop:op≠.shl/\op≠.shr) (hc:(binS op x y).1):∃ v,(binOp op t (.string x) (.string y)).run P w=.ok v w/\Rep w γ (binS op x y).2 v:=by
 cases op<;>simp only [binS] at hc |-<;>first
  | exact hc.elim
  | (simp at hop;done)
  | (refine ⟨.bool _,?_,.bool _⟩;simp [binOp,Op.stringOp];done)
  | (refine ⟨.string (x++y),?_,.str _⟩
     have h1:¬ (((x.size+y.size:Nat):Int) > IntKind.i64.max):=by
       have:IntKind.i64.max=9223372036854775807:=by decide
       rw [this];omega
     simp only [binOp,Op.stringOp,if_neg h1]
     rfl)
theorem eqGuard_int {op:BinOp} {t:TypeId} {x y:Operand} {k k':IntKind} {p q:Int}:(eqGuard op t x y (.int k p) (.int k' q)).run P w=.ok () w:=by
 cases op<;>simp [eqGuard]
theorem eqGuard_str {op:BinOp} {t:TypeId} {x y:Operand} {p q:ByteArray}:(eqGuard op t x y (.string p) (.string q)).run P w=.ok () w:=by
 cases op<;>simp [eqGuard]
theorem eqGuard_bool {op:BinOp} {t:TypeId} {x y:Operand} {p q:Bool}:(eqGuard op t x y (.bool p) (.bool q)).run P w=.ok () w:=by
 cases op<;>simp [eqGuard]
theorem step_bin (hm:MSim N w0 ro0 γ w B L) {op:BinOp} {t t':TypeId} {x y:Operand} (h1:Rep w γ (e (opd x)) (a.eval x)) (h2:Rep w γ (e (opd y)) (a.eval y))
  (hc:(binV op (e (opd x)) (e (opd y))).1) :
  Step N w0 ro0 P ⟨dst,.binOp op t x y t',ty,pos,after,guard⟩ a γ w B L (binV op (e (opd x)) (e (opd y))).2:=by
 unfold binV at hc |-
 split at hc
 ·split at hc
  case h_2=>exact hc.elim
  rename_i k p k' q e1 e2
  try simp only [e1,e2]
  rw [e1] at h1
  rw [e2] at h2
  have hq:¬ q < 0:=by omega
  refine Qp hm (v:=.int k (k.wrap (p*2 ^ (min q.toNat k.bits)))) ?_ (.int _ _)
  simp [execOp,h1.inv_int,h2.inv_int,eqGuard_int,binOp,Op.shift,hq]
 ·split at hc
  case h_2=>exact hc.elim
  rename_i k p k' q e1 e2
  try simp only [e1,e2]
  rw [e1] at h1
  rw [e2] at h2
  have hq:¬ q < 0:=by omega
  refine Qp hm (v:=.int k (p.fdiv (2 ^ (min q.toNat k.bits)))) ?_ (.int _ _)
  simp [execOp,h1.inv_int,h2.inv_int,eqGuard_int,binOp,Op.shift,hq]
 ·rename_i op' hns1 hns2
  split at hc
  ·rename_i k p k' q e1 e2
   try simp only [e1,e2]
   rw [e1] at h1
   rw [e2] at h2
   obtain ⟨rfl,hc⟩:=hc
   obtain ⟨v,hv,hr⟩:=run_binI (P:=P) (w:=w) (γ:=γ) (t:=t) ⟨fun h=>hns1 h,fun h=>hns2 h⟩ hc
   exact Qp hm (v:=v) (by simp [execOp,h1.inv_int,h2.inv_int,eqGuard_int,hv]) hr
  ·rename_i p q e1 e2
   try simp only [e1,e2]
   rw [e1] at h1
   rw [e2] at h2
   obtain ⟨v,hv,hr⟩:=run_binS (P:=P) (w:=w) (γ:=γ) (t:=t) ⟨fun h=>hns1 h,fun h=>hns2 h⟩ hc
   exact Qp hm (v:=v) (by simp [execOp,h1.inv_str,h2.inv_str,eqGuard_str,hv]) hr
  ·exact hc.elim
theorem run_equalIn_bool {t:TypeId} (hu:P.underlying t=some .bool) (p q:Bool) (d:Nat):(Op.equalIn (d+1) t (.bool p) (.bool q)).run P w=.ok (p==q) w:=by
 simp [Op.equalIn,run_underlying hu]
theorem step_binB (hm:MSim N w0 ro0 γ w B L) {op:BinOp} {t t':TypeId} {x y:Operand} (hu:P.underlying t=some .bool) (h1:Rep w γ (e (opd x)) (a.eval x)) (h2:Rep w γ (e (opd y)) (a.eval y))
  (hc:(binBool op (e (opd x)) (e (opd y))).1) :
  Step N w0 ro0 P ⟨dst,.binOp op t x y t',ty,pos,after,guard⟩ a γ w B L (binBool op (e (opd x)) (e (opd y))).2:=by
 unfold binBool at hc |-
 split at hc
 ·rename_i p q e1 e2
  try simp only [e1,e2]
  rw [e1] at h1
  rw [e2] at h2
  have:=run_equalIn_bool (P:=P) (w:=w) hu p q 9999
  exact Qp hm (v:=.bool (p==q)) (by simp [execOp,h1.inv_bool,h2.inv_bool,eqGuard_bool,binOp,Op.equal,Op.maxDepth,this]) (.bool _)
 ·rename_i p q e1 e2
  try simp only [e1,e2]
  rw [e1] at h1
  rw [e2] at h2
  have:=run_equalIn_bool (P:=P) (w:=w) hu p q 9999
  exact Qp hm (v:=.bool (!(p==q))) (by simp [execOp,h1.inv_bool,h2.inv_bool,eqGuard_bool,binOp,Op.equal,Op.maxDepth,this]) (.bool _)
 ·exact hc.elim
theorem step_un (hm:MSim N w0 ro0 γ w B L) {op:UnOp} {t:TypeId} {x:Operand} (h1:Rep w γ (e (opd x)) (a.eval x)) (hc:(rop P gl orc e m dst (.un op (opd x))).1) :
  Step N w0 ro0 P ⟨dst,.unOp op t x,ty,pos,after,guard⟩ a γ w B L (rop P gl orc e m dst (.un op (opd x))).2:=by
 simp only [rop] at hc |-
 split at hc
 ·rename_i b e1
  try simp only [e1]
  rw [e1] at h1
  exact Qp hm (v:=.bool (!b)) (by simp [execOp,h1.inv_bool,Op.unary]) (.bool _)
 ·rename_i k n e1
  try simp only [e1]
  rw [e1] at h1
  exact Qp hm (v:=.int k (k.wrap (0 - n))) (by simp [execOp,h1.inv_int,Op.unary,Op.intArith]) (.int _ _)
 ·rename_i k n e1
  try simp only [e1]
  rw [e1] at h1
  refine Qp hm ?_ (.int _ _)
  simp [execOp,h1.inv_int,Op.unary,Op.intBits]
 ·exact hc.elim
theorem step_conv (hm:MSim N w0 ro0 γ w B L) {s d:TypeId} {x:Operand} {k0 k:IntKind} (hs:P.underlying s=some (.int k0)) (hd:P.underlying d=some (.int k)) (h1:Rep w γ (e (opd x)) (a.eval x)) (hc:(rop P gl orc e m dst (.conv k (opd x))).1) :
  Step N w0 ro0 P ⟨dst,.convert s d x,ty,pos,after,guard⟩ a γ w B L (rop P gl orc e m dst (.conv k (opd x))).2:=by
 simp only [rop] at hc |-
 split at hc
 case h_2=>exact hc.elim
 rename_i k1 n e1
 rw [e1] at h1
 exact Qp hm (v:=.int k (k.wrap n)) (by simp [execOp,h1.inv_int,convert,run_underlying hs,run_underlying hd,Conv.intToInt]) (.int _ _)
theorem step_mkfn (hm:MSim N w0 ro0 γ w B L) {f:FuncId} {first cap:Array Operand} (h1:∀ x∈first,Rep w γ (e (opd x)) (a.eval x)) (h2:∀ x∈cap,Rep w γ (e (opd x)) (a.eval x)) :
  Step N w0 ro0 P ⟨dst,.makeFunc (.func f) first cap,ty,pos,after,guard⟩ a γ w B L (.fn f ((first.toList.map opd).map e) ((cap.toList.map opd).map e)):=by
 refine Qp hm (v:=.func (.func f) (first.map a.eval) (cap.map a.eval)) (by simp [execOp,Instr.makeFunc]) ?_
 refine .fn (by simp) (fun i c v g1 g2=>?_) (by simp) fun i c v g1 g2=>?_
 ·simp at g1 g2
  obtain ⟨x,hx,rfl⟩:=g1
  obtain ⟨x',hx',rfl⟩:=g2
  rw [hx] at hx'
  cases hx'
  exact h1 x (Array.mem_of_getElem? hx)
 ·simp at g1 g2
  obtain ⟨x,hx,rfl⟩:=g1
  obtain ⟨x',hx',rfl⟩:=g2
  rw [hx] at hx'
  cases hx'
  exact h2 x (Array.mem_of_getElem? hx)
theorem step_ext (hm:MSim N w0 ro0 γ w B L) {x:Operand} {i:Nat} (h1:Rep w γ (e (opd x)) (a.eval x)) (hc:(rop P gl orc e m dst (.ext (opd x) i)).1) :
  Step N w0 ro0 P ⟨dst,.extract x i,ty,pos,after,guard⟩ a γ w B L (rop P gl orc e m dst (.ext (opd x) i)).2:=by
 simp only [rop] at hc |-
 split at hc
 case h_2=>exact hc.elim
 rename_i vs e1
 rw [e1] at h1
 obtain ⟨arr,hv,hr⟩:=h1.inv_tup
 have hlt:i < arr.size:=by have:=hr.1;simp at this;omega
 have hu:arr[i]? = some arr[i]:=Array.getElem?_eq_getElem hlt
 refine Qp hm (v:=arr[i]) (by simp [execOp,hv,Instr.extract,hu]) ?_
 have:=hr.get i
 simpa [List.getD,hlt] using this
theorem step_nilc (hm:MSim N w0 ro0 γ w B L) {x:Operand} (h1:Rep w γ (e (opd x)) (a.eval x)) (hc:(rop P gl orc e m dst (.nilc (opd x))).1) :
  Step N w0 ro0 P ⟨dst,.nilCheck x,ty,pos,after,guard⟩ a γ w B L (rop P gl orc e m dst (.nilc (opd x))).2:=by
 simp only [rop] at hc |-
 split at hc
 ·rename_i id o' e1
  try simp only [e1]
  rw [e1] at h1
  have h1':=h1
  obtain ⟨b,hb,hv⟩:=h1.inv_ptr
  exact Qp hm (v:=a.eval x) (by simp [execOp,hv]) h1'
 ·rename_i row o' e1
  try simp only [e1]
  rw [e1] at h1
  have h1':=h1
  obtain ⟨b,off,cv,hv,_⟩:=h1.inv_ep
  exact Qp hm (v:=a.eval x) (by simp [execOp,hv]) h1'
 ·rename_i f first cap e1
  try simp only [e1]
  rw [e1] at h1
  have h1':=h1
  obtain ⟨fa,ca,hv,_⟩:=h1.inv_fn
  exact Qp hm (v:=a.eval x) (by simp [execOp,hv]) h1'
 ·exact hc.elim
theorem step_slS (hm:MSim N w0 ro0 γ w B L) {t:TypeId} {x:Operand} {lo hi:Option Operand} (h1:Rep w γ (e (opd x)) (a.eval x)) (h2:∀ y∈lo,Rep w γ (e (opd y)) (a.eval y)) (h3:∀ y∈hi,Rep w γ (e (opd y)) (a.eval y))
  (hu:P.underlying t=some .string) (hc:(rop P gl orc e m dst (.slS (opd x) (lo.map opd) (hi.map opd))).1) :
  Step N w0 ro0 P ⟨dst,.slice t x lo hi none,ty,pos,after,guard⟩ a γ w B L (rop P gl orc e m dst (.slS (opd x) (lo.map opd) (hi.map opd))).2:=by
 simp only [rop] at hc |-
 split at hc
 ·rename_i s k l k' h e1 e2 e3
  rw [e1] at h1
  cases lo with
  | none=>simp at e2
  | some lo =>
   cases hi with
   | none=>simp at e3
   | some hi =>
    simp at e2 e3
    have r2:=h2 lo (by simp)
    have r3:=h3 hi (by simp)
    rw [e2] at r2
    rw [e3] at r3
    obtain ⟨c1,c2,c3⟩:=hc
    have c4:(0:Int)<=h:=by omega
    have c5:l<=(h.toNat:Int):=by omega
    try simp only [e1,e2,e3,Option.map_some]
    refine Qp hm (v:=.string (s.extract l.toNat h.toNat)) ?_ (.str _)
    simp [execOp,h1.inv_str,r2.inv_int,r3.inv_int,Instr.sliceAt,Instr.slice,Instr.sliceBounds,Instr.sliceBound,asIntOf,run_underlying hu,c1,c3,c4,c5]
    intro hlt
    exact absurd hlt (by rw [Int.max_eq_left c4];omega)
 ·rename_i s k h e1 e2 e3
  rw [e1] at h1
  cases lo with
  | some lo=>simp at e2
  | none =>
   cases hi with
   | none=>simp at e3
   | some hi =>
    simp at e3
    have r3:=h3 hi (by simp)
    rw [e3] at r3
    obtain ⟨c1,c3⟩:=hc
    try simp only [e1,e3,Option.map_some,Option.map_none]
    refine Qp hm (v:=.string (s.extract 0 h.toNat)) ?_ (.str _)
    simp [execOp,h1.inv_str,r3.inv_int,Instr.sliceAt,Instr.slice,Instr.sliceBounds,Instr.sliceBound,asIntOf,run_underlying hu,c1,c3]
 ·rename_i s k l e1 e2 e3
  rw [e1] at h1
  cases lo with
  | none=>simp at e2
  | some lo =>
   cases hi with
   | some hi=>simp at e3
   | none =>
    simp at e2
    have r2:=h2 lo (by simp)
    rw [e2] at r2
    obtain ⟨c1,c3⟩:=hc
    try simp only [e1,e2,Option.map_some,Option.map_none]
    refine Qp hm (v:=.string (s.extract l.toNat s.size)) ?_ (.str _)
    simp [execOp,h1.inv_str,r2.inv_int,Instr.sliceAt,Instr.slice,Instr.sliceBounds,Instr.sliceBound,asIntOf,run_underlying hu,c1,c3]
 ·exact hc.elim
end
end Go.Abs
namespace Go.Abs
open Go Go.RowKit
section
variable {N:Nat} {w0:Bas} {ro0:Nat->Nat->Prop} {γ:G} {w:World} {B:Nat->Option (List AV)} {L:Nat->Option Nat} {P:Program} {o:Oper} {a:Act} {r:AV}
variable {dst:Option Tmp} {ty:TypeId} {pos:String} {after:Array Edge} {guard:Option (Nat×Bool)} {gl:Nat->AV} {orc:Nat->FuncId->List AV->AV} {e:Opd->AV} {m:AM}
theorem rep_cells {x:AV} {v:Value} (h:Rep w γ x v) (hx:bare x=true):RepL w γ (cellsOf x) v.cells.toList:=by
 cases x with
 | junk=>simp [bare] at hx
 | gd g y=>simp [bare] at hx
 | tup cs=>simp [bare] at hx
 | agg cs=>obtain ⟨arr,rfl,hr⟩:=h.inv_agg;exact hr
 | bool b=>cases h;exact RepL.cons (.bool b) RepL.nil
 | int k n=>cases h;exact RepL.cons (.int k n) RepL.nil
 | str s=>cases h;exact RepL.cons (.str s) RepL.nil
 | nilfn=>cases h;exact RepL.cons .nilfn RepL.nil
 | yld l=>cases h with | yld h=>exact RepL.cons (.yld h) RepL.nil
 | mp id=>cases h with | mp h=>exact RepL.cons (.mp h) RepL.nil
 | nilv p=>cases h;cases p<;>exact RepL.cons (.nilv _) RepL.nil
 | it id=>cases h with | it h=>exact RepL.cons (.it h) RepL.nil
 | mobj kn kvs=>simp [bare] at hx
 | mitr mid n s=>simp [bare] at hx
 | sl rt rows=>have h':=h;obtain ⟨_,_,_,_,_,_,rfl,_⟩:=h.sl_inv;exact RepL.cons h' RepL.nil
 | ep row o=>have h':=h;obtain ⟨_,_,_,rfl,_⟩:=h.inv_ep;exact RepL.cons h' RepL.nil
 | ptr id o=>have h':=h;obtain ⟨_,_,rfl⟩:=h.inv_ptr;exact RepL.cons h' RepL.nil
 | bs id off len sz=>have h':=h;obtain ⟨_,_,_,_,_,rfl,_⟩:=h.inv_bs;exact RepL.cons h' RepL.nil
 | fn f first cap=>have h':=h;obtain ⟨_,_,rfl,_⟩:=h.inv_fn;exact RepL.cons h' RepL.nil
theorem foldl_setL (off:Nat):∀ (l:List Value) (k:Nat) (arr:Array Value),(l.zipIdx k).foldl (fun (cs:Array Value) (p:Value×Nat)=>cs.setIfInBounds (off+p.2) p.1) arr=Kt arr (off+k) l
 | [],_,_=>rfl
 | v::l,k,arr=>by
  simp only [List.zipIdx_cons,List.foldl_cons,Kt]
  exact foldl_setL off l (k+1) _
theorem zipIdx_setL (off:Nat) (vs arr:Array Value):vs.zipIdx.foldl (fun (cs:Array Value) (p:Value×Nat)=>cs.setIfInBounds (off+p.2) p.1) arr=Kt arr off vs.toList:=by
 rw [<- Array.foldl_toList,Array.toList_zipIdx]
 exact foldl_setL off vs.toList 0 arr
theorem Ut {place:Nat->Option (Nat×Nat)}:∀ (ps:List (Nat×Nat×AV)) (vs:List (Nat×Value)) (cs:List AV) (arr:Array Value),ps.length=vs.length ->
  (∀ (i:Nat) (p:Nat×Nat×AV) (q:Nat×Value),ps[i]? = some p->vs[i]? = some q->place q.1=some (p.1,p.2.1)/\Rep w γ p.2.2 q.2)->RepL w γ cs arr.toList->(Qah cs ps).1 ->
  ∃ cells,Instr.fill place arr vs=some cells/\RepL w γ (Qah cs ps).2 cells.toList/\cells.size=arr.size
 | [],[],cs,arr,_,_,hr,_=>⟨arr,rfl,hr,rfl⟩
 | [],_::_,_,_,h,_,_,_=>by simp at h
 | _::_,[],_,_,h,_,_,_=>by simp at h
 | (off,size,x)::ps,(i,v)::vs,cs,arr,hl,hp,hr,hc=>by
  obtain ⟨h1,h2,h3,h4⟩:=hc
  obtain ⟨g1,g2⟩:=hp 0 _ _ rfl rfl
  have hx:=rep_cells g2 h1
  have hsz:v.cells.size=size:=by have:=hx.1;simp at this;omega
  have hle:¬ (off+v.cells.size > arr.size):=by have:=hr.1;simp at this;omega
  have hr':=hx.setA (o:=off) hr
  obtain ⟨cells,q1,q2,q3⟩:=Ut ps vs (setA cs off (cellsOf x)) (Kt arr off v.cells.toList) (by simpa using hl) (fun j p q hj1 hj2=>hp (j+1) p q (by simpa using hj1) (by simpa using hj2)) hr' h4
  refine ⟨cells,?_,q2,by rw [q3,Um]⟩
  simp only at g1
  have hz:=zipIdx_setL off v.cells arr
  simp only [Instr.fill,g1]
  rw [if_neg (by simp [hsz];omega)]
  rw [<- hz] at q1
  exact q1
theorem places_ok:∀ (fs:List Field),fs.all (fun f=>(P.info? f.type).isSome)=true->∃ places,fs.mapM (fun f=>(P.info? f.type).map fun i=>(f.offset,i.size))=some places /\
  ∀ i:Nat,places[i]? = (fs[i]?).bind fun f=>(P.info? f.type).map fun i=>(f.offset,i.size)
 | [],_=>⟨[],by simp,fun i=>by simp⟩
 | f::fs,h=>by
  simp at h
  obtain ⟨h1,h2⟩:=h
  obtain ⟨places,g1,g2⟩:=places_ok fs (by simpa using h2)
  obtain ⟨i,hi⟩:=Option.isSome_iff_exists.1 h1
  refine ⟨(f.offset,i.size)::places,by simp [List.mapM_cons,hi,g1],fun j=>?_⟩
  cases j with
  | zero=>simp [hi]
  | succ j=>simpa using g2 j
theorem Qaf {α β:Type} (f:α->Option β):∀ (l:List α) (l':List β),l.mapM f=some l'->l'.length=l.length/\∀ (i:Nat) (x:α) (y:β),l[i]? = some x->l'[i]? = some y->f x=some y
 | [],l',h=>by simp at h;subst h;simp
 | x::l,l',h=>by
  simp only [List.mapM_cons,Option.bind_eq_bind,Option.pure_def] at h
  cases hx:f x with
  | none=>simp [hx] at h
  | some y =>
   cases hr:l.mapM f with
   | none=>simp [hx,hr] at h
   | some rest =>
    simp [hx,hr] at h
    subst h
    obtain ⟨g1,g2⟩:=Qaf f l rest hr
    refine ⟨by simp [g1],fun i x' y' h1 h2=>?_⟩
    cases i with
    | zero=>simp at h1 h2;subst h1;subst h2;exact hx
    | succ i=>simp at h1 h2;exact g2 i x' y' h1 h2
theorem zc_rep {t:TypeId} {zs:List AV} (h:zc P t=some zs):∃ i z,P.info? t=some i/\i.zero=some z/\RepL w γ zs z.cells.toList:=by
 unfold zc at h
 cases hi:P.info? t with
 | none=>simp [hi] at h
 | some i =>
  cases hz:i.zero with
  | none=>simp [hi,hz] at h
  | some z =>
   simp [hi,hz] at h
   subst h
   refine ⟨i,z,rfl,hz,by simp,fun j x v h1 h2=>?_⟩
   simp at h1 h2
   obtain ⟨v',h3,rfl⟩:=h1
   rw [h2] at h3
   cases h3
   exact rep_ofVal1 w γ v
theorem step_build (hm:MSim N w0 ro0 γ w B L) {t:TypeId} {parts:Array (Nat×Operand)} (h1:∀ p∈parts,Rep w γ (e (opd p.2)) (a.eval p.2))
  (hc:(rop P gl orc e m dst (Uy P t parts)).1) :
  Step N w0 ro0 P ⟨dst,.build t parts,ty,pos,after,guard⟩ a γ w B L (rop P gl orc e m dst (Uy P t parts)).2:=by
 unfold Uy at hc |-
 split at hc
 case h_2=>exact hc.elim
 rename_i fields zs hu hz
 split at hc
 case h_2=>exact hc.elim
 rename_i ps hps
 split at hc
 case isFalse=>exact hc.elim
 rename_i hall
 try rw [if_pos hall]
 simp only [rop] at hc |-
 obtain ⟨i,z,hi,hzz,hzr⟩:=zc_rep (w:=w) (γ:=γ) hz
 obtain ⟨places,hpl,hpg⟩:=places_ok (P:=P) fields.toList hall
 obtain ⟨hlen,hget⟩:=Qaf _ _ _ hps
 obtain ⟨cells,f1,f2,_⟩:=Ut (w:=w) (γ:=γ) (place:=fun i=>places[i]?) (ps.map fun p=>(p.1,p.2.1,e p.2.2)) (parts.toList.map fun p=>(p.1,a.eval p.2)) zs z.cells (by simp [hlen]) (fun j p q hj1 hj2=>by
   simp at hj1 hj2
   obtain ⟨o1,o2,o3,hp1,rfl⟩:=hj1
   obtain ⟨x1,x2,hx1,rfl⟩:=hj2
   have:=hget j (x1,x2) (o1,o2,o3) (by simpa using hx1) hp1
   simp only at this |-
   rw [hpg]
   cases hf:fields[x1]? with
   | none=>simp [hf] at this
   | some f =>
    cases hfi:P.info? f.type with
    | none=>simp [hf,hfi] at this
    | some fi =>
     simp [hf,hfi] at this
     obtain ⟨rfl,rfl,rfl⟩:=this
     exact ⟨by simp [hf,hfi],h1 (x1,x2) (Array.mem_of_getElem? hx1)⟩) hzr hc
 have hb:P.built t (parts.map fun p=>(p.1,a.eval p.2)).toList=some cells:=by
  unfold Program.built
  simp only [hi,hu,hzz,hpl]
  simpa using f1
 have hrun:=run_build (P:=P) w t (parts.map fun p=>(p.1,a.eval p.2)) cells hb
 refine Qp hm (v:=.agg cells) ?_ (RepL.agg' f2)
 simp [execOp,hrun]
theorem step_bsl (hm:MSim N w0 ro0 γ w B L) (hB:∀ id cells,m.boxes[id]? = some cells->B id=some cells) {t:TypeId} {len:Nat} {parts:Array (Nat×Operand)} (h1:∀ p∈parts,Rep w γ (e (opd p.2)) (a.eval p.2))
  (hc:(rop P gl orc e m dst (tr P ⟨dst,.buildSlice t len parts,ty,pos,after,guard⟩)).1) :
  Step N w0 ro0 P ⟨dst,.buildSlice t len parts,ty,pos,after,guard⟩ a γ w B L (rop P gl orc e m dst (tr P ⟨dst,.buildSlice t len parts,ty,pos,after,guard⟩)).2:=by
 simp only [tr] at hc |-
 split at hc
 case h_2=>exact hc.elim
 rename_i te hu
 split at hc
 case h_2=>exact hc.elim
 rename_i i hi
 split at hc
 case isFalse=>exact hc.elim
 rename_i hcond
 try rw [if_pos hcond]
 simp only [Bool.and_eq_true,beq_iff_eq,bne_iff_ne,decide_eq_true_eq] at hcond
 obtain ⟨⟨hz,hs0⟩,hbig⟩:=hcond
 cases hzz:i.zero with
 | none=>simp [hzz] at hz
 | some z =>
  simp [hzz] at hz
  simp only [rop] at hc |-
  rw [chunk_eq]
  obtain ⟨hc1,hc2,hc3⟩:=hc
  let arr0:Array Value:=(Array.range (len*i.size)).map (z.cells[· % z.cells.size]!)
  have hr0:RepL w γ (List.replicate (len*i.size) .junk) arr0.toList:=by
   refine ⟨by simp [arr0],fun j x v hj _=>?_⟩
   simp [List.getElem?_replicate] at hj
   rw [<- hj.2];exact .junk _
  obtain ⟨cells,f1,f2,f3⟩:=Ut (w:=w) (γ:=γ) (place:=fun j=>some (j*i.size,i.size)) (parts.toList.map fun p=>(p.1*i.size,i.size,e (opd p.2))) (parts.toList.map fun p=>(p.1,a.eval p.2)) _ arr0 (by simp) (fun j p q hj1 hj2=>by
    simp at hj1 hj2
    obtain ⟨x1,x2,hx1,rfl⟩:=hj1
    obtain ⟨y1,y2,hy1,rfl⟩:=hj2
    rw [hx1] at hy1
    cases hy1
    exact ⟨rfl,h1 (x1,x2) (Array.mem_of_getElem? hx1)⟩) hr0 (by simpa [Function.comp_def] using hc1)
  generalize hq:(Qah (List.replicate (len*i.size) .junk) (parts.toList.map fun p=>(p.1*i.size,i.size,e (opd p.2)))).2=A at f2
  have hq':(Qah (List.replicate (len*i.size) .junk) ((parts.toList.map fun p=>(p.1,opd p.2)).map fun p=>(p.1*i.size,i.size,e p.2))).2=A:=by
   rw [<- hq];simp [Function.comp_def]
  rw [hq'] at hc2 hc3
  simp only [hq']
  have hcs:cells.size=len*i.size:=by rw [f3];simp [arr0]
  have hAl:A.length=len*i.size:=by have:=f2.1;simp at this;omega
  have hb:Below w.heap.size w (w.alloc (.cells cells te)):=(Below.refl _ w).alloc (Nat.le_refl _) _
  have hrun:(execOp a.eval ⟨dst,.buildSlice t len parts,ty,pos,after,guard⟩).run P w=.ok (.value (.slice (some ⟨w.heap.size,0,none⟩) len len)) (w.alloc (.cells cells te)):=by
   have hbig':¬ (16777216 < len*i.size):=by omega
   by_cases hl0:len*i.size=0
   ·have harr:arr0=(Array.range (len*i.size)).map ((#[]:Array Value)[· % (#[]:Array Value).size]!):=by
     simp [arr0,hl0]
    rw [harr] at f1
    have hl1:len=0:=by
     rcases Nat.mul_eq_zero.1 hl0 with h | h
     ·exact h
     ·exact absurd h hs0
    simp [hl0] at f1
    simp [execOp,Instr.buildSlice,run_underlying hu,sizeOf,typeInfo,hi,hl0,f1,newRow]
   ·simp only [execOp,Instr.buildSlice]
    have f1':Instr.fill (fun j=>some (j*i.size,i.size)) ((Array.range (len*i.size)).map (z.cells[· % z.cells.size]!)) (parts.toList.map fun p=>(p.1,a.eval p.2))=some cells:=f1
    simp [run_underlying hu,sizeOf,typeInfo,zeroValue,hi,hzz,hl0,hbig',f1',newRow]
  refine step_val' (hm.grow hb) (hm.ev_below hb) hrun ?_
  have hlen:((List.range len).map fun k=>((A.map (cvn m 6)).drop (k*i.size)).take i.size).length=len:=by simp
  have hbl:(w.alloc (.cells cells te)).heap[w.heap.size]? = some (.cells cells te (0,0)):=by show (w.heap.push _)[w.heap.size]? = _;simp
  have hrc:∀ (k j:Nat) (c:AV),Qr ((List.range len).map fun k=>((A.map (cvn m 6)).drop (k*i.size)).take i.size) k j=some c->∃ c' u,A[k*i.size+j]? = some c'/\c=cvn m 6 c'/\cells[k*i.size+j]? = some u/\cells.getD (k*i.size+j) undef=u/\Rep w γ c' u:=fun k j c h=>by
   unfold Qr at h
   rcases Nat.lt_or_ge k len with hk | hk
   ·simp [hk] at h
    rw [List.getElem?_take] at h
    split at h
    ·simp at h
     obtain ⟨c',hc',rfl⟩:=h
     have hlt:k*i.size+j < cells.size:=by rw [hcs,<- hAl];exact (List.getElem?_eq_some_iff.1 hc').1
     have hu':cells[k*i.size+j]? = some cells[k*i.size+j]:=Array.getElem?_eq_getElem hlt
     exact ⟨c',_,hc',rfl,hu',by simp [hlt],f2.2 _ _ _ hc' (by simp [hlt])⟩
    ·cases h
   ·simp [Nat.not_lt.2 hk] at h
  have hsl:SlV (w.alloc (.cells cells te)) (γ.grow w.heap.size (w.alloc (.cells cells te)).heap.size) ((List.range len).map fun k=>((A.map (cvn m 6)).drop (k*i.size)).take i.size) (some ⟨w.heap.size,0,none⟩) len w.heap.size 0 i.size
    (fun k j=>cells.getD (k*i.size+j) undef):=by
   refine ⟨by simp,fun h=>(by cases h),fun _=>⟨rfl,by simp⟩,fun row hrow=>?_,fun k j c h=>?_,fun k j c h=>?_⟩
   ·simp at hrow
    obtain ⟨k,hk,rfl⟩:=hrow
    have:(k+1)*i.size<=len*i.size:=Nat.mul_le_mul_right _ hk
    rw [Nat.add_mul,Nat.one_mul] at this
    simp
    omega
   ·obtain ⟨c',u,g1,rfl,g3,g4,g5⟩:=hrc k j c h
    rw [Nat.zero_add,cell_of_block hbl,g3,g4]
    refine ⟨rfl,.inr ⟨Nat.le_refl _,by simp⟩,rep_one g5 (List.all_eq_true.1 hc2 c' (List.mem_of_getElem? g1))⟩
   ·obtain ⟨c',u,g1,rfl,g3,g4,g5⟩:=hrc k j c h
    rw [g4]
    have:=cvn_rep hm hB (ro':=γ.ro) (fun _ _ h=>h) 6 c' u g5 fun hp=>by
     have:A.any (Zj 6)=true:=List.any_eq_true.2 ⟨c',List.mem_of_getElem? g1,hp⟩
     rw [hc3] at this;cases this
    exact this.mono (hm.ev_below hb).imm
  have:=hsl.mk' (rt:=.full) hlen.symm
  rwa [hlen] at this
end
end Go.Abs
namespace Go.Abs
open Go Go.RowKit
section
variable {N:Nat} {w0:Bas} {ro0:Nat->Nat->Prop} {γ:G} {w:World} {B:Nat->Option (List AV)} {L:Nat->Option Nat} {P:Program} {o:Oper} {a:Act} {r:AV}
variable {dst:Option Tmp} {ty:TypeId} {pos:String} {after:Array Edge} {guard:Option (Nat×Bool)} {gl:Nat->AV} {orc:Nat->FuncId->List AV->AV} {e:Opd->AV} {m:AM}
theorem RepL.tup' {cs:List AV} {vs:List Value} (h:RepL w γ cs vs):Rep w γ (.tup cs) (.tuple vs.toArray):=.tup (by simpa using h.1) fun i c v h1 h2=>h.2 i c v h1 (by simpa using h2)
theorem Rep.full_of {rt:Rt} {rows:List (List AV)} {v:Value} (h:Rep w γ (.sl rt rows) v) (hf:Yl rt=true):Rep w γ (.sl .full rows) v:=by
 cases h with
 | sl b off sz cv hcap hnil ha hsz hc hr hrt =>
  refine .sl b off sz cv hcap hnil ha hsz hc hr ?_
  cases rt with
  | full=>exact hrt
  | nil =>
   show _=_
   have:=hnil hrt
   omega
  | _=>simp [Yl] at hf
theorem run_eqNil {t te:TypeId} {op:BinOp} (hu:P.underlying t=some (.slice te)) {p:Option Addr} {n c:Nat} (hop:op=.eql\/op=.neq):(binOp op t (.slice p n c) (.slice none 0 0)).run P w=.ok (.bool (if op=.eql then p.isNone else !p.isNone)) w:=by
 have h:∀ d,(Op.equalIn (d+1) t (.slice p n c) (.slice none 0 0)).run P w=.ok p.isNone w:=fun d=>by
  unfold Op.equalIn
  cases p<;>simp [run_underlying hu]
 have h':(Op.equal t (.slice p n c) (.slice none 0 0)).run P w=.ok p.isNone w:=h 9999
 rcases hop with rfl | rfl<;>simp [binOp,h']
theorem step_nilS (hm:MSim N w0 ro0 γ w B L) {op:BinOp} {t te t':TypeId} {x y:Operand} (hu:P.underlying t=some (.slice te)) (h1:Rep w γ (e (opd x)) (a.eval x)) (hc:(rop P gl orc e m dst (trNil op x y)).1) :
  Step N w0 ro0 P ⟨dst,.binOp op t x y t',ty,pos,after,guard⟩ a γ w B L (rop P gl orc e m dst (trNil op x y)).2:=by
 have key:∀ neg:Bool,(op=.eql/\neg=false\/op=.neq/\neg=true)->y=.const (.slice none 0 0)->(rop P gl orc e m dst (.nilS neg (opd x))).1->Step N w0 ro0 P ⟨dst,.binOp op t x y t',ty,pos,after,guard⟩ a γ w B L (rop P gl orc e m dst (.nilS neg (opd x))).2:=by
  clear hc
  intro neg hop hy hc
  subst hy
  have hop':op=.eql\/op=.neq:=hop.imp And.left And.left
  have run:∀ p n c,a.eval x=.slice p n c->(execOp a.eval ⟨dst,.binOp op t x (.const (.slice none 0 0)) t',ty,pos,after,guard⟩).run P w=.ok (.value (.bool (if neg then !p.isNone else p.isNone))) w:=fun p n c hv=>by
   have:=run_eqNil (P:=P) (w:=w) (op:=op) hu (p:=p) (n:=n) (c:=c) hop'
   have hcst:a.eval (.const (.slice none 0 0))=.slice none 0 0:=rfl
   rcases hop with ⟨rfl,rfl⟩ | ⟨rfl,rfl⟩<;>simp at this<;>simp [execOp,hv,hcst,eqGuard,this]
  simp only [rop] at hc |-
  split at hc
  ·rename_i rows e1
   rw [e1] at h1
   obtain ⟨a',cap,b,off,sz,cv,hv,_,hrt⟩:=h1.sl_inv
   have:a'=none:=hrt
   subst this
   refine Qp hm (run _ _ _ hv) ?_
   cases neg<;>exact .bool _
  ·rename_i rows e1
   rw [e1] at h1
   obtain ⟨a',cap,b,off,sz,cv,hv,_,hrt⟩:=h1.sl_inv
   have:a'≠none:=hrt
   refine Qp hm (run _ _ _ hv) ?_
   cases a' with
   | none=>exact absurd rfl this
   | some a'=>cases neg<;>exact .bool _
  ·rename_i rt row rows hn1 hn2 e1
   rw [e1] at h1
   obtain ⟨a',cap,b,off,sz,cv,hv,s1,hrt⟩:=h1.sl_inv
   have:=(s1.at_ (by simp)).1
   subst this
   refine Qp hm (run _ _ _ hv) ?_
   cases neg<;>exact .bool _
  ·rename_i id off len sz e1
   rw [e1] at h1
   obtain ⟨b,cap,arr,te',hb,hv,_⟩:=h1.inv_bs
   refine Qp hm (run _ _ _ hv) ?_
   cases neg<;>exact .bool _
  ·exact hc.elim
 unfold trNil at hc |-
 split at hc
 ·exact key false (.inl ⟨rfl,rfl⟩) rfl hc
 ·exact key true (.inr ⟨rfl,rfl⟩) rfl hc
 ·exact hc.elim
theorem bytes_of:∀ {rows:List (List AV)} {l:List UInt8},Yr rows=some l->∃ ns:List Int,rows=ns.map (fun n=>[.int .u8 n])/\l=ns.map fun n=>UInt8.ofNat n.toNat
 | [],l,h=>⟨[],rfl,by simpa [Yr] using h.symm⟩
 | row::rows,l,h=>by
  simp only [Yr] at h
  cases hb:byteOf row with
  | none=>simp [hb] at h
  | some x =>
   cases hr:Yr rows with
   | none=>simp [hb,hr] at h
   | some l' =>
    simp [hb,hr] at h
    obtain ⟨ns,h1,h2⟩:=bytes_of hr
    unfold byteOf at hb
    split at hb
    ·rename_i n
     simp at hb
     exact ⟨n::ns,by simp [h1],by simp [<- h,h2,hb]⟩
    ·cases hb
theorem foldl_push (ns:List Int):∀ s:ByteArray,ns.foldl (fun r n=>r.push (UInt8.ofNat n.toNat)) s=⟨s.data++(ns.map fun n=>UInt8.ofNat n.toNat).toArray⟩:=by
 induction ns with
 | nil=>intro s;simp
 | cons n ns ih=>intro s;rw [List.foldl_cons,ih];simp [ByteArray.push]
theorem step_b2s (hm:MSim N w0 ro0 γ w B L) {s d te:TypeId} {x:Operand} (hs:P.underlying s=some (.slice te)) (hd:P.underlying d=some .string) (ht:P.underlying te=some (.int .u8)) (h1:Rep w γ (e (opd x)) (a.eval x)) (hsl:∃ rt rows,e (opd x)=.sl rt rows) (hc:(rop P gl orc e m dst (.b2s (opd x))).1) :
  Step N w0 ro0 P ⟨dst,.convert s d x,ty,pos,after,guard⟩ a γ w B L (rop P gl orc e m dst (.b2s (opd x))).2:=by
 simp only [rop] at hc |-
 split at hc
 case h_3=>exact hc.elim
 case h_2 =>
  rename_i e1
  obtain ⟨rt,rows,e2⟩:=hsl
  rw [e2] at e1;cases e1
 rename_i rt rows e1
 rw [e1] at h1
 try simp only [e1]
 split at hc
 case h_2=>exact hc.elim
 rename_i l hl
 try simp only [hl]
 obtain ⟨ns,rfl,rfl⟩:=bytes_of hl
 obtain ⟨p,cap,b,off,sz,cv,hv,s1,_⟩:=h1.sl_inv
 cases p with
 | none =>
  have h0:ns=[]:=by
   have:=s1.hnil rfl
   have h2:=s1.hcap
   simp at h2
   exact List.eq_nil_of_length_eq_zero (by omega)
  subst h0
  refine Qp hm (v:=.string ⟨#[]⟩) ?_ (.str _)
  simp [execOp,hv,convert,run_underlying hs,run_underlying hd,run_underlying ht,Conv.bytesToString]
  rfl
 | some p =>
  have hload:(loadCells p ns.length).run P w=.ok (ns.map (Value.int .u8)).toArray w:=by
   have:=run_loadCells_list (P:=P) (w:=w) p (ns.map (Value.int .u8)) fun j v hj=>?_
   ·simpa using this
   ·simp at hj
    obtain ⟨n,hn,rfl⟩:=hj
    have hne:ns.map (fun n=>[AV.int .u8 n])≠[]:=by rintro h;simp at h;subst h;simp at hn
    obtain ⟨e2,_⟩:=s1.at_ hne
    cases e2
    have hsz1:sz=1:=by
     cases ns with
     | nil=>simp at hn
     | cons n' ns=>have:=s1.hsz [.int .u8 n'] (by simp);simpa using this.symm
    subst hsz1
    have hrc:Qr (ns.map fun n=>[AV.int .u8 n]) j 0=some (.int .u8 n):=by simp [Qr,hn]
    have c1:=(s1.cell j 0 _ hrc).1
    have c2:=(s1.rep j 0 _ hrc).inv_int
    rw [addr_add]
    rw [c2] at c1
    simpa using c1
  refine Qp hm (v:=.string ⟨(ns.map fun n=>UInt8.ofNat n.toNat).toArray⟩) ?_ (.str _)
  have hrun:=run_bytesToString w p ns.length cap ns hload
  rw [foldl_push] at hrun
  have:(⟨ByteArray.empty.data++(ns.map fun n=>UInt8.ofNat n.toNat).toArray⟩:ByteArray)=⟨(ns.map fun n=>UInt8.ofNat n.toNat).toArray⟩:=by
   have:ByteArray.empty.data=#[]:=rfl
   rw [this];simp
  rw [this] at hrun
  simp [execOp,hv,convert,run_underlying hs,run_underlying hd,run_underlying ht,hrun]
end
end Go.Abs
namespace Go.Abs
open Go Go.RowKit
section
variable {N:Nat} {w0:Bas} {ro0:Nat->Nat->Prop} {γ:G} {w:World} {B:Nat->Option (List AV)} {L:Nat->Option Nat} {P:Program} {o:Oper} {a:Act} {r:AV}
variable {dst:Option Tmp} {ty:TypeId} {pos:String} {after:Array Edge} {guard:Option (Nat×Bool)} {gl:Nat->AV} {orc:Nat->FuncId->List AV->AV} {e:Opd->AV} {m:AM}
theorem kindT_spec {t:TypeId} {k:Nat} (h:kindT P t=some k):(P.underlying t=some .bool/\k=0)\/(∃ i,P.underlying t=some (.int i)/\k=1)\/(P.underlying t=some .string/\k=2):=by
 unfold kindT at h
 split at h
 ·cases h;exact .inl ⟨by assumption,rfl⟩
 ·cases h;exact .inr (.inl ⟨_,by assumption,rfl⟩)
 ·cases h;exact .inr (.inr ⟨by assumption,rfl⟩)
 ·cases h
theorem eqF_run {t:TypeId} {k d:Nat} (hk:kindT P t=some k) {x y:AV} {u v:Value} (hx:Rep w γ x u) (hy:Rep w γ y v) (hf:kindF k x y=true):(Op.equalIn (d+1) t u v).run P w=.ok (eqF x y) w:=by
 rcases kindT_spec hk with ⟨hu,rfl⟩ | ⟨i,hu,rfl⟩ | ⟨hu,rfl⟩
 ·cases x<;>cases y<;>simp [kindF] at hf
  rw [hx.inv_bool,hy.inv_bool];exact run_equalIn_bool' w d t _ _ hu
 ·cases x<;>cases y<;>simp [kindF] at hf
  subst hf
  rw [hx.inv_int,hy.inv_int];exact run_equalIn_int w d t _ _ _ _ hu
 ·cases x<;>cases y<;>simp [kindF] at hf
  rw [hx.inv_str,hy.inv_str];exact run_equalIn_string w d t _ _ hu
theorem part_run {t:TypeId} {k i:Nat} (hk:kindT P t=some k) {xs:Array Value} {v:Value} (h:xs[i]? = some v):(part t xs i).run P w=.ok v w:=by
 rcases kindT_spec hk with ⟨hu,_⟩ | ⟨_,hu,_⟩ | ⟨hu,_⟩<;>simp [part,isAgg,run_underlying hu,h]
theorem eqFs_run {d:Nat} {xs ys:Array Value}:∀ (fs:List Field) (i:Nat) (ks:List Nat) (as bs:List AV),Jl P fs i=some ks->Km ks as bs=true ->
  (∀ (j:Nat) (c:AV),as[j]? = some c->∃ v,xs[i+j]? = some v/\Rep w γ c v)->(∀ (j:Nat) (c:AV),bs[j]? = some c->∃ v,ys[i+j]? = some v/\Rep w γ c v) ->
  (Op.eqFields (d+1) xs ys fs).run P w=.ok (eqFs as bs) w
 | [],i,ks,as,bs,hk,hf,_,_=>by
  cases hk
  cases as<;>cases bs<;>simp [Km] at hf
  simp [Op.eqFields,eqFs]
 | f::fs,i,ks,as,bs,hk,hf,hx,hy=>by
  simp only [Jl] at hk
  split at hk
  case h_2=>cases hk
  rename_i k ks' h0 h1 h2
  cases hk
  simp only [Bool.and_eq_true,beq_iff_eq,bne_iff_ne] at h0
  cases as with
  | nil=>cases bs<;>simp [Km] at hf
  | cons c as =>
   cases bs with
   | nil=>simp [Km] at hf
   | cons c' bs =>
    simp only [Km,Bool.and_eq_true] at hf
    obtain ⟨u,hu1,hu2⟩:=hx 0 c rfl
    obtain ⟨v,hv1,hv2⟩:=hy 0 c' rfl
    have ih:=eqFs_run (d:=d) (xs:=xs) (ys:=ys) fs (i+1) ks' as bs h2 hf.2 (fun j c hj=>by have:=hx (j+1) c (by simpa using hj);rwa [show i+1+j=i+(j+1) by omega]) (fun j c hj=>by have:=hy (j+1) c (by simpa using hj);rwa [show i+1+j=i+(j+1) by omega])
    have p1:=part_run (w:=w) h1 hu1
    have p2:=part_run (w:=w) h1 hv1
    have p3:=eqF_run (d:=d) h1 hu2 hv2 hf.1
    simp only [Nat.add_zero] at p1 p2
    simp only [Op.eqFields,ne_eq,h0.2,not_false_eq_true,if_true,Sem.run_bind,h0.1,p1,p2,p3,Result.andThen_ok,Sem.run_ite]
    cases hc:eqF c c'<;>simp [eqFs,hc,ih]
theorem step_eqA (hm:MSim N w0 ro0 γ w B L) {op:BinOp} {t t':TypeId} {fs:Array Field} {x y:Operand} (hu:P.underlying t=some (.struct fs)) (h1:Rep w γ (e (opd x)) (a.eval x)) (h2:Rep w γ (e (opd y)) (a.eval y))
  (hc:(rop P gl orc e m dst (trEq P t fs.toList op x y)).1) :
  Step N w0 ro0 P ⟨dst,.binOp op t x y t',ty,pos,after,guard⟩ a γ w B L (rop P gl orc e m dst (trEq P t fs.toList op x y)).2:=by
 have main:∀ (neg:Bool) (ks:List Nat),Jl P fs.toList 0=some ks->(P.stoodInHeld t||P.eqGuardType P.depth t)=false->(op=if neg then .neq else .eql)->(rop P gl orc e m dst (.eqA neg ks (opd x) (opd y))).1 ->
   Step N w0 ro0 P ⟨dst,.binOp op t x y t',ty,pos,after,guard⟩ a γ w B L (rop P gl orc e m dst (.eqA neg ks (opd x) (opd y))).2:=by
  clear hc
  intro neg ks hk hg hop hc
  simp only [rop] at hc |-
  split at hc
  case h_2=>exact hc.elim
  rename_i xs ys e1 e2
  rw [e1] at h1
  rw [e2] at h2
  try simp only [e1,e2]
  obtain ⟨ax,hv1,r1⟩:=h1.inv_agg
  obtain ⟨ay,hv2,r2⟩:=h2.inv_agg
  simp only [Bool.or_eq_false_iff] at hg
  have hf:P.fieldsOf t=fs:=by simp [Program.fieldsOf,hu]
  have hget:∀ {cs:List AV} {arr:Array Value},RepL w γ cs arr.toList->∀ (j:Nat) (c:AV),cs[j]? = some c->∃ v,arr[0+j]? = some v/\Rep w γ c v:=fun {cs arr} hr j c hj=>by
   have h0:=(List.getElem?_eq_some_iff.1 hj).1
   have h3:=hr.1
   have hlt:j < arr.size:=by simp at h3;omega
   exact ⟨arr[j],by simp [hlt],hr.2 j c _ hj (by simp [hlt])⟩
  have hrun:(Op.equalIn 10000 t (.agg ax) (.agg ay)).run P w=.ok (eqFs xs ys) w:=by
   rw [run_equalIn_struct w 9999 t ax ay (by rw [hf];exact hu) hg.1,hf]
   exact eqFs_run (d:=9998) fs.toList 0 ks xs ys hk hc (hget r1) (hget r2)
  have hgd:=run_eqGuard_agg (P:=P) w op t x y ax ay hg.2
  cases neg with
  | false =>
   simp at hop
   subst hop
   refine Qp hm (v:=.bool (eqFs xs ys)) ?_ (.bool _)
   simp [execOp,hv1,hv2,hgd,run_eql_struct,hrun]
  | true =>
   simp at hop
   subst hop
   refine Qp hm (v:=.bool (!(eqFs xs ys))) ?_ (.bool _)
   simp [execOp,hv1,hv2,hgd,run_neq_struct,hrun]
 unfold trEq at hc |-
 split at hc
 ·rename_i ks h3 h4;exact main false ks h3 h4 rfl hc
 ·rename_i ks h3 h4;exact main true ks h3 h4 rfl hc
 ·exact hc.elim
theorem run_bounds {isS:Bool} {len cap:Nat} {lo hi:Option Operand} {l h:Int} (hl:loOf ((lo.map opd).map e)=some l) (hh:hiOf len ((hi.map opd).map e)=some h) (h2:∀ y∈lo,Rep w γ (e (opd y)) (a.eval y)) (h3:∀ y∈hi,Rep w γ (e (opd y)) (a.eval y))
  (c0:0<=l) (c1:l<=h) (c2:h<=len) (c3:len<=cap):(Instr.sliceBounds isS len cap (lo.map a.eval) (hi.map a.eval) none).run P w=.ok (l.toNat,h.toNat,cap) w:=by
 have k1:lo=none/\l=0\/∃ y k,lo=some y/\a.eval y=.int k l:=by
  cases lo with
  | none=>simp [loOf] at hl;exact .inl ⟨rfl,hl.symm⟩
  | some y =>
   have:=h2 y (by simp)
   simp only [Option.map_some] at hl
   cases he:e (opd y)<;>rw [he] at hl<;>simp [loOf] at hl
   subst hl
   rw [he] at this
   exact .inr ⟨y,_,rfl,this.inv_int⟩
 have k2:hi=none/\h=len\/∃ y k,hi=some y/\a.eval y=.int k h:=by
  cases hi with
  | none=>simp [hiOf] at hh;exact .inl ⟨rfl,hh.symm⟩
  | some y =>
   have:=h3 y (by simp)
   simp only [Option.map_some] at hh
   cases he:e (opd y)<;>rw [he] at hh<;>simp [hiOf] at hh
   subst hh
   rw [he] at this
   exact .inr ⟨y,_,rfl,this.inv_int⟩
 have c4:0<=h:=by omega
 have c5:h<=(cap:Int):=by omega
 have c6:l<=(h.toNat:Int):=by omega
 rcases k1 with ⟨rfl,rfl⟩ | ⟨y,k,rfl,hy⟩<;>rcases k2 with ⟨rfl,rfl⟩ | ⟨y',k',rfl,hy'⟩
 ·simp [Instr.sliceBounds]
 ·simp [Instr.sliceBounds,Instr.sliceBound,asIntOf,hy',c4,c5]
 ·simp [Instr.sliceBounds,Instr.sliceBound,asIntOf,hy,c0,c1]
 ·have c7:¬ (max h 0 < l):=by omega
  have c8:l<=max h 0:=by omega
  simp [Instr.sliceBounds,Instr.sliceBound,asIntOf,hy,hy',c0,c4,c5,c8]
theorem rowCell_part {rows:List (List AV)} {l k i j:Nat} {c:AV} (h:Qr ((rows.drop l).take k) i j=some c):Qr rows (l+i) j=some c/\i < k:=by
 unfold Qr at *
 rw [List.getElem?_take] at h
 split at h
 ·rename_i hi
  rw [List.getElem?_drop] at h
  exact ⟨h,hi⟩
 ·simp at h
theorem step_slL (hm:MSim N w0 ro0 γ w B L) {t te:TypeId} {i:TypeInfo} {x:Operand} {lo hi:Option Operand} (hu:P.underlying t=some (.slice te)) (hi':P.info? te=some i)
  (h1:Rep w γ (e (opd x)) (a.eval x)) (h2:∀ y∈lo,Rep w γ (e (opd y)) (a.eval y)) (h3:∀ y∈hi,Rep w γ (e (opd y)) (a.eval y))
  (hc:(rop P gl orc e m dst (.slL i.size (opd x) (lo.map opd) (hi.map opd))).1) :
  Step N w0 ro0 P ⟨dst,.slice t x lo hi none,ty,pos,after,guard⟩ a γ w B L (rop P gl orc e m dst (.slL i.size (opd x) (lo.map opd) (hi.map opd))).2:=by
 simp only [rop] at hc |-
 split at hc
 ·rename_i rt rows e1
  rw [e1] at h1
  try simp only [e1]
  split at hc
  case h_2=>exact hc.elim
  rename_i l h hl hh
  try simp only [hl,hh]
  obtain ⟨⟨c0,c1,c2⟩,hsz⟩:=hc
  obtain ⟨p,cap,b,off,sz,cv,hv,s1,_⟩:=h1.sl_inv
  replace s1:=s1.fix (sz:=i.size) hsz
  have hb:=run_bounds (P:=P) (w:=w) (a:=a) (isS:=true) (cap:=cap) hl hh h2 h3 c0 c1 c2 s1.hcap
  have hlen:((rows.drop l.toNat).take (h.toNat - l.toNat)).length=h.toNat - l.toNat:=by simp;omega
  have hcap:=s1.hcap
  refine Qp hm (v:=.slice (if cap=l.toNat then p else p.map (·.add (l.toNat*i.size))) (h.toNat - l.toNat) (cap - l.toNat)) ?_ ?_
  ·simp [execOp,Instr.sliceAt,Instr.slice,run_underlying hu,hv,hb,sizeOf,typeInfo,hi']
  ·have main:Rep w γ (.sl .ro ((rows.drop l.toNat).take (h.toNat - l.toNat))) (.slice (if cap=l.toNat then p else p.map (·.add (l.toNat*i.size))) ((rows.drop l.toNat).take (h.toNat - l.toNat)).length (cap - l.toNat)):=?_
   ·rw [hlen] at main;exact main
   refine .sl b (off+l.toNat*i.size) i.size (fun k j=>cv (l.toNat+k) j) (by rw [hlen];omega) (fun hn=>?_) (fun hn=>?_) (fun row hr=>hsz row (List.mem_of_mem_drop (List.mem_of_mem_take hr))) (fun k j c hk=>?_) (fun k j c hk=>?_) trivial
   ·have:p=none:=by
     split at hn
     ·exact hn
     ·simpa using hn
    have:=s1.hnil this
    omega
   ·have hne:rows≠[]:=by rintro rfl;simp at hn
    obtain ⟨hp,hlt⟩:=s1.at_ hne
    have hlh:l.toNat < h.toNat:=by
     rcases Nat.lt_or_ge l.toNat h.toNat with h' | h'
     ·exact h'
     ·exact absurd (List.eq_nil_of_length_eq_zero (by rw [hlen];omega)) hn
    refine ⟨?_,hlt⟩
    rw [if_neg (by omega),hp]
    simp [addr_add]
   ·obtain ⟨g1,_⟩:=rowCell_part hk
    obtain ⟨g2,g3,g4⟩:=s1.cell _ j c g1
    rw [Nat.add_mul,<- Nat.add_assoc] at g2 g3
    exact ⟨g2,g3,g4⟩
   ·obtain ⟨g1,_⟩:=rowCell_part hk
    exact s1.rep _ j c g1
 ·rename_i id off len sz' e1
  rw [e1] at h1
  try simp only [e1]
  split at hc
  case h_2=>exact hc.elim
  rename_i l h hl hh
  try simp only [hl,hh]
  obtain ⟨⟨c0,c1,c2⟩,rfl⟩:=hc
  obtain ⟨b,cap,arr,te',hβ,hv,hle,hblk,hs⟩:=h1.inv_bs
  have hb:=run_bounds (P:=P) (w:=w) (a:=a) (isS:=true) (cap:=cap) hl hh h2 h3 c0 c1 c2 hle
  refine Qp hm (v:=.slice (if cap=l.toNat then some ⟨b,off,none⟩ else (some ⟨b,off,none⟩:Option Addr).map (·.add (l.toNat*i.size))) (h.toNat - l.toNat) (cap - l.toNat)) ?_ ?_
  ·simp [execOp,Instr.sliceAt,Instr.slice,run_underlying hu,hv,hb,sizeOf,typeInfo,hi']
  ·split
   ·rename_i hor
    have ha:(if cap=l.toNat then some (⟨b,off,none⟩:Addr) else (some ⟨b,off,none⟩:Option Addr).map (·.add (l.toNat*i.size)))=some ⟨b,off+l.toNat*i.size,none⟩:=by
     rcases hor with h' | h'
     ·rw [if_neg (by omega)];simp [addr_add]
     ·subst h';split<;>simp [addr_add]
    rw [ha]
    refine .bs hβ (by omega) hblk ?_
    have:(l.toNat+(cap - l.toNat))*i.size=cap*i.size:=by congr 1;omega
    rw [Nat.add_mul] at this
    omega
   ·have hz:h.toNat - l.toNat=0:=by omega
    rw [hz]
    have:Rep w γ (.sl .nn []) (.slice (if cap=l.toNat then some (⟨b,off,none⟩:Addr) else (some ⟨b,off,none⟩:Option Addr).map (·.add (l.toNat*i.size))) ([]:List (List AV)).length (cap - l.toNat)) :=
     .sl b off i.size (fun _ _=>undef) (Nat.zero_le _) (fun hn=>by split at hn<;>simp at hn) (fun hn=>absurd rfl hn) (fun _ h=>by cases h) (fun i j c h=>by simp [Qr] at h) (fun i j c h=>by simp [Qr] at h) (by
      show _≠none
      split<;>simp)
    exact this
 ·exact hc.elim
theorem box_cell (hm:MSim N w0 ro0 γ w B L) (hB:∀ id cells,m.boxes[id]? = some cells->B id=some cells) {id b:Nat} (hb:γ.β id=some b) {arr:Array Value} {te:TypeId} (hh:w.heap[b]? = some (.cells arr te (0,0))) {k:Nat} {c:AV}
  (hk:(m.boxes.getD id [])[k]? = some c):∃ u,arr[k]? = some u/\Rep w γ c u/\u.oneCell'=true:=by
 cases hmb:m.boxes[id]? with
 | none=>simp [List.getD,hmb] at hk
 | some cells =>
  have:m.boxes.getD id []=cells:=by simp [List.getD,hmb]
  rw [this] at hk
  obtain ⟨arr',e',g2,g3,g4⟩:=hm.box id cells b (hB id cells hmb) hb
  rw [hh] at g2
  cases g2
  have h1:=(List.getElem?_eq_some_iff.1 hk).1
  have h2:=g3.1
  have hlt':k < arr.size:=by simp at h2;omega
  exact ⟨arr[k],Array.getElem?_eq_getElem hlt',g3.2 _ c _ hk (by simp [hlt']),g4 _ (by simp)⟩
theorem box_size (hm:MSim N w0 ro0 γ w B L) (hB:∀ id cells,m.boxes[id]? = some cells->B id=some cells) {id b:Nat} (hb:γ.β id=some b) {arr:Array Value} {te:TypeId} (hh:w.heap[b]? = some (.cells arr te (0,0))) :
  (m.boxes.getD id []).length<=arr.size:=by
 rcases Nat.eq_zero_or_pos (m.boxes.getD id []).length with h | h
 ·omega
 ·obtain ⟨u,h1,_⟩:=box_cell hm hB hb hh (k:=(m.boxes.getD id []).length - 1) (List.getElem?_eq_getElem (by omega))
  have:=(Array.getElem?_eq_some_iff.1 h1).1
  omega
theorem step_slA (hm:MSim N w0 ro0 γ w B L) (hB:∀ id cells,m.boxes[id]? = some cells->B id=some cells) {t te:TypeId} {n:Nat} {i:TypeInfo} {x:Operand} {lo hi:Option Operand} (hu:P.underlying t=some (.array n te)) (hi':P.info? te=some i)
  (h1:Rep w γ (e (opd x)) (a.eval x)) (h2:∀ y∈lo,Rep w γ (e (opd y)) (a.eval y)) (h3:∀ y∈hi,Rep w γ (e (opd y)) (a.eval y))
  (hc:(rop P gl orc e m dst (.slA n i.size (opd x) (lo.map opd) (hi.map opd))).1) :
  Step N w0 ro0 P ⟨dst,.slice t x lo hi none,ty,pos,after,guard⟩ a γ w B L (rop P gl orc e m dst (.slA n i.size (opd x) (lo.map opd) (hi.map opd))).2:=by
 simp only [rop] at hc |-
 split at hc
 case h_2=>exact hc.elim
 rename_i id o' e1
 rw [e1] at h1
 try simp only [e1]
 split at hc
 case h_2=>exact hc.elim
 rename_i l h hl hh
 try simp only [hl,hh]
 obtain ⟨⟨c0,c1,c2⟩,hfit,hid⟩:=hc
 obtain ⟨b,hβ,hv⟩:=h1.inv_ptr
 have hmb:m.boxes[id]? = some (m.boxes.getD id []):=by simp [hid]
 obtain ⟨arr,te',hblk,g3,g4⟩:=hm.box id _ b (hB id _ hmb) hβ
 have hle:=g3.1
 simp only [Array.length_toList] at hle
 have hb:=run_bounds (P:=P) (w:=w) (a:=a) (isS:=false) (cap:=n) hl hh h2 h3 c0 c1 c2 (Nat.le_refl n)
 refine Qp hm (v:=.slice (some (if n=l.toNat then ⟨b,o',none⟩ else ⟨b,o'+l.toNat*i.size,none⟩)) (h.toNat - l.toNat) (n - l.toNat)) ?_ ?_
 ·simp [execOp,Instr.sliceAt,Instr.sureAddr,run_underlying hu,hv,hb,sizeOf,typeInfo,hi',addr_add]
 ·split
  ·rename_i hor
   have ha:(if n=l.toNat then (⟨b,o',none⟩:Addr) else ⟨b,o'+l.toNat*i.size,none⟩)=⟨b,o'+l.toNat*i.size,none⟩:=by
    rcases hor with h' | h'
    ·rw [if_neg (by omega)]
    ·subst h';split<;>simp
   rw [ha]
   refine .bs hβ (by omega) hblk ?_
   have:(l.toNat+(n - l.toNat))*i.size=n*i.size:=by congr 1;omega
   rw [Nat.add_mul] at this
   omega
  ·have hz:h.toNat - l.toNat=0:=by omega
   rw [hz]
   have:Rep w γ (.sl .nn []) (.slice (some (if n=l.toNat then ⟨b,o',none⟩ else ⟨b,o'+l.toNat*i.size,none⟩)) ([]:List (List AV)).length (n - l.toNat)) :=
    .sl b 0 i.size (fun _ _=>undef) (Nat.zero_le _) (fun hn=>by cases hn) (fun hn=>absurd rfl hn) (fun _ h=>by cases h) (fun i j c h=>by simp [Qr] at h) (fun i j c h=>by simp [Qr] at h) (by
     show _≠none;simp)
   exact this
theorem step_b2sB (hm:MSim N w0 ro0 γ w B L) (hB:∀ id cells,m.boxes[id]? = some cells->B id=some cells) {s d te:TypeId} {x:Operand} (hs:P.underlying s=some (.slice te)) (hd:P.underlying d=some .string) (ht:P.underlying te=some (.int .u8))
  (h1:Rep w γ (e (opd x)) (a.eval x)) {id off len sz:Nat} (e1:e (opd x)=.bs id off len sz) {l:List UInt8} (hl:Yr (chunk 1 len ((m.boxes.getD id []).drop off))=some l) :
  Step N w0 ro0 P ⟨dst,.convert s d x,ty,pos,after,guard⟩ a γ w B L (.str ⟨l.toArray⟩):=by
 rw [e1] at h1
 obtain ⟨b,cap,arr,te',hβ,hv,hle,hblk,_⟩:=h1.inv_bs
 obtain ⟨ns,hrows,rfl⟩:=bytes_of hl
 have hlen:len=ns.length:=by have:=congrArg List.length hrows;simpa [Qax] using this
 have hload:(loadCells ⟨b,off,none⟩ ns.length).run P w=.ok (ns.map (Value.int .u8)).toArray w:=by
  have:=run_loadCells_list (P:=P) (w:=w) ⟨b,off,none⟩ (ns.map (Value.int .u8)) fun j v hj=>?_
  ·simpa using this
  ·simp at hj
   obtain ⟨n,hn,rfl⟩:=hj
   have hrc:Qr (chunk 1 len ((m.boxes.getD id []).drop off)) j 0=some (.int .u8 n):=by rw [hrows];simp [Qr,hn]
   obtain ⟨_,_,h3⟩:=Uz hrc
   rw [List.getElem?_drop] at h3
   obtain ⟨u,h4,h5,_⟩:=box_cell hm hB hβ hblk h3
   rw [h5.inv_int] at h4
   rw [addr_add,cell_of_block hblk]
   simpa using h4
 refine Qp hm (v:=.string ⟨(ns.map fun n=>UInt8.ofNat n.toNat).toArray⟩) ?_ (.str _)
 have hrun:=run_bytesToString w ⟨b,off,none⟩ ns.length cap ns hload
 rw [foldl_push] at hrun
 have:(⟨ByteArray.empty.data++(ns.map fun n=>UInt8.ofNat n.toNat).toArray⟩:ByteArray)=⟨(ns.map fun n=>UInt8.ofNat n.toNat).toArray⟩:=by
  have:ByteArray.empty.data=#[]:=rfl
  rw [this];simp
 rw [this] at hrun
 rw [hlen] at hv
 simp [execOp,hv,convert,run_underlying hs,run_underlying hd,run_underlying ht,hrun]
end
end Go.Abs
namespace Go.Abs
open Go Go.RowKit
section
variable {N:Nat} {w0:Bas} {ro0:Nat->Nat->Prop} {γ:G} {w:World} {B:Nat->Option (List AV)} {L:Nat->Option Nat} {P:Program} {o:Oper} {a:Act} {r:AV}
variable {dst:Option Tmp} {ty:TypeId} {pos:String} {after:Array Edge} {guard:Option (Nat×Bool)} {gl:Nat->AV} {orc:Nat->FuncId->List AV->AV} {e:Opd->AV} {m:AM}
def KeyT (P:Program) (k:TypeId) (kn:Nat):Prop:=(kn=0/\P.underlying k=some (.int .i64)) \/
 (∃ fs ks,P.underlying k=some (.struct fs)/\Jl P fs.toList 0=some ks/\(∀ x∈ks,x=1)/\fs.size=kn/\kn≠0/\P.stoodInHeld k=false)
theorem mapT_spec {t:TypeId} {kn:Nat} {z:AV} (h:mapT P t=some (kn,z)):∃ k v i zv,P.underlying t=some (.map k v)/\KeyT P k kn/\P.info? v=some i/\i.zero=some zv/\z=ofVal zv:=by
 unfold mapT at h
 split at h
 case h_2=>cases h
 rename_i k v hu
 split at h
 ·rename_i i hk hi
  cases hz:i.zero with
  | none=>simp [hz] at h
  | some zv=>simp [hz] at h;obtain ⟨rfl,rfl⟩:=h;exact ⟨k,v,i,zv,hu,.inl ⟨rfl,hk⟩,hi,hz,rfl⟩
 ·rename_i fs i hk hi
  cases hks:Jl P fs.toList 0 with
  | none=>simp [hks] at h
  | some ks =>
   simp only [hks] at h
   by_cases hc:(ks.all (·==1)&&(fs.size != 0)&&!(P.stoodInHeld k))=true
   ·rw [if_pos hc] at h
    simp only [Bool.and_eq_true,List.all_eq_true,beq_iff_eq,bne_iff_ne,Bool.not_eq_true'] at hc
    cases hz:i.zero with
    | none=>rw [hz] at h;cases h
    | some zv =>
     rw [hz] at h
     simp only [Option.map_some,Option.some.injEq,Prod.mk.injEq] at h
     obtain ⟨rfl,rfl⟩:=h
     exact ⟨k,v,i,zv,hu,.inr ⟨fs,ks,hk,hks,hc.1.1,rfl,hc.1.2,hc.2⟩,hi,hz,rfl⟩
   ·rw [if_neg hc] at h;cases h
 ·cases h
theorem intsA_eq:∀ {cs:List AV} {ns:List Int},intsA cs=some ns->cs=ns.map (AV.int .i64)
 | [],ns,h=>by cases h;rfl
 | c::cs,ns,h=>by
  cases c<;>try (simp [intsA] at h;done)
  rename_i k n
  cases k<;>try (simp [intsA] at h;done)
  simp only [intsA] at h
  split at h
  ·rename_i ns' h';cases h;rw [intsA_eq h'];rfl
  ·cases h
theorem keyA_eq {kn:Nat} {av:AV} {ns:List Int} (h:keyA kn av=some ns):av=keyAV kn ns/\Ji kn ns:=by
 cases kn with
 | zero =>
  cases av<;>try (simp [keyA] at h;done)
  rename_i k n
  cases k<;>try (simp [keyA] at h;done)
  cases h;exact ⟨rfl,rfl⟩
 | succ kn =>
  cases av<;>try (simp [keyA] at h;done)
  rename_i cs
  simp only [keyA] at h
  split at h
  case h_2=>cases h
  rename_i ns' h'
  split at h
  case isFalse=>cases h
  cases h
  exact ⟨by rw [intsA_eq h'];rfl,by assumption⟩
theorem repL_ints {ns:List Int}:∀ {vs:List Value},RepL w γ (ns.map (AV.int .i64)) vs->vs=ns.map (Value.int .i64):=by
 induction ns with
 | nil=>intro vs h;exact List.eq_nil_of_length_eq_zero (by have:=h.1;simpa using this.symm)
 | cons n ns ih =>
  intro vs h
  cases vs with
  | nil=>have:=h.1;simp at this
  | cons v vs =>
   have h0:=(h.2 0 (.int .i64 n) v rfl rfl).inv_int
   rw [h0,ih (vs:=vs) ⟨by have:=h.1;simpa using this,fun i a u h1 h2=>h.2 (i+1) a u (by simpa using h1) (by simpa using h2)⟩]
   rfl
theorem repL_ints' (w:World) (γ:G):∀ ns:List Int,RepL w γ (ns.map (AV.int .i64)) (ns.map (Value.int .i64))
 | []=>RepL.nil
 | n::ns=>RepL.cons (.int .i64 n) (repL_ints' w γ ns)
theorem keyAV_inv {kn:Nat} {ns:List Int} {v:Value} (hk:Ji kn ns) (h:Rep w γ (keyAV kn ns) v):v=Vj kn ns:=by
 cases kn with
 | zero =>
  match ns,hk with
  | [n],_=>exact h.inv_int
 | succ kn =>
  obtain ⟨arr,rfl,hr⟩:=Rep.inv_agg (cs:=ns.map (AV.int .i64)) h
  have:=repL_ints hr
  simp only [Vj]
  congr 1
  apply Array.ext'
  simpa using this
theorem keyAV_rep {kn:Nat} {ns:List Int} (hk:Ji kn ns):Rep w γ (keyAV kn ns) (Vj kn ns):=by
 cases kn with
 | zero =>
  match ns,hk with
  | [n],_=>exact .int .i64 n
 | succ kn =>
  have:=(repL_ints' w γ ns)
  exact .agg (by simp) fun i c v h1 h2=>this.2 i c v h1 (by simpa using h2)
theorem kindsT_len:∀ {fs:List Field} {i:Nat} {ks:List Nat},Jl P fs i=some ks->ks.length=fs.length
 | [],_,ks,h=>by cases h;rfl
 | f::fs,i,ks,h=>by
  simp only [Jl] at h
  split at h
  case h_2=>cases h
  rename_i k ks' h0 h1 h2
  cases h
  simp [kindsT_len h2]
theorem kindFs_ints:∀ {ks:List Nat} {as bs:List Int},(∀ x∈ks,x=1)->as.length=ks.length->bs.length=ks.length->Km ks (as.map (AV.int .i64)) (bs.map (AV.int .i64))=true
 | [],[],[],_,_,_=>rfl
 | k::ks,a::as,b::bs,h,h1,h2=>by
  have:=h k (by simp)
  subst this
  simp only [List.map_cons,Km,kindF,decide_true,Bool.true_and]
  exact kindFs_ints (fun x hx=>h x (by simp [hx])) (by simpa using h1) (by simpa using h2)
 | [],_::_,_,_,h,_=>by simp at h
 | [],_,_::_,_,_,h=>by simp at h
 | _::_,[],_,_,h,_=>by simp at h
 | _::_,_,[],_,_,h=>by simp at h
theorem eqFs_ints:∀ {as bs:List Int},as.length=bs.length->eqFs (as.map (AV.int .i64)) (bs.map (AV.int .i64))=decide (as=bs)
 | [],[],_=>rfl
 | a::as,b::bs,h=>by
  simp only [List.map_cons,eqFs,eqF,eqFs_ints (as:=as) (bs:=bs) (by simpa using h)]
  by_cases h1:a=b<;>by_cases h2:as=bs<;>simp [h1,h2]
 | [],_::_,h=>by simp at h
 | _::_,[],h=>by simp at h
theorem equal_run {k:TypeId} {kn:Nat} {fs:Array Field} {ks:List Nat} (hu:P.underlying k=some (.struct fs)) (hk:Jl P fs.toList 0=some ks) (h1:∀ x∈ks,x=1) (hs:fs.size=kn) (hg:P.stoodInHeld k=false) {as bs:List Int} (ha:as.length=kn) (hb:bs.length=kn) :
  (Op.equal k (.agg (as.map (Value.int .i64)).toArray) (.agg (bs.map (Value.int .i64)).toArray)).run P w=.ok (decide (as=bs)) w:=by
 have hf:P.fieldsOf k=fs:=by simp [Program.fieldsOf,hu]
 have hl:=kindsT_len hk
 simp only [Array.length_toList] at hl
 show (Op.equalIn 10000 k _ _).run P w=_
 rw [run_equalIn_struct w 9999 k _ _ (by rw [hf];exact hu) hg,hf]
 rw [eqFs_run (w:=w) (γ:=G0 fun _ _=>False) (d:=9998) fs.toList 0 ks (as.map (AV.int .i64)) (bs.map (AV.int .i64)) hk (kindFs_ints h1 (by omega) (by omega)) ?_ ?_,eqFs_ints (by omega)]
 ·intro j c hj
  simp at hj
  obtain ⟨n,hn,rfl⟩:=hj
  exact ⟨.int .i64 n,by simp [hn],.int .i64 n⟩
 ·intro j c hj
  simp at hj
  obtain ⟨n,hn,rfl⟩:=hj
  exact ⟨.int .i64 n,by simp [hn],.int .i64 n⟩
theorem now_ok {n:Int}:∀ {kvs:List (List Int×AV)} {es:List MapEntry} (i:Nat),kvs.length=es.length->(∀ (j:Nat) (k:List Int) (c:AV) (x:MapEntry),kvs[j]? = some (k,c)->es[j]? = some x->Ji 0 k/\x.key=Vj 0 k/\Rep w γ c x.val) ->
  (Qx [n] kvs i=none->Instr.findNow (.int .i64) (.int .i64 n) es i=some none) /\
  (∀ j c,Qx [n] kvs i=some (j,c)->∃ v,Instr.findNow (.int .i64) (.int .i64 n) es i=some (some (j,v))/\Rep w γ c v/\i<=j/\j < i+kvs.length/\kvs[j - i]? = some ([n],c))
 | [],[],i,_,_=>⟨fun _=>rfl,fun j c h=>by cases h⟩
 | [],_::_,_,h,_=>by simp at h
 | _::_,[],_,h,_=>by simp at h
 | (k,c)::kvs,x::es,i,hl,hk=>by
  obtain ⟨g0,g1,g2⟩:=hk 0 k c x rfl rfl
  obtain ⟨ih1,ih2⟩:=now_ok (n:=n) (kvs:=kvs) (es:=es) (i+1) (by simpa using hl) fun j k' c' x' q1 q2=>hk (j+1) k' c' x' (by simpa using q1) (by simpa using q2)
  match k,g0 with
  | [k],_ =>
   simp only [Vj] at g1
   by_cases hnk:n=k
   ·subst hnk
    have hf:Instr.findNow (.int .i64) (.int .i64 n) (x::es) i=some (some (i,x.val)):=by simp [Instr.findNow,Instr.sameNow,g1]
    refine ⟨fun h=>by simp [Qx] at h,fun j c' h=>?_⟩
    simp [Qx] at h
    obtain ⟨rfl,rfl⟩:=h
    exact ⟨x.val,hf,g2,Nat.le_refl _,by simp,by simp⟩
   ·have hnk':(n==k)=false:=by simpa using hnk
    have hf:Instr.findNow (.int .i64) (.int .i64 n) (x::es) i=Instr.findNow (.int .i64) (.int .i64 n) es (i+1):=by simp [Instr.findNow,Instr.sameNow,g1,hnk']
    rw [hf]
    have hnk2:¬ [n]=[k]:=by simpa using hnk
    simp only [Qx,if_neg hnk2]
    refine ⟨ih1,fun j c' h=>?_⟩
    obtain ⟨v,q1,q2,q3,q4,q5⟩:=ih2 j c' h
    refine ⟨v,q1,q2,by omega,by simp;omega,?_⟩
    rw [show j - i=(j - (i+1))+1 by omega]
    simpa using q5
theorem ask_ok {kt:TypeId} {kn:Nat} {n:List Int} (heq:∀ k',Ji kn k'->(Op.equal kt (Vj kn n) (Vj kn k')).run P w=.ok (decide (n=k')) w):∀ {kvs:List (List Int×AV)} {es:List MapEntry} (i:Nat),kvs.length=es.length ->
  (∀ (j:Nat) (k:List Int) (c:AV) (x:MapEntry),kvs[j]? = some (k,c)->es[j]? = some x->Ji kn k/\x.key=Vj kn k/\Rep w γ c x.val) ->
  (Qx n kvs i=none->(Instr.findAsking kt (Vj kn n) es i).run P w=.ok none w) /\
  (∀ j c,Qx n kvs i=some (j,c)->∃ v,(Instr.findAsking kt (Vj kn n) es i).run P w=.ok (some (j,v)) w/\Rep w γ c v/\i<=j/\j < i+kvs.length/\kvs[j - i]? = some (n,c))
 | [],[],i,_,_=>⟨fun _=>by simp [Instr.findAsking],fun j c h=>by cases h⟩
 | [],_::_,_,h,_=>by simp at h
 | _::_,[],_,h,_=>by simp at h
 | (k,c)::kvs,x::es,i,hl,hk=>by
  obtain ⟨g0,g1,g2⟩:=hk 0 k c x rfl rfl
  obtain ⟨ih1,ih2⟩:=ask_ok heq (kvs:=kvs) (es:=es) (i+1) (by simpa using hl) fun j k' c' x' q1 q2=>hk (j+1) k' c' x' (by simpa using q1) (by simpa using q2)
  have hq:=heq k g0
  rw [<- g1] at hq
  by_cases hnk:n=k
  ·subst hnk
   simp only [decide_true] at hq
   have hf:(Instr.findAsking kt (Vj kn n) (x::es) i).run P w=.ok (some (i,x.val)) w:=by simp [Instr.findAsking,hq]
   refine ⟨fun h=>by simp [Qx] at h,fun j c' h=>?_⟩
   simp [Qx] at h
   obtain ⟨rfl,rfl⟩:=h
   exact ⟨x.val,hf,g2,Nat.le_refl _,by simp,by simp⟩
  ·simp only [hnk,decide_false] at hq
   have hf:(Instr.findAsking kt (Vj kn n) (x::es) i).run P w=(Instr.findAsking kt (Vj kn n) es (i+1)).run P w:=by simp [Instr.findAsking,hq]
   rw [hf]
   simp only [Qx,if_neg hnk]
   refine ⟨ih1,fun j c' h=>?_⟩
   obtain ⟨v,q1,q2,q3,q4,q5⟩:=ih2 j c' h
   refine ⟨v,q1,q2,by omega,by simp;omega,?_⟩
   rw [show j - i=(j - (i+1))+1 by omega]
   simpa using q5
theorem find_ok {kt:TypeId} {kn:Nat} {n:List Int} (hkt:KeyT P kt kn) (hn:Ji kn n) {kvs:List (List Int×AV)} {es:List MapEntry} (hl:kvs.length=es.length)
  (hk:∀ (j:Nat) (k:List Int) (c:AV) (x:MapEntry),kvs[j]? = some (k,c)->es[j]? = some x->Ji kn k/\x.key=Vj kn k/\Rep w γ c x.val) :
  (Qx n kvs 0=none->(Instr.findKey kt (Vj kn n) es).run P w=.ok none w) /\
  (∀ j c,Qx n kvs 0=some (j,c)->∃ v,(Instr.findKey kt (Vj kn n) es).run P w=.ok (some (j,v)) w/\Rep w γ c v/\j < kvs.length/\kvs[j]? = some (n,c)):=by
 rcases hkt with ⟨rfl,hu⟩ | ⟨fs,ks,hu,hks,h1,hs,h0,hg⟩
 ·match n,hn with
  | [n],_ =>
   obtain ⟨f1,f2⟩:=now_ok (w:=w) (γ:=γ) (n:=n) 0 hl hk
   refine ⟨fun h=>MapKept.run_findKey hu (f1 h),fun j c h=>?_⟩
   obtain ⟨v,q1,q2,_,q4,q5⟩:=f2 j c h
   exact ⟨v,MapKept.run_findKey hu q1,q2,by omega,by simpa using q5⟩
 ·cases kn with
  | zero=>exact absurd rfl h0
  | succ kn =>
   obtain ⟨f1,f2⟩:=ask_ok (w:=w) (γ:=γ) (P:=P) (kt:=kt) (n:=n) (kn:=kn+1) (fun k' hk'=>equal_run hu hks h1 hs hg hn hk') 0 hl hk
   have e1:(Instr.findKey kt (Vj (kn+1) n) es).run P w=(Instr.findAsking kt (Vj (kn+1) n) es).run P w:=run_findKey_eq w (by simp [hu]) _ _
   rw [e1]
   refine ⟨f1,fun j c h=>?_⟩
   obtain ⟨v,q1,q2,_,q4,q5⟩:=f2 j c h
   exact ⟨v,q1,q2,by omega,by simpa using q5⟩
theorem run_checkKey {b:Bool} {k:TypeId} {kn:Nat} {n:List Int} (hk:KeyT P k kn) (hn:Ji kn n):(Instr.checkKey b 10000 k (Vj kn n)).run P w=.ok () w:=by
 rcases hk with ⟨rfl,hu⟩ | ⟨fs,ks,hu,hks,h1,hs,h0,hg⟩
 ·match n,hn with
  | [n],_ =>
   have h:∀ d,(Instr.checkKey b (d+1) k (.int .i64 n)).run P w=.ok () w:=fun d=>by
    unfold Instr.checkKey
    simp [run_underlying hu]
   exact h 9999
 ·cases kn with
  | zero=>exact absurd rfl h0
  | succ kn =>
   have h:∀ d,(Instr.checkKey b (d+1+1) k (.agg (n.map (Value.int .i64)).toArray)).run P w=.ok () w:=fun d=>by
    rw [Instr.checkKey]
    simp only [Sem.run_bind,run_underlying hu,Result.andThen_ok]
    rw [<- Array.forIn_toList]
    have hn':n.length=kn+1:=hn
    have ha:∀ j,0<=j->j < 0+fs.toList.length->∃ n',(n.map (Value.int .i64)).toArray[j]? = some (.int .i64 n'):=fun j _ hj=>by
     simp at hj
     exact ⟨n[j]'(by omega),by simp [show j < n.length by omega]⟩
    generalize (n.map (Value.int .i64)).toArray=arr at ha
    generalize fs.toList=Lf at hks ha
    generalize (0:Nat)=i0 at hks ha
    clear hs hu hn' hn h0 hg
    induction Lf generalizing i0 ks with
    | nil=>simp
    | cons f Lf ih =>
     simp only [Jl] at hks
     split at hks
     case h_2=>cases hks
     rename_i k' ks' h0 hk1 hk2
     cases hks
     simp only [Bool.and_eq_true,beq_iff_eq,bne_iff_ne] at h0
     have ih:=ih ks' (fun x hx=>h1 x (by simp [hx])) (i0+1) hk2 fun j hj1 hj2=>ha j (by omega) (by simp;omega)
     obtain ⟨n',hn'⟩:=ha i0 (Nat.le_refl _) (by simp)
     have hp:=part_run (P:=P) (w:=w) hk1 hn'
     have hc:(Instr.checkKey b (d+1) f.type (.int .i64 n')).run P w=.ok () w:=by
      rcases kindT_spec hk1 with ⟨hu,_⟩ | ⟨_,hu,_⟩ | ⟨hu,_⟩<;>simp [Instr.checkKey,run_underlying hu]
     simp only [List.forIn_cons,Sem.run_bind,h0.2,ne_eq,not_false_eq_true,if_true,h0.1,hp,hc,Result.andThen_ok,Sem.run_pure]
     exact ih
   exact h 9998
theorem mem_zip_self {α:Type}:∀ {l:List α} {x y:α},(x,y)∈l.zip l->x=y/\x∈l
 | [],_,_,h=>by simp at h
 | a::l,x,y,h=>by
  rw [List.zip_cons_cons] at h
  rcases List.mem_cons.1 h with h | h
  ·cases h;exact ⟨rfl,by simp⟩
  ·obtain ⟨h1,h2⟩:=mem_zip_self h;exact ⟨h1,by simp [h2]⟩
theorem sameBits_ints (d:Nat) (n:List Int):Instr.sameBits (d+1+1) (.agg (n.map (Value.int .i64)).toArray) (.agg (n.map (Value.int .i64)).toArray)=true:=by
 simp only [Instr.sameBits,beq_self_eq_true,Bool.true_and,List.all_eq_true]
 rintro ⟨x,y⟩ hxy
 have h:x=y/\x∈n.map (Value.int .i64):=by
  try simp only [List.toList_toArray] at hxy
  exact mem_zip_self hxy
 obtain ⟨rfl,h2⟩:=h
 obtain ⟨k,_,rfl⟩:=List.mem_map.1 h2
 simp [Instr.sameBits]
theorem run_keyStays {old new:Value} {kn:Nat} {n:List Int} (hn:Ji kn n) (h1:old=Vj kn n) (h2:new=Vj kn n):(Instr.keyThatStays old new).run P w=.ok new w:=by
 subst h1;subst h2
 cases kn with
 | zero =>
  match n,hn with
  | [n],_=>simp [Instr.keyThatStays,Instr.sameBits,Vj]
 | succ kn =>
  have:=sameBits_ints 9998 n
  simp [Instr.keyThatStays,Vj,this]
theorem MSim.map_at (hm:MSim N w0 ro0 γ w B L) {id kn:Nat} {kvs:List (List Int×AV)} {v:Value} (h1:Rep w γ (.mp id) v) (hB:B id=some [.mobj kn kvs]) :
  ∃ b es,γ.mm id=some b/\v=.map (some b)/\w.heap[b]? = some (.map es es.size)/\kvs.length=es.size /\
   ∀ (i:Nat) (k:List Int) (a:AV) (e:MapEntry),kvs[i]? = some (k,a)->es[i]? = some e->Ji kn k/\e.key=Vj kn k/\e.born=i/\Rep w γ a e.val:=by
 cases h1 with
 | mp h =>
  rename_i b
  obtain ⟨_,_,_,_,_,_,_,a,o,q1,q2,q3⟩:=hm.mm id b h
  rw [hB] at q1
  cases q1
  cases o<;>try exact q3.elim
  rename_i es clock
  obtain ⟨rfl,q4,q5⟩:=q3
  exact ⟨b,es,h,rfl,q2,q4,q5⟩
theorem MSim.iter_at (hm:MSim N w0 ro0 γ w B L) {id mid n:Nat} {seen:List Nat} {v:Value} (h1:Rep w γ (.it id) v) (hB:B id=some [.mitr mid n seen]) :
  ∃ b mb,γ.mm id=some b/\v=.pointer (some ⟨b,0,none⟩)/\w.heap[b]? = some (.mapIter (some mb) n seen.toArray n)/\γ.mm mid=some mb:=by
 cases h1 with
 | it h =>
  rename_i b
  obtain ⟨_,_,_,_,_,_,_,a,o,q1,q2,q3⟩:=hm.mm id b h
  rw [hB] at q1
  cases q1
  cases o<;>try exact q3.elim
  rename_i mp since sn st
  cases mp<;>try exact q3.elim
  rename_i mb
  obtain ⟨q4,rfl,rfl,rfl⟩:=q3
  exact ⟨b,mb,h,rfl,by simpa using q2,q4⟩
theorem Qbc {kn:Nat} {kvs:List (List Int×AV)} {es:Array MapEntry} (hl:kvs.length=es.size) (hk:∀ (i:Nat) (k:List Int) (a:AV) (e:MapEntry),kvs[i]? = some (k,a)->es[i]? = some e->Ji kn k/\e.key=Vj kn k/\e.born=i/\Rep w γ a e.val) {i:Nat} (hi:i < es.size):es[i].born=i:=by
 have:=hk i (kvs[i]'(by omega)).1 (kvs[i]'(by omega)).2 es[i] (by simp [show i < kvs.length by omega]) (by simp [hi])
 exact this.2.2.1
theorem getD_box {id:Nat} {x:AV} (hB:∀ id cells,m.boxes[id]? = some cells->B id=some cells) (h:m.boxes.getD id []=[x]):B id=some [x]:=hB id _ (by
 cases hh:m.boxes[id]? with
 | none=>simp [List.getD,hh] at h
 | some c=>simp [List.getD,hh] at h;rw [h])
theorem step_look (hm:MSim N w0 ro0 γ w B L) (hB:∀ id cells,m.boxes[id]? = some cells->B id=some cells) {t:TypeId} {kn:Nat} {z:AV} {x k:Operand} {ok:Bool} (ht:mapT P t=some (kn,z)) (h1:Rep w γ (e (opd x)) (a.eval x)) (h2:Rep w γ (e (opd k)) (a.eval k))
  (hc:(rop P gl orc e m dst (.look kn ok z (opd x) (opd k))).1) :
  Step N w0 ro0 P ⟨dst,.lookup t x k ok,ty,pos,after,guard⟩ a γ w B L (rop P gl orc e m dst (.look kn ok z (opd x) (opd k))).2:=by
 simp only [rop] at hc |-
 split at hc
 case h_2=>exact hc.elim
 rename_i id n e1 e2
 rw [e1] at h1
 obtain ⟨e3,hn⟩:=keyA_eq e2
 rw [e3] at h2
 try simp only [e1,e2]
 split at hc
 case h_2=>exact hc.elim
 rename_i kn' kvs hbox
 simp only at hc
 subst hc
 try simp only [hbox]
 obtain ⟨kt,vt,i,zv,hu,hk,hi,hz,rfl⟩:=mapT_spec ht
 obtain ⟨b,es,hb,hv,q2,q3,q4⟩:=hm.map_at h1 (getD_box hB hbox)
 obtain ⟨f1,f2⟩:=find_ok (w:=w) (γ:=γ) (P:=P) hk hn (kvs:=kvs) (es:=es.toList) (by simpa using q3) fun j k' c x' g1 g2=>by
  obtain ⟨p1,p2,_,p3⟩:=q4 j k' c x' g1 (by simpa using g2)
  exact ⟨p1,p2,p3⟩
 have hget:=MapKept.run_getObj_map (P:=P) q2
 have hck:∀ b,(Instr.checkKey b 10000 kt (Vj kn' n)).run P w=.ok () w:=fun b=>run_checkKey hk hn
 have hkv:=keyAV_inv hn h2
 cases hf:Qx n kvs 0 with
 | none =>
  have hfk:=f1 hf
  have hrun:(execOp a.eval ⟨dst,.lookup t x k ok,ty,pos,after,guard⟩).run P w=.ok (.value (if ok then .tuple #[zv,.bool false] else zv)) w:=by
   simp [execOp,Instr.lookup,run_underlying hu,hv,hkv,hget,hck,hfk,zeroValue,typeInfo,hi,hz]
  refine Qp hm hrun ?_
  cases ok
  ·exact Yw w γ zv
  ·exact (RepL.cons (Yw w γ zv) (RepL.cons (.bool false) RepL.nil)).tup'
 | some p =>
  obtain ⟨j,c⟩:=p
  obtain ⟨vv,hfk,g2,_⟩:=f2 j c hf
  have hrun:(execOp a.eval ⟨dst,.lookup t x k ok,ty,pos,after,guard⟩).run P w=.ok (.value (if ok then .tuple #[vv,.bool true] else vv)) w:=by
   simp [execOp,Instr.lookup,run_underlying hu,hv,hkv,hget,hck,hfk]
  refine Qp hm hrun ?_
  cases ok
  ·exact g2
  ·exact (RepL.cons g2 (RepL.cons (.bool true) RepL.nil)).tup'
theorem step_entr (hm:MSim N w0 ro0 γ w B L) (hB:∀ id cells,m.boxes[id]? = some cells->B id=some cells) {x:Operand} (h1:Rep w γ (e (opd x)) (a.eval x))
  (hc:(rop P gl orc e m dst (.entr (opd x))).1) :
  Step N w0 ro0 P ⟨dst,.entry x,ty,pos,after,guard⟩ a γ w B L (rop P gl orc e m dst (.entr (opd x))).2:=by
 simp only [rop] at hc |-
 split at hc
 case h_2=>exact hc.elim
 rename_i id e1
 rw [e1] at h1
 try simp only [e1]
 split at hc
 case h_2=>exact hc.elim
 rename_i mid n seen hbox
 try simp only [hbox]
 split at hc
 case h_2=>exact hc.elim
 rename_i kn kvs i hmb hls
 try simp only [hmb,hls]
 obtain ⟨hkn,hin⟩:=hc
 obtain ⟨b,mb,hb,hv,q1,q2⟩:=hm.iter_at h1 (getD_box hB hbox)
 obtain ⟨b',es,hb',hv',q3,q4,q5⟩:=hm.map_at (v:=.map (some mb)) (.mp q2) (getD_box hB hmb)
 cases hv'
 have hie:i < es.size:=by omega
 have hborn:=Qbc q4 q5 hie
 obtain ⟨ini,hini⟩:∃ ini,seen=ini++[i]:=by
  rw [List.getLast?_eq_some_iff] at hls
  exact hls
 have hseen:seen.toArray=ini.toArray.push es[i].born:=by rw [hborn,hini];simp
 have hnd:(es.toList.map (·.born)).Nodup:=by
  have:es.toList.map (·.born)=List.range es.size:=by
   apply List.ext_getElem
   ·simp
   ·intro j h1 h2
    simp at h1
    simp [Qbc q4 q5 h1]
  rw [this];exact List.nodup_range
 have hrun:=run_entry_at (P:=P) w b mb n ini.toArray es es.size es[i] (by rw [<- hseen,q1];congr 2;omega) q3 (by simp) hnd
 obtain ⟨p1,p2,_,p3⟩:=q5 i (kvs[i]'(by omega)).1 (kvs[i]'(by omega)).2 es[i] (by simp [show i < kvs.length by omega]) (by simp [hie])
 have hgd:kvs.getD i ([],.junk)=kvs[i]'(by omega):=by simp [List.getD,show i < kvs.length by omega]
 rw [hgd]
 refine Qp hm (v:=.tuple #[es[i].key,es[i].val]) (by simp [execOp,hv,hrun]) ?_
 rw [p2]
 exact (RepL.cons (keyAV_rep p1) (RepL.cons p3 RepL.nil)).tup'
end
end Go.Abs
namespace Go.Abs
open Go Go.RowKit
section
variable {N:Nat} {w0:Bas} {ro0:Nat->Nat->Prop} {γ:G} {w:World} {B:Nat->Option (List AV)} {L:Nat->Option Nat} {P:Program} {o:Oper} {a:Act} {r:AV}
variable {dst:Option Tmp} {ty:TypeId} {pos:String} {after:Array Edge} {guard:Option (Nat×Bool)} {gl:Nat->AV} {orc:Nat->FuncId->List AV->AV} {e:Opd->AV} {m:AM}
theorem repL_args {xs:Array Operand} (h:∀ x∈xs,Rep w γ (e (opd x)) (a.eval x)):RepL w γ ((xs.toList.map opd).map e) (xs.map a.eval).toList:=by
 refine ⟨by simp,fun i c v h1 h2=>?_⟩
 simp at h1 h2
 obtain ⟨x,hx,rfl⟩:=h1
 obtain ⟨x',hx',rfl⟩:=h2
 rw [hx] at hx'
 cases hx'
 exact h x (Array.mem_of_getElem? hx)
theorem Qat {f:FuncId} {args:Array Value} (h:callable P f):(callFunc f args).run P w=.ok (.enter f args) w:=by
 obtain ⟨fn,h1,h2,h3⟩:=h
 have h2':¬ fn.body=none:=by intro h;simp [h] at h2
 have h3' : ¬ fn.name = "runtime.NumGoroutine" := by simpa using h3
 simp [callFunc,h1,h2',h3']
theorem step_call (hm:MSim N w0 ro0 γ w B L) (hB:∀ id cells,m.boxes[id]? = some cells->B id=some cells) (hgl:∀ g,Rep w γ.imm (gl g) (.pointer (some ⟨g,0,none⟩))) {f:Operand} {args:Array Operand} {ts:Array TypeId}
  (h1:Rep w γ (e (opd f)) (a.eval f)) (h2:∀ x∈args,Rep w γ (e (opd x)) (a.eval x)) (hc:(rop P gl orc e m dst (.call (opd f) (args.toList.map opd))).1) :
  Step N w0 ro0 P ⟨dst,.call ⟨.value f,args,ts⟩,ty,pos,after,guard⟩ a γ w B L (rop P gl orc e m dst (.call (opd f) (args.toList.map opd))).2:=by
 simp only [rop] at hc |-
 split at hc
 case h_2=>exact hc.elim
 rename_i g first cap e1
 try simp only [e1]
 rw [e1] at h1
 obtain ⟨fa,ca,hv,r1,r2⟩:=h1.inv_fn
 have hargs:=(r1.append (repL_args h2)).append r2
 generalize orc (dst.getD 0) g ((first++(args.toList.map opd).map e++cap).map (cvn m 6))=x at hc
 have hrun:callable P g->(execOp a.eval ⟨dst,.call ⟨.value f,args,ts⟩,ty,pos,after,guard⟩).run P w=.ok (.enter g ((fa.toList++(args.map a.eval).toList++ca.toList).toArray)) w:=fun hcl=>by
  simp [execOp,resolve,hv,Deferred.ofValue,invoke,Qat hcl]
 have pure:∀ r,(Pure P gl g ((first++(args.toList.map opd).map e++cap).map (cvn m 6)) r/\((first++(args.toList.map opd).map e++cap).any (Zj 6)=true->flat r=true))->Step N w0 ro0 P ⟨dst,.call ⟨.value f,args,ts⟩,ty,pos,after,guard⟩ a γ w B L r:=fun r ⟨hp,hfl⟩ rd next Q hk =>
  wp_enter (hrun hp.1) (call_sound hm hB hgl hargs hp hfl fun v w' γ' h3 h4 h5=>hk v w' γ' h3 h4 h5)
 cases x with
 | gd b r =>
  intro rd next Q hk
  refine wp_enter (hrun hc.1) ((hc.2 N w0 ro0 γ w B L _ hm hB hgl hargs).mono ?_)
  rintro en w' ⟨v,γ',rfl,h3,h4,h5⟩
  exact hk v w' γ' h3 h4 h5
 | _=>exact pure _ hc
theorem step_lenS (hm:MSim N w0 ro0 γ w B L) {x:Operand} {t:TypeId} (hu:P.underlying t=some .string) (h1:Rep w γ (e (opd x)) (a.eval x)) (hc:(rop P gl orc e m dst (.lenS (opd x))).1) :
  Step N w0 ro0 P ⟨dst,.call ⟨.builtin .len,#[x],#[t]⟩,ty,pos,after,guard⟩ a γ w B L (rop P gl orc e m dst (.lenS (opd x))).2:=by
 simp only [rop] at hc |-
 split at hc
 case h_2=>exact hc.elim
 rename_i s e1
 rw [e1] at h1
 exact Qp hm (v:=.int .i64 s.size) (by simp [execOp,resolve,invoke,builtin,Builtin.len_,run_underlying hu,h1.inv_str,goInt]) (.int _ _)
theorem step_len (hm:MSim N w0 ro0 γ w B L) {x:Operand} {t te:TypeId} (hu:P.underlying t=some (.slice te)) (h1:Rep w γ (e (opd x)) (a.eval x)) (hc:(rop P gl orc e m dst (.len (opd x))).1) :
  Step N w0 ro0 P ⟨dst,.call ⟨.builtin .len,#[x],#[t]⟩,ty,pos,after,guard⟩ a γ w B L (rop P gl orc e m dst (.len (opd x))).2:=by
 simp only [rop] at hc |-
 split at hc
 case h_3=>exact hc.elim
 case h_2 =>
  rename_i id off len sz e1
  rw [e1] at h1
  try simp only [e1]
  obtain ⟨b,cap,arr,te',hb,hv,_⟩:=h1.inv_bs
  exact Qp hm (v:=.int .i64 len) (by simp [execOp,resolve,invoke,builtin,Builtin.len_,run_underlying hu,hv,goInt]) (.int _ _)
 rename_i rt rows e1
 rw [e1] at h1
 try simp only [e1]
 obtain ⟨a',cap,b,off,sz,cv,hv,_⟩:=h1.sl_inv
 exact Qp hm (v:=.int .i64 rows.length) (by simp [execOp,resolve,invoke,builtin,Builtin.len_,run_underlying hu,hv,goInt]) (.int _ _)
theorem step_mn (hm:MSim N w0 ro0 γ w B L) {x y:Operand} {ts:Array TypeId} (h1:Rep w γ (e (opd x)) (a.eval x)) (h2:Rep w γ (e (opd y)) (a.eval y)) (hc:(rop P gl orc e m dst (.mn (opd x) (opd y))).1) :
  Step N w0 ro0 P ⟨dst,.call ⟨.builtin .min,#[x,y],ts⟩,ty,pos,after,guard⟩ a γ w B L (rop P gl orc e m dst (.mn (opd x) (opd y))).2:=by
 simp only [rop] at hc |-
 split at hc
 case h_2=>exact hc.elim
 rename_i k p k' q e1 e2
 rw [e1] at h1
 rw [e2] at h2
 exact Qp hm (v:=.int k (if q < p then q else p)) (by simp [execOp,resolve,invoke,builtin,Builtin.min_,Builtin.min2,h1.inv_int,h2.inv_int]) (.int _ _)
theorem step_mx (hm:MSim N w0 ro0 γ w B L) {x y:Operand} {ts:Array TypeId} (h1:Rep w γ (e (opd x)) (a.eval x)) (h2:Rep w γ (e (opd y)) (a.eval y)) (hc:(rop P gl orc e m dst (.mx (opd x) (opd y))).1) :
  Step N w0 ro0 P ⟨dst,.call ⟨.builtin .max,#[x,y],ts⟩,ty,pos,after,guard⟩ a γ w B L (rop P gl orc e m dst (.mx (opd x) (opd y))).2:=by
 simp only [rop] at hc |-
 split at hc
 case h_2=>exact hc.elim
 rename_i k p k' q e1 e2
 rw [e1] at h1
 rw [e2] at h2
 exact Qp hm (v:=.int k (if p < q then q else p)) (by simp [execOp,resolve,invoke,builtin,Builtin.max_,Builtin.max2,h1.inv_int,h2.inv_int]) (.int _ _)
theorem step_mm3 (hm:MSim N w0 ro0 γ w B L) {big:Bool} {x y z:Operand} {ts:Array TypeId} (h1:Rep w γ (e (opd x)) (a.eval x)) (h2:Rep w γ (e (opd y)) (a.eval y)) (h3:Rep w γ (e (opd z)) (a.eval z)) (hc:(rop P gl orc e m dst (.mm3 big (opd x) (opd y) (opd z))).1) :
  Step N w0 ro0 P ⟨dst,.call ⟨.builtin (if big=true then .max else .min),#[x,y,z],ts⟩,ty,pos,after,guard⟩ a γ w B L (rop P gl orc e m dst (.mm3 big (opd x) (opd y) (opd z))).2:=by
 simp only [rop] at hc |-
 split at hc
 case h_2=>exact hc.elim
 rename_i k p k' q k'' r e1 e2 e3
 rw [e1] at h1
 rw [e2] at h2
 rw [e3] at h3
 cases big
 ·exact Qp hm (v:=.int k (mm2 false (mm2 false p q) r)) (by simp [execOp,resolve,invoke,builtin,Builtin.min_,Builtin.min2,h1.inv_int,h2.inv_int,h3.inv_int,mm2]) (.int _ _)
 ·exact Qp hm (v:=.int k (mm2 true (mm2 true p q) r)) (by simp [execOp,resolve,invoke,builtin,Builtin.max_,Builtin.max2,h1.inv_int,h2.inv_int,h3.inv_int,mm2]) (.int _ _)
theorem Yt {n b:Nat} (hb:b≠0) (h:(3*n+4000)*b<=562949953421312):n<=9223372036854775807:=by
 have:(3*n+4000)*1<=(3*n+4000)*b:=Nat.mul_le_mul_left _ (Nat.one_le_iff_ne_zero.2 hb)
 omega
theorem step_app (hm:MSim N w0 ro0 γ w B L) {s x:Operand} {t te:TypeId} {i:TypeInfo} {z:Value} (hu:P.underlying t=some (.slice te)) (hi:P.info? te=some i) (hz:i.zero=some z) (hb0:i.bytes≠0)
  (h1:Rep w γ (e (opd s)) (a.eval s)) (h2:Rep w γ (e (opd x)) (a.eval x)) (hc:(rop P gl orc e m dst (.app i.size i.bytes (opd s) (opd x))).1) :
  Step N w0 ro0 P ⟨dst,.call ⟨.builtin .append,#[s,x],#[t,t]⟩,ty,pos,after,guard⟩ a γ w B L (rop P gl orc e m dst (.app i.size i.bytes (opd s) (opd x))).2:=by
 simp only [rop] at hc |-
 split at hc
 case h_2=>exact hc.elim
 rename_i rt rows rt2 rows2 e1 e2
 rw [e1] at h1
 rw [e2] at h2
 obtain ⟨hfu,hr,hfit⟩:=hc
 replace h1:=h1.full_of hfu
 obtain ⟨v,w',γ',g1,g2,g3,g4⟩:=app_ro (ty:=ty) hm hu hi hz h1 h2 hr hfit (Yt hb0 hfit)
 exact step_val' g3 g2 (by simp [execOp,resolve,invoke,builtin,g1]) g4
theorem Ww (hm:MSim N w0 ro0 γ w B L) (hB:∀ id cells,m.boxes[id]? = some cells->B id=some cells) (hgl:∀ g,Rep w γ.imm (gl g) (.pointer (some ⟨g,0,none⟩)))
  (he:∀ x∈o.op.operands,Rep w γ (e (opd x)) (a.eval x)) (hc:(rop P gl orc e m o.dst (tr P o)).1):Step N w0 ro0 P o a γ w B L (rop P gl orc e m o.dst (tr P o)).2:=by
 obtain ⟨dst,op,ty,pos,after,guard⟩:=o
 cases op with
 | move x=>exact Qp hm (by simp [execOp]) (he x (by simp [Op.operands]))
 | assign x=>exact Qp hm (by simp [execOp]) (he x (by simp [Op.operands]))
 | pick c x y=>exact step_pick hm (he c (by simp [Op.operands])) (he x (by simp [Op.operands])) (he y (by simp [Op.operands])) hc
 | load t x=>exact step_load hm hB (he x (by simp [Op.operands])) hc
 | fieldAddr t x f=>exact step_faddr hm (he x (by simp [Op.operands])) hc
 | field t x f=>exact step_fld hm (he x (by simp [Op.operands])) hc
 | indexAddr t x y=>exact step_iaddr hm (he x (by simp [Op.operands])) (he y (by simp [Op.operands])) hc
 | index t x y=>exact step_idxS hm (he x (by simp [Op.operands])) (he y (by simp [Op.operands])) hc
 | binOp op t x y t' =>
  have h1:=he x (by simp [Op.operands])
  have h2:=he y (by simp [Op.operands])
  simp only [tr] at hc |-
  split at hc
  ·rename_i hu;exact step_binB hm hu h1 h2 hc
  ·exact step_bin hm h1 h2 hc
  ·exact step_bin hm h1 h2 hc
  ·rename_i te hu;exact step_nilS hm hu h1 hc
  ·rename_i fs hu;exact step_eqA hm hu h1 h2 hc
  ·exact hc.elim
 | unOp op t x=>exact step_un hm (he x (by simp [Op.operands])) hc
 | convert s d x =>
  have h1:=he x (by simp [Op.operands])
  simp only [tr] at hc |-
  split at hc
  ·rename_i k0 k hs hd;exact step_conv hm hs hd h1 hc
  ·rename_i te hs hd
   split at hc
   ·rename_i ht
    cases hx:e (opd x) with
    | sl rt rows=>exact step_b2s hm hs hd ht h1 ⟨rt,rows,hx⟩ hc
    | bs id off len sz =>
     simp only [rop,hx] at hc |-
     split at hc
     ·rename_i l hl
      try simp only [hl]
      exact step_b2sB hm hB hs hd ht h1 hx hl
     ·exact hc.elim
    | _=>simp [rop,hx] at hc
   ·exact hc.elim
  ·exact hc.elim
 | lookup t x k ok =>
  have h1:=he x (by simp [Op.operands])
  have h2:=he k (by simp [Op.operands])
  simp only [tr] at hc |-
  split at hc
  ·rename_i v z ht;exact step_look hm hB ht h1 h2 hc
  ·exact hc.elim
 | entry x=>exact step_entr hm hB (he x (by simp [Op.operands])) hc
 | next x s=>cases s<;>exact hc.elim
 | build t parts=>exact step_build hm (fun p hp=>he p.2 (by simp [Op.operands];exact ⟨p.1,hp⟩)) hc
 | buildSlice t len parts=>exact step_bsl hm hB (fun p hp=>he p.2 (by simp [Op.operands];exact ⟨p.1,hp⟩)) hc
 | makeFunc fn first cap =>
  cases fn with
  | func f=>exact step_mkfn hm (fun x hx=>he x (by simp [Op.operands,hx])) (fun x hx=>he x (by simp [Op.operands,hx]))
  | _=>exact hc.elim
 | extract x i=>exact step_ext hm (he x (by simp [Op.operands])) hc
 | nilCheck x=>exact step_nilc hm (he x (by simp [Op.operands])) hc
 | slice t x lo hi mx =>
  cases mx with
  | none =>
   simp only [tr] at hc |-
   split at hc
   ·rename_i hu;exact step_slS hm (he x (by simp [Op.operands])) (fun y hy=>he y (by simp at hy;simp [Op.operands,hy])) (fun y hy=>he y (by simp at hy;simp [Op.operands,hy])) hu hc
   ·rename_i te hu
    split at hc
    ·rename_i i hi';exact step_slL hm hu hi' (he x (by simp [Op.operands])) (fun y hy=>he y (by simp at hy;simp [Op.operands,hy])) (fun y hy=>he y (by simp at hy;simp [Op.operands,hy])) hc
    ·exact hc.elim
   ·rename_i n te hu
    split at hc
    ·rename_i i hi';exact step_slA hm hB hu hi' (he x (by simp [Op.operands])) (fun y hy=>he y (by simp at hy;simp [Op.operands,hy])) (fun y hy=>he y (by simp at hy;simp [Op.operands,hy])) hc
    ·exact hc.elim
   ·exact hc.elim
  | some mx=>exact hc.elim
 | call c =>
  obtain ⟨callee,args,ts⟩:=c
  have harg:∀ x∈args,Rep w γ (e (opd x)) (a.eval x):=fun x hx=>he x (by simp [Op.operands,Call.operands,hx])
  cases callee with
  | value f=>exact step_call hm hB hgl (he f (by simp [Op.operands,Call.operands])) harg hc
  | invoke recv name=>exact hc.elim
  | builtin b =>
   cases b<;>first | exact hc.elim | skip
   case append =>
    simp only [tr,Xw] at hc |-
    split at hc
    case h_2=>exact hc.elim
    rename_i s x t t' ha ht
    split at hc
    case h_2=>exact hc.elim
    rename_i te te' hu hu'
    split at hc
    case h_2=>exact hc.elim
    rename_i i hi
    split at hc
    case isFalse=>exact hc.elim
    rename_i hcond
    try rw [if_pos hcond]
    simp only [Bool.and_eq_true,beq_iff_eq,bne_iff_ne] at hcond
    obtain ⟨⟨⟨rfl,hz⟩,_⟩,hb0⟩:=hcond
    obtain rfl:args=#[s,x]:=by cases args;simp_all
    obtain rfl:ts=#[t,t]:=by cases ts;simp_all
    cases hzz:i.zero with
    | none=>simp [hzz] at hz
    | some z=>exact step_app hm hu hi hzz hb0 (harg s (by simp)) (harg x (by simp)) hc
   case copy=>simp only [tr,Xw] at hc;repeat' split at hc
              all_goals exact hc.elim
   case clear=>simp only [tr,Xw] at hc;repeat' split at hc
               all_goals exact hc.elim
   case len =>
    simp only [tr,Xw] at hc |-
    split at hc
    case h_2=>exact hc.elim
    rename_i x t ha ht
    obtain rfl:args=#[x]:=by cases args;simp_all
    obtain rfl:ts=#[t]:=by cases ts;simp_all
    split at hc
    ·rename_i hu;exact step_lenS hm hu (harg x (by simp)) hc
    ·rename_i te hu;exact step_len hm hu (harg x (by simp)) hc
    ·exact hc.elim
   case max =>
    simp only [tr,Xw] at hc |-
    split at hc
    case h_3=>exact hc.elim
    ·rename_i x y ha
     obtain rfl:args=#[x,y]:=by cases args;simp_all
     exact step_mx hm (harg x (by simp)) (harg y (by simp)) hc
    ·rename_i x y z ha
     obtain rfl:args=#[x,y,z]:=by cases args;simp_all
     exact step_mm3 (big:=true) hm (harg x (by simp)) (harg y (by simp)) (harg z (by simp)) hc
   case min =>
    simp only [tr,Xw] at hc |-
    split at hc
    case h_3=>exact hc.elim
    ·rename_i x y ha
     obtain rfl:args=#[x,y]:=by cases args;simp_all
     exact step_mn hm (harg x (by simp)) (harg y (by simp)) hc
    ·rename_i x y z ha
     obtain rfl:args=#[x,y,z]:=by cases args;simp_all
     exact step_mm3 (big:=false) hm (harg x (by simp)) (harg y (by simp)) (harg z (by simp)) hc
 | makeMap t r=>cases r<;>first | exact hc.elim | (simp only [tr] at hc;split at hc<;>exact hc.elim)
 | makeSlice t l c=>simp only [tr] at hc;repeat' split at hc
                    all_goals exact hc.elim
 | _=>first | exact hc.elim | (simp only [tr] at hc;split at hc<;>exact hc.elim)
end
end Go.Abs
