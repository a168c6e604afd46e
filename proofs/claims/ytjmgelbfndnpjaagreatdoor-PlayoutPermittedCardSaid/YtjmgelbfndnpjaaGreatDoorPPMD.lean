import Derived.Test.YtjmgelbfndnpjaaGreatDoorPPMC
import Derived.RangeFuncSeq
set_option linter.unusedVariables false
set_option linter.unusedSimpArgs false
namespace Go.Abs
open Go Go.RowKit
def Uk (N:Nat) (w0:Bas) (ro0:Nat->Nat->Prop) (P:Program) (o:Oper) (a:Act) (γ:G) (w:World) (ph:(Nat->LS)×Nat) (K:AV->AM->Prop):Prop :=
 ∀ (rd:Option Nat) (next:Act->World->Prop) (Q:Exit->Act->World->Prop),(∀ v w' γ' av m',K av m'->(m'.st,m'.ln)=ph->Ev w γ w' γ'->MSim N w0 ro0 γ' w' m'.B m'.L->Rep w' γ' av v->next (a.put o.dst v) w')->o.wpIn (FW rd) 0 P a w next Q
section
variable {N:Nat} {w0:Bas} {ro0:Nat->Nat->Prop} {γ:G} {w:World} {P:Program} {o:Oper} {a:Act} {K:AV->AM->Prop}
variable {dst:Option Tmp} {ty:TypeId} {pos:String} {after:Array Edge} {guard:Option (Nat×Bool)} {gl:Nat->AV} {orc:Nat->FuncId->List AV->AV} {e:Opd->AV} {m:AM}
theorem stepM_rop (hm:MSim N w0 ro0 γ w m.B m.L) (hgl:∀ g,Rep w γ.imm (gl g) (.pointer (some ⟨g,0,none⟩)))
  (he:∀ x∈o.op.operands,Rep w γ (e (opd x)) (a.eval x)) (hc:(rop P gl orc e m o.dst (tr P o)).1/\K (rop P gl orc e m o.dst (tr P o)).2 m):Uk N w0 ro0 P o a γ w (m.st,m.ln) K :=
 fun rd next Q hk=>Ww hm (fun _ _ h=>h) hgl he hc.1 rd next Q fun v w' γ' h1 h2 h3=>hk v w' γ' _ m hc.2 rfl h1 h2 h3
theorem Wt (m:AM) (cells:List AV):({ m with boxes:=m.boxes++[cells] }:AM).B=fun i=>if i=m.boxes.length then some cells else m.B i:=by
 funext i
 simp only [AM.B]
 by_cases h:i=m.boxes.length
 ·simp [h]
 ·rw [if_neg h]
  rcases Nat.lt_or_ge i m.boxes.length with h' | h'
  ·rw [List.getElem?_append_left h']
  ·rw [List.getElem?_eq_none h',List.getElem?_eq_none (by simp;omega)]
theorem L_snoc (m:AM) (n:Nat):({ m with lens:=m.lens++[n] }:AM).L=fun i=>if i=m.lens.length then some n else m.L i:=by
 funext i
 simp only [AM.L]
 by_cases h:i=m.lens.length
 ·simp [h]
 ·rw [if_neg h]
  rcases Nat.lt_or_ge i m.lens.length with h' | h'
  ·rw [List.getElem?_append_left h']
  ·rw [List.getElem?_eq_none h',List.getElem?_eq_none (by simp;omega)]
theorem B_set (m:AM) (id:Nat) (h:id < m.boxes.length) (cells:List AV):({ m with boxes:=m.boxes.set id cells }:AM).B=fun i=>if i=id then some cells else m.B i:=by
 funext i
 simp only [AM.B]
 by_cases hi:i=id
 ·subst hi;simp [h]
 ·rw [if_neg hi,List.getElem?_set_ne (Ne.symm hi)]
theorem L_set (m:AM) (id:Nat) (h:id < m.lens.length) (n:Nat):({ m with lens:=m.lens.set id n }:AM).L=fun i=>if i=id then some n else m.L i:=by
 funext i
 simp only [AM.L]
 by_cases hi:i=id
 ·subst hi;simp [h]
 ·rw [if_neg hi,List.getElem?_set_ne (Ne.symm hi)]
theorem Yb {cs:List AV} {vs:List Value} (h:RepL w γ cs vs) (hc:cs.all Qs=true):∀ v∈vs,v.oneCell'=true:=fun v hv=>by
 obtain ⟨i,hi⟩:=List.mem_iff_getElem?.1 hv
 have hlt:i < cs.length:=by rw [h.1];exact (List.getElem?_eq_some_iff.1 hi).1
 have:=List.getElem?_eq_getElem hlt
 exact rep_one (h.2 i _ v this hi) (List.all_eq_true.1 hc _ (List.getElem_mem hlt))
theorem stepM_new (hm:MSim N w0 ro0 γ w m.B m.L) {cells:List AV} {arr:Array Value} {te:TypeId} (hr:RepL w γ cells arr.toList) (hc:cells.all Qs=true)
  (hrun:(execOp a.eval o).run P w=.ok (.value (.pointer (some ⟨w.heap.size,0,none⟩))) (w.alloc (.cells arr te))) (hk:K (.ptr m.boxes.length 0) { m with boxes:=m.boxes++[cells] }):Uk N w0 ro0 P o a γ w (m.st,m.ln) K:=by
 intro rd next Q hn
 have hid:m.B m.boxes.length=none:=by simp [AM.B]
 refine Xv hrun (hn _ _ (γ.box m.boxes.length w.heap.size) _ _ hk rfl (hm.ev_box _ hid _) ?_ (.ptr (by simp [G.box])))
 rw [Wt]
 exact hm.newBox _ hid hr.toP (Yb hr hc)
theorem stepM_alloc (hm:MSim N w0 ro0 γ w m.B m.L) {t:TypeId} (h:((sop P gl orc e m dst (tr P ⟨dst,.alloc t,ty,pos,after,guard⟩)).1/\K (sop P gl orc e m dst (tr P ⟨dst,.alloc t,ty,pos,after,guard⟩)).2.1 (sop P gl orc e m dst (tr P ⟨dst,.alloc t,ty,pos,after,guard⟩)).2.2)):Uk N w0 ro0 P ⟨dst,.alloc t,ty,pos,after,guard⟩ a γ w (m.st,m.ln) K:=by
 simp only [tr] at h
 split at h
 case h_2=>exact h.1.elim
 rename_i zs hz
 obtain ⟨i,z,hi,hzz,hr⟩:=zc_rep (w:=w) (γ:=γ) hz
 obtain ⟨h1,h2⟩:=h
 refine stepM_new hm (te:=t) hr h1 ?_ h2
 simp [execOp,Instr.alloc,zeroValue,typeInfo,hi,hzz,newVar,newRow]
theorem stepM_box (hm:MSim N w0 ro0 γ w m.B m.L) {t:TypeId} {x:Operand} (he:Rep w γ (e (opd x)) (a.eval x)) (h:((sop P gl orc e m dst (.box (opd x))).1/\K (sop P gl orc e m dst (.box (opd x))).2.1 (sop P gl orc e m dst (.box (opd x))).2.2)):Uk N w0 ro0 P ⟨dst,.box t x,ty,pos,after,guard⟩ a γ w (m.st,m.ln) K:=by
 have key:bare (e (opd x))=true->(cellsOf (e (opd x))).all Qs=true->K (.ptr m.boxes.length 0) { m with boxes:=m.boxes++[cellsOf (e (opd x))] }->Uk N w0 ro0 P ⟨dst,.box t x,ty,pos,after,guard⟩ a γ w (m.st,m.ln) K:=fun hb h1 h2 =>
  stepM_new hm (te:=t) (rep_cells he hb) h1 (by simp [execOp,Instr.box,newVar,newRow]) h2
 exact key h.1.1 h.1.2 h.2
theorem stepM_store (hm:MSim N w0 ro0 γ w m.B m.L) {t:TypeId} {x y:Operand} (h1:Rep w γ (e (opd x)) (a.eval x)) (h2:Rep w γ (e (opd y)) (a.eval y)) (h:((sop P gl orc e m dst (tr P ⟨dst,.store t x y,ty,pos,after,guard⟩)).1/\K (sop P gl orc e m dst (tr P ⟨dst,.store t x y,ty,pos,after,guard⟩)).2.1 (sop P gl orc e m dst (tr P ⟨dst,.store t x y,ty,pos,after,guard⟩)).2.2)) :
  Uk N w0 ro0 P ⟨dst,.store t x y,ty,pos,after,guard⟩ a γ w (m.st,m.ln) K:=by
 simp only [tr] at h
 split at h
 case h_2=>exact h.1.elim
 rename_i i hi
 simp only [sop] at h
 split at h
 case h_2=>exact h.1.elim
 rename_i id o' e1
 rw [e1] at h1
 obtain ⟨b,hb,hv⟩:=h1.inv_ptr
 obtain ⟨⟨g1,g2,g3,g4,g5⟩,g6⟩:=h
 have hcs:=rep_cells h2 g1
 have hone:=Yb hcs g2
 have hB:m.B id=some (m.boxes.getD id []):=by simp [AM.B,g5]
 obtain ⟨arr,te,q2,q3,q4⟩:=hm.box id _ b hB hb
 have hsz:(a.eval y).cells.size=i.size:=by have:=hcs.1;simp at this;omega
 have hlen:(m.boxes.getD id []).length<=arr.size:=by have:=q3.1;simpa using this
 have hst:=run_storeCells_cells (P:=P) b o' (a.eval y).cells.toList 0 w (fun j hj=>by
   simp at hj
   rw [cell_of_block q2,Nat.add_zero,Array.getElem?_eq_getElem (by omega)];rfl) (fun j hj=>Vv q2) hone
 intro rd next Q hn
 simp only [Nat.add_zero] at hst
 have hrun:(execOp a.eval ⟨dst,.store t x y,ty,pos,after,guard⟩).run P w=.ok .skip (w.setCells b o' (a.eval y).cells.toList):=by
  simp [execOp,Instr.storeAt,hv,Instr.sureAddr,storeVar,sizeOf,typeInfo,hi,hsz,hst]
 refine wp_skip' hrun (hn undef _ γ _ _ g6 rfl (hm.ev_store hb o' _) ?_ (.junk _))
 rw [B_set m id g5]
 by_cases hne0:m.boxes.getD id []=[]
 ·have hz:(a.eval y).cells.toList=[]:=by
   rw [hne0] at g4
   apply List.eq_nil_of_length_eq_zero
   simp at g4 |-
   have:i.size=0:=g4.2
   rw [this] at hsz
   simpa using hsz
  have hz2:cellsOf (e (opd y))=[]:=List.eq_nil_of_length_eq_zero (by rw [hcs.1,hz];rfl)
  rw [hz,hz2,hne0]
  have:(fun i=>if i=id then some (setA [] o' []) else m.B i)=m.B:=by
   funext i
   by_cases hi:i=id
   ·subst hi;rw [if_pos rfl,hB,hne0];rfl
   ·rw [if_neg hi]
  rw [this]
  exact hm
 ·exact hm.store hB hb q2 q3 q4 hcs hone hne0
theorem flatten_get {sz:Nat} {c:AV}:∀ {rows:List (List AV)} {k:Nat},(∀ row∈rows,row.length=sz)->rows.flatten[k]? = some c->k < rows.length*sz/\Qr rows (k / sz) (k % sz)=some c
 | [],k,_,h=>by simp at h
 | row::rows,k,hs,h=>by
  have hr:=hs row (by simp)
  rw [List.flatten_cons] at h
  rcases Nat.lt_or_ge k sz with hk | hk
  ·rw [List.getElem?_append_left (by omega)] at h
   rw [Nat.div_eq_of_lt hk,Nat.mod_eq_of_lt hk]
   refine ⟨?_,by simpa [Qr] using h⟩
   simp [Nat.add_mul];omega
  ·rw [List.getElem?_append_right (by omega),hr] at h
   obtain ⟨h1,h2⟩:=flatten_get (rows:=rows) (fun row h=>hs row (by simp [h])) h
   have h0:0 < sz:=by
    rcases Nat.eq_zero_or_pos sz with h0 | h0
    ·subst h0;simp at h1
    ·exact h0
   have e1:k / sz=(k - sz) / sz+1:=by rw [Nat.div_eq_sub_div h0 hk]
   have e2:k % sz=(k - sz) % sz:=(Nat.mod_eq_sub_mod hk)
   rw [e1,e2]
   refine ⟨?_,by simpa [Qr] using h2⟩
   simp [Nat.add_mul];omega
theorem length_flatten {sz:Nat}:∀ {rows:List (List AV)},(∀ row∈rows,row.length=sz)->rows.flatten.length=rows.length*sz
 | [],_=>by simp
 | row::rows,hs=>by
  have:=length_flatten (rows:=rows) fun row h=>hs row (by simp [h])
  have hr:=hs row (by simp)
  simp [this,hr,Nat.add_mul];omega
theorem setL_get:∀ (vs:List Value) (arr:Array Value) (o k:Nat),(Kt arr o vs)[k]? = if o<=k/\k < o+vs.length/\k < arr.size then vs[k - o]? else arr[k]?
 | [],arr,o,k=>by
  rw [Kt,if_neg]
  simp;omega
 | v::vs,arr,o,k=>by
  rw [Kt,setL_get vs _ (o+1) k]
  by_cases h1:o+1<=k/\k < o+1+vs.length/\k < (arr.setIfInBounds o v).size
  ·rw [if_pos h1]
   simp at h1
   rw [if_pos (by simp;omega)]
   rw [show k - o=(k - (o+1))+1 by omega]
   simp
  ·rw [if_neg h1]
   simp at h1
   by_cases h2:o<=k/\k < o+(v::vs).length/\k < arr.size
   ·simp at h2
    obtain rfl:k=o:=by omega
    rw [if_pos (by simp;omega)]
    simp [Array.getElem?_setIfInBounds]
    omega
   ·rw [if_neg h2]
    simp at h2
    by_cases hk:o=k
    ·subst hk
     have:arr.size<=o:=by omega
     simp [Array.getElem?_eq_none,this]
    ·rw [Array.getElem?_setIfInBounds_ne hk]
theorem Qbb (hm:MSim N w0 ro0 γ w m.B m.L) {y:AV} {v2:Value} {sz:Nat} (hr:Rep w γ y v2) (hc:(cellsS m sz y).1) :
  ∃ (a2:Option Addr) (cap2:Nat) (vs:List Value),v2=.slice a2 (lenS y) cap2/\RepL w γ (cellsS m sz y).2 vs/\(∀ v∈vs,v.oneCell'=true)/\vs.length=lenS y*sz /\
   ∀ n,n<=lenS y->∀ w':World,(∀ x,w'.cell? x=w.cell? x)->(Builtin.firstCells sz n v2).run P w'=.ok (vs.take (n*sz)).toArray w':=by
 have nilrun:∀ (a2:Option Addr) (len cap2:Nat) (w':World),(Builtin.firstCells sz 0 (.slice a2 len cap2)).run P w'=.ok #[] w':=fun a2 len cap2 w'=>by
  cases a2<;>simp [Builtin.firstCells,loadCells,loadCellsFrom]
 cases y with
 | sl rt rows =>
  obtain ⟨a2,cap2,b2,off2,sz2,cv2,rfl,s2,_⟩:=hr.sl_inv
  replace s2:=s2.fix (sz:=sz) hc
  refine ⟨a2,cap2,Zf rows.length sz cv2,rfl,⟨by simp [cellsS,length_flatten hc,Xn],fun k c v h1 h2=>?_⟩,s2.one,by simp [lenS,Xn],fun n hn w' hw=>?_⟩
  ·obtain ⟨g1,g2⟩:=flatten_get hc h1
   obtain ⟨_,rfl⟩:=flatV_get h2
   exact (s2.rep _ _ c g2).of_imm
  ·by_cases hn0:n=0
   ·subst hn0;simpa using nilrun a2 _ cap2 w'
   ·simp only [lenS] at hn
    have hne:rows≠[]:=by rintro rfl;simp at hn;omega
    obtain ⟨rfl,_⟩:=s2.at_ hne
    refine run_firstCells_some w' sz n _ rows.length cap2 _ ?_ fun j u hj=>?_
    ·rw [List.length_take,Xn]
     have:n*sz<=rows.length*sz:=Nat.mul_le_mul_right _ hn
     omega
    ·rw [hw]
     rw [List.getElem?_take] at hj
     split at hj
     ·exact s2.cells j u hj
     ·cases hj
 | bs id off len sz' =>
  obtain ⟨rfl,hle,hid⟩:=hc
  obtain ⟨b,cap,arr,te,hβ,rfl,hl,hh,hs⟩:=hr.inv_bs
  have hsz:=box_size hm (m:=m) (fun _ _ h=>h) hβ hh
  have hlen:((arr.toList.drop off).take (len*sz')).length=len*sz':=by simp;omega
  refine ⟨_,cap,(arr.toList.drop off).take (len*sz'),rfl,⟨?_,fun k c v h1 h2=>?_⟩,fun v hv=>?_,hlen,fun n hn w' hw=>?_⟩
  ·rw [hlen]
   show (List.take _ (List.drop _ _)).length=_
   rw [List.length_take,List.length_drop];omega
  ·simp only [cellsS] at h1
   rw [List.getElem?_take] at h1 h2
   split at h1
   ·rename_i hk
    simp only [hk,if_true] at h2
    rw [List.getElem?_drop] at h1 h2
    obtain ⟨u,g1,g2,_⟩:=box_cell hm (m:=m) (fun _ _ h=>h) hβ hh h1
    rw [Array.getElem?_toList,g1] at h2
    cases h2
    exact g2
   ·cases h1
  ·have hmem:=List.mem_of_mem_drop (List.mem_of_mem_take hv)
   obtain ⟨arr',e',g2,_,g4⟩:=hm.box id _ b (by simp [AM.B,hid]:m.B id=some (m.boxes.getD id [])) hβ
   rw [hh] at g2
   cases g2
   exact g4 v hmem
  ·by_cases hn0:n=0
   ·subst hn0;simpa using nilrun _ _ cap w'
   ·refine run_firstCells_some w' sz' n _ len cap _ ?_ fun j u hj=>?_
    ·rw [List.length_take,hlen]
     simp only [lenS] at hn
     have:n*sz'<=len*sz':=Nat.mul_le_mul_right _ hn
     omega
    ·rw [hw,addr_add,cell_of_block hh]
     rw [List.getElem?_take] at hj
     split at hj
     ·rw [List.getElem?_take] at hj
      split at hj
      ·rw [List.getElem?_drop,Array.getElem?_toList] at hj
       exact hj
      ·cases hj
     ·cases hj
 | _=>exact hc.elim
section grow
variable {t te:TypeId} {i:TypeInfo} {z:Value} {a1 a2:Option Addr} {len len2 cap cap2:Nat} {c1 c2:List Value}
theorem run_app_growG (ht:P.underlying t=some (.slice te)) (hi:P.info? te=some i) (hz:i.zero=some z) (f1:(Builtin.firstCells i.size len (.slice a1 len cap)).run P w.drew=.ok c1.toArray w.drew)
  (f2:(Builtin.firstCells i.size len2 (.slice a2 len2 cap2)).run P w.drew=.ok c2.toArray w.drew)
  (hg:cap < len+len2) (hfit:(3*(len+len2)+4000)*i.bytes<=562949953421312) (hbig:len+len2<=9223372036854775807) :
  ∃ newcap,len+len2<=newcap/\(Builtin.append_ #[t,t] ty #[.slice a1 len cap,.slice a2 len2 cap2]).run P w =
   .ok (.slice (some ⟨w.heap.size,0,none⟩) (len+len2) newcap) (w.drew.alloc (.cells (c1.toArray++c2.toArray++Builtin.zeroCells z.cells (newcap - (len+len2))) te)):=by
 have hn:¬ (len+len2<=cap):=by omega
 have h63':¬ (9223372036854775807 < ((len:Int)+(len2:Int))):=by omega
 have hle:=nsc_le hg
 have h48':¬ (281474976710656 < Builtin.nextslicecap (len+len2) cap*i.bytes):=by
  have:2*Builtin.nextslicecap (len+len2) cap*i.bytes<=(3*(len+len2)+4000)*i.bytes:=Nat.mul_le_mul_right _ (by omega)
  rw [Nat.mul_assoc] at this
  omega
 refine ⟨grownCap w (len+len2) cap te,grownCap_ge w _ _ _,?_⟩
 simp [Builtin.append_,run_underlying ht,sizeOf,typeInfo,zeroValue,hi,hz,Builtin.lenOf,hn,h63',h48',Question.forced,f1,f2,newRow,grownCap]
 congr 2
 apply Array.ext'
 simp [List.append_assoc]
theorem run_app_roomG {b off:Nat} (ht:P.underlying t=some (.slice te)) (hi:P.info? te=some i) (f2:(Builtin.firstCells i.size len2 (.slice a2 len2 cap2)).run P w=.ok c2.toArray w) (h1:∀ v∈c2,v.oneCell'=true) (hl:c2.length=len2*i.size)
  (hroom:len+len2<=cap) {arr:Array Value} {e':TypeId} (hh:w.heap[b]? = some (.cells arr e' (0,0))) (hsz:off+cap*i.size<=arr.size) :
  (Builtin.append_ #[t,t] ty #[.slice (some ⟨b,off,none⟩) len cap,.slice a2 len2 cap2]).run P w =
   .ok (.slice (some ⟨b,off,none⟩) (len+len2) cap) (w.setCells b (off+len*i.size) c2):=by
 have hle:(len+len2)*i.size<=cap*i.size:=Nat.mul_le_mul_right _ hroom
 rw [Nat.add_mul] at hle
 have hst:=run_storeCells_cells (P:=P) b (off+len*i.size) c2 0 w (fun j hj=>by
   rw [cell_of_block hh,Nat.add_zero,Array.getElem?_eq_getElem (by omega)];rfl)
  (fun j hj=>Vv hh) h1
 simp only [Nat.add_zero] at hst
 simp [Builtin.append_,run_underlying ht,sizeOf,typeInfo,hi,Builtin.lenOf,hroom,f2,addr_add,hst]
end grow
theorem repP_join {as bs:List AV} {us vs rest:List Value} (h1:RepL w γ as us) (h2:RepL w γ bs vs):RepP w γ (as++bs) (us++vs++rest):=by
 have h:=h1.append h2
 refine ⟨by have:=h.1;simp at this |-;omega,fun k c v g1 g2=>h.2 k c v g1 ?_⟩
 have hk:=(List.getElem?_eq_some_iff.1 g1).1
 rw [h.1] at hk
 rwa [List.getElem?_append_left hk] at g2
theorem zeroCells_one {cs:Array Value} (h:∀ u∈cs,u.oneCell'=true) (n:Nat):∀ v∈(Builtin.zeroCells cs n).toList,v.oneCell'=true:=fun v hv=>by
 simp [Builtin.zeroCells] at hv
 obtain ⟨k,hk,rfl⟩:=hv
 have h0:0 < cs.size:=by
  rcases Nat.eq_zero_or_pos cs.size with h0 | h0
  ·simp [h0] at hk
  ·exact h0
 have hlt:k % cs.size < cs.size:=Nat.mod_lt _ h0
 rw [getElem!_pos cs _ hlt]
 exact h _ (Array.getElem_mem hlt)
theorem fills_get {zs:List AV}:∀ {n k:Nat} {c:AV},(fills n zs)[k]? = some c->k < n*zs.length/\zs[k % zs.length]? = some c
 | 0,k,c,h=>by simp [fills] at h
 | n+1,k,c,h=>by
  rw [fills] at h
  rcases Nat.lt_or_ge k zs.length with hk | hk
  ·rw [List.getElem?_append_left hk] at h
   rw [Nat.mod_eq_of_lt hk]
   exact ⟨by rw [Nat.add_mul];omega,h⟩
  ·rw [List.getElem?_append_right hk] at h
   obtain ⟨h1,h2⟩:=fills_get h
   rw [Nat.mod_eq_sub_mod hk]
   exact ⟨by rw [Nat.add_mul];omega,h2⟩
theorem Yj (zs:List AV):∀ n,(fills n zs).length=n*zs.length
 | 0=>by simp [fills]
 | n+1=>by rw [fills,List.length_append,Yj zs n,Nat.add_mul];omega
theorem store_box (hm:MSim N w0 ro0 γ w m.B m.L) {id b off:Nat} (hβ:γ.β id=some b) (hid:id < m.boxes.length) (hne:m.boxes.getD id []≠[]) {arr:Array Value} {te:TypeId} (hh:w.heap[b]? = some (.cells arr te (0,0)))
  {as:List AV} {vs:List Value} (hr:RepL w γ as vs) (hone:∀ v∈vs,v.oneCell'=true) (hfit:off+as.length<=(m.boxes.getD id []).length) :
  (storeCells ⟨b,off,none⟩ vs).run P w=.ok () (w.setCells b off vs)/\Ev w γ (w.setCells b off vs) γ/\MSim N w0 ro0 γ (w.setCells b off vs) ({ m with boxes:=m.boxes.set id (setA (m.boxes.getD id []) off as) }:AM).B m.L:=by
 have hB:m.B id=some (m.boxes.getD id []):=by simp [AM.B,hid]
 obtain ⟨arr',e',q2,q3,q4⟩:=hm.box id _ b hB hβ
 rw [hh] at q2
 cases q2
 have hsz:=q3.1
 simp only [Array.length_toList] at hsz
 have hl:=hr.1
 have hst:=run_storeCells_cells (P:=P) b off vs 0 w (fun j hj=>by
   rw [cell_of_block hh,Nat.add_zero,Array.getElem?_eq_getElem (by omega)];rfl) (fun j hj=>Vv hh) hone
 simp only [Nat.add_zero] at hst
 refine ⟨hst,hm.ev_store hβ off vs,?_⟩
 rw [B_set m id hid]
 exact hm.store hB hβ hh q3 q4 hr hone hne
theorem stepM_cpy (hm:MSim N w0 ro0 γ w m.B m.L) {x y:Operand} {t te:TypeId} {ts:Array TypeId} {i:TypeInfo} (ht:ts[0]? = some t) (hu:P.underlying t=some (.slice te)) (hi:P.info? te=some i) (h1:Rep w γ (e (opd x)) (a.eval x)) (h2:Rep w γ (e (opd y)) (a.eval y))
  (h:(sop P gl orc e m dst (.cpy i.size (opd x) (opd y))).1/\K (sop P gl orc e m dst (.cpy i.size (opd x) (opd y))).2.1 (sop P gl orc e m dst (.cpy i.size (opd x) (opd y))).2.2) :
  Uk N w0 ro0 P ⟨dst,.call ⟨.builtin .copy,#[x,y],ts⟩,ty,pos,after,guard⟩ a γ w (m.st,m.ln) K:=by
 simp only [sop] at h
 split at h
 case h_2=>exact h.1.elim
 rename_i id off len sz' e1
 rw [e1] at h1
 obtain ⟨b,cap,arr,te',hβ,hv,hl,hh,hs⟩:=h1.inv_bs
 intro rd next Q hn
 split at h
 ·rename_i s e2
  rw [e2] at h2
  obtain ⟨⟨⟨rfl,hi1⟩,hid,hfit,hne⟩,hk⟩:=h
  have hr:RepL w γ ((s.data.toList.take len).map fun b=>(.int .u8 b.toNat:AV)) ((s.data.toList.take len).map fun b=>(.int .u8 b.toNat:Value)):=by
   refine ⟨by simp,fun k c v g1 g2=>?_⟩
   simp only [List.getElem?_map] at g1 g2
   cases hx:(s.data.toList.take len)[k]? with
   | none=>simp [hx] at g1
   | some u=>simp [hx] at g1 g2;subst g1;subst g2;exact .int _ _
  obtain ⟨g1,g2,g3⟩:=store_box (P:=P) (off:=off) hm hβ hid hne hh hr (fun v hv=>by obtain ⟨u,_,rfl⟩:=List.mem_map.1 hv;rfl) (by rw [List.length_map,List.length_take];omega)
  have hfc:(Builtin.firstCells 1 (Nat.min s.size len) (.string s)).run P w=.ok ((s.data.toList.take len).map fun b=>(.int .u8 b.toNat:Value)).toArray w:=by
   simp only [Builtin.firstCells,Sem.run_pure]
   congr 1
   apply Array.ext'
   simp only [ByteArray.data_extract,Array.toList_map,Array.toList_extract,List.extract_eq_take_drop,List.drop_zero,Nat.sub_zero]
   congr 1
   rcases Nat.le_total s.size len with h' | h'
   ·have:Nat.min s.size len=s.size:=Nat.min_eq_left h'
    rw [this,List.take_of_length_le (by simp),List.take_of_length_le (by simpa using h')]
   ·have:Nat.min s.size len=len:=Nat.min_eq_right h'
    rw [this]
  generalize ((s.data.toList.take len).map fun b=>(.int .u8 b.toNat:Value))=cs at *
  refine Xv (v:=.int .i64 (min s.size len:Nat)) (w':=w.setCells b off cs) ?_ (hn _ _ γ _ _ hk rfl g2 g3 (.int _ _))
  simp [execOp,resolve,invoke,builtin,Builtin.copy_,ht,run_underlying hu,hv,h2.inv_str,Builtin.lenOf,sizeOf,typeInfo,hi,hi1,hfc,g1,goInt]
 ·rename_i hns
  obtain ⟨⟨rfl,hcy,hid,hfit,hne⟩,hk⟩:=h
  obtain ⟨a2,cap2,vs,hv2,hr2,hone2,hlen2,hf2⟩:=Qbb (P:=P) hm h2 hcy
  have hr:=hr2.take (len*i.size)
  obtain ⟨g1,g2,g3⟩:=store_box (P:=P) (off:=off) hm hβ hid hne hh hr (fun v hv=>hone2 v (List.mem_of_mem_take hv)) (by rw [List.length_take];omega)
  have hfc:=hf2 (min (lenS (e (opd y))) len) (Nat.min_le_left _ _) w (fun _=>rfl)
  rw [hv2] at hfc
  have htk:vs.take (min (lenS (e (opd y))) len*i.size)=vs.take (len*i.size):=by
   rcases Nat.le_total (lenS (e (opd y))) len with h' | h'
   ·rw [Nat.min_eq_left h',<- hlen2,List.take_length,List.take_of_length_le]
    rw [hlen2];exact Nat.mul_le_mul_right _ h'
   ·rw [Nat.min_eq_right h']
  rw [htk] at hfc
  refine Xv (v:=.int .i64 (min (lenS (e (opd y))) len:Nat)) (w':=w.setCells b off (vs.take (len*i.size))) ?_ (hn _ _ γ _ _ hk rfl g2 g3 (.int _ _))
  simp [execOp,resolve,invoke,builtin,Builtin.copy_,ht,run_underlying hu,hv,hv2,Builtin.lenOf,sizeOf,typeInfo,hi,hfc,g1,goInt]
theorem stepM_clr (hm:MSim N w0 ro0 γ w m.B m.L) {x:Operand} {t te:TypeId} {zs:List AV} (hu:P.underlying t=some (.slice te)) (hz:zc P te=some zs) (h1:Rep w γ (e (opd x)) (a.eval x))
  (h:(sop P gl orc e m dst (.clr zs (opd x))).1/\K (sop P gl orc e m dst (.clr zs (opd x))).2.1 (sop P gl orc e m dst (.clr zs (opd x))).2.2) :
  Uk N w0 ro0 P ⟨dst,.call ⟨.builtin .clear,#[x],#[t]⟩,ty,pos,after,guard⟩ a γ w (m.st,m.ln) K:=by
 obtain ⟨i,z,hi,hzz,hzr⟩:=zc_rep (w:=w) (γ:=γ) hz
 simp only [sop] at h
 split at h
 ·rename_i id off len sz' e1
  rw [e1] at h1
  obtain ⟨⟨⟨rfl,hcell⟩,hid,hfit,hne⟩,hk⟩:=h
  obtain ⟨b,cap,arr,te',hβ,hv,hl,hh,hs⟩:=h1.inv_bs
  have hone:=Yb hzr hcell
  intro rd next Q hn
  have hzl:z.cells.size=zs.length:=by have:=hzr.1;simp at this;omega
  have hr:RepL w γ (fills len zs) (Builtin.zeroCells z.cells len).toList:=by
   refine ⟨by simp [Yj,size_zeroCells,hzl],fun k c v g1 g2=>?_⟩
   obtain ⟨j1,j2⟩:=fills_get g1
   have h0:0 < zs.length:=by
    rcases Nat.eq_zero_or_pos zs.length with h0 | h0
    ·simp [h0] at j1
    ·exact h0
   have hlt:k % zs.length < z.cells.size:=by rw [hzl];exact Nat.mod_lt _ h0
   have hv':v=z.cells[k % zs.length]:=by
    simp only [Builtin.zeroCells,Array.getElem?_toList,Array.getElem?_map] at g2
    rw [Array.getElem?_eq_getElem (by simp [hzl];exact j1)] at g2
    simp [hzl] at g2
    rw [<- g2,getElem!_pos z.cells _ hlt]
   subst hv'
   exact hzr.2 _ c _ j2 (by simp [hlt])
  obtain ⟨g1,g2,g3⟩:=store_box (P:=P) (off:=off) hm hβ hid hne hh hr (zeroCells_one (fun u hu=>hone u (by simpa using hu)) len) (by rw [Yj];exact hfit)
  by_cases hl0:len=0
  ·subst hl0
   have e0:(Builtin.zeroCells z.cells 0).toList=[]:=by simp [Builtin.zeroCells]
   rw [e0] at g2 g3
   refine Xv (v:=.tuple #[]) (w':=w) (by simp [execOp,resolve,invoke,builtin,Builtin.clear_,run_underlying hu,hv]) (hn _ _ γ _ _ hk rfl g2 g3 (RepL.tup' RepL.nil))
  ·refine Xv (v:=.tuple #[]) (w':=w.setCells b off (Builtin.zeroCells z.cells len).toList) ?_ (hn _ _ γ _ _ hk rfl g2 g3 (RepL.tup' RepL.nil))
   cases len with
   | zero=>exact absurd rfl hl0
   | succ len=>simp [execOp,resolve,invoke,builtin,Builtin.clear_,run_underlying hu,hv,zeroValue,typeInfo,hi,hzz,g1]
 ·rename_i rt e1
  rw [e1] at h1
  obtain ⟨a1,cap,b1,off1,sz1,cv1,hv,s1,_⟩:=h1.sl_inv
  intro rd next Q hn
  refine Xv (v:=.tuple #[]) (w':=w) ?_ (hn _ _ γ _ _ h.2 rfl (Ev.refl w γ) hm (RepL.tup' RepL.nil))
  simp only [List.length_nil] at hv
  cases a1<;>simp [execOp,resolve,invoke,builtin,Builtin.clear_,run_underlying hu,hv]
 ·exact h.1.elim
theorem bs_src (hm:MSim N w0 ro0 γ w m.B m.L) {id off len sz:Nat} {v2:Value} (hr:Rep w γ (.bs id off len sz) v2) (hle:off+len*sz<=(m.boxes.getD id []).length) (hid:id < m.boxes.length)
  (hcell:(m.boxes.getD id []).all Qs=true) (hp:(m.boxes.getD id []).any (Zj 6)=false) :
  (chunk sz len (((m.boxes.getD id []).map (cvn m 6)).drop off)).length=len/\(∀ row∈chunk sz len (((m.boxes.getD id []).map (cvn m 6)).drop off),row.length=sz) /\
  ∃ (γ2:G) (a2:Option Addr) (cap2 b2:Nat) (cv2:Nat->Nat->Value),v2=.slice a2 len cap2/\SlV w γ2 (chunk sz len (((m.boxes.getD id []).map (cvn m 6)).drop off)) a2 cap2 b2 off sz cv2 /\
   ∀ i j c,Qr (chunk sz len (((m.boxes.getD id []).map (cvn m 6)).drop off)) i j=some c->Rep w γ.imm c (cv2 i j):=by
 obtain ⟨b,cap,arr,te',hβ,hv,hl,hh,hs⟩:=hr.inv_bs
 have hB:m.B id=some (m.boxes.getD id []):=by simp [AM.B,hid]
 obtain ⟨arr',e',q2,q3,q4⟩:=hm.box id _ b hB hβ
 rw [hh] at q2
 cases q2
 have hlen:(chunk sz len (((m.boxes.getD id []).map (cvn m 6)).drop off)).length=len:=by rw [chunk_eq];simp
 have hsz:∀ row∈chunk sz len (((m.boxes.getD id []).map (cvn m 6)).drop off),row.length=sz:=fun row hrow=>by
  rw [chunk_eq] at hrow
  simp only [List.mem_map,List.mem_range] at hrow
  obtain ⟨k,hk,rfl⟩:=hrow
  have:(k+1)*sz<=len*sz:=Nat.mul_le_mul_right _ hk
  rw [Nat.add_mul,Nat.one_mul] at this
  simp only [List.length_take,List.length_drop,List.length_map]
  omega
 have hrc:∀ (k j:Nat) (c:AV),Qr (chunk sz len (((m.boxes.getD id []).map (cvn m 6)).drop off)) k j=some c->∃ c' u,(m.boxes.getD id [])[off+k*sz+j]? = some c'/\c=cvn m 6 c'/\arr[off+k*sz+j]? = some u/\arr.getD (off+k*sz+j) undef=u/\Rep w γ c' u:=fun k j c h=>by
  rw [chunk_eq] at h
  unfold Qr at h
  rcases Nat.lt_or_ge k len with hk | hk
  ·rw [List.getElem?_map,List.getElem?_range hk] at h
   simp only [Option.map_some,Option.bind_some] at h
   rw [List.getElem?_take] at h
   split at h
   ·rw [List.getElem?_drop,List.getElem?_drop,List.getElem?_map] at h
    obtain ⟨c',hc',rfl⟩:=Option.map_eq_some_iff.1 h
    rw [<- Nat.add_assoc] at hc'
    have hlt:off+k*sz+j < arr.size:=by
     have h1:=(List.getElem?_eq_some_iff.1 hc').1
     have h2:=q3.1
     simp at h2
     simp only [List.getD] at h1
     omega
    have hu':arr[off+k*sz+j]? = some arr[off+k*sz+j]:=Array.getElem?_eq_getElem hlt
    exact ⟨c',_,hc',rfl,hu',by simp [hlt],q3.2 _ _ _ hc' (by simp [hlt])⟩
   ·cases h
  ·rw [List.getElem?_map,List.getElem?_eq_none (by simpa using hk)] at h
   cases h
 have hno:∀ (k j:Nat) (c':AV),(m.boxes.getD id [])[off+k*sz+j]? = some c'->Zj 6 c'=true->False:=fun k j c' h hp'=>by
  have:(m.boxes.getD id []).any (Zj 6)=true:=List.any_eq_true.2 ⟨c',List.mem_of_getElem? h,hp'⟩
  rw [hp] at this;cases this
 refine ⟨hlen,hsz,{ γ with ro:=fun _ _=>True },some ⟨b,off,none⟩,cap,b,fun k j=>arr.getD (off+k*sz+j) undef,hv,⟨by rw [hlen];exact hl,fun h=>(by cases h),fun _=>⟨rfl,lt_of_heap hh⟩,hsz,fun k j c h=>?_,fun k j c h=>?_⟩,fun k j c h=>?_⟩
 ·obtain ⟨c',u,g1,rfl,g3,g4,g5⟩:=hrc k j c h
  rw [cell_of_block hh,g3,g4]
  exact ⟨rfl,trivial,rep_one g5 (List.all_eq_true.1 hcell c' (List.mem_of_getElem? g1))⟩
 ·obtain ⟨c',u,g1,rfl,g3,g4,g5⟩:=hrc k j c h
  rw [g4]
  exact cvn_rep hm (m:=m) (fun _ _ h=>h) (ro':=fun _ _=>True) (fun _ _ _=>trivial) 6 c' u g5 fun hp'=>(hno k j c' g1 hp').elim
 ·obtain ⟨c',u,g1,rfl,g3,g4,g5⟩:=hrc k j c h
  show Rep w γ.imm (cvn m 6 c') (arr.getD (off+k*sz+j) undef)
  rw [g4]
  exact cvn_rep hm (m:=m) (fun _ _ h=>h) (ro':=γ.ro) (fun _ _ h=>h) 6 c' u g5 fun hp'=>(hno k j c' g1 hp').elim
theorem stepM_app (hm:MSim N w0 ro0 γ w m.B m.L) (hgl:∀ g,Rep w γ.imm (gl g) (.pointer (some ⟨g,0,none⟩))) {c:Call} (he:∀ x∈c.operands,Rep w γ (e (opd x)) (a.eval x)) (h:((sop P gl orc e m dst (Xw P c)).1/\K (sop P gl orc e m dst (Xw P c)).2.1 (sop P gl orc e m dst (Xw P c)).2.2)) :
  Uk N w0 ro0 P ⟨dst,.call c,ty,pos,after,guard⟩ a γ w (m.st,m.ln) K:=by
 have gen:sop P gl orc e m dst (Xw P c)=((rop P gl orc e m dst (Xw P c)).1,(rop P gl orc e m dst (Xw P c)).2,m)->Uk N w0 ro0 P ⟨dst,.call c,ty,pos,after,guard⟩ a γ w (m.st,m.ln) K:=fun hg =>
  stepM_rop hm hgl he (by rw [hg] at h;exact h)
 obtain ⟨callee,args,ts⟩:=c
 cases callee with
 | value f=>exact gen rfl
 | invoke recv name=>exact gen rfl
 | builtin b =>
  cases b<;>first | exact gen rfl | skip
  case append =>
   simp only [Xw] at h
   split at h
   case h_2=>exact h.1.elim
   rename_i s x t t' ha ht
   split at h
   case h_2=>exact h.1.elim
   rename_i te te' hu hu'
   split at h
   case h_2=>exact h.1.elim
   rename_i i hi
   split at h
   case isFalse=>exact h.1.elim
   rename_i hcond
   simp only [Bool.and_eq_true,beq_iff_eq,bne_iff_ne] at hcond
   obtain ⟨⟨⟨rfl,hz⟩,_⟩,hb0⟩:=hcond
   obtain rfl:args=#[s,x]:=by cases args;simp_all
   obtain rfl:ts=#[t,t]:=by cases ts;simp_all
   have h1:=he s (by simp [Call.operands])
   have h2:=he x (by simp [Call.operands])
   cases hzz:i.zero with
   | none=>simp [hzz] at hz
   | some z =>
    simp [hzz] at hz
    obtain ⟨hz,hzo⟩:=hz
    have hzone:∀ (n:Nat),∀ v∈(Builtin.zeroCells z.cells n).toList,v.oneCell'=true:=fun n v hv=>zeroCells_one (fun u hu=>by obtain ⟨k,hk,rfl⟩:=Array.mem_iff_getElem.1 hu;exact hzo k hk) n v hv
    have grown:∀ {c1 c2:List Value} {newcap len:Nat},c1.length+c2.length=len*i.size->len<=newcap->newcap*i.size<=(c1.toArray++c2.toArray++Builtin.zeroCells z.cells (newcap - len)).size:=fun {c1 c2 newcap len} hl hle=>by
     simp only [Array.size_append,List.size_toArray,size_zeroCells,hz]
     have:newcap*i.size=len*i.size+(newcap - len)*i.size:=by rw [<- Nat.add_mul];congr 1;omega
     omega
    simp only [sop] at h
    split at h
    ·rename_i id sz' rows rt2 rows2 e1 e2
     rw [e1] at h1
     rw [e2] at h2
     obtain ⟨⟨rfl,hlen,hr,hfit⟩,hk⟩:=h
     obtain ⟨v,w',γ',g1,g2,g3,g4⟩:=app_own (ty:=ty) hm hu hi hzz hz (id:=id) (.inr ⟨h1,hlen⟩) h2 hr hfit (Yt hb0 hfit)
     intro rd next Q hn
     refine Xv (v:=v) (w':=w') (by simp [execOp,resolve,invoke,builtin,g1]) (hn v w' γ' _ _ hk rfl g2 ?_ g4)
     rw [L_set m id (List.getElem?_eq_some_iff.1 hlen).1]
     exact g3
    ·
     rename_i y' id off len sz' e1
     rw [e1] at h1
     obtain ⟨⟨⟨⟨rfl,rfl,hid,hne,hle⟩,hfit⟩,hcy⟩,hk⟩:=h
     obtain ⟨b,cap,arr,te',hβ,hv,hl,hh,hs⟩:=h1.inv_bs
     obtain ⟨a2,cap2,vs,hv2,hr2,hone2,hlen2,hf2⟩:=Qbb (P:=P) hm h2 hcy
     have hB:m.B id=some (m.boxes.getD id []):=by simp [AM.B,hid]
     obtain ⟨arr',e',q2,q3,q4⟩:=hm.box id _ b hB hβ
     rw [hh] at q2
     cases q2
     have hsz:=q3.1
     simp only [Array.length_toList] at hsz
     have hc1:RepL w γ ((m.boxes.getD id []).take (len*i.size)) (arr.toList.take (len*i.size)):=by
      refine ⟨by simp only [List.length_take,Array.length_toList];omega,fun k c v g1 g2=>?_⟩
      rw [List.getElem?_take] at g1 g2
      split at g1
      ·rename_i hk'
       rw [if_pos hk'] at g2
       exact q3.2 k c v g1 g2
      ·cases g1
     have hid':m.B m.boxes.length=none:=by simp [AM.B]
     have hBB:∀ cells:List AV,({ m with boxes:=m.boxes.set id []++[cells] }:AM).B=fun i=>if i=m.boxes.length then some cells else if i=id then some [] else m.B i:=fun cells=>by
      have e1:=Wt { m with boxes:=m.boxes.set id [] } cells
      rw [B_set m id hid] at e1
      simpa using e1
     intro rd next Q hn
     by_cases hroom:len+lenS (e (opd x))<=cap
     ·have hrun:=run_app_roomG (P:=P) (ty:=ty) (w:=w) (len:=len) (b:=b) (off:=0) hu hi (by have:=hf2 _ (Nat.le_refl _) w (fun _=>rfl);rw [hv2,<- hlen2,List.take_length] at this;exact this) hone2 hlen2 hroom hh hs
      simp only [Nat.zero_add] at hrun
      have hmul:(len+lenS (e (opd x)))*i.size<=cap*i.size:=Nat.mul_le_mul_right _ hroom
      rw [Nat.add_mul] at hmul
      obtain ⟨g1,g2⟩:=hm.share (id':=m.boxes.length) (new:=(m.boxes.getD id []).take (len*i.size)++(cellsS m i.size (e (opd x))).2) hβ hB hne hid' hh (p:=len*i.size) (vs:=vs) (by
       refine ⟨by simp only [List.length_append,List.length_take,hr2.1,Array.length_toList,Um];omega,fun k c v j1 j2=>?_⟩
       rw [Array.getElem?_toList,setL_get] at j2
       rcases Nat.lt_or_ge k (len*i.size) with hk' | hk'
       ·rw [if_neg (by omega)] at j2
        rw [List.getElem?_append_left (by rw [List.length_take];omega)] at j1
        refine hc1.2 k c v j1 ?_
        rw [List.getElem?_take,if_pos hk',Array.getElem?_toList]
        exact j2
       ·rw [List.getElem?_append_right (by rw [List.length_take];omega)] at j1
        have e0:((m.boxes.getD id []).take (len*i.size)).length=len*i.size:=by rw [List.length_take];omega
        rw [e0] at j1
        have hk2:=(List.getElem?_eq_some_iff.1 j1).1
        rw [hr2.1] at hk2
        rw [if_pos (by omega)] at j2
        exact hr2.2 _ c v j1 j2) q4 hone2
      refine Xv (v:=.slice (some ⟨b,0,none⟩) (len+lenS (e (opd x))) cap) (w':=w.setCells b (len*i.size) vs) (by simp [execOp,resolve,invoke,builtin,hv,hv2,hrun]) (hn _ _ _ _ _ hk rfl g1 ?_ ?_)
      ·rw [hBB];exact g2
      ·exact .bs (by simp [G.box]) hroom (Xr b vs _ w arr te' _ hh) (by rw [Um];exact hs)
     ·have f1:(Builtin.firstCells i.size len (.slice (some ⟨b,0,none⟩) len cap)).run P w.drew=.ok (arr.toList.take (len*i.size)).toArray w.drew:=by
       refine run_firstCells_some w.drew i.size len _ len cap _ (by simp;omega) fun j u hj=>?_
       rw [addr_add]
       show w.cell? _=_
       rw [cell_of_block hh]
       rw [List.getElem?_take] at hj
       split at hj
       ·simpa using hj
       ·cases hj
      have f2:(Builtin.firstCells i.size (lenS (e (opd x))) (.slice a2 (lenS (e (opd x))) cap2)).run P w.drew=.ok vs.toArray w.drew:=by
       have:=hf2 _ (Nat.le_refl _) w.drew (fun _=>rfl);rw [hv2,<- hlen2,List.take_length] at this;exact this
      obtain ⟨newcap,hle',hrun⟩:=run_app_growG (P:=P) (ty:=ty) (w:=w) hu hi hzz f1 f2 (by omega) hfit (Yt hb0 hfit)
      have hmk:=(hm.kill hβ).drew
      have hid2:(fun i=>if i=id then some [] else m.B i) m.boxes.length=none:=by
       have:m.boxes.length≠id:=by omega
       simp only [if_neg this];exact hid'
      have hP:=repP_join (rest:=(Builtin.zeroCells z.cells (newcap - (len+lenS (e (opd x))))).toList) hc1 hr2
      have hev:=hmk.ev_box _ hid2 (.cells ((arr.toList.take (len*i.size)).toArray++vs.toArray++Builtin.zeroCells z.cells (newcap - (len+lenS (e (opd x))))) te)
      have hm2:=hmk.newBox _ hid2 (e:=te) (arr:=(arr.toList.take (len*i.size)).toArray++vs.toArray++Builtin.zeroCells z.cells (newcap - (len+lenS (e (opd x))))) (by
       have:=hP.mono (Ev.drew w γ)
       simpa using this) (fun v hv=>by
        simp only [Array.toList_append,List.mem_append] at hv
        rcases hv with (hv | hv) | hv
        ·exact q4 v (List.mem_of_mem_take (by simpa using hv))
        ·exact hone2 v (by simpa using hv)
        ·exact hzone _ v hv)
      refine Xv (v:=.slice (some ⟨w.heap.size,0,none⟩) (len+lenS (e (opd x))) newcap) (by simp [execOp,resolve,invoke,builtin,hv,hv2,hrun]) (hn _ _ _ _ _ hk rfl ((Ev.drew w γ).trans hev) ?_ ?_)
      ·rw [hBB];exact hm2
      ·refine .bs (arr:=(arr.toList.take (len*i.size)).toArray++vs.toArray++Builtin.zeroCells z.cells (newcap - (len+lenS (e (opd x))))) (e:=te) (by show (if _ then _ else _)=_;rw [if_pos rfl];rfl) hle' (Ja w _) ?_
       rw [Nat.zero_add]
       exact grown (by rw [hlen2,Nat.add_mul];simp;omega) hle'
    ·
     rename_i id sz' rows id2 off2 len2 sz2 e1 e2
     rw [e1] at h1
     rw [e2] at h2
     obtain ⟨⟨⟨rfl,rfl⟩,hlen,hr,hfit,hle2,hid2,hcell2,hp2⟩,hk⟩:=h
     obtain ⟨l2,hr2,γ2,a2,cap2,b2,cv2,hv2,s2,hrep2⟩:=bs_src hm h2 hle2 hid2 hcell2 hp2
     generalize chunk i.size len2 (((m.boxes.getD id2 []).map (cvn m 6)).drop off2)=rows2 at *
     subst l2
     obtain ⟨v,w',γ',g1,g2,g3,g4⟩:=app_ownG (ty:=ty) hm hu hi hzz hz (id:=id) (.inr ⟨h1,hlen⟩) s2 hrep2 (fun row h=>(List.mem_append.1 h).elim (hr row) (hr2 row)) hfit (Yt hb0 hfit)
     intro rd next Q hn
     refine Xv (v:=v) (w':=w') (by simp [execOp,resolve,invoke,builtin,hv2,g1]) (hn v w' γ' _ _ hk rfl g2 ?_ g4)
     rw [L_set m id (List.getElem?_eq_some_iff.1 hlen).1]
     exact g3
    ·rename_i y' rt rows e1 hno hno'
     rw [e1] at h1
     split at h
     ·
      obtain ⟨⟨⟨hfu,hny,hsz,hfit⟩,hcy⟩,hk⟩:=h
      replace h1:=h1.full_of hfu
      obtain ⟨a1,cap,b1,off1,sz1,cv1,hv,s1,hcap⟩:=h1.sl_inv
      replace s1:=s1.fix (sz:=i.size) hsz
      obtain ⟨a2,cap2,vs,hv2,hr2,hone2,hlen2,hf2⟩:=Qbb (P:=P) hm h2 hcy
      obtain ⟨a1',cap1',vs1,hv1',hr1,hone1,hlen1,hf1⟩:=Qbb (P:=P) (sz:=i.size) hm h1 hsz
      rw [hv] at hv1'
      simp only [lenS] at hv1' hlen1
      cases hv1'
      have hid':m.B m.boxes.length=none:=by simp [AM.B]
      have f1:(Builtin.firstCells i.size rows.length (.slice a1 rows.length cap)).run P w.drew=.ok vs1.toArray w.drew:=by
       have:=hf1 _ (Nat.le_refl _) w.drew (fun _=>rfl);rw [hv] at this;simp only [lenS] at this;rw [<- hlen1,List.take_length] at this;exact this
      have f2:(Builtin.firstCells i.size (lenS (e (opd x))) (.slice a2 (lenS (e (opd x))) cap2)).run P w.drew=.ok vs.toArray w.drew:=by
       have:=hf2 _ (Nat.le_refl _) w.drew (fun _=>rfl);rw [hv2,<- hlen2,List.take_length] at this;exact this
      have hcap':cap=rows.length:=hcap
      obtain ⟨newcap,hle',hrun⟩:=run_app_growG (P:=P) (ty:=ty) (w:=w) hu hi hzz f1 f2 (by omega) hfit (Yt hb0 hfit)
      have hP:=repP_join (rest:=(Builtin.zeroCells z.cells (newcap - (rows.length+lenS (e (opd x))))).toList) hr1 hr2
      have hmk:=hm.drew
      have hev:=hmk.ev_box _ hid' (.cells (vs1.toArray++vs.toArray++Builtin.zeroCells z.cells (newcap - (rows.length+lenS (e (opd x))))) te)
      have hm2:=hmk.newBox _ hid' (e:=te) (arr:=vs1.toArray++vs.toArray++Builtin.zeroCells z.cells (newcap - (rows.length+lenS (e (opd x))))) (by
       have:=hP.mono (Ev.drew w γ)
       simpa using this) (fun v hv=>by
        simp only [Array.toList_append,List.mem_append] at hv
        rcases hv with (hv | hv) | hv
        ·exact hone1 v (by simpa using hv)
        ·exact hone2 v (by simpa using hv)
        ·exact hzone _ v hv)
      intro rd next Q hn
      refine Xv (v:=.slice (some ⟨w.heap.size,0,none⟩) (rows.length+lenS (e (opd x))) newcap) (by simp [execOp,resolve,invoke,builtin,hv,hv2,hrun]) (hn _ _ _ _ _ hk rfl ((Ev.drew w γ).trans hev) ?_ ?_)
      ·rw [Wt];exact hm2
      ·refine .bs (arr:=vs1.toArray++vs.toArray++Builtin.zeroCells z.cells (newcap - (rows.length+lenS (e (opd x))))) (e:=te) (by show (if _ then _ else _)=_;rw [if_pos rfl];rfl) hle' (Ja w _) ?_
       rw [Nat.zero_add]
       exact grown (by rw [hlen1,hlen2,Nat.add_mul]) hle'
     split at h
     case h_3=>exact h.1.elim
     case h_2 =>
      rename_i id2 off2 len2 sz2 e2
      rw [e2] at h2
      obtain ⟨⟨⟨hfu,rfl⟩,hr,hfit,hle2,hid2,hcell2,hp2⟩,hk⟩:=h
      replace h1:=h1.full_of hfu
      obtain ⟨l2,hr2,γ2,a2,cap2,b2,cv2,hv2,s2,hrep2⟩:=bs_src hm h2 hle2 hid2 hcell2 hp2
      generalize chunk i.size len2 (((m.boxes.getD id2 []).map (cvn m 6)).drop off2)=rows2 at *
      subst l2
      obtain ⟨v,w',γ',g1,g2,g3,g4⟩:=app_ownG (ty:=ty) hm hu hi hzz hz (id:=m.lens.length) (.inl ⟨h1,by simp [AM.L]⟩) s2 hrep2 (fun row h=>(List.mem_append.1 h).elim (hr row) (hr2 row)) hfit (Yt hb0 hfit)
      intro rd next Q hn
      refine Xv (v:=v) (w':=w') (by simp [execOp,resolve,invoke,builtin,hv2,g1]) (hn v w' γ' _ _ hk rfl g2 ?_ g4)
      rw [L_snoc]
      exact g3
     rename_i rt2 rows2 e2
     rw [e2] at h2
     obtain ⟨⟨hfu,hr,hfit⟩,hk⟩:=h
     replace h1:=h1.full_of hfu
     obtain ⟨v,w',γ',g1,g2,g3,g4⟩:=app_own (ty:=ty) hm hu hi hzz hz (id:=m.lens.length) (.inl ⟨h1,by simp [AM.L]⟩) h2 hr hfit (Yt hb0 hfit)
     intro rd next Q hn
     refine Xv (v:=v) (w':=w') (by simp [execOp,resolve,invoke,builtin,g1]) (hn v w' γ' _ _ hk rfl g2 ?_ g4)
     rw [L_snoc]
     exact g3
    ·exact h.1.elim
  case copy =>
   simp only [Xw] at h
   split at h
   case h_2=>exact h.1.elim
   rename_i x y t ts' ha ht
   split at h
   case h_2=>exact h.1.elim
   rename_i te hu
   split at h
   case h_2=>exact h.1.elim
   rename_i i hi
   obtain rfl:args=#[x,y]:=by cases args;simp_all
   have ht0:ts[0]? = some t:=by cases ts;simp_all
   exact stepM_cpy hm ht0 hu hi (he x (by simp [Call.operands])) (he y (by simp [Call.operands])) h
  case clear =>
   simp only [Xw] at h
   split at h
   case h_2=>exact h.1.elim
   rename_i x t ha ht
   split at h
   case h_2=>exact h.1.elim
   rename_i te hu
   split at h
   case h_2=>exact h.1.elim
   rename_i zs hz
   obtain rfl:args=#[x]:=by cases args;simp_all
   obtain rfl:ts=#[t]:=by cases ts;simp_all
   exact stepM_clr hm hu hz (he x (by simp [Call.operands])) h
  case len =>
   refine gen ?_
   simp only [Xw]
   repeat' split
   all_goals rfl
  case max=>refine gen ?_;simp only [Xw];repeat' split
            all_goals rfl
  case min=>refine gen ?_;simp only [Xw];repeat' split
            all_goals rfl
def G.newm (γ:G) (id b:Nat):G:={ γ with mm:=fun i=>if i=id then some b else γ.mm i }
def isMI:Obj->Bool
 | .map _ _=>true
 | .mapIter _ _ _ _=>true
 | _=>false
theorem ObjOK.isMI {x:AV} {o:Obj} (h:ObjOK w γ x o):isMI o=true:=by
 unfold ObjOK at h
 split at h<;>first | rfl | exact h.elim
theorem cell_MI {w:World} {b o':Nat} {o:Obj} (h:w.heap[b]? = some o) (hm:isMI o=true):w.cell? ⟨b,o',none⟩=none:=by
 cases o<;>simp [isMI] at hm<;>simp [World.cell?,h]
theorem MSim.newMap {B:Nat->Option (List AV)} {L:Nat->Option Nat} (hm:MSim N w0 ro0 γ w B L) (id:Nat) (hid:B id=none) {x:AV} {o:Obj} (hx:ObjOK w γ x o) :
  Ev w γ (w.alloc o) (γ.newm id w.heap.size)/\MSim N w0 ro0 (γ.newm id w.heap.size) (w.alloc o) (fun i=>if i=id then some [x] else B i) L:=by
 have hne:∀ i b,γ.mm i=some b->i≠id:=fun i b h=>by
  rintro rfl
  obtain ⟨_,_,_,_,_,_,_,_,_,hx,_⟩:=hm.mm i b h
  rw [hid] at hx;cases hx
 have hneβ:∀ i b,γ.β i=some b->i≠id:=fun i b h=>by
  rintro rfl
  obtain ⟨_,_,_,_,c,hc⟩:=hm.β i b h
  rw [hid] at hc;cases hc
 have hβ0:γ.β id=none:=by
  cases h:γ.β id with
  | none=>rfl
  | some b=>exact absurd rfl (hneβ id b h)
 have hev:Ev w γ (w.alloc o) (γ.newm id w.heap.size):=⟨by simp,fun b o' hb hr=>⟨hr,cell_of_heap (Below.heap_alloc w _ b hb)⟩,fun _ _ h=>h,fun _=>Nat.le_refl _,fun i b h=>by simp [G.newm,hne i b h,h],rfl,
   fun i b _ ho=>⟨ho,fun arr e he=>⟨arr,by rw [Below.heap_alloc w _ b (hm.own i b ho).2.1];exact he,Nat.le_refl _⟩,fun _ h=>h⟩,
   fun b hb=>⟨hb,Below.heap_alloc w _ b (hm.sp b hb).2.1⟩,Sz.of_same (Below.heap_alloc w _)⟩
 have hinj:∀ i i' b,γ.β i=some b->γ.β i'=some b->(if i=id then some [x] else B i)=some []\/(if i'=id then some [x] else B i')=some []\/i=i':=fun i i' b h h'=>by
  rw [if_neg (hneβ i b h),if_neg (hneβ i' b h')];exact hm.inj i i' b h h'
 refine ⟨hev,⟨w0.st _ _ _ _ hm.bs ⟨rfl,rfl,rfl,by simp,fun b hb _=>Below.heap_alloc w _ b hb,hev.ro,fun b hb=>?_,fun _ _ h=>.inl h⟩,by have:=hm.hN;simp;omega,hm.ro0,fun b o h=>by have:=hm.robd b o h;simp;omega,
  fun i cells b hb h1=>?_,fun i b hb=>?_,hinj,fun i b hb=>?_,hm.oinj,fun b hb=>?_,fun i b hb=>?_,fun i i' b h h'=>?_,hm.len,hm.cur0⟩⟩
 ·rcases hb with hb | hb | hb | ⟨i,hb⟩
  ·exact .inl (.inl hb)
  ·exact .inl (.inr (.inl hb))
  ·exact .inl (.inr (.inr (.inl hb)))
  ·by_cases h:i=id
   ·simp [G.newm,h] at hb;exact .inr (by omega)
   ·simp [G.newm,h] at hb;exact .inl (.inr (.inr (.inr ⟨i,hb⟩)))
 ·have h1':γ.β i=some b:=h1
  simp only [if_neg (hneβ i b h1')] at hb
  obtain ⟨arr,e,h2,h3,h4⟩:=hm.box i cells b hb h1'
  exact ⟨arr,e,by rw [Below.heap_alloc w _ b (lt_of_heap h2)];exact h2,h3.mono hev,h4⟩
 ·have hb':γ.β i=some b:=hb
  obtain ⟨h1,h2,h3,h4,c,h5⟩:=hm.β i b hb'
  exact ⟨h1,by simp;omega,h3,h4,c,by simp only [if_neg (hneβ i b hb')];exact h5⟩
 ·obtain ⟨h1,h2,h3⟩:=hm.own i b hb
  exact ⟨h1,by simp;omega,h3⟩
 ·obtain ⟨h1,h2,h3⟩:=hm.sp b hb
  exact ⟨h1,by simp;omega,h3⟩
 ·by_cases h:i=id
  ·subst h
   simp [G.newm] at hb
   subst hb
   refine ⟨hm.hN,by simp,fun o' h=>?_,fun i h=>?_,fun i h=>?_,fun h=>?_,hβ0,x,o,by simp,by show (w.heap.push _)[w.heap.size]? = _;simp,hx.mono hev.toR.toV⟩
   ·have:=hm.robd _ _ h;omega
   ·have:=(hm.β i _ h).2.1;omega
   ·have:=(hm.own i _ h).2.1;omega
   ·have:=(hm.sp _ h).2.1;omega
  ·simp [G.newm,h] at hb
   obtain ⟨h1,h2,h3,h4,h5,h6,h8,h7⟩:=hm.mm i b hb
   refine ⟨h1,by simp;omega,h3,h4,h5,h6,h8,?_⟩
   simp only [if_neg h]
   exact h7.mono hev.toR.toV (Below.heap_alloc w _ b h2)
 ·by_cases hi:i=id<;>by_cases hi':i'=id
  ·rw [hi,hi']
  ·simp [G.newm,hi] at h
   simp [G.newm,hi'] at h'
   have:=(hm.mm i' b h').2.1;omega
  ·simp [G.newm,hi] at h
   simp [G.newm,hi'] at h'
   have:=(hm.mm i b h).2.1;omega
  ·simp [G.newm,hi] at h
   simp [G.newm,hi'] at h'
   exact hm.minj i i' b h h'
theorem stepM_mkmap (hm:MSim N w0 ro0 γ w m.B m.L) {t:TypeId} {r:Option Operand} (h:((sop P gl orc e m dst (tr P ⟨dst,.makeMap t r,ty,pos,after,guard⟩)).1/\K (sop P gl orc e m dst (tr P ⟨dst,.makeMap t r,ty,pos,after,guard⟩)).2.1 (sop P gl orc e m dst (tr P ⟨dst,.makeMap t r,ty,pos,after,guard⟩)).2.2)):Uk N w0 ro0 P ⟨dst,.makeMap t r,ty,pos,after,guard⟩ a γ w (m.st,m.ln) K:=by
 cases r with
 | some r=>exact h.1.elim
 | none =>
  simp only [tr] at h
  split at h
  case h_2=>exact h.1.elim
  rename_i kn z ht
  intro rd next Q hn
  have hid:m.B m.boxes.length=none:=by simp [AM.B]
  obtain ⟨g1,g2⟩:=hm.newMap _ hid (x:=.mobj kn []) (o:=.map #[] 0) ⟨rfl,rfl,fun i k a e q1=>by simp at q1⟩
  refine Xv (v:=.map (some w.heap.size)) (w':=w.alloc (.map #[] 0)) (by simp [execOp,Instr.makeMap]) (hn _ _ (γ.newm m.boxes.length w.heap.size) _ _ h.2 rfl g1 ?_ (.mp (by simp [G.newm])))
  simp only [sop]
  rw [Wt]
  exact g2
theorem MSim.putMap {B:Nat->Option (List AV)} {L:Nat->Option Nat} (hm:MSim N w0 ro0 γ w B L) {id b:Nat} (hb:γ.mm id=some b) {x:AV} {o:Obj} (hx:ObjOK w γ x o) :
  Ev w γ (w.putObj b o) γ/\MSim N w0 ro0 γ (w.putObj b o) (fun i=>if i=id then some [x] else B i) L:=by
 obtain ⟨n1,n2,n3,n4,n5,n6,n8,hmo⟩:=hm.mm id b hb
 have hnc:=fun {arr:Array Value} {e:TypeId} {f:Nat×Nat}=>MapOK.notCells hmo (arr:=arr) (e:=e) (f:=f)
 obtain ⟨x0,o0,n7,h0,hk0⟩:=hmo
 have hother:∀ b',b'≠b->(w.putObj b o).heap[b']? = w.heap[b']? := fun b' hb'=>World.putObj_heap_other hb'
 have hthis:(w.putObj b o).heap[b]? = some o:=by simp [World.putObj,n2]
 have hcell:∀ b' o',(w.putObj b o).cell? ⟨b',o',none⟩=w.cell? ⟨b',o',none⟩:=fun b' o'=>by
  by_cases hbb:b'=b
  ·subst hbb;rw [cell_MI hthis hx.isMI,cell_MI h0 hk0.isMI]
  ·exact cell_of_heap (hother b' hbb)
 have hev:Ev w γ (w.putObj b o) γ:=by
  refine ⟨by simp,fun b' o' _ hr=>⟨hr,hcell b' o'⟩,fun _ _ h=>h,fun _=>Nat.le_refl _,fun _ _ h=>h,rfl,fun i b' _ ho=>⟨ho,fun arr e he=>⟨arr,?_,Nat.le_refl _⟩,fun _ h=>h⟩,fun b' h=>⟨h,hother b' (by rintro rfl;exact n6 h)⟩,fun b' arr e f h=>⟨arr,by rw [hother b' (by rintro rfl;exact hnc h)];exact h,rfl⟩⟩
  rw [hother b' (by rintro rfl;exact n5 i ho)];exact he
 have hinj:∀ i i' b',γ.β i=some b'->γ.β i'=some b'->(if i=id then some [x] else B i)=some []\/(if i'=id then some [x] else B i')=some []\/i=i':=fun i i' b' h h'=>by
  rw [if_neg (by rintro rfl;rw [n8] at h;cases h),if_neg (by rintro rfl;rw [n8] at h';cases h')];exact hm.inj i i' b' h h'
 refine ⟨hev,⟨w0.st _ _ _ _ hm.bs ⟨rfl,rfl,rfl,by simp,fun b' _ hno=>hother b' (by rintro rfl;exact hno (.inr (.inr (.inr ⟨id,hb⟩)))),hev.ro,fun b' hb'=>.inl hb',fun b' o' h=>.inl h⟩,by simpa using hm.hN,
  hm.ro0,fun b' o' h=>by simpa using hm.robd b' o' h,fun i cells b' hbi h1=>?_,fun i b' hb'=>?_,hinj,fun i b' hb'=>?_,hm.oinj,fun b' hb'=>?_,fun i b' hb'=>?_,hm.minj,hm.len,hm.cur0⟩⟩
 ·have hi:i≠id:=by rintro rfl;rw [n8] at h1;cases h1
  simp only [if_neg hi] at hbi
  obtain ⟨arr,e,h2,h3,h4⟩:=hm.box i cells b' hbi h1
  exact ⟨arr,e,by rw [hother b' (by rintro rfl;exact n4 i h1)];exact h2,h3.mono hev,h4⟩
 ·have hi:i≠id:=by rintro rfl;rw [n8] at hb';cases hb'
  obtain ⟨h1,h2,h3,h4,c',h5⟩:=hm.β i b' hb'
  exact ⟨h1,by simpa using h2,h3,h4,c',by simp only [if_neg hi];exact h5⟩
 ·obtain ⟨h1,h2,h3⟩:=hm.own i b' hb'
  exact ⟨h1,by simpa using h2,h3⟩
 ·obtain ⟨h1,h2,h3⟩:=hm.sp b' hb'
  exact ⟨h1,by simpa using h2,h3⟩
 ·by_cases hi:i=id
  ·subst hi
   obtain rfl:b'=b:=Option.some.inj (hb'.symm.trans hb)
   exact ⟨n1,by simpa using n2,n3,n4,n5,n6,n8,x,o,by simp,hthis,hx.mono hev.toR.toV⟩
  ·obtain ⟨h1,h2,h3,h4,h5,h6,h8,h7⟩:=hm.mm i b' hb'
   refine ⟨h1,by simpa using h2,h3,h4,h5,h6,h8,?_⟩
   simp only [if_neg hi]
   exact h7.mono hev.toR.toV (hother b' (by rintro rfl;exact hi (hm.minj _ _ _ hb' hb)))
theorem box_at {id:Nat} {x:AV} (h:m.boxes.getD id []=[x]):id < m.boxes.length/\m.B id=some [x]:=by
 have hid:id < m.boxes.length:=by
  rcases Nat.lt_or_ge id m.boxes.length with h' | h'
  ·exact h'
  ·simp [List.getD,List.getElem?_eq_none h'] at h
 refine ⟨hid,?_⟩
 simp [AM.B,hid]
 simpa [List.getD,hid] using h
theorem ents_push {kn:Nat} {kvs:List (List Int×AV)} {es:Array MapEntry} {n:List Int} {c:AV} {v:Value} (hn:Ji kn n) (hl:kvs.length=es.size)
  (hk:∀ (i:Nat) (k:List Int) (a:AV) (e:MapEntry),kvs[i]? = some (k,a)->es[i]? = some e->Ji kn k/\e.key=Vj kn k/\e.born=i/\Rep w γ a e.val) (hc:Rep w γ c v) :
  ObjOK w γ (.mobj kn (kvs++[(n,c)])) (.map (es.push ⟨Vj kn n,v,es.size⟩) (es.size+1)):=by
 refine ⟨by simp,by simp [hl],fun j k' c' x' s1 s2=>?_⟩
 rcases Nat.lt_or_ge j kvs.length with hj | hj
 ·rw [List.getElem?_append_left hj] at s1
  rw [Array.getElem?_push_lt (by omega)] at s2
  exact hk j k' c' x' s1 (by rw [Array.getElem?_eq_getElem (by omega)];exact s2)
 ·have hj':j=kvs.length:=by
   have:=(List.getElem?_eq_some_iff.1 s1).1
   simp at this;omega
  subst hj'
  simp at s1
  obtain ⟨rfl,rfl⟩:=s1
  rw [hl] at s2
  simp at s2
  subst s2
  exact ⟨hn,rfl,hl.symm,hc⟩
theorem ents_set {kn:Nat} {kvs:List (List Int×AV)} {es:Array MapEntry} {n:List Int} {j:Nat} {c:AV} {f:MapEntry->MapEntry} (hn:Ji kn n) (hl:kvs.length=es.size)
  (hk:∀ (i:Nat) (k:List Int) (a:AV) (e:MapEntry),kvs[i]? = some (k,a)->es[i]? = some e->Ji kn k/\e.key=Vj kn k/\e.born=i/\Rep w γ a e.val) (hj:j < kvs.length)
  (hf:∀ e,es[j]? = some e->(f e).key=Vj kn n/\(f e).born=e.born/\Rep w γ c (f e).val) :
  ObjOK w γ (.mobj kn (kvs.set j (n,c))) (.map (es.modify j f) es.size):=by
 refine ⟨by simp,by simp [hl],fun j' k' c' x' t1 t2=>?_⟩
 rw [Array.getElem?_modify] at t2
 by_cases hjj:j=j'
 ·subst hjj
  have hjs:j < es.size:=by omega
  simp [hjs] at t2
  rw [List.getElem?_set_self (by omega)] at t1
  cases t1
  subst t2
  obtain ⟨p1,p2,p3⟩:=hf es[j] (by simp [hjs])
  have:=hk j (kvs[j]'hj).1 (kvs[j]'hj).2 es[j] (by simp [hj]) (by simp [hjs])
  exact ⟨hn,p1,by rw [p2];exact this.2.2.1,p3⟩
 ·rw [List.getElem?_set_ne hjj] at t1
  rw [if_neg hjj] at t2
  exact hk j' k' c' x' t1 t2
theorem run_set (b:Nat) (o:Obj) {es:Array MapEntry} {c:Nat} (q2:w.heap[b]? = some (.map es c)):(setObj b o).run P w=.ok () (w.putObj b o):=by simp [setObj,Sem.run,q2,World.putObj]
theorem stepM_mupd (hm:MSim N w0 ro0 γ w m.B m.L) {t:TypeId} {x k y:Operand} (h1:Rep w γ (e (opd x)) (a.eval x)) (h2:Rep w γ (e (opd k)) (a.eval k)) (h3:Rep w γ (e (opd y)) (a.eval y))
  (h:((sop P gl orc e m dst (tr P ⟨dst,.mapUpdate t x k y,ty,pos,after,guard⟩)).1/\K (sop P gl orc e m dst (tr P ⟨dst,.mapUpdate t x k y,ty,pos,after,guard⟩)).2.1 (sop P gl orc e m dst (tr P ⟨dst,.mapUpdate t x k y,ty,pos,after,guard⟩)).2.2)):Uk N w0 ro0 P ⟨dst,.mapUpdate t x k y,ty,pos,after,guard⟩ a γ w (m.st,m.ln) K:=by
 simp only [tr] at h
 split at h
 case h_2=>exact h.1.elim
 rename_i kn z ht
 simp only [sop] at h
 split at h
 case h_2=>exact h.1.elim
 rename_i id n e1 e2
 rw [e1] at h1
 obtain ⟨e3,hn0⟩:=keyA_eq e2
 rw [e3] at h2
 split at h
 case h_2=>exact h.1.elim
 rename_i kn' kvs hbox
 obtain ⟨⟨hkn,hba⟩,hK⟩:=h
 subst hkn
 obtain ⟨kt,vt,i,zv,hu,hk,hi,hz,rfl⟩:=mapT_spec ht
 obtain ⟨hid,hBid⟩:=box_at hbox
 obtain ⟨b,es,hb,hv,q2,q3,q4⟩:=hm.map_at h1 hBid
 obtain ⟨f1,f2⟩:=find_ok (w:=w) (γ:=γ) (P:=P) hk hn0 (kvs:=kvs) (es:=es.toList) (by simpa using q3) fun j k' c x' g1 g2=>by
  obtain ⟨p1,p2,_,p3⟩:=q4 j k' c x' g1 (by simpa using g2)
  exact ⟨p1,p2,p3⟩
 have hget:=MapKept.run_getObj_map (P:=P) q2
 have hset:=fun o=>run_set (P:=P) b o q2
 have hck:(Instr.checkKey false 10000 kt (Vj kn' n)).run P w=.ok () w:=run_checkKey hk hn0
 have hkv:=keyAV_inv hn0 h2
 intro rd next Q hn
 cases hf:Qx n kvs 0 with
 | none =>
  rw [hf] at hK
  have hfk:=f1 hf
  have hrun:(execOp a.eval ⟨dst,.mapUpdate t x k y,ty,pos,after,guard⟩).run P w=.ok .skip (w.putObj b (.map (es.push ⟨Vj kn' n,a.eval y,es.size⟩) (es.size+1))):=by
   simp [execOp,Instr.mapUpdate,run_underlying hu,hv,hkv,hget,hck,hfk,hset]
  obtain ⟨g1,g2⟩:=hm.putMap hb (ents_push hn0 q3 q4 h3)
  refine wp_skip' hrun (hn undef _ γ _ _ hK rfl g1 ?_ (.junk _))
  rw [B_set m id hid]
  exact g2
 | some p =>
  obtain ⟨j,c⟩:=p
  rw [hf] at hK
  obtain ⟨vv,hfk,s2,s3,s4⟩:=f2 j c hf
  have hjl:j < es.size:=by omega
  have hold:=(q4 j n c es[j] s4 (Array.getElem?_eq_getElem hjl)).2.1
  have hks:=run_keyStays (P:=P) (w:=w) (new:=Vj kn' n) hn0 hold rfl
  have hrun:(execOp a.eval ⟨dst,.mapUpdate t x k y,ty,pos,after,guard⟩).run P w=.ok .skip (w.putObj b (.map (es.modify j fun q=>{ q with key:=Vj kn' n,val:=a.eval y }) es.size)):=by
   simp [execOp,Instr.mapUpdate,run_underlying hu,hv,hkv,hget,hck,hfk,hjl,hks,hset]
  obtain ⟨g1,g2⟩:=hm.putMap hb (ents_set (j:=j) (c:=e (opd y)) (f:=fun q=>{ q with key:=Vj kn' n,val:=a.eval y }) hn0 q3 q4 s3 fun e he=>⟨rfl,rfl,h3⟩)
  refine wp_skip' hrun (hn undef _ γ _ _ hK rfl g1 ?_ (.junk _))
  rw [B_set m id hid]
  exact g2
theorem stepM_ment (hm:MSim N w0 ro0 γ w m.B m.L) {t:TypeId} {x k:Operand} (h1:Rep w γ (e (opd x)) (a.eval x)) (h2:Rep w γ (e (opd k)) (a.eval k))
  (h:((sop P gl orc e m dst (tr P ⟨dst,.mapEntry t x k,ty,pos,after,guard⟩)).1/\K (sop P gl orc e m dst (tr P ⟨dst,.mapEntry t x k,ty,pos,after,guard⟩)).2.1 (sop P gl orc e m dst (tr P ⟨dst,.mapEntry t x k,ty,pos,after,guard⟩)).2.2)):Uk N w0 ro0 P ⟨dst,.mapEntry t x k,ty,pos,after,guard⟩ a γ w (m.st,m.ln) K:=by
 simp only [tr] at h
 split at h
 case h_2=>exact h.1.elim
 rename_i kn z ht
 simp only [sop] at h
 split at h
 case h_2=>exact h.1.elim
 rename_i id n e1 e2
 rw [e1] at h1
 obtain ⟨e3,hn0⟩:=keyA_eq e2
 rw [e3] at h2
 split at h
 case h_2=>exact h.1.elim
 rename_i kn' kvs hbox
 obtain ⟨hkn,hK⟩:=h
 simp only at hkn
 subst hkn
 obtain ⟨kt,vt,i,zv,hu,hk,hi,hz,rfl⟩:=mapT_spec ht
 obtain ⟨hid,hBid⟩:=box_at hbox
 obtain ⟨b,es,hb,hv,q2,q3,q4⟩:=hm.map_at h1 hBid
 obtain ⟨f1,f2⟩:=find_ok (w:=w) (γ:=γ) (P:=P) hk hn0 (kvs:=kvs) (es:=es.toList) (by simpa using q3) fun j k' c x' g1 g2=>by
  obtain ⟨p1,p2,_,p3⟩:=q4 j k' c x' g1 (by simpa using g2)
  exact ⟨p1,p2,p3⟩
 have hget:=MapKept.run_getObj_map (P:=P) q2
 have hset:=fun o=>run_set (P:=P) b o q2
 have hck:(Instr.checkKey false 10000 kt (Vj kn' n)).run P w=.ok () w:=run_checkKey hk hn0
 have hkv:=keyAV_inv hn0 h2
 intro rd next Q hn
 cases hf:Qx n kvs 0 with
 | none =>
  rw [hf] at hK
  have hfk:=f1 hf
  have hrun:(execOp a.eval ⟨dst,.mapEntry t x k,ty,pos,after,guard⟩).run P w=.ok (.value (.tuple #[zv,.int .i64 es.size])) (w.putObj b (.map (es.push ⟨Vj kn' n,zv,es.size⟩) (es.size+1))):=by
   simp [execOp,Instr.mapEntry,run_underlying hu,hv,hkv,hget,hck,hfk,hset,zeroValue,typeInfo,hi,hz,goInt]
  obtain ⟨g1,g2⟩:=hm.putMap hb (ents_push hn0 q3 q4 (Yw w γ zv))
  refine Xv hrun (hn _ _ γ _ _ hK rfl g1 ?_ ?_)
  ·rw [B_set m id hid]
   exact g2
  ·rw [q3]
   exact (RepL.cons (Yw _ γ zv) (RepL.cons (.int .i64 _) RepL.nil)).tup'
 | some p =>
  obtain ⟨j,c⟩:=p
  rw [hf] at hK
  obtain ⟨vv,hfk,s2,s3,s4⟩:=f2 j c hf
  have hjl:j < es.size:=by omega
  have hold:=q4 j n c es[j] s4 (Array.getElem?_eq_getElem hjl)
  have hks:=run_keyStays (P:=P) (w:=w) (new:=Vj kn' n) hn0 hold.2.1 rfl
  have hrun:(execOp a.eval ⟨dst,.mapEntry t x k,ty,pos,after,guard⟩).run P w=.ok (.value (.tuple #[vv,.int .i64 j])) (w.putObj b (.map (es.modify j fun q=>{ q with key:=Vj kn' n }) es.size)):=by
   simp [execOp,Instr.mapEntry,run_underlying hu,hv,hkv,hget,hck,hfk,hjl,hks,hset,goInt,hold.2.2.1]
  have hset0:kvs.set j (n,c)=kvs:=by
   apply List.ext_getElem?
   intro i
   by_cases hij:j=i
   ·subst hij;rw [List.getElem?_set_self s3,s4]
   ·rw [List.getElem?_set_ne hij]
  obtain ⟨g1,g2⟩:=hm.putMap hb (ents_set (j:=j) (c:=c) (f:=fun q=>{ q with key:=Vj kn' n }) hn0 q3 q4 s3 fun e he=>⟨rfl,rfl,(q4 j n c e s4 he).2.2.2⟩)
  rw [hset0] at g2
  refine Xv hrun (hn _ _ γ _ _ hK rfl g1 ?_ ?_)
  ·rw [B_set m id hid]
   exact g2
  ·exact ((RepL.cons s2 (RepL.cons (.int .i64 _) RepL.nil)).mono g1).tup'
theorem stepM_esto (hm:MSim N w0 ro0 γ w m.B m.L) {t:TypeId} {x k y:Operand} (h1:Rep w γ (e (opd x)) (a.eval x)) (h2:Rep w γ (e (opd k)) (a.eval k)) (h3:Rep w γ (e (opd y)) (a.eval y))
  (h:((sop P gl orc e m dst (tr P ⟨dst,.entryStore t x k y,ty,pos,after,guard⟩)).1/\K (sop P gl orc e m dst (tr P ⟨dst,.entryStore t x k y,ty,pos,after,guard⟩)).2.1 (sop P gl orc e m dst (tr P ⟨dst,.entryStore t x k y,ty,pos,after,guard⟩)).2.2)):Uk N w0 ro0 P ⟨dst,.entryStore t x k y,ty,pos,after,guard⟩ a γ w (m.st,m.ln) K:=by
 simp only [tr,sop] at h
 split at h
 case h_2=>exact h.1.elim
 rename_i id kk i e1 e2
 rw [e1] at h1
 rw [e2] at h2
 split at h
 case h_2=>exact h.1.elim
 rename_i kn kvs hbox
 obtain ⟨⟨⟨hi0,hil⟩,hba⟩,hK⟩:=h
 obtain ⟨hid,hBid⟩:=box_at hbox
 obtain ⟨b,es,hb,hv,q2,q3,q4⟩:=hm.map_at h1 hBid
 have hget:=MapKept.run_getObj_map (P:=P) q2
 have hset:=fun o=>run_set (P:=P) b o q2
 obtain ⟨j,rfl⟩:∃ j:Nat,i=j:=⟨i.toNat,by omega⟩
 have hjl:j < es.size:=by omega
 have hjk:j < kvs.length:=by omega
 have hfi:es.findIdx? (fun e=>(e.born:Int)==(j:Int))=some j:=by
  rw [Array.findIdx?_eq_some_iff_getElem]
  refine ⟨hjl,by simp [Qbc q3 q4 hjl],fun l hl=>?_⟩
  have:=Qbc q3 q4 (i:=l) (by omega)
  simp [this];omega
 have hrun:(execOp a.eval ⟨dst,.entryStore t x k y,ty,pos,after,guard⟩).run P w=.ok .skip (w.putObj b (.map (es.modify j fun q=>{ q with val:=a.eval y }) es.size)):=by
  simp [execOp,Instr.entryStore,hv,hget,h2.inv_int,asInt,asIntOf,hfi,hset]
 have hold:=q4 j (kvs[j]'hjk).1 (kvs[j]'hjk).2 es[j] (by simp [hjk]) (by simp [hjl])
 obtain ⟨g1,g2⟩:=hm.putMap hb (ents_set (j:=j) (n:=(kvs[j]'hjk).1) (c:=e (opd y)) (f:=fun q=>{ q with val:=a.eval y }) hold.1 q3 q4 hjk fun e he=>⟨by
  have:=q4 j (kvs[j]'hjk).1 (kvs[j]'hjk).2 e (by simp [hjk]) he
  exact this.2.1,rfl,h3⟩)
 intro rd next Q hn
 have hgd:(kvs.getD (Int.toNat (j:Int)) ([],.junk)).1=(kvs[j]'hjk).1:=by simp [List.getD,hjk]
 rw [hgd] at hK
 refine wp_skip' hrun (hn undef _ γ _ _ hK rfl g1 ?_ (.junk _))
 rw [B_set m id hid]
 exact g2
theorem stepM_rng (hm:MSim N w0 ro0 γ w m.B m.L) {t:TypeId} {x:Operand} (h1:Rep w γ (e (opd x)) (a.eval x))
  (h:((sop P gl orc e m dst (tr P ⟨dst,.range t x,ty,pos,after,guard⟩)).1/\K (sop P gl orc e m dst (tr P ⟨dst,.range t x,ty,pos,after,guard⟩)).2.1 (sop P gl orc e m dst (tr P ⟨dst,.range t x,ty,pos,after,guard⟩)).2.2)):Uk N w0 ro0 P ⟨dst,.range t x,ty,pos,after,guard⟩ a γ w (m.st,m.ln) K:=by
 simp only [tr] at h
 split at h
 case h_2=>exact h.1.elim
 rename_i p ht
 obtain ⟨kn,z⟩:=p
 simp only [sop] at h
 split at h
 case h_2=>exact h.1.elim
 rename_i id e1
 rw [e1] at h1
 split at h
 case h_2=>exact h.1.elim
 rename_i kn' kvs hbox
 obtain ⟨kt,vt,i,zv,hu,hk,hi,hz,rfl⟩:=mapT_spec ht
 obtain ⟨hid,hBid⟩:=box_at hbox
 obtain ⟨b,es,hb,hv,q2,q3,q4⟩:=hm.map_at h1 hBid
 have hid':m.B m.boxes.length=none:=by simp [AM.B]
 obtain ⟨g1,g2⟩:=hm.newMap _ hid' (x:=.mitr id kvs.length []) (o:=.mapIter (some b) es.size #[] es.size) ⟨hb,q3.symm,q3.symm,rfl⟩
 have hrun:(execOp a.eval ⟨dst,.range t x,ty,pos,after,guard⟩).run P w=.ok (.value (.pointer (some ⟨w.heap.size,0,none⟩))) (w.alloc (.mapIter (some b) es.size #[] es.size)):=by
  simp [execOp,hv,run_range_map w t kt vt b es es.size hu q2]
 intro rd next Q hn
 refine Xv hrun (hn _ _ (γ.newm m.boxes.length w.heap.size) _ _ h.2 rfl g1 ?_ (.it (by simp [G.newm])))
 rw [Wt]
 exact g2
theorem stepM_mks0 (hm:MSim N w0 ro0 γ w m.B m.L) {t:TypeId} {l c:Operand} (h0:Rep w γ (e (opd l)) (a.eval l)) (h1:Rep w γ (e (opd c)) (a.eval c))
  (h:((sop P gl orc e m dst (tr P ⟨dst,.makeSlice t l c,ty,pos,after,guard⟩)).1/\K (sop P gl orc e m dst (tr P ⟨dst,.makeSlice t l c,ty,pos,after,guard⟩)).2.1 (sop P gl orc e m dst (tr P ⟨dst,.makeSlice t l c,ty,pos,after,guard⟩)).2.2)):Uk N w0 ro0 P ⟨dst,.makeSlice t l c,ty,pos,after,guard⟩ a γ w (m.st,m.ln) K:=by
 simp only [tr] at h
 split at h
 case h_2=>exact h.1.elim
 rename_i te hu
 split at h
 case h_3=>exact h.1.elim
 case h_2 =>
  rename_i i hi hneg
  split at h
  case h_2=>exact h.1.elim
  rename_i zs hzs
  obtain ⟨i',z,hi',hz,hzr⟩:=zc_rep (w:=w) (γ:=γ) hzs
  rw [hi] at hi'
  cases hi'
  simp only [sop] at h
  split at h
  case h_2=>exact h.1.elim
  rename_i k1 n1 k2 n2 e1 e2
  rw [e1] at h0
  rw [e2] at h1
  obtain ⟨⟨⟨g0,g1,g2,g3⟩,g4,g5⟩,g6⟩:=h
  have hrun:=run_make (P:=P) w t te i z hu hi hz k1 k2 n1 n2 g0 (by omega) g2 g3
  have hid:m.B m.boxes.length=none:=by simp [AM.B]
  have hone:=Yb hzr g5
  have hzl:z.cells.size=zs.length:=by have:=hzr.1;simp at this;omega
  intro rd next Q hn
  refine Xv (v:=.slice (some ⟨w.heap.size,0,none⟩) n1.toNat n2.toNat) (w':=w.alloc (.cells (madeCells z.cells (n2.toNat*i.size)) te)) (by simp [execOp,h0.inv_int,h1.inv_int,hrun])
   (hn _ _ (γ.box m.boxes.length w.heap.size) _ _ g6 rfl (hm.ev_box _ hid _) ?_ ?_)
  ·rw [Wt]
   have h0':∀ v∈(madeCells z.cells (n2.toNat*i.size)).toList,v.oneCell'=true:=fun v hv=>by
    simp [madeCells] at hv
    obtain ⟨k,hk,rfl⟩:=hv
    have h0:0 < z.cells.size:=by
     rcases Nat.eq_zero_or_pos z.cells.size with h0 | h0
     ·rw [h0] at hzl;rw [<- g4,<- hzl] at hk;simp at hk
     ·exact h0
    have hlt:k % z.cells.size < z.cells.size:=Nat.mod_lt _ h0
    rw [getElem!_pos z.cells _ hlt]
    exact hone _ (by simp)
   refine hm.newBox _ hid ⟨by simp [Yj,size_madeCells,g4],fun k c v j1 j2=>?_⟩ h0'
   obtain ⟨q1,q2⟩:=fills_get j1
   have h0:0 < zs.length:=by
    rcases Nat.eq_zero_or_pos zs.length with h0 | h0
    ·simp [h0] at q1
    ·exact h0
   have hlt:k % zs.length < z.cells.size:=by rw [hzl];exact Nat.mod_lt _ h0
   have hv':v=z.cells[k % zs.length]:=by
    simp only [madeCells,Array.getElem?_toList,Array.getElem?_map] at j2
    rw [Array.getElem?_eq_getElem (by simp;rw [<- g4];exact q1)] at j2
    simp [hzl] at j2
    rw [<- j2,getElem!_pos z.cells _ hlt]
   subst hv'
   exact hzr.2 _ c _ q2 (by simp [hlt])
  ·exact .bs (arr:=madeCells z.cells (n2.toNat*i.size)) (e:=te) (by simp [G.box]) (by omega) (by show (w.heap.push _)[w.heap.size]? = _;simp) (by rw [Nat.zero_add,size_madeCells];exact Nat.le_refl _)
 rename_i i hi
 split at h
 case isFalse=>exact h.1.elim
 rename_i hzz
 simp only [Bool.and_eq_true,beq_iff_eq,bne_iff_ne] at hzz
 obtain ⟨hzz,hi0⟩:=hzz
 obtain ⟨z,hz,hzs,hzo⟩:∃ z,i.zero=some z/\z.cells.size=i.size/\∀ v∈z.cells,v.oneCell'=true:=by
  cases hz:i.zero with
  | none=>simp [hz] at hzz
  | some z =>
   simp [hz] at hzz
   exact ⟨z,rfl,hzz.1,fun v hv=>by
    obtain ⟨k,hk,rfl⟩:=Array.mem_iff_getElem.1 hv
    exact hzz.2 k hk⟩
 have hmc:∀ (n:Nat),z.cells.size≠0->∀ v∈(madeCells z.cells n).toList,v.oneCell'=true:=fun n h0 v hv=>by
  simp [madeCells] at hv
  obtain ⟨k,hk,rfl⟩:=hv
  have hlt:k % z.cells.size < z.cells.size:=Nat.mod_lt _ (by omega)
  rw [getElem!_pos z.cells _ hlt]
  exact hzo _ (by simp)
 simp only [sop] at h
 split at h
 case h_2=>exact h.1.elim
 rename_i kk n e1
 rw [e1] at h1
 have hcst:a.eval (.const (.int .i64 0))=.int .i64 0:=rfl
 split at h
 ·split at h
  ·rename_i hc0
   obtain ⟨⟨g1,g2,g3⟩,g4⟩:=h
   have hrun:=run_make (P:=P) w t te i z hu hi hz .i64 kk 0 n (Int.le_refl _) g1 g2 g3
   intro rd next Q hn
   have hid:m.B m.boxes.length=none:=by simp [AM.B]
   refine Xv (v:=.slice (some ⟨w.heap.size,0,none⟩) 0 n.toNat) (w':=w.alloc (.cells (madeCells z.cells (n.toNat*i.size)) te)) (by simp [execOp,hcst,h1.inv_int,hrun])
    (hn _ _ (γ.box m.boxes.length w.heap.size) _ _ g4 rfl (hm.ev_box _ hid _) ?_ ?_)
   ·rw [Wt]
    exact hm.newBox _ hid ⟨by simp,fun k c v j1 j2=>by simp at j1⟩ (by rw [hc0];simp [madeCells])
   ·exact .sl (rows:=[]) w.heap.size 0 i.size (fun _ _=>undef) (Nat.zero_le _) (fun h=>(by cases h)) (fun h=>absurd rfl h) (fun _ h=>by cases h) (fun i j c h=>by simp [Qr] at h) (fun i j c h=>by simp [Qr] at h) (by simpa [RtOK] using hc0)
  ·obtain ⟨⟨g1,g2,g3⟩,g4⟩:=h
   have hrun:=run_make (P:=P) w t te i z hu hi hz .i64 kk 0 n (Int.le_refl _) g1 g2 g3
   have hid:m.B m.boxes.length=none:=by simp [AM.B]
   intro rd next Q hn
   refine Xv (v:=.slice (some ⟨w.heap.size,0,none⟩) 0 n.toNat) (w':=w.alloc (.cells (madeCells z.cells (n.toNat*i.size)) te)) (by simp [execOp,hcst,h1.inv_int,hrun])
    (hn _ _ (γ.box m.boxes.length w.heap.size) _ _ g4 rfl (hm.ev_box _ hid _) ?_ ?_)
   ·rw [Wt]
    refine hm.newBox _ hid ⟨by simp [size_madeCells],fun k c v j1 j2=>?_⟩ (hmc _ (by omega))
    simp [List.getElem?_replicate] at j1
    rw [<- j1.2];exact .junk _
   ·exact .bs (arr:=madeCells z.cells (n.toNat*i.size)) (e:=te) (by simp [G.box]) (by omega) (by show (w.heap.push _)[w.heap.size]? = _;simp) (by rw [Nat.zero_add,size_madeCells];exact Nat.le_refl _)
 obtain ⟨⟨g1,g2,g3⟩,g4⟩:=h
 have hrun:=run_make (P:=P) w t te i z hu hi hz .i64 kk 0 n (Int.le_refl _) g1 g2 g3
 have hL:m.L m.lens.length=none:=by simp [AM.L]
 have hcur:γ.cur m.lens.length=0:=hm.cur0 _ hL
 have hown:γ.own m.lens.length=none:=by
  cases h:γ.own m.lens.length with
  | none=>rfl
  | some b=>obtain ⟨_,_,k,hk⟩:=hm.own _ _ h;rw [hL] at hk;cases hk
 intro rd next Q hn
 let o:Obj:=.cells (madeCells z.cells (n.toNat*i.size)) te
 refine Xv (v:=.slice (some ⟨w.heap.size,0,none⟩) 0 n.toNat) (w':=w.alloc o) (by simp [execOp,hcst,h1.inv_int,hrun,o])
  (hn _ _ (γ.renew m.lens.length w.heap.size 0 0) _ _ g4 rfl (hm.ev_renew (q:=0) (by omega) (fun _=>hown) o) ?_ ?_)
 ·rw [L_snoc]
  exact hm.renew (by omega) (fun _=>hown) o
 ·refine .sl (rows:=[]) w.heap.size 0 i.size (fun _ _=>undef) (Nat.zero_le _) (fun h=>(by cases h)) (fun h=>absurd rfl h) (fun _ h=>by cases h) (fun i j c h=>by simp [Qr] at h) (fun i j c h=>by simp [Qr] at h) ?_
  refine ⟨rfl,Nat.zero_le _,fun _=>.inr ⟨w.heap.size,0,madeCells z.cells (n.toNat*i.size),te,rfl,by simp [G.renew],by show (w.heap.push _)[w.heap.size]? = _;simp [o],by simp [size_madeCells],fun o' _ hr=>?_⟩⟩
  rcases hr with hr | ⟨_,hr⟩
  ·have:=hm.robd _ _ hr;omega
  ·omega
theorem stepM_bsl (hm:MSim N w0 ro0 γ w m.B m.L) (hgl:∀ g,Rep w γ.imm (gl g) (.pointer (some ⟨g,0,none⟩))) {t:TypeId} {len:Nat} {parts:Array (Nat×Operand)} (he:∀ x∈(Op.buildSlice t len parts).operands,Rep w γ (e (opd x)) (a.eval x))
  (h:((sop P gl orc e m dst (tr P ⟨dst,.buildSlice t len parts,ty,pos,after,guard⟩)).1/\K (sop P gl orc e m dst (tr P ⟨dst,.buildSlice t len parts,ty,pos,after,guard⟩)).2.1 (sop P gl orc e m dst (tr P ⟨dst,.buildSlice t len parts,ty,pos,after,guard⟩)).2.2)) :
  Uk N w0 ro0 P ⟨dst,.buildSlice t len parts,ty,pos,after,guard⟩ a γ w (m.st,m.ln) K:=by
 by_cases hmut:mutO orc dst=true
 case neg =>
  refine stepM_rop (o:=⟨dst,.buildSlice t len parts,ty,pos,after,guard⟩) (orc:=orc) hm hgl he ?_
  simp only [tr] at h |-
  repeat' split at h
  all_goals first | exact h.1.elim | skip
  simp only [sop,if_neg hmut] at h
  simp_all
 have h1:∀ p∈parts,Rep w γ (e (opd p.2)) (a.eval p.2):=fun p hp=>he p.2 (by simp [Op.operands];exact ⟨p.1,hp⟩)
 simp only [tr] at h
 split at h
 case h_2=>exact h.1.elim
 rename_i te hu
 split at h
 case h_2=>exact h.1.elim
 rename_i i hi
 split at h
 case isFalse=>exact h.1.elim
 rename_i hcond
 simp only [Bool.and_eq_true,beq_iff_eq,bne_iff_ne,decide_eq_true_eq] at hcond
 obtain ⟨⟨hz,hs0⟩,hbig⟩:=hcond
 cases hzz:i.zero with
 | none=>simp [hzz] at hz
 | some z =>
  simp [hzz] at hz
  simp only [sop,if_pos hmut] at h
  obtain ⟨⟨hc1,hc2⟩,hk⟩:=h
  let arr0:Array Value:=(Array.range (len*i.size)).map (z.cells[· % z.cells.size]!)
  have hr0:RepL w γ (List.replicate (len*i.size) .junk) arr0.toList:=by
   refine ⟨by simp [arr0],fun j x v hj _=>?_⟩
   simp [List.getElem?_replicate] at hj
   rw [<- hj.2];exact .junk _
  obtain ⟨cells,f1,f2,f3⟩:=Ut (w:=w) (γ:=γ) (place:=fun j=>some (j*i.size,i.size)) (parts.toList.map fun p=>(p.1*i.size,i.size,e (opd p.2))) (parts.toList.map fun p=>(p.1,a.eval p.2)) _ arr0 (by simp) (fun j p q hj1 hj2=>by
    simp at hj1 hj2
    obtain ⟨x1,x2,hx1,rfl⟩:=hj1
    obtain ⟨y1,y2,hy1,rfl⟩:=hj2
    rw [hx1] at hy1
    cases hy1
    exact ⟨rfl,h1 (x1,x2) (Array.mem_of_getElem? hx1)⟩) hr0 (by simpa [Function.comp_def] using hc1)
  have hq':(Qah (List.replicate (len*i.size) .junk) ((parts.toList.map fun p=>(p.1,opd p.2)).map fun p=>(p.1*i.size,i.size,e p.2))).2=(Qah (List.replicate (len*i.size) .junk) (parts.toList.map fun p=>(p.1*i.size,i.size,e (opd p.2)))).2:=by
   simp [Function.comp_def]
  rw [hq'] at hc2 hk
  have hcs:cells.size=len*i.size:=by rw [f3];simp [arr0]
  have hrun:(execOp a.eval ⟨dst,.buildSlice t len parts,ty,pos,after,guard⟩).run P w=.ok (.value (.slice (some ⟨w.heap.size,0,none⟩) len len)) (w.alloc (.cells cells te)):=by
   have hbig':¬ (16777216 < len*i.size):=by omega
   by_cases hl0:len*i.size=0
   ·have harr:arr0=(Array.range (len*i.size)).map ((#[]:Array Value)[· % (#[]:Array Value).size]!):=by
     simp [arr0,hl0]
    rw [harr] at f1
    have hl1:len=0:=by
     rcases Nat.mul_eq_zero.1 hl0 with h | h
     ·exact h
     ·exact absurd h hs0
    simp [hl0] at f1
    simp [execOp,Instr.buildSlice,run_underlying hu,sizeOf,typeInfo,hi,hl0,f1,newRow]
   ·simp only [execOp,Instr.buildSlice]
    have f1':Instr.fill (fun j=>some (j*i.size,i.size)) ((Array.range (len*i.size)).map (z.cells[· % z.cells.size]!)) (parts.toList.map fun p=>(p.1,a.eval p.2))=some cells:=f1
    simp [run_underlying hu,sizeOf,typeInfo,zeroValue,hi,hzz,hl0,hbig',f1',newRow]
  have hid:m.B m.boxes.length=none:=by simp [AM.B]
  intro rd next Q hn
  refine Xv hrun (hn _ _ (γ.box m.boxes.length w.heap.size) _ _ hk rfl (hm.ev_box _ hid _) ?_ ?_)
  ·rw [Wt]
   exact hm.newBox _ hid f2.toP (Yb f2 hc2)
  ·exact .bs (arr:=cells) (e:=te) (by simp [G.box]) (Nat.le_refl _) (by show (w.heap.push _)[w.heap.size]? = _;simp) (by rw [Nat.zero_add,hcs];exact Nat.le_refl _)
theorem sop_sound (hm:MSim N w0 ro0 γ w m.B m.L) (hgl:∀ g,Rep w γ.imm (gl g) (.pointer (some ⟨g,0,none⟩)))
  (he:∀ x∈o.op.operands,Rep w γ (e (opd x)) (a.eval x)) (h:((sop P gl orc e m o.dst (tr P o)).1/\K (sop P gl orc e m o.dst (tr P o)).2.1 (sop P gl orc e m o.dst (tr P o)).2.2)):Uk N w0 ro0 P o a γ w (m.st,m.ln) K:=by
 have gen:sop P gl orc e m o.dst (tr P o)=((rop P gl orc e m o.dst (tr P o)).1,(rop P gl orc e m o.dst (tr P o)).2,m)->Uk N w0 ro0 P o a γ w (m.st,m.ln) K:=fun hg =>
  stepM_rop hm hgl he (by rw [hg] at h;exact h)
 obtain ⟨dst,op,ty,pos,after,guard⟩:=o
 cases op with
 | alloc t=>exact stepM_alloc hm h
 | box t x=>exact stepM_box hm (he x (by simp [Op.operands])) h
 | store t x y=>exact stepM_store hm (he x (by simp [Op.operands])) (he y (by simp [Op.operands])) h
 | call c=>exact stepM_app hm hgl he h
 | makeMap t r=>exact stepM_mkmap hm h
 | mapUpdate t x k y=>exact stepM_mupd hm (he x (by simp [Op.operands])) (he k (by simp [Op.operands])) (he y (by simp [Op.operands])) h
 | mapEntry t x k=>exact stepM_ment hm (he x (by simp [Op.operands])) (he k (by simp [Op.operands])) h
 | entryStore t x k y=>exact stepM_esto hm (he x (by simp [Op.operands])) (he k (by simp [Op.operands])) (he y (by simp [Op.operands])) h
 | range t x=>exact stepM_rng hm (he x (by simp [Op.operands])) h
 | next x s=>refine gen ?_;cases s<;>rfl
 | makeSlice t l c=>exact stepM_mks0 hm (he l (by simp [Op.operands])) (he c (by simp [Op.operands])) h
 | buildSlice t len parts=>exact stepM_bsl hm hgl he h
 | binOp op t x y t'=>refine gen ?_;simp only [tr,trNil,trEq];repeat' split
                      all_goals rfl
 | build t parts=>refine gen ?_;simp only [tr,Uy];repeat' split
                  all_goals rfl
 | slice t x lo hi mx=>refine gen ?_;cases mx<;>simp only [tr]<;>(repeat' split)<;>rfl
 | makeFunc fn first cap=>refine gen ?_;cases fn<;>rfl
 | _=>first | exact gen rfl | (refine gen ?_;simp only [tr];repeat' split
                               all_goals rfl)
end
end Go.Abs
namespace Go.Abs
open Go Go.RowKit
structure SO where
 dst:Option Nat
 op:SOp
 guard:Option (Option Nat×Bool)
 xs:List Opd
def Xl (P:Program) (ops:Array Oper) (o:Oper):SO :=
 { dst:=o.dst,op:=tr P o,guard:=o.guard.map fun p=>((ops[p.1]?).bind (·.dst),p.2),xs:=if o.guard.isSome then o.op.operands.toList.map opd else [] }
structure AS where
 T:List AV
 m:AM
def put (T:List AV) (dst:Option Nat) (a:AV):List AV:=match dst with | some d=>T.set d a | none=>T
def strip:AV->AV
 | .gd _ a=>a
 | a=>a
def evS (gl:Nat->AV) (T:List AV) (x:Opd):AV:=strip (ev gl T x)
def gok (gl:Nat->AV) (T:List AV) (g:Bool):List Opd->Prop
 | []=>True
 | x::r=>(match ev gl T x with | .gd g' _=>(g=true->g'=true) | _=>True)/\gok gl T g r
def rawOp:SOp->Bool
 | .pick _ _ _=>true
 | _=>false
def evG (gl:Nat->AV) (T:List AV) (op:SOp):Opd->AV:=bif rawOp op then ev gl T else evS gl T
def gxs (op:SOp) (xs:List Opd):List Opd:=bif rawOp op then [] else xs
def gvw (want:Bool):AV->Option Bool
 | .bool g=>some (g==want)
 | .gd d (.bool b)=>some (d&&(b==want))
 | .gd false _=>some false
 | _=>none
abbrev YT:=Nat->List AV->AM->(Bool->AM->Prop)->Prop
def exCode:Exit->Option Code
 | .ret=>some .ret
 | .exit id=>some (.exit id)
 | _=>none
def LMatch:LS->Loop->Prop
 | .gone,_=>True
 | .ready,r=>r.state=.ready/\r.pending=none
 | .busy,r=>r.state=.busy
 | .done ex,r=>r.state=.done/\r.pending=exCode ex/\(exCode ex).isSome=true
def LSim (γ:G) (w:World) (m:AM):Prop:=(∀ i,m.st i=.gone\/∃ l,γ.lp i=some l/\γ.sp l/\∃ r,w.heap[l]? = some (.loop r)/\LMatch (m.st i) r) /\
 (∀ i,m.ln<=i->γ.lp i=none)/\(∀ i j l,γ.lp i=some l->γ.lp j=some l->i=j)/\∀ i l,γ.lp i=some l->γ.sp l/\∃ r,w.heap[l]? = some (.loop r)
theorem LSim.mono' {γ:G} {w:World} {m m':AM} (h:LSim γ w m) {γ':G} {w':World} (e:Ev w γ w' γ') (hm:(m'.st,m'.ln)=(m.st,m.ln)):LSim γ' w' m':=by
 simp only [Prod.mk.injEq] at hm
 unfold LSim
 rw [hm.1,hm.2,e.lp]
 exact ⟨fun i=>(h.1 i).imp_right fun ⟨l,h0,h1,r,h2,h3⟩=>⟨l,h0,(e.sp l h1).1,r,(e.sp l h1).2.trans h2,h3⟩,h.2.1,h.2.2.1,fun i l hl=>let ⟨h1,r,h2⟩:=h.2.2.2 i l hl;⟨(e.sp l h1).1,r,(e.sp l h1).2.trans h2⟩⟩
theorem LSim.mono {γ:G} {w:World} {m:AM} (h:LSim γ w m) {γ':G} {w':World} (e:Ev w γ w' γ'):LSim γ' w' m:=h.mono' e rfl
def YOK (N:Nat) (w0:Bas) (ro0:Nat->Nat->Prop) (P:Program) (Y:YT) (γ:G) (w:World):Prop:=∀ (γ':G) (w':World),EvR w γ w' γ'->∀ (i:Nat) (args:List AV) (m:AM) (K:Bool->AM->Prop) (vs:List Value),
 MSim N w0 ro0 γ' w' m.B m.L->LSim γ' w' m->RepL w' γ' args vs->Y i args m K->∀ l,γ'.lp i=some l ->
 YieldAt (FW none) 0 P l vs.toArray w' fun e w''=>∃ b γ'' m'',e=.returned (.bool b)/\EvR w' γ' w'' γ''/\MSim N w0 ro0 γ'' w'' m''.B m''.L/\LSim γ'' w'' m''/\K b m''
theorem YOK.mono {N:Nat} {w0:Bas} {ro0:Nat->Nat->Prop} {P:Program} {Y:YT} {γ:G} {w:World} (h:YOK N w0 ro0 P Y γ w) {γ':G} {w':World} (e:EvR w γ w' γ'):YOK N w0 ro0 P Y γ' w' :=
 fun γ'' w'' e'=>h γ'' w'' (e.trans e')
def EffY (P:Program) (gl:Nat->AV) (Y:YT) (f:FuncId) (as:List AV) (m:AM) (K:AV->AM->Prop):Prop :=
 callable P f/\∀ (N:Nat) (w0:Bas) (ro0:Nat->Nat->Prop) (γ:G) (w:World) (vs:List Value),MSim N w0 ro0 γ w m.B m.L->LSim γ w m->(∀ g,Rep w γ.imm (gl g) (.pointer (some ⟨g,0,none⟩))) ->
  YOK N w0 ro0 P Y γ w->RepL w γ as vs ->
  CallsIn (FW none) 0 P f vs.toArray w fun e w'=>∃ v γ' r m',e=.returned v/\EvR w γ w' γ'/\MSim N w0 ro0 γ' w' m'.B m'.L/\LSim γ' w' m'/\Rep w' γ' r v/\K r m'
section vc
variable (P:Program) (gl:Nat->AV) (orc:Nat->FuncId->List AV->AV) (Y:YT)
def effy (e:Opd->AV) (m:AM) (dst:Option Nat):SOp->Bool
 | .call f args=>(match e f with
  | .yld _=>true
  | .fn f first cap=>(match orc (dst.getD 0) f ((first++args.map e++cap).map (cvn m 6)) with | .gd false _=>true | _=>false)
  | _=>false)
 | .nxt _=>true
 | _=>false
def vcNxt (m:AM) (K:AV->AM->Prop):AV->Prop
 | .it id=>(match m.boxes.getD id [] with
  | [.mitr mid n seen]=>(match m.boxes.getD mid [] with
   | [.mobj kn kvs]=>kvs.length=n/\(∀ i k c,kvs[i]? = some (k,c)->i ∉ seen->K (.tup [.bool true,keyAV kn k,c]) { m with boxes:=m.boxes.set id [.mitr mid n (seen++[i])] }) /\
     ((∀ i,i < n->i∈seen)->K (.tup [.bool false]) m)
   | _=>False)
  | _=>False)
 | _=>False
def Kw (e:Opd->AV) (m:AM) (K:AV->AM->Prop):SOp->Prop
 | .call f args=>(match e f with
  | .yld l=>Y l (args.map e) m fun b m'=>K (.bool b) m'
  | .fn f first cap=>EffY P gl Y f (first++args.map e++cap) m K
  | _=>False)
 | .nxt x=>vcNxt m K (e x)
 | _=>False
def Xy:List SO->AS->(AS->Prop)->Prop
 | [],s,K=>K s
 | o::rest,s,K=>match o.guard with
  | none=>if effy orc (ev gl s.T) s.m o.dst o.op=true then Kw P gl Y (ev gl s.T) s.m (fun av m'=>Xy rest ⟨put s.T o.dst av,m'⟩ K) o.op
   else (sop P gl orc (ev gl s.T) s.m o.dst o.op).1/\Xy rest ⟨put s.T o.dst (sop P gl orc (ev gl s.T) s.m o.dst o.op).2.1,(sop P gl orc (ev gl s.T) s.m o.dst o.op).2.2⟩ K
  | some (some t,want)=>match gvw want (s.T.getD t .junk) with
   | some gw=>gok gl s.T gw (gxs o.op o.xs) /\
     if effy orc (evG gl s.T o.op) s.m o.dst o.op=true then
      (gw=true->Kw P gl Y (evG gl s.T o.op) s.m (fun av m'=>Xy rest ⟨put s.T o.dst (.gd true av),m'⟩ K) o.op)/\(gw=false->Xy rest ⟨put s.T o.dst (.gd false (.bool false)),s.m⟩ K)
     else (gw=true->(rop P gl orc (evG gl s.T o.op) s.m o.dst o.op).1) /\
      Xy rest ⟨put s.T o.dst (.gd gw (rop P gl orc (evG gl s.T o.op) s.m o.dst o.op).2),s.m⟩ K
   | none=>False
  | some (none,_)=>False
end vc
def Dfr (n0:Nat) (γ:G) (w:World) (ds:List Deferred):Prop :=
 n0<=w.heap.size/\(∀ x∈ds,∃ D,x.target=.collected D/\n0<=D/\γ.sp D/\w.heap[D]? = some (.deferred (some [])))/\ds.Pairwise fun x y=>∀ D,x.target=.collected D->y.target≠.collected D
theorem Dfr.monoR {n0:Nat} {γ:G} {w:World} {ds:List Deferred} (h:Dfr n0 γ w ds) {γ':G} {w':World} (e:EvR w γ w' γ'):Dfr n0 γ' w' ds :=
 ⟨Nat.le_trans h.1 e.size,fun x hx=>let ⟨D,h1,h0,h2,h3⟩:=h.2.1 x hx;⟨D,h1,h0,(e.sp D h2).1,by
  rcases (e.sp D h2).2 with h | ⟨r,_,_,h,_⟩
  ·exact h.trans h3
  ·rw [h3] at h;cases h⟩,h.2.2⟩
def Rdr (r:Option Nat) (γ:G) (w:World):Prop:=∀ l,r=some l->γ.sp l/\∃ rec,w.heap[l]? = some (.loop rec)
theorem Rdr.monoR {r:Option Nat} {γ:G} {w:World} (h:Rdr r γ w) {γ':G} {w':World} (e:EvR w γ w' γ'):Rdr r γ' w' :=
 fun l hl=>let ⟨h1,rec,h2⟩:=h l hl;⟨(e.sp l h1).1,by
  rcases (e.sp l h1).2 with h | ⟨r,s,p,_,h⟩
  ·exact ⟨rec,h.trans h2⟩
  ·exact ⟨_,h⟩⟩
structure Sim (N:Nat) (w0:Bas) (r:Option Nat) (ro0:Nat->Nat->Prop) (S:G×World) (P:Program) (gl:Nat->AV) (Y:YT) (γ:G) (w:World) (s:AS) (a:Act):Prop where
 m:MSim N w0 ro0 γ w s.m.B s.m.L
 ls:LSim γ w s.m
 rd:Rdr r γ w
 t:RepL w γ s.T a.tmps.toList
 d:Dfr S.2.heap.size γ w a.defers
 g:∀ g,Rep w γ.imm (gl g) (.pointer (some ⟨g,0,none⟩))
 y:YOK N w0 ro0 P Y γ w
 e:EvR S.2 S.1 w γ
section
variable {N:Nat} {w0:Bas} {r:Option Nat} {ro0:Nat->Nat->Prop} {S:G×World} {Y:YT} {γ:G} {w:World} {P:Program} {gl:Nat->AV} {orc:Nat->FuncId->List AV->AV} {s:AS} {a:Act}
theorem Sim.ev (h:Sim N w0 r ro0 S P gl Y γ w s a) (x:Operand):Rep w γ (ev gl s.T (opd x)) (a.eval x):=by
 cases x with
 | tmp t =>
  have:=h.t.get t
  simpa [Abs.ev,opd,Act.eval,List.getD] using this
 | const v=>exact Yw w γ v
 | func f=>exact .fn rfl (fun i c v h=>by simp at h) rfl fun i c v h=>by simp at h
 | global g=>exact (h.g g).of_imm
theorem Sim.putR (h:Sim N w0 r ro0 S P gl Y γ w s a) {dst:Option Nat} {av:AV} {v:Value} {w':World} {γ':G} {m':AM} (e:EvR w γ w' γ') (hm:MSim N w0 ro0 γ' w' m'.B m'.L) (hl:LSim γ' w' m') (hr:Rep w' γ' av v) :
  Sim N w0 r ro0 S P gl Y γ' w' ⟨Abs.put s.T dst av,m'⟩ (a.put dst v):=by
 refine ⟨hm,hl,h.rd.monoR e,?_,?_,fun g=>(h.g g).monoR e.imm,h.y.mono e,h.e.trans e⟩
 ·cases dst with
  | none=>exact h.t.monoR e
  | some d =>
   simp only [Abs.put,Act.put,Array.toList_setIfInBounds]
   exact (h.t.monoR e).set d hr
 ·cases dst<;>exact h.d.monoR e
theorem Sim.put (h:Sim N w0 r ro0 S P gl Y γ w s a) {dst:Option Nat} {av:AV} {v:Value} {w':World} {γ':G} {m':AM} (e:Ev w γ w' γ') (hm:MSim N w0 ro0 γ' w' m'.B m'.L) (ho:(m'.st,m'.ln)=(s.m.st,s.m.ln)) (hr:Rep w' γ' av v) :
  Sim N w0 r ro0 S P gl Y γ' w' ⟨Abs.put s.T dst av,m'⟩ (a.put dst v):=h.putR e.toR hm (h.ls.mono' e ho) hr
theorem gok_mem {T:List AV} {g:Bool}:∀ {xs:List Opd},gok gl T g xs->∀ x∈xs,∀ g' b,Abs.ev gl T x=.gd g' b->g=true->g'=true
 | [],_,x,hx,_,_,_,_=>by cases hx
 | y::ys,h,x,hx,g',b,he,hg=>by
  obtain ⟨h1,h2⟩:=h
  rcases List.mem_cons.1 hx with rfl | hx
  ·rw [he] at h1;exact h1 hg
  ·exact gok_mem h2 x hx g' b he hg
theorem strip_rep {x:AV} {v:Value} (h:Rep w γ x v) (hg:∀ g b,x=.gd g b->g=true):Rep w γ (strip x) v:=by
 cases x<;>first | exact h | skip
 rename_i g b
 exact h.inv_gd (hg g b rfl)
theorem trCall_call {c:Call} {fo:Opd} {xs:List Opd} (h:Xw P c=.call fo xs):∃ (f:Operand) (as:Array Operand) (ts:Array TypeId),c=⟨.value f,as,ts⟩/\fo=opd f/\xs=as.toList.map opd:=by
 obtain ⟨callee,args,ts⟩:=c
 cases callee with
 | value f=>cases h;exact ⟨f,args,ts,rfl,rfl,rfl⟩
 | invoke r n=>cases h
 | builtin b=>cases b<;>simp only [Xw] at h<;>(repeat' split at h)<;>cases h
theorem tr_call {o:Oper} {fo:Opd} {xs:List Opd} (h:tr P o=.call fo xs):∃ (f:Operand) (as:Array Operand) (ts:Array TypeId),o.op=.call ⟨.value f,as,ts⟩/\fo=opd f/\xs=as.toList.map opd:=by
 obtain ⟨dst,op,ty,pos,after,guard⟩:=o
 cases op
 case call c =>
  obtain ⟨f,as,ts,rfl,h1,h2⟩:=trCall_call h
  exact ⟨f,as,ts,rfl,h1,h2⟩
 case next x s=>cases s<;>cases h
 case build t parts=>simp only [tr,Uy] at h;repeat' split at h
                     all_goals cases h
 case slice t x lo hi mx=>cases mx<;>simp only [tr] at h<;>(repeat' split at h)<;>cases h
 case makeFunc fn a b=>cases fn<;>cases h
 case makeMap t r=>cases r<;>simp only [tr] at h<;>(try split at h)<;>cases h
 case binOp op t x y t'=>simp only [tr,trNil,trEq] at h;repeat' split at h
                         all_goals cases h
 all_goals first | (cases h;done) | (simp only [tr] at h;repeat' split at h
                                     all_goals cases h)
theorem tr_nxt {o:Oper} {xo:Opd} (h:tr P o=.nxt xo):∃ x:Operand,o.op=.next x false/\xo=opd x:=by
 obtain ⟨dst,op,ty,pos,after,guard⟩:=o
 cases op
 case next x s=>cases s<;>cases h;exact ⟨x,rfl,rfl⟩
 case build t parts=>simp only [tr,Uy] at h;repeat' split at h
                     all_goals cases h
 case slice t x lo hi mx=>cases mx<;>simp only [tr] at h<;>(repeat' split at h)<;>cases h
 case makeFunc fn a b=>cases fn<;>cases h
 case makeMap t r=>cases r<;>simp only [tr] at h<;>(try split at h)<;>cases h
 case binOp op t x y t'=>simp only [tr,trNil,trEq] at h;repeat' split at h
                         all_goals cases h
 case call c =>
  obtain ⟨callee,args,ts⟩:=c
  cases callee with
  | value f=>cases h
  | invoke r n=>cases h
  | builtin b=>cases b<;>simp only [tr,Xw] at h<;>(repeat' split at h)<;>cases h
 all_goals first | (cases h;done) | (simp only [tr] at h;repeat' split at h
                                     all_goals cases h)
theorem MSim.drewE {B:Nat->Option (List AV)} {L:Nat->Option Nat} (hm:MSim N w0 ro0 γ w B L):MSim N w0 ro0 γ w.drew B L/\Ev w γ w.drew γ:=by
 have hev:Ev w γ w.drew γ:=⟨Nat.le_refl _,fun _ _ _ h=>⟨h,rfl⟩,fun _ _ h=>h,fun _=>Nat.le_refl _,fun _ _ h=>h,rfl,fun _ _ _ ho=>⟨ho,fun arr _ he=>⟨arr,he,Nat.le_refl _⟩,fun _ h=>h⟩,fun _ h=>⟨h,rfl⟩,Sz.of_same fun _ _=>rfl⟩
 refine ⟨⟨w0.st _ _ _ _ hm.bs ⟨rfl,rfl,rfl,Nat.le_refl _,fun _ _ _=>rfl,hev.ro,fun _ h=>.inl h,fun _ _ h=>.inl h⟩,hm.hN,hm.ro0,hm.robd,fun i cells b hb h1=>?_,hm.β,hm.inj,hm.own,hm.oinj,hm.sp,fun i b hb=>?_,hm.minj,hm.len,hm.cur0⟩,hev⟩
 ·obtain ⟨arr,e,h2,h3,h4⟩:=hm.box i cells b hb h1
  exact ⟨arr,e,h2,h3.mono hev,h4⟩
 ·obtain ⟨h1,h2,h3,h4,h5,h6,h8,h7⟩:=hm.mm i b hb
  exact ⟨h1,h2,h3,h4,h5,h6,h8,h7.mono hev.toR.toV rfl⟩
theorem mem_leftOf {es:Array MapEntry} {seen:Array Nat} {x:MapEntry}:x∈(leftOf es seen).toList<->x∈es.toList/\x.born ∉ seen.toList:=by
 simp [leftOf]
theorem nxt_sound {m:AM} (hm:MSim N w0 ro0 γ w m.B m.L) {x:AV} {v:Value} {K:AV->AM->Prop} (h1:Rep w γ x v) (h:vcNxt m K x) (ty:TypeId) :
  ∃ u w' av m',(Instr.next v false ty).run P w=.ok u w'/\K av m'/\Ev w γ w' γ/\MSim N w0 ro0 γ w' m'.B m'.L/\Rep w' γ av u/\(m'.st,m'.ln)=(m.st,m.ln):=by
 unfold vcNxt at h
 split at h
 case h_2=>exact h.elim
 rename_i id
 split at h
 case h_2=>exact h.elim
 rename_i mid n seen hbox
 split at h
 case h_2=>exact h.elim
 rename_i kn kvs hmb
 obtain ⟨hn,hK1,hK2⟩:=h
 obtain ⟨hid,hBid⟩:=box_at hbox
 obtain ⟨hmid,hBmid⟩:=box_at hmb
 obtain ⟨b,mb,hb,rfl,q1,q2⟩:=hm.iter_at h1 hBid
 obtain ⟨b',es,hb',hv',q3,q4,q5⟩:=hm.map_at (v:=.map (some mb)) (.mp q2) hBmid
 cases hv'
 have hborn:∀ y∈es.toList,y.born < n:=fun y hy=>by
  obtain ⟨j,hj,rfl⟩:=List.getElem_of_mem hy
  simp at hj
  have:=Qbc q4 q5 hj
  simp only [Array.getElem_toList]
  omega
 rcases run_next_at (P:=P) w ty b mb n n seen.toArray es es.size q1 q3 hborn (Nat.le_refl _) with ⟨g1,g2⟩ | ⟨y,g1,w1,g2,g3⟩
 ·refine ⟨_,w,.tup [.bool false],m,g2,hK2 fun i hi=>?_,Ev.refl w γ,hm,(RepL.cons (.bool false) RepL.nil).tup',rfl⟩
  have hie:i < es.size:=by omega
  have hnil:leftOf es seen.toArray=#[]:=Array.eq_empty_of_size_eq_zero g1
  have:es[i] ∉ (leftOf es seen.toArray).toList:=by rw [hnil];simp
  rw [mem_leftOf] at this
  simp only [not_and,Decidable.not_not] at this
  have:=this (by simp)
  rw [Qbc q4 q5 hie] at this
  simpa using this
 ·obtain ⟨g4,g5⟩:=mem_leftOf.1 g1
  obtain ⟨i,hi,rfl⟩:=List.getElem_of_mem g4
  simp at hi
  simp only [Array.getElem_toList] at g3 g5
  have hbi:=Qbc q4 q5 hi
  have hik:i < kvs.length:=by omega
  obtain ⟨p1,p2,_,p3⟩:=q5 i (kvs[i]'hik).1 (kvs[i]'hik).2 es[i] (by simp [hik]) (by simp [hi])
  have hm1:MSim N w0 ro0 γ w1 m.B m.L/\Ev w γ w1 γ:=by
   rcases g2 with rfl | rfl
   ·exact ⟨hm,Ev.refl _ γ⟩
   ·exact hm.drewE
  obtain ⟨hm1,hev1⟩:=hm1
  obtain ⟨f1,f2⟩:=hm1.putMap hb (x:=.mitr mid n (seen++[i])) (o:=.mapIter (some mb) n (seen.toArray.push es[i].born) es.size) ⟨q2,rfl,by omega,by simp [hbi]⟩
  refine ⟨_,_,_,_,g3,hK1 i (kvs[i]'hik).1 (kvs[i]'hik).2 (by simp [hik]) (by rw [hbi] at g5;simpa using g5),hev1.trans f1,?_,?_,rfl⟩
  ·rw [B_set m id hid]
   exact f2
  ·rw [p2]
   exact ((RepL.cons (.bool true) (RepL.cons (keyAV_rep p1) (RepL.cons p3 RepL.nil))).mono (hev1.trans f1)).tup'
theorem eff_sound {o:Oper} {e:Opd->AV} {Q:Exit->Act->World->Prop} {K:AV->AM->Prop} (hs:Sim N w0 r ro0 S P gl Y γ w s a) (he:∀ x∈o.op.operands,Rep w γ (e (opd x)) (a.eval x)) (h:Kw P gl Y e s.m K (tr P o))
  {next:Act->World->Prop} (hn:∀ v w' γ' av m',K av m'->EvR w γ w' γ'->MSim N w0 ro0 γ' w' m'.B m'.L->LSim γ' w' m'->Rep w' γ' av v->next (a.put o.dst v) w'):o.wpIn (FW r) 0 P a w next Q:=by
 obtain ⟨dst,op,ty,pos,after,guard⟩:=o
 cases hop:tr P ⟨dst,op,ty,pos,after,guard⟩ with
 | call fo args =>
  rw [hop] at h
  obtain ⟨f,as,ts,rfl,rfl,rfl⟩:∃ (f:Operand) (as:Array Operand) (ts:Array TypeId),op=.call ⟨.value f,as,ts⟩/\fo=opd f/\args=as.toList.map opd:=by simpa using tr_call hop
  simp only [Kw] at h
  have h1:=he f (by simp [Op.operands,Call.operands])
  have h2:∀ x∈as,Rep w γ (e (opd x)) (a.eval x):=fun x hx=>he x (by simp [Op.operands,Call.operands,hx])
  have hargs:=repL_args h2
  split at h
  ·rename_i i e1
   rw [e1] at h1
   obtain ⟨l,hl,hv⟩:∃ l,γ.lp i=some l/\a.eval f=.func (.yield l) #[] #[]:=by
    generalize a.eval f=v at h1
    cases h1 with
    | yld h=>exact ⟨_,h,rfl⟩
   obtain ⟨fn,tmps,assign,body,hy,hR⟩:=hs.y γ w (Ev.refl w γ).toR i _ s.m _ _ hs.m hs.ls hargs h l hl
   have hrun:(execOp a.eval ⟨dst,.call ⟨.value f,as,ts⟩,ty,pos,after,guard⟩).run P w=.ok (.round l fn tmps assign body) w:=by
    rw [Array.toArray_toList] at hy
    simpa [execOp,resolve,hv,Deferred.ofValue,invoke] using hy
   refine wp_run hrun (fun _ h=>by cases h) ?_
   rw [Oper.uponIn_round]
   refine ⟨fun h=>by simp [FW,Fence.wide] at h,RoundIn.mono hR ?_⟩
   rintro en w' ⟨b,γ',m',rfl,g1,g2,g3,g4⟩
   exact hn _ _ _ _ _ g4 g1 g2 g3 (.bool b)
  ·rename_i g first cap e1
   rw [e1] at h1
   obtain ⟨fa,ca,hv,r1,r2⟩:=h1.inv_fn
   have hrun:(execOp a.eval ⟨dst,.call ⟨.value f,as,ts⟩,ty,pos,after,guard⟩).run P w=.ok (.enter g ((fa.toList++(as.map a.eval).toList++ca.toList).toArray)) w:=by
    simp [execOp,resolve,hv,Deferred.ofValue,invoke,Qat h.1]
   refine wp_run hrun (fun _ h=>by cases h) ⟨fun h=>by simp [FW,Fence.wide] at h,?_⟩
   refine CallsIn.mono (h.2 N w0 ro0 γ w _ hs.m hs.ls hs.g hs.y ((r1.append hargs).append r2)) ?_
   rintro en w' ⟨v,γ',r',m',rfl,g1,g2,g3,g4,g5⟩
   exact hn v w' γ' r' m' g5 g1 g2 g3 g4
  ·exact h.elim
 | nxt xo =>
  rw [hop] at h
  obtain ⟨x,rfl,rfl⟩:∃ x:Operand,op=.next x false/\xo=opd x:=by simpa using tr_nxt hop
  simp only [Kw] at h
  obtain ⟨u,w',av,m',g1,g2,g3,g4,g5,g6⟩:=nxt_sound (P:=P) hs.m (he x (by simp [Op.operands])) h ty
  exact Xv (v:=u) (w':=w') (by simp [execOp,g1]) (hn u w' γ av m' g2 g3.toR g4 (hs.ls.mono' g3 g6) g5)
 | _=>rw [hop] at h;exact h.elim
theorem vcOps_step {ops:Array Oper} {Q:Exit->Act->World->Prop} {K:AS->Prop} {k:Nat} (hlt:k < ops.size) (hs:Sim N w0 r ro0 S P gl Y γ w s a)
  (h:Xy P gl orc Y ((ops.toList.drop k).map (Xl P ops)) s K) :
  wpOpIn (FW r) 0 P ops Q k (fun a' w'=>∃ γ' s',Sim N w0 r ro0 S P gl Y γ' w' s' a'/\Xy P gl orc Y ((ops.toList.drop (k+1)).map (Xl P ops)) s' K) a w:=by
 have hd:ops.toList.drop k=ops[k]::ops.toList.drop (k+1):=by
  rw [List.drop_eq_getElem_cons (by simpa using hlt)];simp
 rw [hd,List.map_cons] at h
 have ho:ops[k]? = some ops[k]:=Array.getElem?_eq_getElem hlt
 generalize ops[k]=o at ho h
 simp only [wpOpIn,ho]
 cases hg:o.guard with
 | none =>
  have hw:Region.wanted o (yielded ops a.tmps)=true:=by simp [Region.wanted,hg]
  rw [if_pos hw]
  have e1:(Xl P ops o).guard=none:=by simp [Xl,hg]
  simp only [Xy,e1] at h
  split at h
  ·exact eff_sound (K:=fun av m=>Xy P gl orc Y ((ops.toList.drop (k+1)).map (Xl P ops)) ⟨Abs.put s.T o.dst av,m⟩ K) hs (fun x _=>hs.ev x) h fun v w' γ' av m' hK h1 h2 h3 h4=>⟨γ',_,hs.putR h1 h2 h3 h4,hK⟩
  ·exact sop_sound (K:=fun av m=>Xy P gl orc Y ((ops.toList.drop (k+1)).map (Xl P ops)) ⟨Abs.put s.T o.dst av,m⟩ K) hs.m hs.g (fun x _=>hs.ev x) h r _ Q fun v w' γ' av m' hK ho' h1 h2 h3=>⟨γ',_,hs.put h1 h2 ho' h3,hK⟩
 | some p =>
  obtain ⟨j,want⟩:=p
  have e1:(Xl P ops o).guard=some ((ops[j]?).bind (·.dst),want):=by simp [Xl,hg]
  simp only [Xy,e1] at h
  cases hj:(ops[j]?).bind (·.dst) with
  | none=>rw [hj] at h;exact h.elim
  | some t =>
   rw [hj] at h
   simp only at h
   split at h
   case h_2=>exact h.elim
   rename_i gw hgt
   obtain ⟨h1,h⟩:=h
   have hwant:Region.wanted o (yielded ops a.tmps)=gw:=by
    have hr:=hs.t.get t
    have hlt':t < a.tmps.size:=by
     rcases Nat.lt_or_ge t s.T.length with h | h
     ·have h5:=hs.t.1;rw [Array.length_toList] at h5;rw [<- h5];exact h
     ·simp [List.getD,List.getElem?_eq_none h,gvw] at hgt
    have hget:(a.tmps.toList.getD t undef)=a.tmps[t]:=by simp [List.getD,hlt']
    rw [hget] at hr
    have hyv:∀ b,a.tmps[t]=.bool b->yielded ops a.tmps j=some b:=fun b hb=>by simp only [yielded,hj,Option.bind_some,Array.getElem?_eq_getElem hlt',hb]
    have hyu:a.tmps[t]=undef->yielded ops a.tmps j=none:=fun hb=>by simp only [yielded,hj,Option.bind_some,Array.getElem?_eq_getElem hlt',hb];rfl
    generalize s.T.getD t .junk=gv at hgt hr
    have hf:∀ {x:AV},Rep w γ (.gd false x) a.tmps[t]->Region.wanted o (yielded ops a.tmps)=false:=fun hx=>by
     simp only [Region.wanted,hg,hyu hx.inv_gdF]
     cases want<;>rfl
    cases gv with
    | bool g =>
     simp only [gvw,Option.some.injEq] at hgt
     subst hgt
     simp only [Region.wanted,hg,hyv g hr.inv_bool]
     cases g<;>cases want<;>rfl
    | gd d x =>
     cases d with
     | false =>
      rw [hf hr]
      cases x<;>simp [gvw] at hgt<;>exact hgt.symm
     | true =>
      cases x<;>simp [gvw] at hgt
      rename_i b
      subst hgt
      simp only [Region.wanted,hg,hyv b (hr.inv_gd rfl).inv_bool]
      cases b<;>cases want<;>rfl
    | _=>simp [gvw] at hgt
   rw [hwant]
   have hstrip:gw=true->∀ x∈o.op.operands,Rep w γ (evG gl s.T (tr P o) (opd x)) (a.eval x):=fun hgw x hx=>by
    unfold evG
    cases hra:rawOp (tr P o) with
    | true=>exact hs.ev x
    | false =>
     refine strip_rep (hs.ev x) fun g' b hgb=>gok_mem h1 (opd x) ?_ g' b hgb hgw
     have hro:rawOp (Xl P ops o).op=false:=hra
     simp only [gxs,hro,cond_false]
     simp [Xl,hg];exact ⟨x,by simpa using hx,rfl⟩
   split at h
   ·obtain ⟨h2,h3⟩:=h
    cases hgw:gw with
    | true =>
     simp only [if_true]
     exact eff_sound (e:=evG gl s.T (tr P o)) (K:=fun av m=>Xy P gl orc Y ((ops.toList.drop (k+1)).map (Xl P ops)) ⟨Abs.put s.T o.dst (.gd true av),m⟩ K) hs (hstrip hgw) (h2 hgw) fun v w' γ' av m' hK h1 h2 h3 h4=>⟨γ',_,hs.putR h1 h2 h3 (.gd (fun _=>h4) (fun h=>by cases h)),hK⟩
    | false =>
     simp only [Bool.false_eq_true,if_false]
     exact ⟨fun _ _=>trivial,γ,_,hs.put (Ev.refl _ _) hs.m rfl (.gd (fun h=>by cases h) (fun _=>rfl)),h3 hgw⟩
   ·obtain ⟨h2,h3⟩:=h
    cases hgw:gw with
    | true =>
     rw [hgw] at h2 h3
     simp only [if_true]
     refine Ww (e:=evG gl s.T (tr P o)) hs.m (fun _ _ h=>h) hs.g (hstrip hgw) (h2 rfl) r _ Q fun v w' γ' q1 q2 q3=>?_
     exact ⟨γ',_,hs.put q1 q2 rfl (.gd (fun _=>q3) (fun h=>by cases h)),h3⟩
    | false =>
     rw [hgw] at h3
     simp only [Bool.false_eq_true,if_false]
     exact ⟨fun _ _=>trivial,γ,_,hs.put (Ev.refl _ _) hs.m rfl (.gd (fun h=>by cases h) (fun _=>rfl)),h3⟩
theorem vcOps_sound {ops:Array Oper} {Q:Exit->Act->World->Prop} {K:AS->Prop} (hQ:∀ γ w s a,K s->Sim N w0 r ro0 S P gl Y γ w s a->Q .normal a w) :
  ∀ (n k:Nat) (γ:G) (w:World) (s:AS) (a:Act),k+n=ops.size->Xy P gl orc Y ((ops.toList.drop k).map (Xl P ops)) s K->Sim N w0 r ro0 S P gl Y γ w s a->wpOpsIn (FW r) 0 P ops Q (List.range' k n) a w
 | 0,k,γ,w,s,a,hk,h,hs=>by
  have:ops.toList.drop k=[]:=List.drop_eq_nil_of_le (by simp;omega)
  rw [this] at h
  exact hQ γ w s a h hs
 | n+1,k,γ,w,s,a,hk,h,hs=>by
  rw [List.range'_succ,wpOpsIn_cons]
  refine wpOpIn_mono ?_ (vcOps_step (by omega) hs h)
  rintro a' w' ⟨γ',s',hs',h'⟩
  exact vcOps_sound hQ n (k+1) γ' w' s' a' (by omega) h' hs'
end
end Go.Abs
