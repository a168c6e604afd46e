import Derived.Test.YthjppoincojfkaaGreatDoorRSMC
import Derived.RangeFuncSeq
set_option linter.all false
namespace Go.Abs
open Go Go.RowKit
def Kt(N:Nat)(w0:eR)(an:Nat->Nat->Prop)(P:Program)(o:Oper)(a:Act)(γ:G)(w:World)(ph:(Nat->LS)×Nat)(K:So):Prop:=
 ∀(rd:Option Nat)(next:Act->World->Prop)(Q:PP),(∀v w' γ' av m',K av m'->(m'.st,m'.ln)=ph->Ev w γ w' γ'->au N w0 an γ' w' m'.B m'.L->aA w' γ' av v->next (a.put o.dst v) w')->o.wpIn (FW rd) 0 P a w next Q
section
variable {N:Nat} {w0:eR} {an:Nat->Nat->Prop} {γ:G} {w:World} {P:Program} {o:Oper} {a:Act} {K:So}
variable {dst:Option Tmp} {ty:TypeId} {pos:String} {after:Array Edge} {guard:Option (Nat×Bool)} {gl:Nat->AV} {orc:UV} {e:bE->AV} {m:AM}
def qL(hm:au N w0 an γ w m.B m.L)(lG:∀g,aA w γ.cU (gl g) (.pointer (some ⟨g,0,none⟩)))
  (he:∀x∈o.op.operands,aA w γ (e (aC x)) (a.eval x))(hc:(rop P gl orc e m o.dst (tr P o)).1/\K (rop P gl orc e m o.dst (tr P o)).2 m):Kt N w0 an P o a γ w (m.st,m.ln) K:=
 fun rd next Q hk=>Qcy hm (fun _ _ h=>h) lG he hc.1 rd next Q fun v w' γ' h1 h2 h3=>hk v w' γ' _ m hc.2 rfl h1 h2 h3
def Sw(m:AM)(cells:P2):({m with boxes:=m.boxes++[cells]}:AM).B=fun i=>if i=m.boxes.length then some cells else m.B i:=by
 funext i;simp only[AM.B];by_cases h:i=m.boxes.length
 ·simp[h]
 rw[if_neg h];rcases zzaa i m.boxes.length with h'|h'
 ·rw[zzaj h']
 rw[zzat h',zzat (by simp;omega)]
def CD(m:AM)(n:Nat):({m with lens:=m.lens++[n]}:AM).L=fun i=>if i=m.lens.length then some n else m.L i:=by
 funext i;simp only[AM.L];by_cases h:i=m.lens.length
 ·simp[h]
 rw[if_neg h];rcases zzaa i m.lens.length with h'|h'
 ·rw[zzaj h']
 rw[zzat h',zzat (by simp;omega)]
def lX(m:AM)(id:Nat)(h:id<m.boxes.length)(cells:P2):({m with boxes:=m.boxes.set id cells}:AM).B=fun i=>if i=id then some cells else m.B i:=by
 funext i;simp only[AM.B];by_cases hi:i=id
 ·subst hi;simp[h]
 rw[if_neg hi,zzbn (Ne.symm hi)]
def aih(m:AM)(id:Nat)(h:id<m.lens.length)(n:Nat):({m with lens:=m.lens.set id n}:AM).L=fun i=>if i=id then some n else m.L i:=by
 funext i;simp only[AM.L];by_cases hi:i=id
 ·subst hi;simp[h]
 rw[if_neg hi,zzbn (Ne.symm hi)]
def Yl{cs:P2}{vs:PQ}(h:ak w γ cs vs)(hc:cs.all Qx=true):∀v∈vs,v.oneCell'=true:=fun v hv=>by
 obtain⟨i,hi⟩:=zzcq.1 hv;have ah:i<cs.length:=by rw[h.1];exact(zza.1 hi).1
 have:=zzaf ah;exact ur (h.2 i _ v this hi) (zzay.1 hc _ (zzdj ah))
def AO(hm:au N w0 an γ w m.B m.L){cells:P2}{arr:P1}{te:TypeId}(hr:ak w γ cells arr.toList)(hc:cells.all Qx=true)
  (aZ:(execOp a.eval o).run P w=.ok (.value (.pointer (some ⟨w.heap.size,0,none⟩))) (w.alloc (.cells arr te)))(hk:K (.ptr m.boxes.length 0) {m with boxes:=m.boxes++[cells]}):Kt N w0 an P o a γ w (m.st,m.ln) K:=by
 intro rd next Q hn
 have aL:m.B m.boxes.length=none:=by simp[AM.B]
 refine Zj aZ (hn _ _ (γ.box m.boxes.length w.heap.size) _ _ hk rfl (hm.dy _ aL _) ?_ (.ptr (by simp[G.box])));rw[Sw];exact hm.eY _ aL hr.toP (Yl hr hc)
def EX(hm:au N w0 an γ w m.B m.L){t:TypeId}(h:((sop P gl orc e m dst (tr P ⟨dst,.alloc t,ty,pos,after,guard⟩)).1/\K (sop P gl orc e m dst (tr P ⟨dst,.alloc t,ty,pos,after,guard⟩)).2.1 (sop P gl orc e m dst (tr P ⟨dst,.alloc t,ty,pos,after,guard⟩)).2.2)):Kt N w0 an P ⟨dst,.alloc t,ty,pos,after,guard⟩ a γ w (m.st,m.ln) K:=by
 simp only[tr]at h;split at h
 case h_2=>exact h.1.elim
 rename_i zs hz;obtain⟨i,z,hi,jb,hr⟩:=ja (w:=w) (γ:=γ) hz;obtain⟨h1,h2⟩:=h;refine AO hm (te:=t) hr h1 ?_ h2;simp[execOp,Instr.alloc,zeroValue,typeInfo,hi,jb,newVar,newRow]
def PN(hm:au N w0 an γ w m.B m.L){t:TypeId}{x:Operand}(he:aA w γ (e (aC x)) (a.eval x))(h:((sop P gl orc e m dst (.box (aC x))).1/\K (sop P gl orc e m dst (.box (aC x))).2.1 (sop P gl orc e m dst (.box (aC x))).2.2)):Kt N w0 an P ⟨dst,.box t x,ty,pos,after,guard⟩ a γ w (m.st,m.ln) K:=by
 have key:bare (e (aC x))=true->(cellsOf (e (aC x))).all Qx=true->K (.ptr m.boxes.length 0) {m with boxes:=m.boxes++[cellsOf (e (aC x))]}->Kt N w0 an P ⟨dst,.box t x,ty,pos,after,guard⟩ a γ w (m.st,m.ln) K:=fun hb h1 h2=>
  AO hm (te:=t) (kK he hb) h1 (by simp[execOp,Instr.box,newVar,newRow]) h2
 exact key h.1.1 h.1.2 h.2
def EY(hm:au N w0 an γ w m.B m.L){t:TypeId}{x y:Operand}(h1:aA w γ (e (aC x)) (a.eval x))(h2:aA w γ (e (aC y)) (a.eval y))(h:((sop P gl orc e m dst (tr P ⟨dst,.store t x y,ty,pos,after,guard⟩)).1/\K (sop P gl orc e m dst (tr P ⟨dst,.store t x y,ty,pos,after,guard⟩)).2.1 (sop P gl orc e m dst (tr P ⟨dst,.store t x y,ty,pos,after,guard⟩)).2.2)):
  Kt N w0 an P ⟨dst,.store t x y,ty,pos,after,guard⟩ a γ w (m.st,m.ln) K:=by
 simp only[tr]at h;split at h
 case h_2=>exact h.1.elim
 rename_i i hi;simp only[sop]at h;split at h
 case h_2=>exact h.1.elim
 rename_i id o' e1;rw[e1]at h1;obtain⟨b,hb,hv⟩:=h1.dL;obtain⟨⟨g1,g2,g3,g4,g5⟩,g6⟩:=h;have fC:=kK h2 g1;have gz:=Yl fC g2;have hB:m.B id=some (m.boxes.getD id []):=by simp[AM.B,g5]
 obtain⟨arr,te,q2,q3,q4⟩:=hm.box id _ b hB hb;have hsz:(a.eval y).cells.size=i.size:=by have:=fC.1;simp at this;omega
 have aH:(m.boxes.getD id []).length<=arr.size:=by have:=q3.1;simpa using this
 have bY:=run_storeCells_cells (P:=P) b o' (a.eval y).cells.toList 0 w (fun j hj=>by
   simp at hj;rw[aM q2,zzcn,zzah zE];rfl) (fun j hj=>Zp q2) gz
 intro rd next Q hn
 simp only[zzcn]at bY
 have aZ:(execOp a.eval ⟨dst,.store t x y,ty,pos,after,guard⟩).run P w=.ok .skip (w.setCells b o' (a.eval y).cells.toList):=by
  simp[execOp,Instr.storeAt,hv,Instr.sureAddr,storeVar,sizeOf,typeInfo,hi,hsz,bY]
 refine oF aZ (hn undef _ γ _ _ g6 rfl (hm.cw hb o' _) ?_ (.junk _));rw[lX m id g5];by_cases lF:m.boxes.getD id []=[]
 ·have hz:(a.eval y).cells.toList=[]:=by
   rw[lF]at g4;apply zzbe;simp at g4 |-
   have:i.size=0:=g4.2;rw[this]at hsz;simpa using hsz
  have hz2:cellsOf (e (aC y))=[]:=zzbe (by rw[fC.1,hz];rfl);rw[hz,hz2,lF]
  have:(fun i=>if i=id then some (setA [] o' [])else m.B i)=m.B:=by
   funext i;by_cases hi:i=id
   ·subst hi;rw[if_pos rfl,hB,lF];rfl
   rw[if_neg hi]
  rw[this];exact hm
 exact hm.store hB hb q2 q3 q4 fC gz lF
def sr{sz:Nat}{c:AV}:∀{rows:T5}{k:Nat},(∀row∈rows,row.length=sz)->rows.flatten[k]?=some c->k<rows.length*sz/\Qv rows (k/sz) (k%sz)=some c
 |[],k,_,h=>by simp at h
 |row::rows,k,hs,h=>by
  have hr:=hs row zd;rw[zzcj]at h;rcases zzaa k sz with hk|hk
  ·rw[zzaj zE]at h;rw[zzgl hk,zzgm hk];refine⟨?_,by simpa[Qv]using h⟩;simp[zzbr];omega
  rw[zzap zE,hr]at h;obtain⟨h1,h2⟩:=sr (rows:=rows) (fun row h=>hs row (by simp[h])) h
  have h0:0<sz:=by
   rcases zzck sz with h0|h0
   ·subst h0;simp at h1
   exact h0
  have e1:k/sz=(k-sz)/sz+1:=by rw[Nat.div_eq_sub_div h0 hk]
  have e2:k%sz=(k-sz)%sz:=(Nat.mod_eq_sub_mod hk);rw[e1,e2];refine⟨?_,by simpa[Qv]using h2⟩;simp[zzbr];omega
def jd{sz:Nat}:∀{rows:T5},(∀row∈rows,row.length=sz)->rows.flatten.length=rows.length*sz
 |[],_=>zd
 |row::rows,hs=>by
  have:=jd (rows:=rows) fun row h=>hs row (by simp[h]);have hr:=hs row zd;simp[this,hr,zzbr];omega
def wk:∀(vs:PQ)(arr:P1)(o k:Nat),(tK arr o vs)[k]?=if o<=k/\k<o+vs.length/\k<arr.size then vs[k-o]? else arr[k]?
 |[],arr,o,k=>by
  rw[tK,if_neg];simp;omega
 |v::vs,arr,o,k=>by
  rw[tK,wk vs _ (o+1) k];by_cases h1:o+1<=k/\k<o+1+vs.length/\k<(arr.setIfInBounds o v).size
  ·rw[if_pos h1];simp at h1;rw[if_pos (by simp;omega)];rw[show k-o=(k-(o+1))+1 by omega];simp
  rw[if_neg h1];simp at h1;by_cases h2:o<=k/\k<o+(v::vs).length/\k<arr.size
  ·simp at h2;obtain rfl:k=o:=zE
   rw[if_pos (by simp;omega)];simp[zzer];omega
  rw[if_neg h2];simp at h2;by_cases hk:o=k
  ·subst hk;have:arr.size<=o:=zE
   simp[zzbo,this]
  rw[zzcp hk]
def Qbu(hm:au N w0 an γ w m.B m.L){y:AV}{v2:Value}{sz:Nat}(hr:aA w γ y v2)(hc:(cellsS m sz y).1):
  ∃(a2:Option Addr)(cc:Nat)(vs:PQ),v2=.slice a2 (lenS y) cc/\ak w γ (cellsS m sz y).2 vs/\(∀v∈vs,v.oneCell'=true)/\vs.length=lenS y*sz/\
   ∀n,n<=lenS y->∀w':World,(∀x,w'.cell? x=w.cell? x)->(Builtin.firstCells sz n v2).run P w'=.ok (vs.take (n*sz)).toArray w':=by
 have VK:∀(a2:Option Addr)(len cc:Nat)(w':World),(Builtin.firstCells sz 0 (.slice a2 len cc)).run P w'=.ok #[] w':=fun a2 len cc w'=>by
  cases a2<;>simp[Builtin.firstCells,loadCells,loadCellsFrom]
 cases y with
 |sl rt rows=>
  obtain⟨a2,cc,b2,gj,sz2,gq,rfl,s2,_⟩:=hr.b9;replace s2:=s2.fix (sz:=sz) hc;refine⟨a2,cc,Vb rows.length sz gq,rfl,⟨by simp[cellsS,jd hc,Ze],fun k c v h1 h2=>?_⟩,s2.one,by simp[lenS,Ze],fun n hn w' hw=>?_⟩
  ·obtain⟨g1,g2⟩:=sr hc h1;obtain⟨_,rfl⟩:=qI h2;exact(s2.rep _ _ c g2).gp
  by_cases fB:n=0
  ·subst fB;simpa using VK a2 _ cc w'
  simp only[lenS]at hn;have aO:rows≠[]:=by rintro rfl;simp at hn;omega
  obtain⟨rfl,_⟩:=s2.at_ aO;refine run_firstCells_some w' sz n _ rows.length cc _ ?_ fun j u hj=>?_
  ·rw[zzaq,Ze];have:n*sz<=rows.length*sz:=zzbd _ hn;omega
  rw[hw];rw[zzbj]at hj;split at hj
  ·exact s2.cells j u hj
  cases hj
 |bs id off len dB=>
  obtain⟨rfl,cE,aL⟩:=hc;obtain⟨b,cap,arr,te,hβ,rfl,hl,hh,hs⟩:=hr.cN;have hsz:=VD hm (m:=m) (fun _ _ h=>h) hβ hh;have aH:((arr.toList.drop off).take (len*dB)).length=len*dB:=by simp;omega
  refine⟨_,cap,(arr.toList.drop off).take (len*dB),rfl,⟨?_,fun k c v h1 h2=>?_⟩,fun v hv=>?_,aH,fun n hn w' hw=>?_⟩
  ·rw[aH];show(List.take _ (List.drop _ _)).length=_;rw[zzaq,zzcw];omega
  ·simp only[cellsS]at h1;rw[zzbj]at h1 h2;split at h1
   ·rename_i hk;simp only[hk,if_true]at h2;rw[zzbl]at h1 h2;obtain⟨u,g1,g2,_⟩:=v8 hm (m:=m) (fun _ _ h=>h) hβ hh h1;rw[zzcb,g1]at h2;cases h2;exact g2
   cases h1
  ·have dD:=zzdv (zzce hv);obtain⟨bN,e',g2,_,g4⟩:=hm.box id _ b (by simp[AM.B,aL]:m.B id=some (m.boxes.getD id [])) hβ;rw[hh]at g2;cases g2;exact g4 v dD
  by_cases fB:n=0
  ·subst fB;simpa using VK _ _ cap w'
  refine run_firstCells_some w' dB n _ len cap _ ?_ fun j u hj=>?_
  ·rw[zzaq,aH];simp only[lenS]at hn;have:n*dB<=len*dB:=zzbd _ hn;omega
  rw[hw,bu,aM hh];rw[zzbj]at hj;split at hj
  ·rw[zzbj]at hj;split at hj
   ·rw[zzbl,zzcb]at hj;exact hj
   cases hj
  cases hj
 |_=>exact hc.elim
section grow
variable {t te:TypeId} {i:TypeInfo} {z:Value} {a1 a2:Option Addr} {len ct cap cc:Nat} {c1 c2:PQ}
def lY(ht:P.underlying t=some (.slice te))(hi:P.info? te=some i)(hz:i.zero=some z)(f1:(Builtin.firstCells i.size len (.slice a1 len cap)).run P w.drew=.ok c1.toArray w.drew)
  (f2:(Builtin.firstCells i.size ct (.slice a2 ct cc)).run P w.drew=.ok c2.toArray w.drew)
  (hg:cap<len+ct)(cK:(3*(len+ct)+4000)*i.bytes<=562949953421312)(vT:len+ct<=9223372036854775807):
  ∃bh,len+ct<=bh/\(Builtin.append_ #[t,t] ty #[.slice a1 len cap,.slice a2 ct cc]).run P w=
   .ok (.slice (some ⟨w.heap.size,0,none⟩) (len+ct) bh) (w.drew.alloc (.cells (c1.toArray++c2.toArray++Builtin.zeroCells z.cells (bh-(len+ct))) te)):=by
 have hn:¬(len+ct<=cap):=zE
 have akW:¬(9223372036854775807<((len:Int)+(ct:Int))):=zE
 have cE:=JE hg
 have akX:¬(281474976710656<Builtin.nextslicecap (len+ct) cap*i.bytes):=by
  have:2*Builtin.nextslicecap (len+ct) cap*i.bytes<=(3*(len+ct)+4000)*i.bytes:=zzbd _ zE;rw[Nat.mul_assoc]at this;omega
 refine⟨grownCap w (len+ct) cap te,grownCap_ge w _ _ _,?_⟩;simp[Builtin.append_,run_underlying ht,sizeOf,typeInfo,zeroValue,hi,hz,Builtin.lenOf,hn,akW,akX,Question.forced,f1,f2,newRow,grownCap];congr 2;apply Array.ext';simp[zzbf]
def zH{b off:Nat}(ht:P.underlying t=some (.slice te))(hi:P.info? te=some i)(f2:(Builtin.firstCells i.size ct (.slice a2 ct cc)).run P w=.ok c2.toArray w)(h1:∀v∈c2,v.oneCell'=true)(hl:c2.length=ct*i.size)
  (cA:len+ct<=cap){arr:P1}{e':TypeId}(hh:w.heap[b]?=some (.cells arr e' (0,0)))(hsz:off+cap*i.size<=arr.size):
  (
   Builtin.append_ #[t,t] ty #[.slice (some ⟨b,off,none⟩) len cap,.slice a2 ct cc]).run P w=
   .ok (.slice (some ⟨b,off,none⟩) (len+ct) cap) (w.setCells b (off+len*i.size) c2):=by
 have cE:(len+ct)*i.size<=cap*i.size:=zzbd _ cA;rw[zzbr]at cE
 have bY:=run_storeCells_cells (P:=P) b (off+len*i.size) c2 0 w (fun j hj=>by
   rw[aM hh,zzcn,zzah zE];rfl)
  (fun j hj=>Zp hh) h1
 simp only[zzcn]at bY;simp[Builtin.append_,run_underlying ht,sizeOf,typeInfo,hi,Builtin.lenOf,cA,f2,bu,bY]
end grow
def AP{as' bs:P2}{us vs rest:PQ}(h1:ak w γ as' us)(h2:ak w γ bs vs):cq w γ (as'++bs) (us++vs++rest):=by
 have h:=h1.append h2;refine⟨by have:=h.1;simp at this |-;omega,fun k c v g1 g2=>h.2 k c v g1 ?_⟩;have hk:=(zza.1 g1).1;rw[h.1]at hk;rwa [zzaj hk]at g2
def Wp{cs:P1}(h:∀u∈cs,u.oneCell'=true)(n:Nat):∀v∈(Builtin.zeroCells cs n).toList,v.oneCell'=true:=fun v hv=>by
 simp[Builtin.zeroCells]at hv;obtain⟨k,hk,rfl⟩:=hv
 have h0:0<cs.size:=by
  rcases zzck cs.size with h0|h0
  ·simp[h0]at hk
  exact h0
 have ah:k%cs.size<cs.size:=zzed _ h0;rw[getElem!_pos cs _ ah];exact h _ (Array.getElem_mem ah)
def kM{zs:P2}:∀{n k:Nat}{c:AV},(bF n zs)[k]?=some c->k<n*zs.length/\zs[k%zs.length]?=some c
 |0,k,c,h=>by simp[bF]at h
 |n+1,k,c,h=>by
  rw[bF]at h;rcases zzaa k zs.length with hk|hk
  ·rw[zzaj hk]at h;rw[zzgm hk];exact⟨by rw[zzbr];omega,h⟩
  rw[zzap hk]at h;obtain⟨h1,h2⟩:=kM h;rw[Nat.mod_eq_sub_mod hk];exact⟨by rw[zzbr];omega,h2⟩
def Ko(zs:P2):∀n,(bF n zs).length=n*zs.length
 |0=>by simp[bF]
 |n+1=>by rw[bF,zzak,Ko zs n,zzbr];omega
def qM(hm:au N w0 an γ w m.B m.L){id b off:Nat}(hβ:γ.β id=some b)(aL:id<m.boxes.length)(aO:m.boxes.getD id []≠[]){arr:P1}{te:TypeId}(hh:w.heap[b]?=some (.cells arr te (0,0)))
  {as':P2}{vs:PQ}(hr:ak w γ as' vs)(gz:∀v∈vs,v.oneCell'=true)(cK:off+as'.length<=(m.boxes.getD id []).length):
  (storeCells ⟨b,off,none⟩ vs).run P w=.ok () (w.setCells b off vs)/\Ev w γ (w.setCells b off vs) γ/\au N w0 an γ (w.setCells b off vs) ({m with boxes:=m.boxes.set id (setA (m.boxes.getD id []) off as')}:AM).B m.L:=by
 have hB:m.B id=some (m.boxes.getD id []):=by simp[AM.B,aL]
 obtain⟨bN,e',q2,q3,q4⟩:=hm.box id _ b hB hβ;rw[hh]at q2;cases q2;have hsz:=q3.1;simp only[zzbi]at hsz;have hl:=hr.1
 have bY:=run_storeCells_cells (P:=P) b off vs 0 w (fun j hj=>by
   rw[aM hh,zzcn,zzah zE];rfl) (fun j hj=>Zp hh) gz
 simp only[zzcn]at bY;refine⟨bY,hm.cw hβ off vs,?_⟩;rw[lX m id aL];exact hm.store hB hβ hh q3 q4 hr gz aO
def PO(hm:au N w0 an γ w m.B m.L){x y:Operand}{t te:TypeId}{ts:Array TypeId}{i:TypeInfo}(ht:ts[0]?=some t)(hu:P.underlying t=some (.slice te))(hi:P.info? te=some i)(h1:aA w γ (e (aC x)) (a.eval x))(h2:aA w γ (e (aC y)) (a.eval y))
  (h:(sop P gl orc e m dst (.cpy i.size (aC x) (aC y))).1/\K (sop P gl orc e m dst (.cpy i.size (aC x) (aC y))).2.1 (sop P gl orc e m dst (.cpy i.size (aC x) (aC y))).2.2):
  Kt N w0 an P ⟨dst,.call ⟨.builtin .copy,#[x,y],ts⟩,ty,pos,after,guard⟩ a γ w (m.st,m.ln) K:=by
 simp only[sop]at h;split at h
 case h_2=>exact h.1.elim
 rename_i id off len dB e1;rw[e1]at h1;obtain⟨b,cap,arr,zj,hβ,hv,hl,hh,hs⟩:=h1.cN;intro rd next Q hn
 split at h
 ·rename_i s e2;rw[e2]at h2;obtain⟨⟨⟨rfl,hi1⟩,aL,cK,aO⟩,hk⟩:=h
  have hr:ak w γ ((s.data.toList.take len).map fun b=>(.int .u8 b.toNat:AV)) ((s.data.toList.take len).map fun b=>(.int .u8 b.toNat:Value)):=by
   refine⟨zd,fun k c v g1 g2=>?_⟩;simp only[zzbm]at g1 g2;cases hx:(s.data.toList.take len)[k]? with
   |none=>simp[hx]at g1
   |some u=>simp[hx]at g1 g2;subst g1;subst g2;exact .int _ _
  obtain⟨g1,g2,g3⟩:=qM (P:=P) (off:=off) hm hβ aL aO hh hr (fun v hv=>by obtain⟨u,_,rfl⟩:=zzav.1 hv;rfl) (by rw[zzbv,zzaq];omega)
  have hfc:(Builtin.firstCells 1 (Nat.min s.size len) (.string s)).run P w=.ok ((s.data.toList.take len).map fun b=>(.int .u8 b.toNat:Value)).toArray w:=by
   simp only[Builtin.firstCells,Sem.run_pure];congr 1;apply Array.ext';simp only[ByteArray.data_extract,Array.toList_map,zzfl,List.extract_eq_take_drop,zzdc,zzes];congr 1;rcases zzhh s.size len with h'|h'
   ·have:Nat.min s.size len=s.size:=zzgs h';rw[this,zzau zd,zzau (Nm h')]
   have:Nat.min s.size len=len:=Nat.min_eq_right h';rw[this]
  generalize((s.data.toList.take len).map fun b=>(.int .u8 b.toNat:Value))=cs at*
  refine Zj (v:=.int .i64 (min s.size len:Nat)) (w':=w.setCells b off cs) ?_ (hn _ _ γ _ _ hk rfl g2 g3 (.int _ _));simp[execOp,resolve,invoke,builtin,Builtin.copy_,ht,run_underlying hu,hv,h2.cp,Builtin.lenOf,sizeOf,typeInfo,hi,hi1,hfc,g1,goInt]
 rename_i Sx;obtain⟨⟨rfl,hcy,aL,cK,aO⟩,hk⟩:=h;obtain⟨a2,cc,vs,zk,oI,sv,eE,Nw⟩:=Qbu (P:=P) hm h2 hcy;have hr:=oI.take (len*i.size);obtain⟨g1,g2,g3⟩:=qM (P:=P) (off:=off) hm hβ aL aO hh hr (fun v hv=>sv v (zzce hv)) (by rw[zzaq];omega);have hfc:=Nw (min (lenS (e (aC y))) len) (Nat.min_le_left _ _) w (fun _=>rfl);rw[zk]at hfc
 have bB:vs.take (min (lenS (e (aC y))) len*i.size)=vs.take (len*i.size):=by
  rcases zzhh (lenS (e (aC y))) len with h'|h'
  ·rw[zzgs h',<- eE,zzbu,zzau];rw[eE];exact zzbd _ h'
  rw[Nat.min_eq_right h']
 rw[bB]at hfc;refine Zj (v:=.int .i64 (min (lenS (e (aC y))) len:Nat)) (w':=w.setCells b off (vs.take (len*i.size))) ?_ (hn _ _ γ _ _ hk rfl g2 g3 (.int _ _));simp[execOp,resolve,invoke,builtin,Builtin.copy_,ht,run_underlying hu,hv,zk,Builtin.lenOf,sizeOf,typeInfo,hi,hfc,g1,goInt]
def PR(hm:au N w0 an γ w m.B m.L){x:Operand}{t te:TypeId}{zs:P2}(hu:P.underlying t=some (.slice te))(hz:zc P te=some zs)(h1:aA w γ (e (aC x)) (a.eval x))
  (h:(sop P gl orc e m dst (.clr zs (aC x))).1/\K (sop P gl orc e m dst (.clr zs (aC x))).2.1 (sop P gl orc e m dst (.clr zs (aC x))).2.2):
  Kt N w0 an P ⟨dst,.call ⟨.builtin .clear,#[x],#[t]⟩,ty,pos,after,guard⟩ a γ w (m.st,m.ln) K:=by
 obtain⟨i,z,hi,jb,JI⟩:=ja (w:=w) (γ:=γ) hz;simp only[sop]at h;split at h
 ·rename_i id off len dB e1;rw[e1]at h1;obtain⟨⟨⟨rfl,bL⟩,aL,cK,aO⟩,hk⟩:=h;obtain⟨b,cap,arr,zj,hβ,hv,hl,hh,hs⟩:=h1.cN;have gz:=Yl JI bL;intro rd next Q hn
  have EZ:z.cells.size=zs.length:=by have:=JI.1;simp at this;omega
  have hr:ak w γ (bF len zs) (Builtin.zeroCells z.cells len).toList:=by
   refine⟨by simp[Ko,size_zeroCells,EZ],fun k c v g1 g2=>?_⟩;obtain⟨j1,j2⟩:=kM g1
   have h0:0<zs.length:=by
    rcases zzck zs.length with h0|h0
    ·simp[h0]at j1
    exact h0
   have ah:k%zs.length<z.cells.size:=by rw[EZ];exact zzed _ h0
   have EV:v=z.cells[k%zs.length]:=by
    simp only[Builtin.zeroCells,zzcb,zzg]at g2;rw[zzah (by simp[EZ];exact j1)]at g2;simp[EZ]at g2;rw[<- g2,getElem!_pos z.cells _ ah]
   subst EV;exact JI.2 _ c _ j2 (by simp[ah])
  obtain⟨g1,g2,g3⟩:=qM (P:=P) (off:=off) hm hβ aL aO hh hr (Wp (fun u hu=>gz u (Nm hu)) len) (by rw[Ko];exact cK);by_cases qp:len=0
  ·subst qp;have e0:(Builtin.zeroCells z.cells 0).toList=[]:=by simp[Builtin.zeroCells]
   rw[e0]at g2 g3;refine Zj (v:=.tuple #[]) (w':=w) (by simp[execOp,resolve,invoke,builtin,Builtin.clear_,run_underlying hu,hv]) (hn _ _ γ _ _ hk rfl g2 g3 (ak.zF ak.nil))
  refine Zj (v:=.tuple #[]) (w':=w.setCells b off (Builtin.zeroCells z.cells len).toList) ?_ (hn _ _ γ _ _ hk rfl g2 g3 (ak.zF ak.nil));cases len with
  |zero=>exact absurd rfl qp
  |succ len=>simp[execOp,resolve,invoke,builtin,Builtin.clear_,run_underlying hu,hv,zeroValue,typeInfo,hi,jb,g1]
 ·rename_i rt e1;rw[e1]at h1;obtain⟨a1,cap,b1,aqW,sz1,cv1,hv,s1,_⟩:=h1.b9;intro rd next Q hn
  refine Zj (v:=.tuple #[]) (w':=w) ?_ (hn _ _ γ _ _ h.2 rfl (Ev.refl w γ) hm (ak.zF ak.nil));simp only[zzco]at hv;cases a1<;>simp[execOp,resolve,invoke,builtin,Builtin.clear_,run_underlying hu,hv]
 exact h.1.elim
def VL(hm:au N w0 an γ w m.B m.L){id off len sz:Nat}{v2:Value}(hr:aA w γ (.bs id off len sz) v2)(cE:off+len*sz<=(m.boxes.getD id []).length)(aL:id<m.boxes.length)
  (bL:(m.boxes.getD id []).all Qx=true)(hp:(m.boxes.getD id []).any (Vf 6)=false):
  (aY sz len (((m.boxes.getD id []).map (bA m 6)).drop off)).length=len/\(∀row∈aY sz len (((m.boxes.getD id []).map (bA m 6)).drop off),row.length=sz)/\
  ∃(γ2:G)(a2:Option Addr)(cc b2:Nat)(gq:Nat->Nat->Value),v2=.slice a2 len cc/\qo w γ2 (aY sz len (((m.boxes.getD id []).map (bA m 6)).drop off)) a2 cc b2 off sz gq/\
   ∀i j c,Qv (aY sz len (((m.boxes.getD id []).map (bA m 6)).drop off)) i j=some c->aA w γ.cU c (gq i j):=by
 obtain⟨b,cap,arr,zj,hβ,hv,hl,hh,hs⟩:=hr.cN;have hB:m.B id=some (m.boxes.getD id []):=by simp[AM.B,aL]
 obtain⟨bN,e',q2,q3,q4⟩:=hm.box id _ b hB hβ;rw[hh]at q2;cases q2;have aH:(aY sz len (((m.boxes.getD id []).map (bA m 6)).drop off)).length=len:=by rw[Qad];simp
 have hsz:∀row∈aY sz len (((m.boxes.getD id []).map (bA m 6)).drop off),row.length=sz:=fun row ai=>by
  rw[Qad]at ai;simp only[zzav,zzaw]at ai;obtain⟨k,hk,rfl⟩:=ai;have:(k+1)*sz<=len*sz:=zzbd _ hk;rw[zzbr,zzdu]at this;simp only[zzaq,zzcw,zzbv];omega
 have ot:∀(k j:Nat)(c:AV),Qv (aY sz len (((m.boxes.getD id []).map (bA m 6)).drop off)) k j=some c->∃c' u,(m.boxes.getD id [])[off+k*sz+j]?=some c'/\c=bA m 6 c'/\arr[off+k*sz+j]?=some u/\arr.getD (off+k*sz+j) undef=u/\aA w γ c' u:=fun k j c h=>by
  rw[Qad]at h;unfold Qv at h;rcases zzaa k len with hk|hk
  ·rw[zzbm,zzej hk]at h;simp only[zzct,zzcv]at h;rw[zzbj]at h;split at h
   ·rw[zzbl,zzbl,zzbm]at h;obtain⟨c',uv,rfl⟩:=zzc.1 h;rw[<- zzan]at uv
    have ah:off+k*sz+j<arr.size:=by
     have h1:=(zza.1 uv).1;have h2:=q3.1;simp at h2;simp only[List.getD]at h1;omega
    have hu':arr[off+k*sz+j]?=some arr[off+k*sz+j]:=zzah ah;exact⟨c',_,uv,rfl,hu',by simp[ah],q3.2 _ _ _ uv (by simp[ah])⟩
   cases h
  rw[zzbm,zzat (Nm hk)]at h;cases h
 have iI:∀(k j:Nat)(c':AV),(m.boxes.getD id [])[off+k*sz+j]?=some c'->Vf 6 c'=true->False:=fun k j c' h VM=>by
  have:(m.boxes.getD id []).any (Vf 6)=true:=zzbq.2 ⟨c',zzad h,VM⟩;rw[hp]at this;cases this
 refine⟨aH,hsz,{γ with ro:=fun _ _=>True},some ⟨b,off,none⟩,cap,b,fun k j=>arr.getD (off+k*sz+j) undef,hv,⟨by rw[aH];exact hl,fun h=>(by cases h),fun _=>⟨rfl,aR hh⟩,hsz,fun k j c h=>?_,fun k j c h=>?_⟩,fun k j c h=>?_⟩
 ·obtain⟨c',u,g1,rfl,g3,g4,g5⟩:=ot k j c h;rw[aM hh,g3,g4];exact⟨rfl,trivial,ur g5 (zzay.1 bL c' (zzad g1))⟩
 ·obtain⟨c',u,g1,rfl,g3,g4,g5⟩:=ot k j c h;rw[g4];exact kH hm (m:=m) (fun _ _ h=>h) (ro':=fun _ _=>True) (fun _ _ _=>trivial) 6 c' u g5 fun VM=>(iI k j c' g1 VM).elim
 obtain⟨c',u,g1,rfl,g3,g4,g5⟩:=ot k j c h;show aA w γ.cU (bA m 6 c') (arr.getD (off+k*sz+j) undef);rw[g4];exact kH hm (m:=m) (fun _ _ h=>h) (ro':=γ.ro) (fun _ _ h=>h) 6 c' u g5 fun VM=>(iI k j c' g1 VM).elim
def PS(hm:au N w0 an γ w m.B m.L)(lG:∀g,aA w γ.cU (gl g) (.pointer (some ⟨g,0,none⟩))){c:Call}(he:∀x∈c.operands,aA w γ (e (aC x)) (a.eval x))(h:((sop P gl orc e m dst (Zt P c)).1/\K (sop P gl orc e m dst (Zt P c)).2.1 (sop P gl orc e m dst (Zt P c)).2.2)):
  Kt N w0 an P ⟨dst,.call c,ty,pos,after,guard⟩ a γ w (m.st,m.ln) K:=by
 have ux:sop P gl orc e m dst (Zt P c)=((rop P gl orc e m dst (Zt P c)).1,(rop P gl orc e m dst (Zt P c)).2,m)->Kt N w0 an P ⟨dst,.call c,ty,pos,after,guard⟩ a γ w (m.st,m.ln) K:=fun hg=>
  qL hm lG he (by rw[hg]at h;exact h)
 obtain⟨callee,args,ts⟩:=c;cases callee with
 |value f=>exact ux rfl
 |invoke recv name=>exact ux rfl
 |builtin b=>
  cases b<;>first|exact ux rfl|skip
  case append=>
   simp only[Zt]at h;split at h
   case h_2=>exact h.1.elim
   rename_i s x t t' ha ht;split at h
   case h_2=>exact h.1.elim
   rename_i te zj hu hu';split at h
   case h_2=>exact h.1.elim
   rename_i i hi;split at h
   case isFalse=>exact h.1.elim
   rename_i bR;simp only[zzac,beq_iff_eq,bne_iff_ne]at bR;obtain⟨⟨⟨rfl,hz⟩,_⟩,dZ⟩:=bR;obtain rfl:args=#[s,x]:=by cases args;simp_all
   obtain rfl:ts=#[t,t]:=by cases ts;simp_all
   have h1:=he s (by simp[Call.operands]);have h2:=he x (by simp[Call.operands]);cases jb:i.zero with
   |none=>simp[jb]at hz
   |some z=>
    simp[jb]at hz;obtain⟨hz,hzo⟩:=hz;have aii:∀(n:Nat),∀v∈(Builtin.zeroCells z.cells n).toList,v.oneCell'=true:=fun n v hv=>Wp (fun u hu=>by obtain⟨k,hk,rfl⟩:=zzgy.1 hu;exact hzo k hk) n v hv
    have grown:∀{c1 c2:PQ}{bh len:Nat},c1.length+c2.length=len*i.size->len<=bh->bh*i.size<=(c1.toArray++c2.toArray++Builtin.zeroCells z.cells (bh-len)).size:=fun{c1 c2 bh len}hl cE=>by
     simp only[zzeq,zzep,size_zeroCells,hz];have:bh*i.size=len*i.size+(bh-len)*i.size:=by rw[<- zzbr];congr 1;omega
     omega
    simp only[sop]at h;split at h
    ·rename_i id dB rows Su aq e1 e2;rw[e1]at h1;rw[e2]at h2;obtain⟨⟨rfl,aH,hr,cK⟩,hk⟩:=h;obtain⟨v,w',γ',g1,g2,g3,g4⟩:=Ns (ty:=ty) hm hu hi jb hz (id:=id) (.inr ⟨h1,aH⟩) h2 hr cK (Js dZ cK);intro rd next Q hn
     refine Zj (v:=v) (w':=w') (by simp[execOp,resolve,invoke,builtin,g1]) (hn v w' γ' _ _ hk rfl g2 ?_ g4);rw[aih m id (zza.1 aH).1];exact g3
    ·
     rename_i y' id off len dB e1;rw[e1]at h1;obtain⟨⟨⟨⟨rfl,rfl,aL,aO,cE⟩,cK⟩,hcy⟩,hk⟩:=h;obtain⟨b,cap,arr,zj,hβ,hv,hl,hh,hs⟩:=h1.cN;obtain⟨a2,cc,vs,zk,oI,sv,eE,Nw⟩:=Qbu (P:=P) hm h2 hcy;have hB:m.B id=some (m.boxes.getD id []):=by simp[AM.B,aL]
     obtain⟨bN,e',q2,q3,q4⟩:=hm.box id _ b hB hβ;rw[hh]at q2;cases q2;have hsz:=q3.1;simp only[zzbi]at hsz
     have fA:ak w γ ((m.boxes.getD id []).take (len*i.size)) (arr.toList.take (len*i.size)):=by
      refine⟨by simp only[zzaq,zzbi];omega,fun k c v g1 g2=>?_⟩;rw[zzbj]at g1 g2;split at g1
      ·rename_i Cu;rw[if_pos Cu]at g2;exact q3.2 k c v g1 g2
      cases g1
     have cI:m.B m.boxes.length=none:=by simp[AM.B]
     have hBB:∀cells:P2,({m with boxes:=m.boxes.set id []++[cells]}:AM).B=fun i=>if i=m.boxes.length then some cells else if i=id then some []else m.B i:=fun cells=>by
      have e1:=Sw {m with boxes:=m.boxes.set id []} cells;rw[lX m id aL]at e1;simpa using e1
     intro rd next Q hn
     by_cases cA:len+lenS (e (aC x))<=cap
     ·have aZ:=zH (P:=P) (ty:=ty) (w:=w) (len:=len) (b:=b) (off:=0) hu hi (by have:=Nw _ (zzab _) w (fun _=>rfl);rw[zk,<- eE,zzbu]at this;exact this) sv eE cA hh hs;simp only[zzbs]at aZ;have Pt:(len+lenS (e (aC x)))*i.size<=cap*i.size:=zzbd _ cA;rw[zzbr]at Pt
      obtain⟨g1,g2⟩:=hm.share (id':=m.boxes.length) (new:=(m.boxes.getD id []).take (len*i.size)++(cellsS m i.size (e (aC x))).2) hβ hB aO cI hh (p:=len*i.size) (vs:=vs) (by
       refine⟨by simp only[zzak,zzaq,oI.1,zzbi,Zz];omega,fun k c v j1 j2=>?_⟩;rw[zzcb,wk]at j2;rcases zzaa k (len*i.size)with Cu|Cu
       ·rw[if_neg zE]at j2;rw[zzaj (by rw[zzaq];omega)]at j1;refine fA.2 k c v j1 ?_;rw[zzbj,if_pos Cu,zzcb];exact j2
       rw[zzap (by rw[zzaq];omega)]at j1;have e0:((m.boxes.getD id []).take (len*i.size)).length=len*i.size:=by rw[zzaq];omega
       rw[e0]at j1;have ef:=(zza.1 j1).1;rw[oI.1]at ef;rw[if_pos zE]at j2;exact oI.2 _ c v j1 j2) q4 sv
      refine Zj (v:=.slice (some ⟨b,0,none⟩) (len+lenS (e (aC x))) cap) (w':=w.setCells b (len*i.size) vs) (by simp[execOp,resolve,invoke,builtin,hv,zk,aZ]) (hn _ _ _ _ _ hk rfl g1 ?_ ?_)
      ·rw[hBB];exact g2
      exact .bs (by simp[G.box]) cA (Xd b vs _ w arr zj _ hh) (by rw[Zz];exact hs)
     have f1:(Builtin.firstCells i.size len (.slice (some ⟨b,0,none⟩) len cap)).run P w.drew=.ok (arr.toList.take (len*i.size)).toArray w.drew:=by
      refine run_firstCells_some w.drew i.size len _ len cap _ (by simp;omega) fun j u hj=>?_;rw[bu];show w.cell? _=_;rw[aM hh];rw[zzbj]at hj;split at hj
      ·simpa using hj
      cases hj
     have f2:(Builtin.firstCells i.size (lenS (e (aC x))) (.slice a2 (lenS (e (aC x))) cc)).run P w.drew=.ok vs.toArray w.drew:=by
      have:=Nw _ (zzab _) w.drew (fun _=>rfl);rw[zk,<- eE,zzbu]at this;exact this
     obtain⟨bh,VN,aZ⟩:=lY (P:=P) (ty:=ty) (w:=w) hu hi jb f1 f2 zE cK (Js dZ cK);have hmk:=(hm.kill hβ).drew
     have fL:(fun i=>if i=id then some []else m.B i) m.boxes.length=none:=by
      have:m.boxes.length≠id:=zE
      simp only[if_neg this];exact cI
     have hP:=AP (rest:=(Builtin.zeroCells z.cells (bh-(len+lenS (e (aC x))))).toList) fA oI;have bP:=hmk.dy _ fL (.cells ((arr.toList.take (len*i.size)).toArray++vs.toArray++Builtin.zeroCells z.cells (bh-(len+lenS (e (aC x))))) te)
     have zm:=hmk.eY _ fL (e:=te) (arr:=(arr.toList.take (len*i.size)).toArray++vs.toArray++Builtin.zeroCells z.cells (bh-(len+lenS (e (aC x))))) (by
      have:=hP.mono (Ev.drew w γ)
      simpa using this) (fun v hv=>by
       simp only[Array.toList_append,zzao]at hv;obtain(hv|hv)|hv:=hv
       ·exact q4 v (zzce (Nm hv))
       ·exact sv v (Nm hv)
       exact aii _ v hv)
     refine Zj (v:=.slice (some ⟨w.heap.size,0,none⟩) (len+lenS (e (aC x))) bh) (by simp[execOp,resolve,invoke,builtin,hv,zk,aZ]) (hn _ _ _ _ _ hk rfl ((Ev.drew w γ).trans bP) ?_ ?_)
     ·rw[hBB];exact zm
     refine .bs (arr:=(arr.toList.take (len*i.size)).toArray++vs.toArray++Builtin.zeroCells z.cells (bh-(len+lenS (e (aC x))))) (e:=te) (by show(if _ then _ else _)=_;rw[if_pos rfl];rfl) VN (Yh w _) ?_;rw[zzbs];exact grown (by rw[eE,zzbr];simp;omega) VN
    ·
     rename_i id dB rows gN gj ct sz2 e1 e2;rw[e1]at h1;rw[e2]at h2;obtain⟨⟨⟨rfl,rfl⟩,aH,hr,cK,ak1,fL,JN,hp2⟩,hk⟩:=h;obtain⟨l2,oI,γ2,a2,cc,b2,gq,zk,s2,VO⟩:=VL hm h2 ak1 fL JN hp2;generalize aY i.size ct (((m.boxes.getD gN []).map (bA m 6)).drop gj)=aq at*
     subst l2;obtain⟨v,w',γ',g1,g2,g3,g4⟩:=vU (ty:=ty) hm hu hi jb hz (id:=id) (.inr ⟨h1,aH⟩) s2 VO (fun row h=>(zzao.1 h).elim (hr row) (oI row)) cK (Js dZ cK);intro rd next Q hn
     refine Zj (v:=v) (w':=w') (by simp[execOp,resolve,invoke,builtin,zk,g1]) (hn v w' γ' _ _ hk rfl g2 ?_ g4);rw[aih m id (zza.1 aH).1];exact g3
    ·rename_i y' rt rows e1 iI PT;rw[e1]at h1;split at h
     ·split at h
      ·
       rename_i qp;obtain⟨hcy,hk⟩:=h;obtain⟨a1,cap,b1,aqW,sz1,cv1,hv,s1,hcap⟩:=h1.b9;obtain⟨a2,cc,vs,zk,oI,sv,eE,Nw⟩:=Qbu (P:=P) hm h2 hcy;rw[qp]at zk;have aZ:=Qeb (P:=P) (w:=w) (ty:=ty) (a:=a1) hu hi a2 cc rows.length s1.hcap;intro rd next Q hn
       refine Zj (v:=.slice a1 rows.length cap) (w':=w) (by simp[execOp,resolve,invoke,builtin,hv,zk,aZ]) (hn _ _ γ _ _ hk rfl (Ev.refl _ _) hm ?_);rw[<- hv];exact h1
      obtain⟨⟨⟨hfu,hny,hsz,cK⟩,hcy⟩,hk⟩:=h;replace h1:=h1.uw hfu;obtain⟨a1,cap,b1,aqW,sz1,cv1,hv,s1,hcap⟩:=h1.b9;replace s1:=s1.fix (sz:=i.size) hsz;obtain⟨a2,cc,vs,zk,oI,sv,eE,Nw⟩:=Qbu (P:=P) hm h2 hcy;obtain⟨a1',ayP,vs1,ak2,Sy,aqX,wm,hf1⟩:=Qbu (P:=P) (sz:=i.size) hm h1 hsz;rw[hv]at ak2;simp only[lenS]at ak2 wm;cases ak2;have cI:m.B m.boxes.length=none:=by simp[AM.B]
      have f1:(Builtin.firstCells i.size rows.length (.slice a1 rows.length cap)).run P w.drew=.ok vs1.toArray w.drew:=by
       have:=hf1 _ (zzab _) w.drew (fun _=>rfl);rw[hv]at this;simp only[lenS]at this;rw[<- wm,zzbu]at this;exact this
      have f2:(Builtin.firstCells i.size (lenS (e (aC x))) (.slice a2 (lenS (e (aC x))) cc)).run P w.drew=.ok vs.toArray w.drew:=by
       have:=Nw _ (zzab _) w.drew (fun _=>rfl);rw[zk,<- eE,zzbu]at this;exact this
      have ayQ:cap=rows.length:=hcap;obtain⟨bh,VN,aZ⟩:=lY (P:=P) (ty:=ty) (w:=w) hu hi jb f1 f2 zE cK (Js dZ cK);have hP:=AP (rest:=(Builtin.zeroCells z.cells (bh-(rows.length+lenS (e (aC x))))).toList) Sy oI;have hmk:=hm.drew;have bP:=hmk.dy _ cI (.cells (vs1.toArray++vs.toArray++Builtin.zeroCells z.cells (bh-(rows.length+lenS (e (aC x))))) te)
      have zm:=hmk.eY _ cI (e:=te) (arr:=vs1.toArray++vs.toArray++Builtin.zeroCells z.cells (bh-(rows.length+lenS (e (aC x))))) (by
       have:=hP.mono (Ev.drew w γ)
       simpa using this) (fun v hv=>by
        simp only[Array.toList_append,zzao]at hv;obtain(hv|hv)|hv:=hv
        ·exact aqX v (Nm hv)
        ·exact sv v (Nm hv)
        exact aii _ v hv)
      intro rd next Q hn
      refine Zj (v:=.slice (some ⟨w.heap.size,0,none⟩) (rows.length+lenS (e (aC x))) bh) (by simp[execOp,resolve,invoke,builtin,hv,zk,aZ]) (hn _ _ _ _ _ hk rfl ((Ev.drew w γ).trans bP) ?_ ?_)
      ·rw[Sw];exact zm
      refine .bs (arr:=vs1.toArray++vs.toArray++Builtin.zeroCells z.cells (bh-(rows.length+lenS (e (aC x))))) (e:=te) (by show(if _ then _ else _)=_;rw[if_pos rfl];rfl) VN (Yh w _) ?_;rw[zzbs];exact grown (by rw[wm,eE,zzbr]) VN
     split at h
     case h_3=>exact h.1.elim
     case h_2=>
      rename_i gN gj ct sz2 e2;rw[e2]at h2;obtain⟨⟨⟨hfu,rfl⟩,hr,cK,ak1,fL,JN,hp2⟩,hk⟩:=h;replace h1:=h1.uw hfu;obtain⟨l2,oI,γ2,a2,cc,b2,gq,zk,s2,VO⟩:=VL hm h2 ak1 fL JN hp2;generalize aY i.size ct (((m.boxes.getD gN []).map (bA m 6)).drop gj)=aq at*
      subst l2;obtain⟨v,w',γ',g1,g2,g3,g4⟩:=vU (ty:=ty) hm hu hi jb hz (id:=m.lens.length) (.inl ⟨h1,by simp[AM.L]⟩) s2 VO (fun row h=>(zzao.1 h).elim (hr row) (oI row)) cK (Js dZ cK);intro rd next Q hn
      refine Zj (v:=v) (w':=w') (by simp[execOp,resolve,invoke,builtin,zk,g1]) (hn v w' γ' _ _ hk rfl g2 ?_ g4);rw[CD];exact g3
     rename_i Su aq e2;rw[e2]at h2;obtain⟨⟨hfu,hr,cK⟩,hk⟩:=h;replace h1:=h1.uw hfu;obtain⟨v,w',γ',g1,g2,g3,g4⟩:=Ns (ty:=ty) hm hu hi jb hz (id:=m.lens.length) (.inl ⟨h1,by simp[AM.L]⟩) h2 hr cK (Js dZ cK);intro rd next Q hn
     refine Zj (v:=v) (w':=w') (by simp[execOp,resolve,invoke,builtin,g1]) (hn v w' γ' _ _ hk rfl g2 ?_ g4);rw[CD];exact g3
    exact h.1.elim
  case copy=>
   simp only[Zt]at h;split at h
   case h_2=>exact h.1.elim
   rename_i x y t ts' ha ht;split at h
   case h_2=>exact h.1.elim
   rename_i te hu;split at h
   case h_2=>exact h.1.elim
   rename_i i hi;obtain rfl:args=#[x,y]:=by cases args;simp_all
   have ht0:ts[0]?=some t:=by cases ts;simp_all
   exact PO hm ht0 hu hi (he x (by simp[Call.operands])) (he y (by simp[Call.operands])) h
  case clear=>
   simp only[Zt]at h;split at h
   case h_2=>exact h.1.elim
   rename_i x t ha ht;split at h
   case h_2=>exact h.1.elim
   rename_i te hu;split at h
   case h_2=>exact h.1.elim
   rename_i zs hz;obtain rfl:args=#[x]:=by cases args;simp_all
   obtain rfl:ts=#[t]:=by cases ts;simp_all
   exact PR hm hu hz (he x (by simp[Call.operands])) h
  case len=>
   refine ux ?_;simp only[Zt];repeat' split
   all_goals rfl
  case max=>
   refine ux ?_;simp only[Zt];repeat' split
   all_goals rfl
  case min=>
   refine ux ?_;simp only[Zt];repeat' split
   all_goals rfl
def G.gA(γ:G)(id b:Nat):G:={γ with mm:=fun i=>if i=id then some b else γ.mm i}
def PU:Obj->Bool
 |.map _ _=>true
 |.mapIter _ _ _ _=>true
 |_=>false
def cL.PU{x:AV}{o:Obj}(h:cL w γ x o):PU o=true:=by
 unfold cL at h;split at h<;>first|rfl|exact h.elim
def Nx{w:World}{b o':Nat}{o:Obj}(h:w.heap[b]?=some o)(hm:PU o=true):w.cell? ⟨b,o',none⟩=none:=by
 cases o<;>simp[PU]at hm<;>simp[World.cell?,h]
def au.JO{B:Nat->PH}{L:Nat->Option Nat}(hm:au N w0 an γ w B L)(id:Nat)(aL:B id=none){x:AV}{o:Obj}(hx:cL w γ x o):
  Ev w γ (w.alloc o) (γ.gA id w.heap.size)/\au N w0 an (γ.gA id w.heap.size) (w.alloc o) (fun i=>if i=id then some [x]else B i) L:=by
 have aO:∀i b,γ.mm i=some b->i≠id:=fun i b h=>by
  rintro rfl;obtain⟨_,_,_,_,_,_,_,_,_,hx,_⟩:=hm.mm i b h;rw[aL]at hx;cases hx
 have VQ:∀i b,γ.β i=some b->i≠id:=fun i b h=>by
  rintro rfl;obtain⟨_,_,_,_,c,hc⟩:=hm.β i b h;rw[aL]at hc;cases hc
 have hβ0:γ.β id=none:=by
  cases h:γ.β id with
  |none=>rfl
  |some b=>exact absurd rfl (VQ id b h)
 have bP:Ev w γ (w.alloc o) (γ.gA id w.heap.size):=⟨zd,fun b o' hb hr=>⟨hr,cell_of_heap (Below.heap_alloc w _ b hb)⟩,fun _ _ h=>h,fun _=>zzab _,fun i b h=>by simp[G.gA,aO i b h,h],rfl,
   fun i b _ ho=>⟨ho,fun arr e he=>⟨arr,by rw[Below.heap_alloc w _ b (hm.own i b ho).2.1];exact he,zzab _⟩,fun _ h=>h⟩,
   fun b hb=>⟨hb,Below.heap_alloc w _ b (hm.sp b hb).2.1⟩,Sz.of_same (Below.heap_alloc w _)⟩
 have ak3:∀i i' b,γ.β i=some b->γ.β i'=some b->(if i=id then some [x]else B i)=some []\/(if i'=id then some [x]else B i')=some []\/i=i':=fun i i' b h h'=>by
  rw[if_neg (VQ i b h),if_neg (VQ i' b h')];exact hm.inj i i' b h h'
 refine⟨bP,⟨w0.st _ _ _ _ hm.bs ⟨rfl,rfl,rfl,zd,fun b hb _=>Below.heap_alloc w _ b hb,bP.ro,fun b hb=>?_,fun _ _ h=>.inl h⟩,by have:=hm.hN;simp;omega,hm.an,fun b o h=>by have:=hm.robd b o h;simp;omega,
  fun i cells b hb h1=>?_,fun i b hb=>?_,ak3,fun i b hb=>?_,hm.oinj,fun b hb=>?_,fun i b hb=>?_,fun i i' b h h'=>?_,hm.len,hm.cur0⟩⟩
 ·obtain hb|hb|hb|⟨i,hb⟩:=hb
  ·exact .inl (.inl hb)
  ·exact .inl (.inr (.inl hb))
  ·exact .inl (.inr (.inr (.inl hb)))
  by_cases h:i=id
  ·simp[G.gA,h]at hb;exact .inr zE
  simp[G.gA,h]at hb;exact .inl (.inr (.inr (.inr ⟨i,hb⟩)))
 ·have mV:γ.β i=some b:=h1;simp only[if_neg (VQ i b mV)]at hb;obtain⟨arr,e,h2,h3,h4⟩:=hm.box i cells b hb mV;exact⟨arr,e,by rw[Below.heap_alloc w _ b (aR h2)];exact h2,h3.mono bP,h4⟩
 ·have cM:γ.β i=some b:=hb;obtain⟨h1,h2,h3,h4,c,h5⟩:=hm.β i b cM;exact⟨h1,by simp;omega,h3,h4,c,by simp only[if_neg (VQ i b cM)];exact h5⟩
 ·obtain⟨h1,h2,h3⟩:=hm.own i b hb;exact⟨h1,by simp;omega,h3⟩
 ·obtain⟨h1,h2,h3⟩:=hm.sp b hb;exact⟨h1,by simp;omega,h3⟩
 ·by_cases h:i=id
  ·subst h;simp[G.gA]at hb;subst hb;refine⟨hm.hN,zd,fun o' h=>?_,fun i h=>?_,fun i h=>?_,fun h=>?_,hβ0,x,o,zd,by show(w.heap.push _)[w.heap.size]?=_;simp,hx.mono bP.cH.AB⟩
   ·have:=hm.robd _ _ h;omega
   ·have:=(hm.β i _ h).2.1;omega
   ·have:=(hm.own i _ h).2.1;omega
   have:=(hm.sp _ h).2.1;omega
  simp[G.gA,h]at hb;obtain⟨h1,h2,h3,h4,h5,h6,h8,h7⟩:=hm.mm i b hb;refine⟨h1,by simp;omega,h3,h4,h5,h6,h8,?_⟩;simp only[if_neg h];exact h7.mono bP.cH.AB (Below.heap_alloc w _ b h2)
 by_cases hi:i=id<;>by_cases dn:i'=id
 ·rw[hi,dn]
 ·simp[G.gA,hi]at h;simp[G.gA,dn]at h';have:=(hm.mm i' b h').2.1;omega
 ·simp[G.gA,hi]at h;simp[G.gA,dn]at h';have:=(hm.mm i b h).2.1;omega
 simp[G.gA,hi]at h;simp[G.gA,dn]at h';exact hm.minj i i' b h h'
def E3(hm:au N w0 an γ w m.B m.L){t:TypeId}{r:Option Operand}(h:((sop P gl orc e m dst (tr P ⟨dst,.makeMap t r,ty,pos,after,guard⟩)).1/\K (sop P gl orc e m dst (tr P ⟨dst,.makeMap t r,ty,pos,after,guard⟩)).2.1 (sop P gl orc e m dst (tr P ⟨dst,.makeMap t r,ty,pos,after,guard⟩)).2.2)):Kt N w0 an P ⟨dst,.makeMap t r,ty,pos,after,guard⟩ a γ w (m.st,m.ln) K:=by
 cases r with
 |some r=>exact h.1.elim
 |none=>
  simp only[tr]at h;split at h
  case h_2=>exact h.1.elim
  rename_i kn z ht;intro rd next Q hn
  have aL:m.B m.boxes.length=none:=by simp[AM.B]
  obtain⟨g1,g2⟩:=hm.JO _ aL (x:=.aJ kn []) (o:=.map #[] 0) ⟨rfl,rfl,fun i k a e q1=>by simp at q1⟩;refine Zj (v:=.map (some w.heap.size)) (w':=w.alloc (.map #[] 0)) (by simp[execOp,Instr.makeMap]) (hn _ _ (γ.gA m.boxes.length w.heap.size) _ _ h.2 rfl g1 ?_ (.mp (by simp[G.gA])));simp only[sop];rw[Sw];exact g2
def au.qN{B:Nat->PH}{L:Nat->Option Nat}(hm:au N w0 an γ w B L){id b:Nat}(hb:γ.mm id=some b){x:AV}{o:Obj}(hx:cL w γ x o):
  Ev w γ (w.putObj b o) γ/\au N w0 an γ (w.putObj b o) (fun i=>if i=id then some [x]else B i) L:=by
 obtain⟨n1,n2,n3,n4,n5,n6,n8,hmo⟩:=hm.mm id b hb;have hnc:=fun{arr:P1}{e:TypeId}{f:Nat×Nat}=>vO.UU hmo (arr:=arr) (e:=e) (f:=f);obtain⟨x0,o0,n7,h0,Ny⟩:=hmo;have cQ:∀b',b'≠b->(w.putObj b o).heap[b']?=w.heap[b']?:=fun b' cM=>World.putObj_heap_other cM;have E4:(w.putObj b o).heap[b]?=some o:=by simp[World.putObj,n2]
 have bL:∀b' o',(w.putObj b o).cell? ⟨b',o',none⟩=w.cell? ⟨b',o',none⟩:=fun b' o'=>by
  by_cases hbb:b'=b
  ·subst hbb;rw[Nx E4 hx.PU,Nx h0 Ny.PU]
  exact cell_of_heap (cQ b' hbb)
 have bP:Ev w γ (w.putObj b o) γ:=by
  refine⟨zd,fun b' o' _ hr=>⟨hr,bL b' o'⟩,fun _ _ h=>h,fun _=>zzab _,fun _ _ h=>h,rfl,fun i b' _ ho=>⟨ho,fun arr e he=>⟨arr,?_,zzab _⟩,fun _ h=>h⟩,fun b' h=>⟨h,cQ b' (by rintro rfl;exact n6 h)⟩,fun b' arr e f h=>⟨arr,by rw[cQ b' (by rintro rfl;exact hnc h)];exact h,rfl⟩⟩;rw[cQ b' (by rintro rfl;exact n5 i ho)];exact he
 have ak3:∀i i' b',γ.β i=some b'->γ.β i'=some b'->(if i=id then some [x]else B i)=some []\/(if i'=id then some [x]else B i')=some []\/i=i':=fun i i' b' h h'=>by
  rw[if_neg (by rintro rfl;rw[n8]at h;cases h),if_neg (by rintro rfl;rw[n8]at h';cases h')];exact hm.inj i i' b' h h'
 refine⟨bP,⟨w0.st _ _ _ _ hm.bs ⟨rfl,rfl,rfl,zd,fun b' _ iI=>cQ b' (by rintro rfl;exact iI (.inr (.inr (.inr ⟨id,hb⟩)))),bP.ro,fun b' cM=>.inl cM,fun b' o' h=>.inl h⟩,Nm hm.hN,
  hm.an,fun b' o' h=>by simpa using hm.robd b' o' h,fun i cells b' cz h1=>?_,fun i b' cM=>?_,ak3,fun i b' cM=>?_,hm.oinj,fun b' cM=>?_,fun i b' cM=>?_,hm.minj,hm.len,hm.cur0⟩⟩
 ·have hi:i≠id:=by rintro rfl;rw[n8]at h1;cases h1
  simp only[if_neg hi]at cz;obtain⟨arr,e,h2,h3,h4⟩:=hm.box i cells b' cz h1;exact⟨arr,e,by rw[cQ b' (by rintro rfl;exact n4 i h1)];exact h2,h3.mono bP,h4⟩
 ·have hi:i≠id:=by rintro rfl;rw[n8]at cM;cases cM
  obtain⟨h1,h2,h3,h4,c',h5⟩:=hm.β i b' cM;exact⟨h1,Nm h2,h3,h4,c',by simp only[if_neg hi];exact h5⟩
 ·obtain⟨h1,h2,h3⟩:=hm.own i b' cM;exact⟨h1,Nm h2,h3⟩
 ·obtain⟨h1,h2,h3⟩:=hm.sp b' cM;exact⟨h1,Nm h2,h3⟩
 by_cases hi:i=id
 ·subst hi;obtain rfl:b'=b:=Option.some.inj (cM.symm.trans hb);exact⟨n1,Nm n2,n3,n4,n5,n6,n8,x,o,zd,E4,hx.mono bP.cH.AB⟩
 obtain⟨h1,h2,h3,h4,h5,h6,h8,h7⟩:=hm.mm i b' cM;refine⟨h1,Nm h2,h3,h4,h5,h6,h8,?_⟩;simp only[if_neg hi];exact h7.mono bP.cH.AB (cQ b' (by rintro rfl;exact hi (hm.minj _ _ _ cM hb)))
def nc{id:Nat}{x:AV}(h:m.boxes.getD id []=[x]):id<m.boxes.length/\m.B id=some [x]:=by
 have aL:id<m.boxes.length:=by
  rcases zzaa id m.boxes.length with h'|h'
  ·exact h'
  simp[List.getD,zzat h']at h
 refine⟨aL,?_⟩;simp[AM.B,aL];simpa[List.getD,aL]using h
def AQ{kn:Nat}{kvs:List (Pi×AV)}{es:Array MapEntry}{n:Pi}{c:AV}{v:Value}(hn:EL kn n)(hl:kvs.length=es.size)
  (hk:∀(i:Nat)(k:Pi)(a:AV)(e:MapEntry),kvs[i]?=some (k,a)->es[i]?=some e->EL kn k/\e.key=Ym kn k/\e.born=i/\aA w γ a e.val)(hc:aA w γ c v):
  cL w γ (.aJ kn (kvs++[(n,c)])) (.map (es.push ⟨Ym kn n,v,es.size⟩) (es.size+1)):=by
 refine⟨zd,by simp[hl],fun j k' c' x' s1 s2=>?_⟩;rcases zzaa j kvs.length with hj|hj
 ·rw[zzaj hj]at s1;rw[Array.getElem?_push_lt zE]at s2;exact hk j k' c' x' s1 (by rw[zzah zE];exact s2)
 have Nr:j=kvs.length:=by
  have:=(zza.1 s1).1;simp at this;omega
 subst Nr;simp at s1;obtain⟨rfl,rfl⟩:=s1;rw[hl]at s2;simp at s2;subst s2;exact⟨hn,rfl,hl.symm,hc⟩
def wq{kn:Nat}{kvs:List (Pi×AV)}{es:Array MapEntry}{n:Pi}{j:Nat}{c:AV}{f:MapEntry->MapEntry}(hn:EL kn n)(hl:kvs.length=es.size)
  (hk:∀(i:Nat)(k:Pi)(a:AV)(e:MapEntry),kvs[i]?=some (k,a)->es[i]?=some e->EL kn k/\e.key=Ym kn k/\e.born=i/\aA w γ a e.val)(hj:j<kvs.length)
  (hf:∀e,es[j]?=some e->(f e).key=Ym kn n/\(f e).born=e.born/\aA w γ c (f e).val):
  cL w γ (.aJ kn (kvs.set j (n,c))) (.map (es.modify j f) es.size):=by
 refine⟨zd,by simp[hl],fun j' k' c' x' t1 t2=>?_⟩;rw[zzdq]at t2;by_cases hjj:j=j'
 ·subst hjj;have fU:j<es.size:=zE
  simp[fU]at t2;rw[zzbg zE]at t1;cases t1;subst t2;obtain⟨p1,p2,p3⟩:=hf es[j] (by simp[fU]);have:=hk j (kvs[j]'hj).1 (kvs[j]'hj).2 es[j] (by simp[hj]) (by simp[fU]);exact⟨hn,p1,by rw[p2];exact this.2.2.1,p3⟩
 rw[zzbn hjj]at t1;rw[if_neg hjj]at t2;exact hk j' k' c' x' t1 t2
def CE(b:Nat)(o:Obj){es:Array MapEntry}{c:Nat}(q2:w.heap[b]?=some (.map es c)):(setObj b o).run P w=.ok () (w.putObj b o):=by simp[setObj,Sem.run,q2,World.putObj]
def JP(hm:au N w0 an γ w m.B m.L){t:TypeId}{x k y:Operand}(h1:aA w γ (e (aC x)) (a.eval x))(h2:aA w γ (e (aC k)) (a.eval k))(h3:aA w γ (e (aC y)) (a.eval y))
  (h:((sop P gl orc e m dst (tr P ⟨dst,.mapUpdate t x k y,ty,pos,after,guard⟩)).1/\K (sop P gl orc e m dst (tr P ⟨dst,.mapUpdate t x k y,ty,pos,after,guard⟩)).2.1 (sop P gl orc e m dst (tr P ⟨dst,.mapUpdate t x k y,ty,pos,after,guard⟩)).2.2)):Kt N w0 an P ⟨dst,.mapUpdate t x k y,ty,pos,after,guard⟩ a γ w (m.st,m.ln) K:=by
 simp only[tr]at h;split at h
 case h_2=>exact h.1.elim
 rename_i kn z ht;simp only[sop]at h;split at h
 case h_2=>exact h.1.elim
 rename_i id n e1 e2;rw[e1]at h1;obtain⟨e3,fB⟩:=CA e2;rw[e3]at h2;split at h
 case h_2=>exact h.1.elim
 rename_i sj kvs eZ;obtain⟨⟨Eg,hba⟩,hK⟩:=h;subst Eg;obtain⟨kt,vt,i,zv,hu,hk,hi,hz,rfl⟩:=kL ht;obtain⟨aL,CF⟩:=nc eZ;obtain⟨b,es,hb,hv,q2,q3,q4⟩:=hm.jc h1 CF
 obtain⟨f1,f2⟩:=CB (w:=w) (γ:=γ) (P:=P) hk fB (kvs:=kvs) (es:=es.toList) (Nm q3) fun j k' c x' g1 g2=>by
  obtain⟨p1,p2,_,p3⟩:=q4 j k' c x' g1 (Nm g2);exact⟨p1,p2,p3⟩
 have cn:=MapKept.run_getObj_map (P:=P) q2;have bS:=fun o=>CE (P:=P) b o q2;have gr:(Instr.checkKey false 10000 kt (Ym sj n)).run P w=.ok () w:=run_checkKey hk fB;have Sv:=qK fB h2;intro rd next Q hn
 cases hf:Xh n kvs 0 with
 |none=>
  rw[hf]at hK;have PJ:=f1 hf
  have aZ:(execOp a.eval ⟨dst,.mapUpdate t x k y,ty,pos,after,guard⟩).run P w=.ok .skip (w.putObj b (.map (es.push ⟨Ym sj n,a.eval y,es.size⟩) (es.size+1))):=by
   simp[execOp,Instr.mapUpdate,run_underlying hu,hv,Sv,cn,gr,PJ,bS]
  obtain⟨g1,g2⟩:=hm.qN hb (AQ fB q3 q4 h3);refine oF aZ (hn undef _ γ _ _ hK rfl g1 ?_ (.junk _));rw[lX m id aL];exact g2
 |some p=>
  obtain⟨j,c⟩:=p;rw[hf]at hK;obtain⟨vv,PJ,s2,s3,s4⟩:=f2 j c hf;have gQ:j<es.size:=zE
  have oP:=(q4 j n c es[j] s4 (zzah gQ)).2.1;have Iw:=oO (P:=P) (w:=w) (new:=Ym sj n) fB oP rfl
  have aZ:(execOp a.eval ⟨dst,.mapUpdate t x k y,ty,pos,after,guard⟩).run P w=.ok .skip (w.putObj b (.map (es.modify j fun q=>{q with key:=Ym sj n,val:=a.eval y}) es.size)):=by
   simp[execOp,Instr.mapUpdate,run_underlying hu,hv,Sv,cn,gr,PJ,gQ,Iw,bS]
  obtain⟨g1,g2⟩:=hm.qN hb (wq (j:=j) (c:=e (aC y)) (f:=fun q=>{q with key:=Ym sj n,val:=a.eval y}) fB q3 q4 s3 fun e he=>⟨rfl,rfl,h3⟩);refine oF aZ (hn undef _ γ _ _ hK rfl g1 ?_ (.junk _));rw[lX m id aL];exact g2
def JQ(hm:au N w0 an γ w m.B m.L){t:TypeId}{x k:Operand}(h1:aA w γ (e (aC x)) (a.eval x))(h2:aA w γ (e (aC k)) (a.eval k))
  (h:((sop P gl orc e m dst (tr P ⟨dst,.mapEntry t x k,ty,pos,after,guard⟩)).1/\K (sop P gl orc e m dst (tr P ⟨dst,.mapEntry t x k,ty,pos,after,guard⟩)).2.1 (sop P gl orc e m dst (tr P ⟨dst,.mapEntry t x k,ty,pos,after,guard⟩)).2.2)):Kt N w0 an P ⟨dst,.mapEntry t x k,ty,pos,after,guard⟩ a γ w (m.st,m.ln) K:=by
 simp only[tr]at h;split at h
 case h_2=>exact h.1.elim
 rename_i kn z ht;simp only[sop]at h;split at h
 case h_2=>exact h.1.elim
 rename_i id n e1 e2;rw[e1]at h1;obtain⟨e3,fB⟩:=CA e2;rw[e3]at h2;split at h
 case h_2=>exact h.1.elim
 rename_i sj kvs eZ;obtain⟨Eg,hK⟩:=h;simp only at Eg;subst Eg;obtain⟨kt,vt,i,zv,hu,hk,hi,hz,rfl⟩:=kL ht;obtain⟨aL,CF⟩:=nc eZ;obtain⟨b,es,hb,hv,q2,q3,q4⟩:=hm.jc h1 CF
 obtain⟨f1,f2⟩:=CB (w:=w) (γ:=γ) (P:=P) hk fB (kvs:=kvs) (es:=es.toList) (Nm q3) fun j k' c x' g1 g2=>by
  obtain⟨p1,p2,_,p3⟩:=q4 j k' c x' g1 (Nm g2);exact⟨p1,p2,p3⟩
 have cn:=MapKept.run_getObj_map (P:=P) q2;have bS:=fun o=>CE (P:=P) b o q2;have gr:(Instr.checkKey false 10000 kt (Ym sj n)).run P w=.ok () w:=run_checkKey hk fB;have Sv:=qK fB h2;intro rd next Q hn
 cases hf:Xh n kvs 0 with
 |none=>
  rw[hf]at hK;have PJ:=f1 hf
  have aZ:(execOp a.eval ⟨dst,.mapEntry t x k,ty,pos,after,guard⟩).run P w=.ok (.value (.tuple #[zv,.int .i64 es.size])) (w.putObj b (.map (es.push ⟨Ym sj n,zv,es.size⟩) (es.size+1))):=by
   simp[execOp,Instr.mapEntry,run_underlying hu,hv,Sv,cn,gr,PJ,bS,zeroValue,typeInfo,hi,hz,goInt]
  obtain⟨g1,g2⟩:=hm.qN hb (AQ fB q3 q4 (Kc w γ zv));refine Zj aZ (hn _ _ γ _ _ hK rfl g1 ?_ ?_)
  ·rw[lX m id aL];exact g2
  rw[q3];exact(ak.cons (Kc _ γ zv) (ak.cons (.int .i64 _) ak.nil)).zF
 |some p=>
  obtain⟨j,c⟩:=p;rw[hf]at hK;obtain⟨vv,PJ,s2,s3,s4⟩:=f2 j c hf;have gQ:j<es.size:=zE
  have oP:=q4 j n c es[j] s4 (zzah gQ);have Iw:=oO (P:=P) (w:=w) (new:=Ym sj n) fB oP.2.1 rfl
  have aZ:(execOp a.eval ⟨dst,.mapEntry t x k,ty,pos,after,guard⟩).run P w=.ok (.value (.tuple #[vv,.int .i64 j])) (w.putObj b (.map (es.modify j fun q=>{q with key:=Ym sj n}) es.size)):=by
   simp[execOp,Instr.mapEntry,run_underlying hu,hv,Sv,cn,gr,PJ,gQ,Iw,bS,goInt,oP.2.2.1]
  have VR:kvs.set j (n,c)=kvs:=by
   apply zzdb;intro i;by_cases eG:j=i
   ·subst eG;rw[zzbg s3,s4]
   rw[zzbn eG]
  obtain⟨g1,g2⟩:=hm.qN hb (wq (j:=j) (c:=c) (f:=fun q=>{q with key:=Ym sj n}) fB q3 q4 s3 fun e he=>⟨rfl,rfl,(q4 j n c e s4 he).2.2.2⟩);rw[VR]at g2;refine Zj aZ (hn _ _ γ _ _ hK rfl g1 ?_ ?_)
  ·rw[lX m id aL];exact g2
  exact((ak.cons s2 (ak.cons (.int .i64 _) ak.nil)).mono g1).zF
def JR(hm:au N w0 an γ w m.B m.L){t:TypeId}{x k y:Operand}(h1:aA w γ (e (aC x)) (a.eval x))(h2:aA w γ (e (aC k)) (a.eval k))(h3:aA w γ (e (aC y)) (a.eval y))
  (h:((sop P gl orc e m dst (tr P ⟨dst,.entryStore t x k y,ty,pos,after,guard⟩)).1/\K (sop P gl orc e m dst (tr P ⟨dst,.entryStore t x k y,ty,pos,after,guard⟩)).2.1 (sop P gl orc e m dst (tr P ⟨dst,.entryStore t x k y,ty,pos,after,guard⟩)).2.2)):Kt N w0 an P ⟨dst,.entryStore t x k y,ty,pos,after,guard⟩ a γ w (m.st,m.ln) K:=by
 simp only[tr,sop]at h;split at h
 case h_2=>exact h.1.elim
 rename_i id kk i e1 e2;rw[e1]at h1;rw[e2]at h2;split at h
 case h_2=>exact h.1.elim
 rename_i kn kvs eZ;obtain⟨⟨⟨hi0,je⟩,hba⟩,hK⟩:=h;obtain⟨aL,CF⟩:=nc eZ;obtain⟨b,es,hb,hv,q2,q3,q4⟩:=hm.jc h1 CF;have cn:=MapKept.run_getObj_map (P:=P) q2;have bS:=fun o=>CE (P:=P) b o q2;obtain⟨j,rfl⟩:∃j:Nat,i=j:=⟨i.toNat,zE⟩;have gQ:j<es.size:=zE
 have tM:j<kvs.length:=zE
 have hfi:es.findIdx? (fun e=>(e.born:Int)==(j:Int))=some j:=by
  rw[Array.findIdx?_eq_some_iff_getElem];refine⟨gQ,by simp[Qem q3 q4 gQ],fun l hl=>?_⟩;have:=Qem q3 q4 (i:=l) zE;simp[this];omega
 have aZ:(execOp a.eval ⟨dst,.entryStore t x k y,ty,pos,after,guard⟩).run P w=.ok .skip (w.putObj b (.map (es.modify j fun q=>{q with val:=a.eval y}) es.size)):=by
  simp[execOp,Instr.entryStore,hv,cn,h2.aI,asInt,asIntOf,hfi,bS]
 have oP:=q4 j (kvs[j]'tM).1 (kvs[j]'tM).2 es[j] (by simp[tM]) (by simp[gQ])
 obtain⟨g1,g2⟩:=hm.qN hb (wq (j:=j) (n:=(kvs[j]'tM).1) (c:=e (aC y)) (f:=fun q=>{q with val:=a.eval y}) oP.1 q3 q4 tM fun e he=>⟨by
  have:=q4 j (kvs[j]'tM).1 (kvs[j]'tM).2 e (by simp[tM]) he;exact this.2.1,rfl,h3⟩)
 intro rd next Q hn
 have JM:(kvs.getD (Int.toNat (j:Int)) ([],.junk)).1=(kvs[j]'tM).1:=by simp[List.getD,tM]
 rw[JM]at hK;refine oF aZ (hn undef _ γ _ _ hK rfl g1 ?_ (.junk _));rw[lX m id aL];exact g2
def PV(hm:au N w0 an γ w m.B m.L){t:TypeId}{x:Operand}(h1:aA w γ (e (aC x)) (a.eval x))
  (h:((sop P gl orc e m dst (tr P ⟨dst,.range t x,ty,pos,after,guard⟩)).1/\K (sop P gl orc e m dst (tr P ⟨dst,.range t x,ty,pos,after,guard⟩)).2.1 (sop P gl orc e m dst (tr P ⟨dst,.range t x,ty,pos,after,guard⟩)).2.2)):Kt N w0 an P ⟨dst,.range t x,ty,pos,after,guard⟩ a γ w (m.st,m.ln) K:=by
 simp only[tr]at h;split at h
 case h_2=>exact h.1.elim
 rename_i p ht;obtain⟨kn,z⟩:=p;simp only[sop]at h;split at h
 case h_2=>exact h.1.elim
 rename_i id e1;rw[e1]at h1;split at h
 case h_2=>exact h.1.elim
 rename_i sj kvs eZ;obtain⟨kt,vt,i,zv,hu,hk,hi,hz,rfl⟩:=kL ht;obtain⟨aL,CF⟩:=nc eZ;obtain⟨b,es,hb,hv,q2,q3,q4⟩:=hm.jc h1 CF;have cI:m.B m.boxes.length=none:=by simp[AM.B]
 obtain⟨g1,g2⟩:=hm.JO _ cI (x:=.mitr id kvs.length []) (o:=.mapIter (some b) es.size #[] es.size) ⟨hb,q3.symm,q3.symm,rfl⟩
 have aZ:(execOp a.eval ⟨dst,.range t x,ty,pos,after,guard⟩).run P w=.ok (.value (.pointer (some ⟨w.heap.size,0,none⟩))) (w.alloc (.mapIter (some b) es.size #[] es.size)):=by
  simp[execOp,hv,run_range_map w t kt vt b es es.size hu q2]
 intro rd next Q hn
 refine Zj aZ (hn _ _ (γ.gA m.boxes.length w.heap.size) _ _ h.2 rfl g1 ?_ (.it (by simp[G.gA])));rw[Sw];exact g2
def JS(hm:au N w0 an γ w m.B m.L){t:TypeId}{l c:Operand}(h0:aA w γ (e (aC l)) (a.eval l))(h1:aA w γ (e (aC c)) (a.eval c))
  (h:((sop P gl orc e m dst (tr P ⟨dst,.makeSlice t l c,ty,pos,after,guard⟩)).1/\K (sop P gl orc e m dst (tr P ⟨dst,.makeSlice t l c,ty,pos,after,guard⟩)).2.1 (sop P gl orc e m dst (tr P ⟨dst,.makeSlice t l c,ty,pos,after,guard⟩)).2.2)):Kt N w0 an P ⟨dst,.makeSlice t l c,ty,pos,after,guard⟩ a γ w (m.st,m.ln) K:=by
 simp only[tr]at h;split at h
 case h_2=>exact h.1.elim
 rename_i te hu;split at h
 case h_3=>exact h.1.elim
 case h_2=>
  rename_i i hi CG;split at h
  case h_2=>exact h.1.elim
  rename_i zs Cw;obtain⟨i',z,dn,hz,JI⟩:=ja (w:=w) (γ:=γ) Cw;rw[hi]at dn;cases dn;simp only[sop]at h;split at h
  case h_2=>exact h.1.elim
  rename_i k1 n1 k2 n2 e1 e2;rw[e1]at h0;rw[e2]at h1;obtain⟨⟨⟨g0,g1,g2,g3⟩,g4,g5⟩,g6⟩:=h;have aZ:=run_make (P:=P) w t te i z hu hi hz k1 k2 n1 n2 g0 zE g2 g3;have aL:m.B m.boxes.length=none:=by simp[AM.B]
  have gz:=Yl JI g5;have EZ:z.cells.size=zs.length:=by have:=JI.1;simp at this;omega
  intro rd next Q hn
  refine Zj (v:=.slice (some ⟨w.heap.size,0,none⟩) n1.toNat n2.toNat) (w':=w.alloc (.cells (madeCells z.cells (n2.toNat*i.size)) te)) (by simp[execOp,h0.aI,h1.aI,aZ])
   (hn _ _ (γ.box m.boxes.length w.heap.size) _ _ g6 rfl (hm.dy _ aL _) ?_ ?_)
  ·rw[Sw]
   have zD:∀v∈(madeCells z.cells (n2.toNat*i.size)).toList,v.oneCell'=true:=fun v hv=>by
    simp[madeCells]at hv;obtain⟨k,hk,rfl⟩:=hv
    have h0:0<z.cells.size:=by
     rcases zzck z.cells.size with h0|h0
     ·rw[h0]at EZ;rw[<- g4,<- EZ]at hk;simp at hk
     exact h0
    have ah:k%z.cells.size<z.cells.size:=zzed _ h0;rw[getElem!_pos z.cells _ ah];exact gz _ zd
   refine hm.eY _ aL ⟨by simp[Ko,size_madeCells,g4],fun k c v j1 j2=>?_⟩ zD;obtain⟨q1,q2⟩:=kM j1
   have h0:0<zs.length:=by
    rcases zzck zs.length with h0|h0
    ·simp[h0]at q1
    exact h0
   have ah:k%zs.length<z.cells.size:=by rw[EZ];exact zzed _ h0
   have EV:v=z.cells[k%zs.length]:=by
    simp only[madeCells,zzcb,zzg]at j2;rw[zzah (by simp;rw[<- g4];exact q1)]at j2;simp[EZ]at j2;rw[<- j2,getElem!_pos z.cells _ ah]
   subst EV;exact JI.2 _ c _ q2 (by simp[ah])
  exact .bs (arr:=madeCells z.cells (n2.toNat*i.size)) (e:=te) (by simp[G.box]) zE (by show(w.heap.push _)[w.heap.size]?=_;simp) (by rw[zzbs,size_madeCells];exact zzab _)
 rename_i i hi;split at h
 case isFalse=>exact h.1.elim
 rename_i jb;simp only[zzac,beq_iff_eq,bne_iff_ne]at jb;obtain⟨jb,hi0⟩:=jb
 obtain⟨z,hz,Cw,hzo⟩:∃z,i.zero=some z/\z.cells.size=i.size/\∀v∈z.cells,v.oneCell'=true:=by
  cases hz:i.zero with
  |none=>simp[hz]at jb
  |some z=>
   simp[hz]at jb
   exact⟨z,rfl,jb.1,fun v hv=>by
    obtain⟨k,hk,rfl⟩:=zzgy.1 hv;exact jb.2 k hk⟩
 have VT:∀(n:Nat),z.cells.size≠0->∀v∈(madeCells z.cells n).toList,v.oneCell'=true:=fun n h0 v hv=>by
  simp[madeCells]at hv;obtain⟨k,hk,rfl⟩:=hv;have ah:k%z.cells.size<z.cells.size:=zzed _ zE;rw[getElem!_pos z.cells _ ah];exact hzo _ zd
 simp only[sop]at h;split at h
 case h_2=>exact h.1.elim
 rename_i kk n e1;rw[e1]at h1;have JJ:a.eval (.const (.int .i64 0))=.int .i64 0:=rfl;split at h
 ·split at h
  ·rename_i hc0;obtain⟨⟨g1,g2,g3⟩,g4⟩:=h;have aZ:=run_make (P:=P) w t te i z hu hi hz .i64 kk 0 n (zzby _) g1 g2 g3;intro rd next Q hn
   have aL:m.B m.boxes.length=none:=by simp[AM.B]
   refine Zj (v:=.slice (some ⟨w.heap.size,0,none⟩) 0 n.toNat) (w':=w.alloc (.cells (madeCells z.cells (n.toNat*i.size)) te)) (by simp[execOp,JJ,h1.aI,aZ])
    (hn _ _ (γ.box m.boxes.length w.heap.size) _ _ g4 rfl (hm.dy _ aL _) ?_ ?_)
   ·rw[Sw];exact hm.eY _ aL ⟨zd,fun k c v j1 j2=>by simp at j1⟩ (by rw[hc0];simp[madeCells])
   exact .sl (rows:=[]) w.heap.size 0 i.size (fun _ _=>undef) (zzbp _) (fun h=>(by cases h)) (fun h=>absurd rfl h) (fun _ h=>by cases h) (fun i j c h=>by simp[Qv]at h) (fun i j c h=>by simp[Qv]at h) (by simpa[qD]using hc0)
  obtain⟨⟨g1,g2,g3⟩,g4⟩:=h;have aZ:=run_make (P:=P) w t te i z hu hi hz .i64 kk 0 n (zzby _) g1 g2 g3;have aL:m.B m.boxes.length=none:=by simp[AM.B]
  intro rd next Q hn
  refine Zj (v:=.slice (some ⟨w.heap.size,0,none⟩) 0 n.toNat) (w':=w.alloc (.cells (madeCells z.cells (n.toNat*i.size)) te)) (by simp[execOp,JJ,h1.aI,aZ])
   (hn _ _ (γ.box m.boxes.length w.heap.size) _ _ g4 rfl (hm.dy _ aL _) ?_ ?_)
  ·rw[Sw];refine hm.eY _ aL ⟨by simp[size_madeCells],fun k c v j1 j2=>?_⟩ (VT _ zE);simp[zzcm]at j1;rw[<- j1.2];exact .junk _
  exact .bs (arr:=madeCells z.cells (n.toNat*i.size)) (e:=te) (by simp[G.box]) zE (by show(w.heap.push _)[w.heap.size]?=_;simp) (by rw[zzbs,size_madeCells];exact zzab _)
 obtain⟨⟨g1,g2,g3⟩,g4⟩:=h;have aZ:=run_make (P:=P) w t te i z hu hi hz .i64 kk 0 n (zzby _) g1 g2 g3;have hL:m.L m.lens.length=none:=by simp[AM.L]
 have cZ:γ.cur m.lens.length=0:=hm.cur0 _ hL
 have cr:γ.own m.lens.length=none:=by
  cases h:γ.own m.lens.length with
  |none=>rfl
  |some b=>obtain⟨_,_,k,hk⟩:=hm.own _ _ h;rw[hL]at hk;cases hk
 intro rd next Q hn
 let o:Obj:=.cells (madeCells z.cells (n.toNat*i.size)) te
 refine Zj (v:=.slice (some ⟨w.heap.size,0,none⟩) 0 n.toNat) (w':=w.alloc o) (by simp[execOp,JJ,h1.aI,aZ,o])
  (hn _ _ (γ.renew m.lens.length w.heap.size 0 0) _ _ g4 rfl (hm.fJ (q:=0) zE (fun _=>cr) o) ?_ ?_)
 ·rw[CD];exact hm.renew zE (fun _=>cr) o
 refine .sl (rows:=[]) w.heap.size 0 i.size (fun _ _=>undef) (zzbp _) (fun h=>(by cases h)) (fun h=>absurd rfl h) (fun _ h=>by cases h) (fun i j c h=>by simp[Qv]at h) (fun i j c h=>by simp[Qv]at h) ?_;refine⟨rfl,zzbp _,fun _=>.inr ⟨w.heap.size,0,madeCells z.cells (n.toNat*i.size),te,rfl,by simp[G.renew],by show(w.heap.push _)[w.heap.size]?=_;simp[o],by simp[size_madeCells],fun o' _ hr=>?_⟩⟩;obtain hr|⟨_,hr⟩:=hr
 ·have:=hm.robd _ _ hr;omega
 omega
def PW(hm:au N w0 an γ w m.B m.L)(lG:∀g,aA w γ.cU (gl g) (.pointer (some ⟨g,0,none⟩))){t:TypeId}{len:Nat}{parts:Array (Nat×Operand)}(he:∀x∈(Op.buildSlice t len parts).operands,aA w γ (e (aC x)) (a.eval x))
  (h:((sop P gl orc e m dst (tr P ⟨dst,.buildSlice t len parts,ty,pos,after,guard⟩)).1/\K (sop P gl orc e m dst (tr P ⟨dst,.buildSlice t len parts,ty,pos,after,guard⟩)).2.1 (sop P gl orc e m dst (tr P ⟨dst,.buildSlice t len parts,ty,pos,after,guard⟩)).2.2)):
  Kt N w0 an P ⟨dst,.buildSlice t len parts,ty,pos,after,guard⟩ a γ w (m.st,m.ln) K:=by
 by_cases hmut:mutO orc dst=true
 case neg=>
  refine qL (o:=⟨dst,.buildSlice t len parts,ty,pos,after,guard⟩) (orc:=orc) hm lG he ?_;simp only[tr]at h |-
  repeat' split at h
  all_goals first|exact h.1.elim|skip
  simp only[sop,if_neg hmut]at h;simp_all
 have h1:∀p∈parts,aA w γ (e (aC p.2)) (a.eval p.2):=fun p hp=>he p.2 (by simp[Op.operands];exact⟨p.1,hp⟩);simp only[tr]at h;split at h
 case h_2=>exact h.1.elim
 rename_i te hu;split at h
 case h_2=>exact h.1.elim
 rename_i i hi;split at h
 case isFalse=>exact h.1.elim
 rename_i bR;simp only[zzac,beq_iff_eq,bne_iff_ne,decide_eq_true_eq]at bR;obtain⟨⟨hz,Nt⟩,vT⟩:=bR;cases jb:i.zero with
 |none=>simp[jb]at hz
 |some z=>
  simp[jb]at hz;simp only[sop,if_pos hmut]at h;obtain⟨⟨fA,Cy⟩,hk⟩:=h
  let dY:P1:=(Array.range (len*i.size)).map (z.cells[·%z.cells.size]!)
  have Cz:ak w γ (List.replicate (len*i.size) .junk) dY.toList:=by
   refine⟨by simp[dY],fun j x v hj _=>?_⟩;simp[zzcm]at hj;rw[<- hj.2];exact .junk _
  obtain⟨cells,f1,f2,f3⟩:=Qbs (w:=w) (γ:=γ) (place:=fun j=>some (j*i.size,i.size)) (parts.toList.map fun p=>(p.1*i.size,i.size,e (aC p.2))) (parts.toList.map fun p=>(p.1,a.eval p.2)) _ dY zd (fun j p q dX oq=>by
    simp at dX oq;obtain⟨x1,x2,Pr,rfl⟩:=dX;obtain⟨y1,y2,hy1,rfl⟩:=oq;rw[Pr]at hy1;cases hy1;exact⟨rfl,h1 (x1,x2) (zzdd Pr)⟩) Cz (by simpa[Function.comp_def]using fA)
  have hq':(Qdj (List.replicate (len*i.size) .junk) ((parts.toList.map fun p=>(p.1,aC p.2)).map fun p=>(p.1*i.size,i.size,e p.2))).2=(Qdj (List.replicate (len*i.size) .junk) (parts.toList.map fun p=>(p.1*i.size,i.size,e (aC p.2)))).2:=by
   simp[Function.comp_def]
  rw[hq']at Cy hk;have fC:cells.size=len*i.size:=by rw[f3];simp[dY]
  have aZ:(execOp a.eval ⟨dst,.buildSlice t len parts,ty,pos,after,guard⟩).run P w=.ok (.value (.slice (some ⟨w.heap.size,0,none⟩) len len)) (w.alloc (.cells cells te)):=by
   have U8:¬(16777216<len*i.size):=zE
   by_cases qp:len*i.size=0
   ·have fc:dY=(Array.range (len*i.size)).map ((#[]:P1)[·%(#[]:P1).size]!):=by
     simp[dY,qp]
    rw[fc]at f1
    have gP:len=0:=by
     rcases Nat.mul_eq_zero.1 qp with h|h
     ·exact h
     exact absurd h Nt
    simp[qp]at f1;simp[execOp,Instr.buildSlice,run_underlying hu,sizeOf,typeInfo,hi,qp,f1,newRow]
   simp only[execOp,Instr.buildSlice];have f1':Instr.fill (fun j=>some (j*i.size,i.size)) ((Array.range (len*i.size)).map (z.cells[·%z.cells.size]!)) (parts.toList.map fun p=>(p.1,a.eval p.2))=some cells:=f1;simp[run_underlying hu,sizeOf,typeInfo,zeroValue,hi,jb,qp,U8,f1',newRow]
  have aL:m.B m.boxes.length=none:=by simp[AM.B]
  intro rd next Q hn
  refine Zj aZ (hn _ _ (γ.box m.boxes.length w.heap.size) _ _ hk rfl (hm.dy _ aL _) ?_ ?_)
  ·rw[Sw];exact hm.eY _ aL f2.toP (Yl f2 Cy)
  exact .bs (arr:=cells) (e:=te) (by simp[G.box]) (zzab _) (by show(w.heap.push _)[w.heap.size]?=_;simp) (by rw[zzbs,fC];exact zzab _)
def AR(hm:au N w0 an γ w m.B m.L)(lG:∀g,aA w γ.cU (gl g) (.pointer (some ⟨g,0,none⟩)))
  (he:∀x∈o.op.operands,aA w γ (e (aC x)) (a.eval x))(h:((sop P gl orc e m o.dst (tr P o)).1/\K (sop P gl orc e m o.dst (tr P o)).2.1 (sop P gl orc e m o.dst (tr P o)).2.2)):Kt N w0 an P o a γ w (m.st,m.ln) K:=by
 have ux:sop P gl orc e m o.dst (tr P o)=((rop P gl orc e m o.dst (tr P o)).1,(rop P gl orc e m o.dst (tr P o)).2,m)->Kt N w0 an P o a γ w (m.st,m.ln) K:=fun hg=>
  qL hm lG he (by rw[hg]at h;exact h)
 obtain⟨dst,op,ty,pos,after,guard⟩:=o;cases op with
 |alloc t=>exact EX hm h
 |box t x=>exact PN hm (he x (by simp[Op.operands])) h
 |store t x y=>exact EY hm (he x (by simp[Op.operands])) (he y (by simp[Op.operands])) h
 |call c=>exact PS hm lG he h
 |makeMap t r=>exact E3 hm h
 |mapUpdate t x k y=>exact JP hm (he x (by simp[Op.operands])) (he k (by simp[Op.operands])) (he y (by simp[Op.operands])) h
 |mapEntry t x k=>exact JQ hm (he x (by simp[Op.operands])) (he k (by simp[Op.operands])) h
 |entryStore t x k y=>exact JR hm (he x (by simp[Op.operands])) (he k (by simp[Op.operands])) (he y (by simp[Op.operands])) h
 |range t x=>exact PV hm (he x (by simp[Op.operands])) h
 |next x s=>refine ux ?_;cases s<;>rfl
 |makeSlice t l c=>exact JS hm (he l (by simp[Op.operands])) (he c (by simp[Op.operands])) h
 |buildSlice t len parts=>exact PW hm lG he h
 |binOp op t x y t'=>
  refine ux ?_;simp only[tr,lW,Qco,zA];repeat' split
  all_goals rfl
 |build t parts=>
  refine ux ?_;simp only[tr,Wq];repeat' split
  all_goals rfl
 |slice t x lo hi mx=>refine ux ?_;cases mx<;>simp only[tr]<;>(repeat' split)<;>rfl
 |makeFunc fn first cap=>refine ux ?_;cases fn<;>rfl
 |_=>first|exact ux rfl|(
  refine ux ?_;simp only[tr];repeat' split
  all_goals rfl)
end
open Go Go.RowKit
structure SO where
 dst:Option Nat
 op:aF
 guard:Option (Option Nat×Bool)
 xs:List bE
def Xe(P:Program)(ops:Array Oper)(o:Oper):SO:=
 {dst:=o.dst,op:=tr P o,guard:=o.guard.map fun p=>((ops[p.1]?).bind (·.dst),p.2),xs:=if o.guard.isSome then o.op.operands.toList.map aC else[]}
structure AS where
 T:P2
 m:AM
abbrev R0:=Exit->AS->Prop
def put(T:P2)(dst:Option Nat)(a:AV):P2:=match dst with|some d=>T.set d a|none=>T
def strip:AV->AV
 |.gd _ a=>a
 |a=>a
def evS(gl:Nat->AV)(T:P2)(x:bE):AV:=strip (ev gl T x)
def gok(gl:Nat->AV)(T:P2)(g:Bool):List bE->Prop
 |[]=>True
 |x::r=>(match ev gl T x with|.gd g' _=>(g=true->g'=true)|_=>True)/\gok gl T g r
def rawOp:aF->Bool
 |.pick _ _ _=>true
 |_=>false
def evG(gl:Nat->AV)(T:P2)(op:aF):bE->AV:=bif rawOp op then ev gl T else evS gl T
def gxs(op:aF)(xs:List bE):List bE:=bif rawOp op then[]else xs
def Eh(want:Bool):AV->Option Bool
 |.bool g=>some (g==want)
 |.gd d (.bool b)=>some (d&&(b==want))
 |.gd false _=>some false
 |_=>none
abbrev YT:=Nat->P2->AM->(Bool->AM->Prop)->Prop
def qO:Exit->Option Code
 |.ret=>some .ret
 |.exit id=>some (.exit id)
 |_=>none
def JT:LS->Loop->Prop
 |.gone,_=>True
 |.ready,r=>r.state=.ready/\r.pending=none
 |.busy,r=>r.state=.busy
 |.done ex,r=>r.state=.done/\r.pending=qO ex/\(qO ex).isSome=true
def cS(γ:G)(w:World)(m:AM):Prop:=(∀i,m.st i=.gone\/∃l,γ.lp i=some l/\γ.sp l/\∃r,w.heap[l]?=some (.loop r)/\JT (m.st i) r)/\
 (∀i,m.ln<=i->γ.lp i=none)/\(∀i j l,γ.lp i=some l->γ.lp j=some l->i=j)/\∀i l,γ.lp i=some l->γ.sp l/\∃r,w.heap[l]?=some (.loop r)
def cS.mono'{γ:G}{w:World}{m m':AM}(h:cS γ w m){γ':G}{w':World}(e:Ev w γ w' γ')(hm:(m'.st,m'.ln)=(m.st,m.ln)):cS γ' w' m':=by
 simp only[Prod.mk.injEq]at hm;unfold cS;rw[hm.1,hm.2,e.lp];exact⟨fun i=>(h.1 i).imp_right fun⟨l,h0,h1,r,h2,h3⟩=>⟨l,h0,(e.sp l h1).1,r,(e.sp l h1).2.trans h2,h3⟩,h.2.1,h.2.2.1,fun i l hl=>let⟨h1,r,h2⟩:=h.2.2.2 i l hl;⟨(e.sp l h1).1,r,(e.sp l h1).2.trans h2⟩⟩
def cS.mono{γ:G}{w:World}{m:AM}(h:cS γ w m){γ':G}{w':World}(e:Ev w γ w' γ'):cS γ' w' m:=h.mono' e rfl
def YOK(N:Nat)(w0:eR)(an:Nat->Nat->Prop)(P:Program)(Y:YT)(γ:G)(w:World):Prop:=∀(γ':G)(w':World),eD w γ w' γ'->∀(i:Nat)(args:P2)(m:AM)(K:Bool->AM->Prop)(vs:PQ),
 au N w0 an γ' w' m.B m.L->cS γ' w' m->ak w' γ' args vs->Y i args m K->∀l,γ'.lp i=some l->
 YieldAt (FW none) 0 P l vs.toArray w' fun e qF=>∃b Ee lH,e=.returned (.bool b)/\eD w' γ' qF Ee/\au N w0 an Ee qF lH.B lH.L/\cS Ee qF lH/\K b lH
def YOK.mono{N:Nat}{w0:eR}{an:Nat->Nat->Prop}{P:Program}{Y:YT}{γ:G}{w:World}(h:YOK N w0 an P Y γ w){γ':G}{w':World}(e:eD w γ w' γ'):YOK N w0 an P Y γ' w':=
 fun Ee qF e'=>h Ee qF (e.trans e')
def aB(P:Program)(gl:Nat->AV)(Y:YT)(f:FuncId)(as':P2)(m:AM)(K:So):Prop:=
 bz P f/\∀(N:Nat)(w0:eR)(an:Nat->Nat->Prop)(γ:G)(w:World)(vs:PQ),au N w0 an γ w m.B m.L->cS γ w m->(∀g,aA w γ.cU (gl g) (.pointer (some ⟨g,0,none⟩)))->
  YOK N w0 an P Y γ w->ak w γ as' vs->
  CallsIn (FW none) 0 P f vs.toArray w fun e w'=>∃v γ' r m',e=.returned v/\eD w γ w' γ'/\au N w0 an γ' w' m'.B m'.L/\cS γ' w' m'/\aA w' γ' r v/\K r m'
section vc
variable (P:Program) (gl:Nat->AV) (orc:UV) (Y:YT)
def effy(e:bE->AV)(m:AM)(dst:Option Nat):aF->Bool
 |.call f args=>(match e f with
  |.yld _=>true
  |.fn f first cap=>(match orc (dst.getD 0) f ((first++args.map e++cap).map (bA m 6))with|.gd false _=>true|_=>false)
  |_=>false)
 |.nxt _=>true
 |_=>false
def vcNxt(m:AM)(K:So):AV->Prop
 |.it id=>(match m.boxes.getD id []with
  |[.mitr mid n seen]=>(match m.boxes.getD mid []with
   |[.aJ kn kvs]=>kvs.length=n/\(∀i k c,kvs[i]?=some (k,c)->i ∉ seen->K (.aS [.bool true,keyAV kn k,c]) {m with boxes:=m.boxes.set id [.mitr mid n (seen++[i])]})/\
     ((∀i,i<n->i∈seen)->K (.aS [.bool false]) m)
   |_=>False)
  |_=>False)
 |_=>False
def Qao(e:bE->AV)(m:AM)(K:So):aF->Prop
 |.call f args=>(match e f with
  |.yld l=>Y l (args.map e) m fun b m'=>K (.bool b) m'
  |.fn f first cap=>aB P gl Y f (first++args.map e++cap) m K
  |_=>False)
 |.nxt x=>vcNxt m K (e x)
 |_=>False
def Zo:List SO->AS->(AS->Prop)->Prop
 |[],s,K=>K s
 |o::rest,s,K=>match o.guard with
  |none=>if effy orc (ev gl s.T) s.m o.dst o.op=true then Qao P gl Y (ev gl s.T) s.m (fun av m'=>Zo rest ⟨put s.T o.dst av,m'⟩ K) o.op
   else(sop P gl orc (ev gl s.T) s.m o.dst o.op).1/\Zo rest ⟨put s.T o.dst (sop P gl orc (ev gl s.T) s.m o.dst o.op).2.1,(sop P gl orc (ev gl s.T) s.m o.dst o.op).2.2⟩ K
  |some (some t,want)=>match Eh want (s.T.getD t .junk)with
   |some gw=>gok gl s.T gw (gxs o.op o.xs)/\
     if effy orc (evG gl s.T o.op) s.m o.dst o.op=true then
      (gw=true->Qao P gl Y (evG gl s.T o.op) s.m (fun av m'=>Zo rest ⟨put s.T o.dst (.gd true av),m'⟩ K) o.op)/\(gw=false->Zo rest ⟨put s.T o.dst (.gd false (.bool false)),s.m⟩ K)
     else(gw=true->(rop P gl orc (evG gl s.T o.op) s.m o.dst o.op).1)/\
      Zo rest ⟨put s.T o.dst (.gd gw (rop P gl orc (evG gl s.T o.op) s.m o.dst o.op).2),s.m⟩ K
   |none=>False
  |some (none,_)=>False
end vc
def Dfr(n0:Nat)(γ:G)(w:World)(ds:List Deferred):Prop:=
 n0<=w.heap.size/\(∀x∈ds,∃D,x.target=.collected D/\n0<=D/\γ.sp D/\w.heap[D]?=some (.deferred (some [])))/\ds.Pairwise fun x y=>∀D,x.target=.collected D->y.target≠.collected D
def Dfr.aU{n0:Nat}{γ:G}{w:World}{ds:List Deferred}(h:Dfr n0 γ w ds){γ':G}{w':World}(e:eD w γ w' γ'):Dfr n0 γ' w' ds:=
 ⟨zzbc h.1 e.size,fun x hx=>let⟨D,h1,h0,h2,h3⟩:=h.2.1 x hx;⟨D,h1,h0,(e.sp D h2).1,by
  rcases(e.sp D h2).2 with h|⟨r,_,_,h,_⟩
  ·exact h.trans h3
  rw[h3]at h;cases h⟩,h.2.2⟩
def Rdr(r:Option Nat)(γ:G)(w:World):Prop:=∀l,r=some l->γ.sp l/\∃rec,w.heap[l]?=some (.loop rec)
def Rdr.aU{r:Option Nat}{γ:G}{w:World}(h:Rdr r γ w){γ':G}{w':World}(e:eD w γ w' γ'):Rdr r γ' w':=
 fun l hl=>let⟨h1,rec,h2⟩:=h l hl;⟨(e.sp l h1).1,by
  rcases(e.sp l h1).2 with h|⟨r,s,p,_,h⟩
  ·exact⟨rec,h.trans h2⟩
  exact⟨_,h⟩⟩
structure ew (N:Nat) (w0:eR) (r:Option Nat) (an:Nat->Nat->Prop) (S:G×World) (P:Program) (gl:Nat->AV) (Y:YT) (γ:G) (w:World) (s:AS) (a:Act):Prop where
 m:au N w0 an γ w s.m.B s.m.L
 ls:cS γ w s.m
 rd:Rdr r γ w
 t:ak w γ s.T a.tmps.toList
 d:Dfr S.2.heap.size γ w a.defers
 g:∀g,aA w γ.cU (gl g) (.pointer (some ⟨g,0,none⟩))
 y:YOK N w0 an P Y γ w
 e:eD S.2 S.1 w γ
section
variable {N:Nat} {w0:eR} {r:Option Nat} {an:Nat->Nat->Prop} {S:G×World} {Y:YT} {γ:G} {w:World} {P:Program} {gl:Nat->AV} {orc:UV} {s:AS} {a:Act}
def ew.ev(h:ew N w0 r an S P gl Y γ w s a)(x:Operand):aA w γ (ev gl s.T (aC x)) (a.eval x):=by
 cases x with
 |tmp t=>
  have:=h.t.get t;simpa[Abs.ev,aC,Act.eval,List.getD]using this
 |const v=>exact Kc w γ v
 |func f=>exact .fn rfl (fun i c v h=>by simp at h) rfl fun i c v h=>by simp at h
 |global g=>exact(h.g g).gp
def ew.ak4(h:ew N w0 r an S P gl Y γ w s a){dst:Option Nat}{av:AV}{v:Value}{w':World}{γ':G}{m':AM}(e:eD w γ w' γ')(hm:au N w0 an γ' w' m'.B m'.L)(hl:cS γ' w' m')(hr:aA w' γ' av v):
  ew N w0 r an S P gl Y γ' w' ⟨Abs.put s.T dst av,m'⟩ (a.put dst v):=by
 refine⟨hm,hl,h.rd.aU e,?_,?_,fun g=>(h.g g).aU e.cU,h.y.mono e,h.e.trans e⟩
 ·cases dst with
  |none=>exact h.t.aU e
  |some d=>
   simp only[Abs.put,Act.put,zzdn];exact(h.t.aU e).set d hr
 cases dst<;>exact h.d.aU e
def ew.put(h:ew N w0 r an S P gl Y γ w s a){dst:Option Nat}{av:AV}{v:Value}{w':World}{γ':G}{m':AM}(e:Ev w γ w' γ')(hm:au N w0 an γ' w' m'.B m'.L)(ho:(m'.st,m'.ln)=(s.m.st,s.m.ln))(hr:aA w' γ' av v):
  ew N w0 r an S P gl Y γ' w' ⟨Abs.put s.T dst av,m'⟩ (a.put dst v):=h.ak4 e.cH hm (h.ls.mono' e ho) hr
def CH{T:P2}{g:Bool}:∀{xs:List bE},gok gl T g xs->∀x∈xs,∀g' b,Abs.ev gl T x=.gd g' b->g=true->g'=true
 |[],_,x,hx,_,_,_,_=>by cases hx
 |y::ys,h,x,hx,g',b,he,hg=>by
  obtain⟨h1,h2⟩:=h;rcases zzam.1 hx with rfl|hx
  ·rw[he]at h1;exact h1 hg
  exact CH h2 x hx g' b he hg
def AT{x:AV}{v:Value}(h:aA w γ x v)(hg:∀g b,x=.gd g b->g=true):aA w γ (strip x) v:=by
 cases x<;>first|exact h|skip
 rename_i g b;exact h.Cs (hg g b rfl)
def E5{c:Call}{fo:bE}{xs:List bE}(h:Zt P c=.call fo xs):∃(f:Operand)(as':Array Operand)(ts:Array TypeId),c=⟨.value f,as',ts⟩/\fo=aC f/\xs=as'.toList.map aC:=by
 obtain⟨callee,args,ts⟩:=c;cases callee with
 |value f=>cases h;exact⟨f,args,ts,rfl,rfl,rfl⟩
 |invoke r n=>cases h
 |builtin b=>cases b<;>simp only[Zt]at h<;>(repeat' split at h)<;>cases h
def adP{o:Oper}{fo:bE}{xs:List bE}(h:tr P o=.call fo xs):∃(f:Operand)(as':Array Operand)(ts:Array TypeId),o.op=.call ⟨.value f,as',ts⟩/\fo=aC f/\xs=as'.toList.map aC:=by
 obtain⟨dst,op,ty,pos,after,guard⟩:=o;cases op
 case call c=>
  obtain⟨f,as',ts,rfl,h1,h2⟩:=E5 h;exact⟨f,as',ts,rfl,h1,h2⟩
 case next x s=>cases s<;>cases h
 case build t parts=>
  simp only[tr,Wq]at h;repeat' split at h
  all_goals cases h
 case slice t x lo hi mx=>cases mx<;>simp only[tr]at h<;>(repeat' split at h)<;>cases h
 case makeFunc fn a b=>cases fn<;>cases h
 case makeMap t r=>cases r<;>simp only[tr]at h<;>(try split at h)<;>cases h
 case binOp op t x y t'=>
  simp only[tr,lW,Qco,zA]at h;repeat' split at h
  all_goals cases h
 all_goals first|(cases h;done)|(
  simp only[tr]at h;repeat' split at h
  all_goals cases h)
def ak5{o:Oper}{xo:bE}(h:tr P o=.nxt xo):∃x:Operand,o.op=.next x false/\xo=aC x:=by
 obtain⟨dst,op,ty,pos,after,guard⟩:=o;cases op
 case next x s=>cases s<;>cases h;exact⟨x,rfl,rfl⟩
 case build t parts=>
  simp only[tr,Wq]at h;repeat' split at h
  all_goals cases h
 case slice t x lo hi mx=>cases mx<;>simp only[tr]at h<;>(repeat' split at h)<;>cases h
 case makeFunc fn a b=>cases fn<;>cases h
 case makeMap t r=>cases r<;>simp only[tr]at h<;>(try split at h)<;>cases h
 case binOp op t x y t'=>
  simp only[tr,lW,Qco,zA]at h;repeat' split at h
  all_goals cases h
 case call c=>
  obtain⟨callee,args,ts⟩:=c;cases callee with
  |value f=>cases h
  |invoke r n=>cases h
  |builtin b=>cases b<;>simp only[tr,Zt]at h<;>(repeat' split at h)<;>cases h
 all_goals first|(cases h;done)|(
  simp only[tr]at h;repeat' split at h
  all_goals cases h)
def au.aij{B:Nat->PH}{L:Nat->Option Nat}(hm:au N w0 an γ w B L):au N w0 an γ w.drew B L/\Ev w γ w.drew γ:=by
 have bP:Ev w γ w.drew γ:=⟨zzab _,fun _ _ _ h=>⟨h,rfl⟩,fun _ _ h=>h,fun _=>zzab _,fun _ _ h=>h,rfl,fun _ _ _ ho=>⟨ho,fun arr _ he=>⟨arr,he,zzab _⟩,fun _ h=>h⟩,fun _ h=>⟨h,rfl⟩,Sz.of_same fun _ _=>rfl⟩;refine⟨⟨w0.st _ _ _ _ hm.bs ⟨rfl,rfl,rfl,zzab _,fun _ _ _=>rfl,bP.ro,fun _ h=>.inl h,fun _ _ h=>.inl h⟩,hm.hN,hm.an,hm.robd,fun i cells b hb h1=>?_,hm.β,hm.inj,hm.own,hm.oinj,hm.sp,fun i b hb=>?_,hm.minj,hm.len,hm.cur0⟩,bP⟩
 ·obtain⟨arr,e,h2,h3,h4⟩:=hm.box i cells b hb h1;exact⟨arr,e,h2,h3.mono bP,h4⟩
 obtain⟨h1,h2,h3,h4,h5,h6,h8,h7⟩:=hm.mm i b hb;exact⟨h1,h2,h3,h4,h5,h6,h8,h7.mono bP.cH.AB rfl⟩
def wz{es:Array MapEntry}{seen:Array Nat}{x:MapEntry}:x∈(leftOf es seen).toList<->x∈es.toList/\x.born ∉ seen.toList:=by
 simp[leftOf]
def PX{m:AM}(hm:au N w0 an γ w m.B m.L){x:AV}{v:Value}{K:So}(h1:aA w γ x v)(h:vcNxt m K x)(ty:TypeId):
  ∃u w' av m',(Instr.next v false ty).run P w=.ok u w'/\K av m'/\Ev w γ w' γ/\au N w0 an γ w' m'.B m'.L/\aA w' γ av u/\(m'.st,m'.ln)=(m.st,m.ln):=by
 unfold vcNxt at h;split at h
 case h_2=>exact h.elim
 rename_i id;split at h
 case h_2=>exact h.elim
 rename_i mid n seen eZ;split at h
 case h_2=>exact h.elim
 rename_i kn kvs gO;obtain⟨hn,VU,hK2⟩:=h;obtain⟨aL,CF⟩:=nc eZ;obtain⟨VV,aqY⟩:=nc gO;obtain⟨b,mb,hb,rfl,q1,q2⟩:=hm.Nu h1 CF;obtain⟨b',es,cM,EV,q3,q4,q5⟩:=hm.jc (v:=.map (some mb)) (.mp q2) aqY;cases EV
 have VH:∀y∈es.toList,y.born<n:=fun y hy=>by
  obtain⟨j,hj,rfl⟩:=zzft hy;simp at hj;have:=Qem q4 q5 hj;simp only[Array.getElem_toList];omega
 rcases run_next_at (P:=P) w ty b mb n n seen.toArray es es.size q1 q3 VH (zzab _)with⟨g1,g2⟩|⟨y,g1,w1,g2,g3⟩
 ·refine⟨_,w,.aS [.bool false],m,g2,hK2 fun i hi=>?_,Ev.refl w γ,hm,(ak.cons (.bool false) ak.nil).zF,rfl⟩;have hie:i<es.size:=zE
  have hnil:leftOf es seen.toArray=#[]:=zzem g1;have:es[i] ∉ (leftOf es seen.toArray).toList:=by rw[hnil];simp
  rw[wz]at this;simp only[not_and,Decidable.not_not]at this;have:=this zd;rw[Qem q4 q5 hie]at this;simpa using this
 obtain⟨g4,g5⟩:=wz.1 g1;obtain⟨i,hi,rfl⟩:=zzft g4;simp at hi;simp only[Array.getElem_toList]at g3 g5;have cz:=Qem q4 q5 hi;have qP:i<kvs.length:=zE
 obtain⟨p1,p2,_,p3⟩:=q5 i (kvs[i]'qP).1 (kvs[i]'qP).2 es[i] (by simp[qP]) (by simp[hi])
 have tN:au N w0 an γ w1 m.B m.L/\Ev w γ w1 γ:=by
  obtain rfl|rfl:=g2
  ·exact⟨hm,Ev.refl _ γ⟩
  exact hm.aij
 obtain⟨tN,fe⟩:=tN;obtain⟨f1,f2⟩:=tN.qN hb (x:=.mitr mid n (seen++[i])) (o:=.mapIter (some mb) n (seen.toArray.push es[i].born) es.size) ⟨q2,rfl,zE,by simp[cz]⟩;refine⟨_,_,_,_,g3,VU i (kvs[i]'qP).1 (kvs[i]'qP).2 (by simp[qP]) (by rw[cz]at g5;simpa using g5),fe.trans f1,?_,?_,rfl⟩
 ·rw[lX m id aL];exact f2
 rw[p2];exact((ak.cons (.bool true) (ak.cons (AK p1) (ak.cons p3 ak.nil))).mono (fe.trans f1)).zF
def Qdm{o:Oper}{e:bE->AV}{Q:PP}{K:So}(hs:ew N w0 r an S P gl Y γ w s a)(he:∀x∈o.op.operands,aA w γ (e (aC x)) (a.eval x))(h:Qao P gl Y e s.m K (tr P o))
  {next:Act->World->Prop}(hn:∀v w' γ' av m',K av m'->eD w γ w' γ'->au N w0 an γ' w' m'.B m'.L->cS γ' w' m'->aA w' γ' av v->next (a.put o.dst v) w'):o.wpIn (FW r) 0 P a w next Q:=by
 obtain⟨dst,op,ty,pos,after,guard⟩:=o;cases dw:tr P ⟨dst,op,ty,pos,after,guard⟩with
 |call fo args=>
  rw[dw]at h;obtain⟨f,as',ts,rfl,rfl,rfl⟩:∃(f:Operand)(as':Array Operand)(ts:Array TypeId),op=.call ⟨.value f,as',ts⟩/\fo=aC f/\args=as'.toList.map aC:=by simpa using adP dw
  simp only[Qao]at h;have h1:=he f (by simp[Op.operands,Call.operands]);have h2:∀x∈as',aA w γ (e (aC x)) (a.eval x):=fun x hx=>he x (by simp[Op.operands,Call.operands,hx]);have oG:=AN h2;split at h
  ·rename_i i e1;rw[e1]at h1
   obtain⟨l,hl,hv⟩:∃l,γ.lp i=some l/\a.eval f=.func (.yield l) #[] #[]:=by
    generalize a.eval f=v at h1;cases h1 with
    |yld h=>exact⟨_,h,rfl⟩
   obtain⟨fn,tmps,assign,body,hy,hR⟩:=hs.y γ w (Ev.refl w γ).cH i _ s.m _ _ hs.m hs.ls oG h l hl
   have aZ:(execOp a.eval ⟨dst,.call ⟨.value f,as',ts⟩,ty,pos,after,guard⟩).run P w=.ok (.round l fn tmps assign body) w:=by
    rw[Array.toArray_toList]at hy;simpa[execOp,resolve,hv,Deferred.ofValue,invoke]using hy
   refine wp_run aZ (fun _ h=>by cases h) ?_;rw[Oper.uponIn_round];refine⟨fun h=>by simp[FW,Fence.wide]at h,RoundIn.mono hR ?_⟩;rintro en w' ⟨b,γ',m',rfl,g1,g2,g3,g4⟩;exact hn _ _ _ _ _ g4 g1 g2 g3 (.bool b)
  ·rename_i g first cap e1
   rw[e1]at h1;obtain⟨fa,ca,hv,r1,r2⟩:=h1.qG
   have aZ:(execOp a.eval ⟨dst,.call ⟨.value f,as',ts⟩,ty,pos,after,guard⟩).run P w=.ok (.enter g ((fa.toList++(as'.map a.eval).toList++ca.toList).toArray)) w:=by
    simp[execOp,resolve,hv,Deferred.ofValue,invoke,Qea h.1]
   refine wp_run aZ (fun _ h=>by cases h) ⟨fun h=>by simp[FW,Fence.wide]at h,?_⟩;refine CallsIn.mono (h.2 N w0 an γ w _ hs.m hs.ls hs.g hs.y ((r1.append oG).append r2)) ?_;rintro en w' ⟨v,γ',r',m',rfl,g1,g2,g3,g4,g5⟩;exact hn v w' γ' r' m' g5 g1 g2 g3 g4
  exact h.elim
 |nxt xo=>
  rw[dw]at h;obtain⟨x,rfl,rfl⟩:∃x:Operand,op=.next x false/\xo=aC x:=by simpa using ak5 dw
  simp only[Qao]at h;obtain⟨u,w',av,m',g1,g2,g3,g4,g5,g6⟩:=PX (P:=P) hs.m (he x (by simp[Op.operands])) h ty;exact Zj (v:=u) (w':=w') (by simp[execOp,g1]) (hn u w' γ av m' g2 g3.cH g4 (hs.ls.mono' g3 g6) g5)
 |_=>rw[dw]at h;exact h.elim
def wA{ops:Array Oper}{Q:PP}{K:AS->Prop}{k:Nat}(ah:k<ops.size)(hs:ew N w0 r an S P gl Y γ w s a)
  (h:Zo P gl orc Y ((ops.toList.drop k).map (Xe P ops)) s K):
  wpOpIn (FW r) 0 P ops Q k (fun a' w'=>∃γ' s',ew N w0 r an S P gl Y γ' w' s' a'/\Zo P gl orc Y ((ops.toList.drop (k+1)).map (Xe P ops)) s' K) a w:=by
 have hd:ops.toList.drop k=ops[k]::ops.toList.drop (k+1):=by
  rw[zzag (Nm ah)];simp
 rw[hd,zzas]at h;have ho:ops[k]?=some ops[k]:=zzah ah;generalize ops[k]=o at ho h;simp only[wpOpIn,ho];cases hg:o.guard with
 |none=>
  have hw:Region.wanted o (yielded ops a.tmps)=true:=by simp[Region.wanted,hg]
  rw[if_pos hw];have e1:(Xe P ops o).guard=none:=by simp[Xe,hg]
  simp only[Zo,e1]at h;split at h
  ·exact Qdm (K:=fun av m=>Zo P gl orc Y ((ops.toList.drop (k+1)).map (Xe P ops)) ⟨Abs.put s.T o.dst av,m⟩ K) hs (fun x _=>hs.ev x) h fun v w' γ' av m' hK h1 h2 h3 h4=>⟨γ',_,hs.ak4 h1 h2 h3 h4,hK⟩
  exact AR (K:=fun av m=>Zo P gl orc Y ((ops.toList.drop (k+1)).map (Xe P ops)) ⟨Abs.put s.T o.dst av,m⟩ K) hs.m hs.g (fun x _=>hs.ev x) h r _ Q fun v w' γ' av m' hK cO h1 h2 h3=>⟨γ',_,hs.put h1 h2 cO h3,hK⟩
 |some p=>
  obtain⟨j,want⟩:=p;have e1:(Xe P ops o).guard=some ((ops[j]?).bind (·.dst),want):=by simp[Xe,hg]
  simp only[Zo,e1]at h;cases hj:(ops[j]?).bind (·.dst)with
  |none=>rw[hj]at h;exact h.elim
  |some t=>
   rw[hj]at h;simp only at h;split at h
   case h_2=>exact h.elim
   rename_i gw lI;obtain⟨h1,h⟩:=h
   have VW:Region.wanted o (yielded ops a.tmps)=gw:=by
    have hr:=hs.t.get t
    have bZ:t<a.tmps.size:=by
     rcases zzaa t s.T.length with h|h
     ·have h5:=hs.t.1;rw[zzbi]at h5;rw[<- h5];exact h
     simp[List.getD,zzat h,Eh]at lI
    have cn:(a.tmps.toList.getD t undef)=a.tmps[t]:=by simp[List.getD,bZ]
    rw[cn]at hr;have hyv:∀b,a.tmps[t]=.bool b->yielded ops a.tmps j=some b:=fun b hb=>by simp only[yielded,hj,zzcv,zzah bZ,hb]
    have hyu:a.tmps[t]=undef->yielded ops a.tmps j=none:=fun hb=>by simp only[yielded,hj,zzcv,zzah bZ,hb];rfl
    generalize s.T.getD t .junk=gv at lI hr
    have hf:∀{x:AV},aA w γ (.gd false x) a.tmps[t]->Region.wanted o (yielded ops a.tmps)=false:=fun hx=>by
     simp only[Region.wanted,hg,hyu hx.Nq];cases want<;>rfl
    cases gv with
    |bool g=>
     simp only[Eh,Option.some.injEq]at lI;subst lI;simp only[Region.wanted,hg,hyv g hr.bw];cases g<;>cases want<;>rfl
    |gd d x=>
     cases d with
     |false=>
      rw[hf hr];cases x<;>simp[Eh]at lI<;>exact lI.symm
     |true=>
      cases x<;>simp[Eh]at lI;rename_i b;subst lI;simp only[Region.wanted,hg,hyv b (hr.Cs rfl).bw];cases b<;>cases want<;>rfl
    |_=>simp[Eh]at lI
   rw[VW]
   have VX:gw=true->∀x∈o.op.operands,aA w γ (evG gl s.T (tr P o) (aC x)) (a.eval x):=fun AU x hx=>by
    unfold evG;cases iq:rawOp (tr P o)with
    |true=>exact hs.ev x
    |false=>
     refine AT (hs.ev x) fun g' b hgb=>CH h1 (aC x) ?_ g' b hgb AU;have gi:rawOp (Xe P ops o).op=false:=iq;simp only[gxs,gi,cond_false];simp[Xe,hg];exact⟨x,Nm hx,rfl⟩
   split at h
   ·obtain⟨h2,h3⟩:=h;cases AU:gw with
    |true=>
     simp only[if_true];exact Qdm (e:=evG gl s.T (tr P o)) (K:=fun av m=>Zo P gl orc Y ((ops.toList.drop (k+1)).map (Xe P ops)) ⟨Abs.put s.T o.dst (.gd true av),m⟩ K) hs (VX AU) (h2 AU) fun v w' γ' av m' hK h1 h2 h3 h4=>⟨γ',_,hs.ak4 h1 h2 h3 (.gd (fun _=>h4) (fun h=>by cases h)),hK⟩
    |false=>
     simp only[zzbh,if_false];exact⟨fun _ _=>trivial,γ,_,hs.put (Ev.refl _ _) hs.m rfl (.gd (fun h=>by cases h) (fun _=>rfl)),h3 AU⟩
   obtain⟨h2,h3⟩:=h;cases AU:gw with
   |true=>
    rw[AU]at h2 h3;simp only[if_true];refine Qcy (e:=evG gl s.T (tr P o)) hs.m (fun _ _ h=>h) hs.g (VX AU) (h2 rfl) r _ Q fun v w' γ' q1 q2 q3=>?_;exact⟨γ',_,hs.put q1 q2 rfl (.gd (fun _=>q3) (fun h=>by cases h)),h3⟩
   |false=>
    rw[AU]at h3;simp only[zzbh,if_false];exact⟨fun _ _=>trivial,γ,_,hs.put (Ev.refl _ _) hs.m rfl (.gd (fun h=>by cases h) (fun _=>rfl)),h3⟩
def sw{ops:Array Oper}{Q:PP}{K:AS->Prop}(hQ:∀γ w s a,K s->ew N w0 r an S P gl Y γ w s a->Q .normal a w):
  ∀(n k:Nat)(γ:G)(w:World)(s:AS)(a:Act),k+n=ops.size->Zo P gl orc Y ((ops.toList.drop k).map (Xe P ops)) s K->ew N w0 r an S P gl Y γ w s a->wpOpsIn (FW r) 0 P ops Q (List.range' k n) a w
 |0,k,γ,w,s,a,hk,h,hs=>by
  have:ops.toList.drop k=[]:=zzal (by simp;omega);rw[this]at h;exact hQ γ w s a h hs
 |n+1,k,γ,w,s,a,hk,h,hs=>by
  rw[zzgn,wpOpsIn_cons];refine wpOpIn_mono ?_ (wA zE hs h);rintro a' w' ⟨γ',s',dM,h'⟩;exact sw hQ n (k+1) γ' w' s' a' zE h' dM
end
end Go.Abs
