import Derived.Test.YthjppoincojfkaaGreatDoorRPMC
import Derived.RangeFuncSeq
set_option linter.all false
namespace Go.Abs
open Go Go.RowKit
def Ky(N:Nat)(w0:eN)(an:Nat->Nat->Prop)(P:Program)(o:Oper)(a:Act)(γ:G)(w:World)(ph:(Nat->LS)×Nat)(K:So):Prop:=
 ∀(rd:Option Nat)(next:Act->World->Prop)(Q:PP),(∀v w' γ' av m',K av m'->(m'.st,m'.ln)=ph->Ev w γ w' γ'->au N w0 an γ' w' m'.B m'.L->aA w' γ' av v->next (a.put o.dst v) w')->o.wpIn (FW rd) 0 P a w next Q
section
variable {N:Nat} {w0:eN} {an:Nat->Nat->Prop} {γ:G} {w:World} {P:Program} {o:Oper} {a:Act} {K:So}
variable {dst:Option Tmp} {ty:TypeId} {pos:String} {after:Array Edge} {guard:Option (Nat×Bool)} {gl:Nat->AV} {orc:UV} {e:bE->AV} {m:AM}
def qL(hm:au N w0 an γ w m.B m.L)(lE:∀g,aA w γ.cT (gl g) (.pointer (some ⟨g,0,none⟩)))
  (he:∀x∈o.op.operands,aA w γ (e (aC x)) (a.eval x))(hc:(rop P gl orc e m o.dst (tr P o)).1/\K (rop P gl orc e m o.dst (tr P o)).2 m):Ky N w0 an P o a γ w (m.st,m.ln) K:=
 fun rd next Q hk=>Qdc hm (fun _ _ h=>h) lE he hc.1 rd next Q fun v w' γ' h1 h2 h3=>hk v w' γ' _ m hc.2 rfl h1 h2 h3
def Sj(m:AM)(cells:P2):({m with boxes:=m.boxes++[cells]}:AM).B=fun i=>if i=m.boxes.length then some cells else m.B i:=by
 funext i;simp only[AM.B];by_cases h:i=m.boxes.length
 ·simp[h]
 rw[if_neg h];rcases zzaa i m.boxes.length with h'|h'
 ·rw[zzaj h']
 rw[zzas h',zzas (by simp;omega)]
def Cw(m:AM)(n:Nat):({m with lens:=m.lens++[n]}:AM).L=fun i=>if i=m.lens.length then some n else m.L i:=by
 funext i;simp only[AM.L];by_cases h:i=m.lens.length
 ·simp[h]
 rw[if_neg h];rcases zzaa i m.lens.length with h'|h'
 ·rw[zzaj h']
 rw[zzas h',zzas (by simp;omega)]
def mg(m:AM)(id:Nat)(h:id<m.boxes.length)(cells:P2):({m with boxes:=m.boxes.set id cells}:AM).B=fun i=>if i=id then some cells else m.B i:=by
 funext i;simp only[AM.B];by_cases hi:i=id
 ·subst hi;simp[h]
 rw[if_neg hi,zzbn (Ne.symm hi)]
def aio(m:AM)(id:Nat)(h:id<m.lens.length)(n:Nat):({m with lens:=m.lens.set id n}:AM).L=fun i=>if i=id then some n else m.L i:=by
 funext i;simp only[AM.L];by_cases hi:i=id
 ·subst hi;simp[h]
 rw[if_neg hi,zzbn (Ne.symm hi)]
def Yn{cs:P2}{vs:PQ}(h:ak w γ cs vs)(hc:cs.all Qx=true):∀v∈vs,v.oneCell'=true:=fun v hv=>by
 obtain⟨i,hi⟩:=zzcq.1 hv;have ai:i<cs.length:=by rw[h.1];exact(zza.1 hi).1
 have:=zzaf ai;exact ug (h.2 i _ v this hi) (zzay.1 hc _ (zzdd ai))
def AD(hm:au N w0 an γ w m.B m.L){cells:P2}{arr:P1}{te:TypeId}(hr:ak w γ cells arr.toList)(hc:cells.all Qx=true)
  (aZ:(execOp a.eval o).run P w=.ok (.value (.pointer (some ⟨w.heap.size,0,none⟩))) (w.alloc (.cells arr te)))(hk:K (.ptr m.boxes.length 0) {m with boxes:=m.boxes++[cells]}):Ky N w0 an P o a γ w (m.st,m.ln) K:=by
 intro rd next Q hn
 have aL:m.B m.boxes.length=none:=by simp[AM.B]
 refine Zk aZ (hn _ _ (γ.box m.boxes.length w.heap.size) _ _ hk rfl (hm.dw _ aL _) ?_ (.ptr (by simp[G.box])));rw[Sj];exact hm.eW _ aL hr.toP (Yn hr hc)
def ET(hm:au N w0 an γ w m.B m.L){t:TypeId}(h:((sop P gl orc e m dst (tr P ⟨dst,.alloc t,ty,pos,after,guard⟩)).1/\K (sop P gl orc e m dst (tr P ⟨dst,.alloc t,ty,pos,after,guard⟩)).2.1 (sop P gl orc e m dst (tr P ⟨dst,.alloc t,ty,pos,after,guard⟩)).2.2)):Ky N w0 an P ⟨dst,.alloc t,ty,pos,after,guard⟩ a γ w (m.st,m.ln) K:=by
 simp only[tr]at h;split at h
 case h_2=>exact h.1.elim
 rename_i zs hz;obtain⟨i,z,hi,iR,hr⟩:=iQ (w:=w) (γ:=γ) hz;obtain⟨h1,h2⟩:=h;refine AD hm (te:=t) hr h1 ?_ h2;simp[execOp,Instr.alloc,zeroValue,typeInfo,hi,iR,newVar,newRow]
def PD(hm:au N w0 an γ w m.B m.L){t:TypeId}{x:Operand}(he:aA w γ (e (aC x)) (a.eval x))(h:((sop P gl orc e m dst (.box (aC x))).1/\K (sop P gl orc e m dst (.box (aC x))).2.1 (sop P gl orc e m dst (.box (aC x))).2.2)):Ky N w0 an P ⟨dst,.box t x,ty,pos,after,guard⟩ a γ w (m.st,m.ln) K:=by
 have key:bare (e (aC x))=true->(cellsOf (e (aC x))).all Qx=true->K (.ptr m.boxes.length 0) {m with boxes:=m.boxes++[cellsOf (e (aC x))]}->Ky N w0 an P ⟨dst,.box t x,ty,pos,after,guard⟩ a γ w (m.st,m.ln) K:=fun hb h1 h2=>
  AD hm (te:=t) (kz he hb) h1 (by simp[execOp,Instr.box,newVar,newRow]) h2
 exact key h.1.1 h.1.2 h.2
def EU(hm:au N w0 an γ w m.B m.L){t:TypeId}{x y:Operand}(h1:aA w γ (e (aC x)) (a.eval x))(h2:aA w γ (e (aC y)) (a.eval y))(h:((sop P gl orc e m dst (tr P ⟨dst,.store t x y,ty,pos,after,guard⟩)).1/\K (sop P gl orc e m dst (tr P ⟨dst,.store t x y,ty,pos,after,guard⟩)).2.1 (sop P gl orc e m dst (tr P ⟨dst,.store t x y,ty,pos,after,guard⟩)).2.2)):
  Ky N w0 an P ⟨dst,.store t x y,ty,pos,after,guard⟩ a γ w (m.st,m.ln) K:=by
 simp only[tr]at h;split at h
 case h_2=>exact h.1.elim
 rename_i i hi;simp only[sop]at h;split at h
 case h_2=>exact h.1.elim
 rename_i id o' e1;rw[e1]at h1;obtain⟨b,hb,hv⟩:=h1.dJ;obtain⟨⟨g1,g2,g3,g4,g5⟩,g6⟩:=h;have fq:=kz h2 g1;have gp:=Yn fq g2;have hB:m.B id=some (m.boxes.getD id []):=by simp[AM.B,g5]
 obtain⟨arr,te,q2,q3,q4⟩:=hm.box id _ b hB hb;have hsz:(a.eval y).cells.size=i.size:=by have:=fq.1;simp at this;omega
 have aH:(m.boxes.getD id []).length<=arr.size:=by have:=q3.1;simpa using this
 have bY:=run_storeCells_cells (P:=P) b o' (a.eval y).cells.toList 0 w (fun j hj=>by
   simp at hj;rw[aN q2,zzcn,zzah zE];rfl) (fun j hj=>Zp q2) gp
 intro rd next Q hn
 simp only[zzcn]at bY
 have aZ:(execOp a.eval ⟨dst,.store t x y,ty,pos,after,guard⟩).run P w=.ok .skip (w.setCells b o' (a.eval y).cells.toList):=by
  simp[execOp,Instr.storeAt,hv,Instr.sureAddr,storeVar,sizeOf,typeInfo,hi,hsz,bY]
 refine oI aZ (hn undef _ γ _ _ g6 rfl (hm.cz hb o' _) ?_ (.junk _));rw[mg m id g5];by_cases lD:m.boxes.getD id []=[]
 ·have hz:(a.eval y).cells.toList=[]:=by
   rw[lD]at g4;apply zzbf;simp at g4 |-
   have:i.size=0:=g4.2;rw[this]at hsz;simpa using hsz
  have hz2:cellsOf (e (aC y))=[]:=zzbf (by rw[fq.1,hz];rfl);rw[hz,hz2,lD]
  have:(fun i=>if i=id then some (setA [] o' [])else m.B i)=m.B:=by
   funext i;by_cases hi:i=id
   ·subst hi;rw[if_pos rfl,hB,lD];rfl
   rw[if_neg hi]
  rw[this];exact hm
 exact hm.store hB hb q2 q3 q4 fq gp lD
def sj{sz:Nat}{c:AV}:∀{rows:T5}{k:Nat},(∀row∈rows,row.length=sz)->rows.flatten[k]?=some c->k<rows.length*sz/\Qv rows (k/sz) (k%sz)=some c
 |[],k,_,h=>by simp at h
 |row::rows,k,hs,h=>by
  have hr:=hs row zd;rw[zzcj]at h;rcases zzaa k sz with hk|hk
  ·rw[zzaj zE]at h;rw[zzew hk,zzgp hk];refine⟨?_,by simpa[Qv]using h⟩;simp[zzbq];omega
  rw[zzao zE,hr]at h;obtain⟨h1,h2⟩:=sj (rows:=rows) (fun row h=>hs row (by simp[h])) h
  have h0:0<sz:=by
   rcases zzck sz with h0|h0
   ·subst h0;simp at h1
   exact h0
  have e1:k/sz=(k-sz)/sz+1:=by rw[Nat.div_eq_sub_div h0 hk]
  have e2:k%sz=(k-sz)%sz:=(Nat.mod_eq_sub_mod hk);rw[e1,e2];refine⟨?_,by simpa[Qv]using h2⟩;simp[zzbq];omega
def iT{sz:Nat}:∀{rows:T5},(∀row∈rows,row.length=sz)->rows.flatten.length=rows.length*sz
 |[],_=>zd
 |row::rows,hs=>by
  have:=iT (rows:=rows) fun row h=>hs row (by simp[h]);have hr:=hs row zd;simp[this,hr,zzbq];omega
def vT:∀(vs:PQ)(arr:P1)(o k:Nat),(tF arr o vs)[k]?=if o<=k/\k<o+vs.length/\k<arr.size then vs[k-o]? else arr[k]?
 |[],arr,o,k=>by
  rw[tF,if_neg];simp;omega
 |v::vs,arr,o,k=>by
  rw[tF,vT vs _ (o+1) k];by_cases h1:o+1<=k/\k<o+1+vs.length/\k<(arr.setIfInBounds o v).size
  ·rw[if_pos h1];simp at h1;rw[if_pos (by simp;omega)];rw[show k-o=(k-(o+1))+1 by omega];simp
  rw[if_neg h1];simp at h1;by_cases h2:o<=k/\k<o+(v::vs).length/\k<arr.size
  ·simp at h2;obtain rfl:k=o:=zE
   rw[if_pos (by simp;omega)];simp[zzeq];omega
  rw[if_neg h2];simp at h2;by_cases hk:o=k
  ·subst hk;have:arr.size<=o:=zE
   simp[zzbo,this]
  rw[zzcp hk]
def Qca(hm:au N w0 an γ w m.B m.L){y:AV}{v2:Value}{sz:Nat}(hr:aA w γ y v2)(hc:(cellsS m sz y).1):
  ∃(a2:Option Addr)(cc:Nat)(vs:PQ),v2=.slice a2 (lenS y) cc/\ak w γ (cellsS m sz y).2 vs/\(∀v∈vs,v.oneCell'=true)/\vs.length=lenS y*sz/\
   ∀n,n<=lenS y->∀w':World,(∀x,w'.cell? x=w.cell? x)->(Builtin.firstCells sz n v2).run P w'=.ok (vs.take (n*sz)).toArray w':=by
 have U9:∀(a2:Option Addr)(len cc:Nat)(w':World),(Builtin.firstCells sz 0 (.slice a2 len cc)).run P w'=.ok #[] w':=fun a2 len cc w'=>by
  cases a2<;>simp[Builtin.firstCells,loadCells,loadCellsFrom]
 cases y with
 |sl rt rows=>
  obtain⟨a2,cc,b2,fW,sz2,gi,rfl,s2,_⟩:=hr.b9;replace s2:=s2.fix (sz:=sz) hc;refine⟨a2,cc,Vb rows.length sz gi,rfl,⟨by simp[cellsS,iT hc,Zd],fun k c v h1 h2=>?_⟩,s2.one,by simp[lenS,Zd],fun n hn w' hw=>?_⟩
  ·obtain⟨g1,g2⟩:=sj hc h1;obtain⟨_,rfl⟩:=qI h2;exact(s2.rep _ _ c g2).gh
  by_cases gj:n=0
  ·subst gj;simpa using U9 a2 _ cc w'
  simp only[lenS]at hn;have aO:rows≠[]:=by rintro rfl;simp at hn;omega
  obtain⟨rfl,_⟩:=s2.at_ aO;refine run_firstCells_some w' sz n _ rows.length cc _ ?_ fun j u hj=>?_
  ·rw[zzaq,Zd];have:n*sz<=rows.length*sz:=zzbe _ hn;omega
  rw[hw];rw[zzbj]at hj;split at hj
  ·exact s2.cells j u hj
  cases hj
 |bs id off len dy=>
  obtain⟨rfl,cn,aL⟩:=hc;obtain⟨b,cap,arr,te,hβ,rfl,hl,hh,hs⟩:=hr.cN;have hsz:=U2 hm (m:=m) (fun _ _ h=>h) hβ hh;have aH:((arr.toList.drop off).take (len*dy)).length=len*dy:=by simp;omega
  refine⟨_,cap,(arr.toList.drop off).take (len*dy),rfl,⟨?_,fun k c v h1 h2=>?_⟩,fun v hv=>?_,aH,fun n hn w' hw=>?_⟩
  ·rw[aH];show(List.take _ (List.drop _ _)).length=_;rw[zzaq,zzcw];omega
  ·simp only[cellsS]at h1;rw[zzbj]at h1 h2;split at h1
   ·rename_i hk;simp only[hk,if_true]at h2;rw[zzbl]at h1 h2;obtain⟨u,g1,g2,_⟩:=vP hm (m:=m) (fun _ _ h=>h) hβ hh h1;rw[zzcd,g1]at h2;cases h2;exact g2
   cases h1
  ·have dz:=zzdu (zzcg hv);obtain⟨bN,e',g2,_,g4⟩:=hm.box id _ b (by simp[AM.B,aL]:m.B id=some (m.boxes.getD id [])) hβ;rw[hh]at g2;cases g2;exact g4 v dz
  by_cases gj:n=0
  ·subst gj;simpa using U9 _ _ cap w'
  refine run_firstCells_some w' dy n _ len cap _ ?_ fun j u hj=>?_
  ·rw[zzaq,aH];simp only[lenS]at hn;have:n*dy<=len*dy:=zzbe _ hn;omega
  rw[hw,bn,aN hh];rw[zzbj]at hj;split at hj
  ·rw[zzbj]at hj;split at hj
   ·rw[zzbl,zzcd]at hj;exact hj
   cases hj
  cases hj
 |_=>exact hc.elim
section grow
variable {t te:TypeId} {i:TypeInfo} {z:Value} {a1 a2:Option Addr} {len cw cap cc:Nat} {c1 c2:PQ}
def mh(ht:P.underlying t=some (.slice te))(hi:P.info? te=some i)(hz:i.zero=some z)(f1:(Builtin.firstCells i.size len (.slice a1 len cap)).run P w.drew=.ok c1.toArray w.drew)
  (f2:(Builtin.firstCells i.size cw (.slice a2 cw cc)).run P w.drew=.ok c2.toArray w.drew)
  (hg:cap<len+cw)(cI:(3*(len+cw)+4000)*i.bytes<=562949953421312)(vH:len+cw<=9223372036854775807):
  ∃bh,len+cw<=bh/\(Builtin.append_ #[t,t] ty #[.slice a1 len cap,.slice a2 cw cc]).run P w=
   .ok (.slice (some ⟨w.heap.size,0,none⟩) (len+cw) bh) (w.drew.alloc (.cells (c1.toArray++c2.toArray++Builtin.zeroCells z.cells (bh-(len+cw))) te)):=by
 have hn:¬(len+cw<=cap):=zE
 have ak1:¬(9223372036854775807<((len:Int)+(cw:Int))):=zE
 have cn:=JE hg
 have ak2:¬(281474976710656<Builtin.nextslicecap (len+cw) cap*i.bytes):=by
  have:2*Builtin.nextslicecap (len+cw) cap*i.bytes<=(3*(len+cw)+4000)*i.bytes:=zzbe _ zE;rw[Nat.mul_assoc]at this;omega
 refine⟨grownCap w (len+cw) cap te,grownCap_ge w _ _ _,?_⟩;simp[Builtin.append_,run_underlying ht,sizeOf,typeInfo,zeroValue,hi,hz,Builtin.lenOf,hn,ak1,ak2,Question.forced,f1,f2,newRow,grownCap];congr 2;apply Array.ext';simp[zzav]
def zo{b off:Nat}(ht:P.underlying t=some (.slice te))(hi:P.info? te=some i)(f2:(Builtin.firstCells i.size cw (.slice a2 cw cc)).run P w=.ok c2.toArray w)(h1:∀v∈c2,v.oneCell'=true)(hl:c2.length=cw*i.size)
  (cA:len+cw<=cap){arr:P1}{e':TypeId}(hh:w.heap[b]?=some (.cells arr e' (0,0)))(hsz:off+cap*i.size<=arr.size):
  (
   Builtin.append_ #[t,t] ty #[.slice (some ⟨b,off,none⟩) len cap,.slice a2 cw cc]).run P w=
   .ok (.slice (some ⟨b,off,none⟩) (len+cw) cap) (w.setCells b (off+len*i.size) c2):=by
 have cn:(len+cw)*i.size<=cap*i.size:=zzbe _ cA;rw[zzbq]at cn
 have bY:=run_storeCells_cells (P:=P) b (off+len*i.size) c2 0 w (fun j hj=>by
   rw[aN hh,zzcn,zzah zE];rfl)
  (fun j hj=>Zp hh) h1
 simp only[zzcn]at bY;simp[Builtin.append_,run_underlying ht,sizeOf,typeInfo,hi,Builtin.lenOf,cA,f2,bn,bY]
end grow
def AE{as' bs:P2}{us vs rest:PQ}(h1:ak w γ as' us)(h2:ak w γ bs vs):cr w γ (as'++bs) (us++vs++rest):=by
 have h:=h1.append h2;refine⟨by have:=h.1;simp at this |-;omega,fun k c v g1 g2=>h.2 k c v g1 ?_⟩;have hk:=(zza.1 g1).1;rw[h.1]at hk;rwa [zzaj hk]at g2
def Ws{cs:P1}(h:∀u∈cs,u.oneCell'=true)(n:Nat):∀v∈(Builtin.zeroCells cs n).toList,v.oneCell'=true:=fun v hv=>by
 simp[Builtin.zeroCells]at hv;obtain⟨k,hk,rfl⟩:=hv
 have h0:0<cs.size:=by
  rcases zzck cs.size with h0|h0
  ·simp[h0]at hk
  exact h0
 have ai:k%cs.size<cs.size:=zzee _ h0;rw[getElem!_pos cs _ ai];exact h _ (Array.getElem_mem ai)
def kJ{zs:P2}:∀{n k:Nat}{c:AV},(bF n zs)[k]?=some c->k<n*zs.length/\zs[k%zs.length]?=some c
 |0,k,c,h=>by simp[bF]at h
 |n+1,k,c,h=>by
  rw[bF]at h;rcases zzaa k zs.length with hk|hk
  ·rw[zzaj hk]at h;rw[zzgp hk];exact⟨by rw[zzbq];omega,h⟩
  rw[zzao hk]at h;obtain⟨h1,h2⟩:=kJ h;rw[Nat.mod_eq_sub_mod hk];exact⟨by rw[zzbq];omega,h2⟩
def Kt(zs:P2):∀n,(bF n zs).length=n*zs.length
 |0=>by simp[bF]
 |n+1=>by rw[bF,zzak,Kt zs n,zzbq];omega
def qM(hm:au N w0 an γ w m.B m.L){id b off:Nat}(hβ:γ.β id=some b)(aL:id<m.boxes.length)(aO:m.boxes.getD id []≠[]){arr:P1}{te:TypeId}(hh:w.heap[b]?=some (.cells arr te (0,0)))
  {as':P2}{vs:PQ}(hr:ak w γ as' vs)(gp:∀v∈vs,v.oneCell'=true)(cI:off+as'.length<=(m.boxes.getD id []).length):
  (storeCells ⟨b,off,none⟩ vs).run P w=.ok () (w.setCells b off vs)/\Ev w γ (w.setCells b off vs) γ/\au N w0 an γ (w.setCells b off vs) ({m with boxes:=m.boxes.set id (setA (m.boxes.getD id []) off as')}:AM).B m.L:=by
 have hB:m.B id=some (m.boxes.getD id []):=by simp[AM.B,aL]
 obtain⟨bN,e',q2,q3,q4⟩:=hm.box id _ b hB hβ;rw[hh]at q2;cases q2;have hsz:=q3.1;simp only[zzbi]at hsz;have hl:=hr.1
 have bY:=run_storeCells_cells (P:=P) b off vs 0 w (fun j hj=>by
   rw[aN hh,zzcn,zzah zE];rfl) (fun j hj=>Zp hh) gp
 simp only[zzcn]at bY;refine⟨bY,hm.cz hβ off vs,?_⟩;rw[mg m id aL];exact hm.store hB hβ hh q3 q4 hr gp aO
def PE(hm:au N w0 an γ w m.B m.L){x y:Operand}{t te:TypeId}{ts:Array TypeId}{i:TypeInfo}(ht:ts[0]?=some t)(hu:P.underlying t=some (.slice te))(hi:P.info? te=some i)(h1:aA w γ (e (aC x)) (a.eval x))(h2:aA w γ (e (aC y)) (a.eval y))
  (h:(sop P gl orc e m dst (.cpy i.size (aC x) (aC y))).1/\K (sop P gl orc e m dst (.cpy i.size (aC x) (aC y))).2.1 (sop P gl orc e m dst (.cpy i.size (aC x) (aC y))).2.2):
  Ky N w0 an P ⟨dst,.call ⟨.builtin .copy,#[x,y],ts⟩,ty,pos,after,guard⟩ a γ w (m.st,m.ln) K:=by
 simp only[sop]at h;split at h
 case h_2=>exact h.1.elim
 rename_i id off len dy e1;rw[e1]at h1;obtain⟨b,cap,arr,y5,hβ,hv,hl,hh,hs⟩:=h1.cN;intro rd next Q hn
 split at h
 ·rename_i s e2;rw[e2]at h2;obtain⟨⟨⟨rfl,hi1⟩,aL,cI,aO⟩,hk⟩:=h
  have hr:ak w γ ((s.data.toList.take len).map fun b=>(.int .u8 b.toNat:AV)) ((s.data.toList.take len).map fun b=>(.int .u8 b.toNat:Value)):=by
   refine⟨zd,fun k c v g1 g2=>?_⟩;simp only[zzbm]at g1 g2;cases hx:(s.data.toList.take len)[k]? with
   |none=>simp[hx]at g1
   |some u=>simp[hx]at g1 g2;subst g1;subst g2;exact .int _ _
  obtain⟨g1,g2,g3⟩:=qM (P:=P) (off:=off) hm hβ aL aO hh hr (fun v hv=>by obtain⟨u,_,rfl⟩:=zzar.1 hv;rfl) (by rw[zzbv,zzaq];omega)
  have hfc:(Builtin.firstCells 1 (Nat.min s.size len) (.string s)).run P w=.ok ((s.data.toList.take len).map fun b=>(.int .u8 b.toNat:Value)).toArray w:=by
   simp only[Builtin.firstCells,Sem.run_pure];congr 1;apply Array.ext';simp only[ByteArray.data_extract,Array.toList_map,zzfk,List.extract_eq_take_drop,zzd,zzer];congr 1;rcases zzhk s.size len with h'|h'
   ·have:Nat.min s.size len=s.size:=zzfl h';rw[this,zzat zd,zzat (Nm h')]
   have:Nat.min s.size len=len:=zzgq h';rw[this]
  generalize((s.data.toList.take len).map fun b=>(.int .u8 b.toNat:Value))=cs at*
  refine Zk (v:=.int .i64 (min s.size len:Nat)) (w':=w.setCells b off cs) ?_ (hn _ _ γ _ _ hk rfl g2 g3 (.int _ _));simp[execOp,resolve,invoke,builtin,Builtin.copy_,ht,run_underlying hu,hv,h2.cq,Builtin.lenOf,sizeOf,typeInfo,hi,hi1,hfc,g1,goInt]
 rename_i Sk;obtain⟨⟨rfl,hcy,aL,cI,aO⟩,hk⟩:=h;obtain⟨a2,cc,vs,y7,oM,sk,eD,hf2⟩:=Qca (P:=P) hm h2 hcy;have hr:=oM.take (len*i.size);obtain⟨g1,g2,g3⟩:=qM (P:=P) (off:=off) hm hβ aL aO hh hr (fun v hv=>sk v (zzcg hv)) (by rw[zzaq];omega);have hfc:=hf2 (min (lenS (e (aC y))) len) (Nat.min_le_left _ _) w (fun _=>rfl);rw[y7]at hfc
 have bA:vs.take (min (lenS (e (aC y))) len*i.size)=vs.take (len*i.size):=by
  rcases zzhk (lenS (e (aC y))) len with h'|h'
  ·rw[zzfl h',<- eD,zzbz,zzat];rw[eD];exact zzbe _ h'
  rw[zzgq h']
 rw[bA]at hfc;refine Zk (v:=.int .i64 (min (lenS (e (aC y))) len:Nat)) (w':=w.setCells b off (vs.take (len*i.size))) ?_ (hn _ _ γ _ _ hk rfl g2 g3 (.int _ _));simp[execOp,resolve,invoke,builtin,Builtin.copy_,ht,run_underlying hu,hv,y7,Builtin.lenOf,sizeOf,typeInfo,hi,hfc,g1,goInt]
def PF(hm:au N w0 an γ w m.B m.L){x:Operand}{t te:TypeId}{zs:P2}(hu:P.underlying t=some (.slice te))(hz:zc P te=some zs)(h1:aA w γ (e (aC x)) (a.eval x))
  (h:(sop P gl orc e m dst (.clr zs (aC x))).1/\K (sop P gl orc e m dst (.clr zs (aC x))).2.1 (sop P gl orc e m dst (.clr zs (aC x))).2.2):
  Ky N w0 an P ⟨dst,.call ⟨.builtin .clear,#[x],#[t]⟩,ty,pos,after,guard⟩ a γ w (m.st,m.ln) K:=by
 obtain⟨i,z,hi,iR,JI⟩:=iQ (w:=w) (γ:=γ) hz;simp only[sop]at h;split at h
 ·rename_i id off len dy e1;rw[e1]at h1;obtain⟨⟨⟨rfl,bL⟩,aL,cI,aO⟩,hk⟩:=h;obtain⟨b,cap,arr,y5,hβ,hv,hl,hh,hs⟩:=h1.cN;have gp:=Yn JI bL;intro rd next Q hn
  have EV:z.cells.size=zs.length:=by have:=JI.1;simp at this;omega
  have hr:ak w γ (bF len zs) (Builtin.zeroCells z.cells len).toList:=by
   refine⟨by simp[Kt,size_zeroCells,EV],fun k c v g1 g2=>?_⟩;obtain⟨j1,j2⟩:=kJ g1
   have h0:0<zs.length:=by
    rcases zzck zs.length with h0|h0
    ·simp[h0]at j1
    exact h0
   have ai:k%zs.length<z.cells.size:=by rw[EV];exact zzee _ h0
   have ER:v=z.cells[k%zs.length]:=by
    simp only[Builtin.zeroCells,zzcd,zzgb]at g2;rw[zzah (by simp[EV];exact j1)]at g2;simp[EV]at g2;rw[<- g2,getElem!_pos z.cells _ ai]
   subst ER;exact JI.2 _ c _ j2 (by simp[ai])
  obtain⟨g1,g2,g3⟩:=qM (P:=P) (off:=off) hm hβ aL aO hh hr (Ws (fun u hu=>gp u (Nm hu)) len) (by rw[Kt];exact cI);by_cases qs:len=0
  ·subst qs;have e0:(Builtin.zeroCells z.cells 0).toList=[]:=by simp[Builtin.zeroCells]
   rw[e0]at g2 g3;refine Zk (v:=.tuple #[]) (w':=w) (by simp[execOp,resolve,invoke,builtin,Builtin.clear_,run_underlying hu,hv]) (hn _ _ γ _ _ hk rfl g2 g3 (ak.zm ak.nil))
  refine Zk (v:=.tuple #[]) (w':=w.setCells b off (Builtin.zeroCells z.cells len).toList) ?_ (hn _ _ γ _ _ hk rfl g2 g3 (ak.zm ak.nil));cases len with
  |zero=>exact absurd rfl qs
  |succ len=>simp[execOp,resolve,invoke,builtin,Builtin.clear_,run_underlying hu,hv,zeroValue,typeInfo,hi,iR,g1]
 ·rename_i rt e1;rw[e1]at h1;obtain⟨a1,cap,b1,aq4,sz1,cv1,hv,s1,_⟩:=h1.b9;intro rd next Q hn
  refine Zk (v:=.tuple #[]) (w':=w) ?_ (hn _ _ γ _ _ h.2 rfl (Ev.refl w γ) hm (ak.zm ak.nil));simp only[zzco]at hv;cases a1<;>simp[execOp,resolve,invoke,builtin,Builtin.clear_,run_underlying hu,hv]
 exact h.1.elim
def Vc(hm:au N w0 an γ w m.B m.L){id off len sz:Nat}{v2:Value}(hr:aA w γ (.bs id off len sz) v2)(cn:off+len*sz<=(m.boxes.getD id []).length)(aL:id<m.boxes.length)
  (bL:(m.boxes.getD id []).all Qx=true)(hp:(m.boxes.getD id []).any (Ve 6)=false):
  (aY sz len (((m.boxes.getD id []).map (bz m 6)).drop off)).length=len/\(∀row∈aY sz len (((m.boxes.getD id []).map (bz m 6)).drop off),row.length=sz)/\
  ∃(γ2:G)(a2:Option Addr)(cc b2:Nat)(gi:Nat->Nat->Value),v2=.slice a2 len cc/\qq w γ2 (aY sz len (((m.boxes.getD id []).map (bz m 6)).drop off)) a2 cc b2 off sz gi/\
   ∀i j c,Qv (aY sz len (((m.boxes.getD id []).map (bz m 6)).drop off)) i j=some c->aA w γ.cT c (gi i j):=by
 obtain⟨b,cap,arr,y5,hβ,hv,hl,hh,hs⟩:=hr.cN;have hB:m.B id=some (m.boxes.getD id []):=by simp[AM.B,aL]
 obtain⟨bN,e',q2,q3,q4⟩:=hm.box id _ b hB hβ;rw[hh]at q2;cases q2;have aH:(aY sz len (((m.boxes.getD id []).map (bz m 6)).drop off)).length=len:=by rw[Qag];simp
 have hsz:∀row∈aY sz len (((m.boxes.getD id []).map (bz m 6)).drop off),row.length=sz:=fun row ah=>by
  rw[Qag]at ah;simp only[zzar,zzaw]at ah;obtain⟨k,hk,rfl⟩:=ah;have:(k+1)*sz<=len*sz:=zzbe _ hk;rw[zzbq,zzdt]at this;simp only[zzaq,zzcw,zzbv];omega
 have ow:∀(k j:Nat)(c:AV),Qv (aY sz len (((m.boxes.getD id []).map (bz m 6)).drop off)) k j=some c->∃c' u,(m.boxes.getD id [])[off+k*sz+j]?=some c'/\c=bz m 6 c'/\arr[off+k*sz+j]?=some u/\arr.getD (off+k*sz+j) undef=u/\aA w γ c' u:=fun k j c h=>by
  rw[Qag]at h;unfold Qv at h;rcases zzaa k len with hk|hk
  ·rw[zzbm,zzej hk]at h;simp only[zzct,zzcv]at h;rw[zzbj]at h;split at h
   ·rw[zzbl,zzbl,zzbm]at h;obtain⟨c',uh,rfl⟩:=zzcb.1 h;rw[<- zzan]at uh
    have ai:off+k*sz+j<arr.size:=by
     have h1:=(zza.1 uh).1;have h2:=q3.1;simp at h2;simp only[List.getD]at h1;omega
    have hu':arr[off+k*sz+j]?=some arr[off+k*sz+j]:=zzah ai;exact⟨c',_,uh,rfl,hu',by simp[ai],q3.2 _ _ _ uh (by simp[ai])⟩
   cases h
  rw[zzbm,zzas (Nm hk)]at h;cases h
 have iw:∀(k j:Nat)(c':AV),(m.boxes.getD id [])[off+k*sz+j]?=some c'->Ve 6 c'=true->False:=fun k j c' h VA=>by
  have:(m.boxes.getD id []).any (Ve 6)=true:=zzbr.2 ⟨c',zzad h,VA⟩;rw[hp]at this;cases this
 refine⟨aH,hsz,{γ with ro:=fun _ _=>True},some ⟨b,off,none⟩,cap,b,fun k j=>arr.getD (off+k*sz+j) undef,hv,⟨by rw[aH];exact hl,fun h=>(by cases h),fun _=>⟨rfl,aR hh⟩,hsz,fun k j c h=>?_,fun k j c h=>?_⟩,fun k j c h=>?_⟩
 ·obtain⟨c',u,g1,rfl,g3,g4,g5⟩:=ow k j c h;rw[aN hh,g3,g4];exact⟨rfl,trivial,ug g5 (zzay.1 bL c' (zzad g1))⟩
 ·obtain⟨c',u,g1,rfl,g3,g4,g5⟩:=ow k j c h;rw[g4];exact ko hm (m:=m) (fun _ _ h=>h) (ro':=fun _ _=>True) (fun _ _ _=>trivial) 6 c' u g5 fun VA=>(iw k j c' g1 VA).elim
 obtain⟨c',u,g1,rfl,g3,g4,g5⟩:=ow k j c h;show aA w γ.cT (bz m 6 c') (arr.getD (off+k*sz+j) undef);rw[g4];exact ko hm (m:=m) (fun _ _ h=>h) (ro':=γ.ro) (fun _ _ h=>h) 6 c' u g5 fun VA=>(iw k j c' g1 VA).elim
def PG(hm:au N w0 an γ w m.B m.L)(lE:∀g,aA w γ.cT (gl g) (.pointer (some ⟨g,0,none⟩))){c:Call}(he:∀x∈c.operands,aA w γ (e (aC x)) (a.eval x))(h:((sop P gl orc e m dst (Zr P c)).1/\K (sop P gl orc e m dst (Zr P c)).2.1 (sop P gl orc e m dst (Zr P c)).2.2)):
  Ky N w0 an P ⟨dst,.call c,ty,pos,after,guard⟩ a γ w (m.st,m.ln) K:=by
 have uk:sop P gl orc e m dst (Zr P c)=((rop P gl orc e m dst (Zr P c)).1,(rop P gl orc e m dst (Zr P c)).2,m)->Ky N w0 an P ⟨dst,.call c,ty,pos,after,guard⟩ a γ w (m.st,m.ln) K:=fun hg=>
  qL hm lE he (by rw[hg]at h;exact h)
 obtain⟨callee,args,ts⟩:=c;cases callee with
 |value f=>exact uk rfl
 |invoke recv name=>exact uk rfl
 |builtin b=>
  cases b<;>first|exact uk rfl|skip
  case append=>
   simp only[Zr]at h;split at h
   case h_2=>exact h.1.elim
   rename_i s x t t' ha ht;split at h
   case h_2=>exact h.1.elim
   rename_i te y5 hu hu';split at h
   case h_2=>exact h.1.elim
   rename_i i hi;split at h
   case isFalse=>exact h.1.elim
   rename_i bQ;simp only[zzac,beq_iff_eq,bne_iff_ne]at bQ;obtain⟨⟨⟨rfl,hz⟩,_⟩,dY⟩:=bQ;obtain rfl:args=#[s,x]:=by cases args;simp_all
   obtain rfl:ts=#[t,t]:=by cases ts;simp_all
   have h1:=he s (by simp[Call.operands]);have h2:=he x (by simp[Call.operands]);cases iR:i.zero with
   |none=>simp[iR]at hz
   |some z=>
    simp[iR]at hz;obtain⟨hz,hzo⟩:=hz;have aip:∀(n:Nat),∀v∈(Builtin.zeroCells z.cells n).toList,v.oneCell'=true:=fun n v hv=>Ws (fun u hu=>by obtain⟨k,hk,rfl⟩:=zzhb.1 hu;exact hzo k hk) n v hv
    have grown:∀{c1 c2:PQ}{bh len:Nat},c1.length+c2.length=len*i.size->len<=bh->bh*i.size<=(c1.toArray++c2.toArray++Builtin.zeroCells z.cells (bh-len)).size:=fun{c1 c2 bh len}hl cn=>by
     simp only[zzep,zzeo,size_zeroCells,hz];have:bh*i.size=len*i.size+(bh-len)*i.size:=by rw[<- zzbq];congr 1;omega
     omega
    simp only[sop]at h;split at h
    ·rename_i id dy rows Sh aq e1 e2;rw[e1]at h1;rw[e2]at h2;obtain⟨⟨rfl,aH,hr,cI⟩,hk⟩:=h;obtain⟨v,w',γ',g1,g2,g3,g4⟩:=Nu (ty:=ty) hm hu hi iR hz (id:=id) (.inr ⟨h1,aH⟩) h2 hr cI (Js dY cI);intro rd next Q hn
     refine Zk (v:=v) (w':=w') (by simp[execOp,resolve,invoke,builtin,g1]) (hn v w' γ' _ _ hk rfl g2 ?_ g4);rw[aio m id (zza.1 aH).1];exact g3
    ·
     rename_i y' id off len dy e1;rw[e1]at h1;obtain⟨⟨⟨⟨rfl,rfl,aL,aO,cn⟩,cI⟩,hcy⟩,hk⟩:=h;obtain⟨b,cap,arr,y5,hβ,hv,hl,hh,hs⟩:=h1.cN;obtain⟨a2,cc,vs,y7,oM,sk,eD,hf2⟩:=Qca (P:=P) hm h2 hcy;have hB:m.B id=some (m.boxes.getD id []):=by simp[AM.B,aL]
     obtain⟨bN,e',q2,q3,q4⟩:=hm.box id _ b hB hβ;rw[hh]at q2;cases q2;have hsz:=q3.1;simp only[zzbi]at hsz
     have fk:ak w γ ((m.boxes.getD id []).take (len*i.size)) (arr.toList.take (len*i.size)):=by
      refine⟨by simp only[zzaq,zzbi];omega,fun k c v g1 g2=>?_⟩;rw[zzbj]at g1 g2;split at g1
      ·rename_i Co;rw[if_pos Co]at g2;exact q3.2 k c v g1 g2
      cases g1
     have cH:m.B m.boxes.length=none:=by simp[AM.B]
     have hBB:∀cells:P2,({m with boxes:=m.boxes.set id []++[cells]}:AM).B=fun i=>if i=m.boxes.length then some cells else if i=id then some []else m.B i:=fun cells=>by
      have e1:=Sj {m with boxes:=m.boxes.set id []} cells;rw[mg m id aL]at e1;simpa using e1
     intro rd next Q hn
     by_cases cA:len+lenS (e (aC x))<=cap
     ·have aZ:=zo (P:=P) (ty:=ty) (w:=w) (len:=len) (b:=b) (off:=0) hu hi (by have:=hf2 _ (zzab _) w (fun _=>rfl);rw[y7,<- eD,zzbz]at this;exact this) sk eD cA hh hs;simp only[zzbs]at aZ;have Ph:(len+lenS (e (aC x)))*i.size<=cap*i.size:=zzbe _ cA;rw[zzbq]at Ph
      obtain⟨g1,g2⟩:=hm.share (id':=m.boxes.length) (new:=(m.boxes.getD id []).take (len*i.size)++(cellsS m i.size (e (aC x))).2) hβ hB aO cH hh (p:=len*i.size) (vs:=vs) (by
       refine⟨by simp only[zzak,zzaq,oM.1,zzbi,Zz];omega,fun k c v j1 j2=>?_⟩;rw[zzcd,vT]at j2;rcases zzaa k (len*i.size)with Co|Co
       ·rw[if_neg zE]at j2;rw[zzaj (by rw[zzaq];omega)]at j1;refine fk.2 k c v j1 ?_;rw[zzbj,if_pos Co,zzcd];exact j2
       rw[zzao (by rw[zzaq];omega)]at j1;have e0:((m.boxes.getD id []).take (len*i.size)).length=len*i.size:=by rw[zzaq];omega
       rw[e0]at j1;have ef:=(zza.1 j1).1;rw[oM.1]at ef;rw[if_pos zE]at j2;exact oM.2 _ c v j1 j2) q4 sk
      refine Zk (v:=.slice (some ⟨b,0,none⟩) (len+lenS (e (aC x))) cap) (w':=w.setCells b (len*i.size) vs) (by simp[execOp,resolve,invoke,builtin,hv,y7,aZ]) (hn _ _ _ _ _ hk rfl g1 ?_ ?_)
      ·rw[hBB];exact g2
      exact .bs (by simp[G.box]) cA (Xe b vs _ w arr y5 _ hh) (by rw[Zz];exact hs)
     have f1:(Builtin.firstCells i.size len (.slice (some ⟨b,0,none⟩) len cap)).run P w.drew=.ok (arr.toList.take (len*i.size)).toArray w.drew:=by
      refine run_firstCells_some w.drew i.size len _ len cap _ (by simp;omega) fun j u hj=>?_;rw[bn];show w.cell? _=_;rw[aN hh];rw[zzbj]at hj;split at hj
      ·simpa using hj
      cases hj
     have f2:(Builtin.firstCells i.size (lenS (e (aC x))) (.slice a2 (lenS (e (aC x))) cc)).run P w.drew=.ok vs.toArray w.drew:=by
      have:=hf2 _ (zzab _) w.drew (fun _=>rfl);rw[y7,<- eD,zzbz]at this;exact this
     obtain⟨bh,VB,aZ⟩:=mh (P:=P) (ty:=ty) (w:=w) hu hi iR f1 f2 zE cI (Js dY cI);have hmk:=(hm.kill hβ).drew
     have fH:(fun i=>if i=id then some []else m.B i) m.boxes.length=none:=by
      have:m.boxes.length≠id:=zE
      simp only[if_neg this];exact cH
     have hP:=AE (rest:=(Builtin.zeroCells z.cells (bh-(len+lenS (e (aC x))))).toList) fk oM;have bT:=hmk.dw _ fH (.cells ((arr.toList.take (len*i.size)).toArray++vs.toArray++Builtin.zeroCells z.cells (bh-(len+lenS (e (aC x))))) te)
     have y8:=hmk.eW _ fH (e:=te) (arr:=(arr.toList.take (len*i.size)).toArray++vs.toArray++Builtin.zeroCells z.cells (bh-(len+lenS (e (aC x))))) (by
      have:=hP.mono (Ev.drew w γ)
      simpa using this) (fun v hv=>by
       simp only[Array.toList_append,zzam]at hv;obtain(hv|hv)|hv:=hv
       ·exact q4 v (zzcg (Nm hv))
       ·exact sk v (Nm hv)
       exact aip _ v hv)
     refine Zk (v:=.slice (some ⟨w.heap.size,0,none⟩) (len+lenS (e (aC x))) bh) (by simp[execOp,resolve,invoke,builtin,hv,y7,aZ]) (hn _ _ _ _ _ hk rfl ((Ev.drew w γ).trans bT) ?_ ?_)
     ·rw[hBB];exact y8
     refine .bs (arr:=(arr.toList.take (len*i.size)).toArray++vs.toArray++Builtin.zeroCells z.cells (bh-(len+lenS (e (aC x))))) (e:=te) (by show(if _ then _ else _)=_;rw[if_pos rfl];rfl) VB (Yj w _) ?_;rw[zzbs];exact grown (by rw[eD,zzbq];simp;omega) VB
    ·
     rename_i id dy rows gH fW cw sz2 e1 e2;rw[e1]at h1;rw[e2]at h2;obtain⟨⟨⟨rfl,rfl⟩,aH,hr,cI,ak6,fH,JN,hp2⟩,hk⟩:=h;obtain⟨l2,oM,γ2,a2,cc,b2,gi,y7,s2,VC⟩:=Vc hm h2 ak6 fH JN hp2;generalize aY i.size cw (((m.boxes.getD gH []).map (bz m 6)).drop fW)=aq at*
     subst l2;obtain⟨v,w',γ',g1,g2,g3,g4⟩:=vI (ty:=ty) hm hu hi iR hz (id:=id) (.inr ⟨h1,aH⟩) s2 VC (fun row h=>(zzam.1 h).elim (hr row) (oM row)) cI (Js dY cI);intro rd next Q hn
     refine Zk (v:=v) (w':=w') (by simp[execOp,resolve,invoke,builtin,y7,g1]) (hn v w' γ' _ _ hk rfl g2 ?_ g4);rw[aio m id (zza.1 aH).1];exact g3
    ·rename_i y' rt rows e1 iw PI;rw[e1]at h1;split at h
     ·split at h
      ·
       rename_i qs;obtain⟨hcy,hk⟩:=h;obtain⟨a1,cap,b1,aq4,sz1,cv1,hv,s1,hcap⟩:=h1.b9;obtain⟨a2,cc,vs,y7,oM,sk,eD,hf2⟩:=Qca (P:=P) hm h2 hcy;rw[qs]at y7;have aZ:=Qeb (P:=P) (w:=w) (ty:=ty) (a:=a1) hu hi a2 cc rows.length s1.hcap;intro rd next Q hn
       refine Zk (v:=.slice a1 rows.length cap) (w':=w) (by simp[execOp,resolve,invoke,builtin,hv,y7,aZ]) (hn _ _ γ _ _ hk rfl (Ev.refl _ _) hm ?_);rw[<- hv];exact h1
      obtain⟨⟨⟨hfu,hny,hsz,cI⟩,hcy⟩,hk⟩:=h;replace h1:=h1.uj hfu;obtain⟨a1,cap,b1,aq4,sz1,cv1,hv,s1,hcap⟩:=h1.b9;replace s1:=s1.fix (sz:=i.size) hsz;obtain⟨a2,cc,vs,y7,oM,sk,eD,hf2⟩:=Qca (P:=P) hm h2 hcy;obtain⟨a1',ayU,vs1,ak7,Sl,aq5,vU,hf1⟩:=Qca (P:=P) (sz:=i.size) hm h1 hsz;rw[hv]at ak7;simp only[lenS]at ak7 vU;cases ak7;have cH:m.B m.boxes.length=none:=by simp[AM.B]
      have f1:(Builtin.firstCells i.size rows.length (.slice a1 rows.length cap)).run P w.drew=.ok vs1.toArray w.drew:=by
       have:=hf1 _ (zzab _) w.drew (fun _=>rfl);rw[hv]at this;simp only[lenS]at this;rw[<- vU,zzbz]at this;exact this
      have f2:(Builtin.firstCells i.size (lenS (e (aC x))) (.slice a2 (lenS (e (aC x))) cc)).run P w.drew=.ok vs.toArray w.drew:=by
       have:=hf2 _ (zzab _) w.drew (fun _=>rfl);rw[y7,<- eD,zzbz]at this;exact this
      have ayV:cap=rows.length:=hcap;obtain⟨bh,VB,aZ⟩:=mh (P:=P) (ty:=ty) (w:=w) hu hi iR f1 f2 zE cI (Js dY cI);have hP:=AE (rest:=(Builtin.zeroCells z.cells (bh-(rows.length+lenS (e (aC x))))).toList) Sl oM;have hmk:=hm.drew;have bT:=hmk.dw _ cH (.cells (vs1.toArray++vs.toArray++Builtin.zeroCells z.cells (bh-(rows.length+lenS (e (aC x))))) te)
      have y8:=hmk.eW _ cH (e:=te) (arr:=vs1.toArray++vs.toArray++Builtin.zeroCells z.cells (bh-(rows.length+lenS (e (aC x))))) (by
       have:=hP.mono (Ev.drew w γ)
       simpa using this) (fun v hv=>by
        simp only[Array.toList_append,zzam]at hv;obtain(hv|hv)|hv:=hv
        ·exact aq5 v (Nm hv)
        ·exact sk v (Nm hv)
        exact aip _ v hv)
      intro rd next Q hn
      refine Zk (v:=.slice (some ⟨w.heap.size,0,none⟩) (rows.length+lenS (e (aC x))) bh) (by simp[execOp,resolve,invoke,builtin,hv,y7,aZ]) (hn _ _ _ _ _ hk rfl ((Ev.drew w γ).trans bT) ?_ ?_)
      ·rw[Sj];exact y8
      refine .bs (arr:=vs1.toArray++vs.toArray++Builtin.zeroCells z.cells (bh-(rows.length+lenS (e (aC x))))) (e:=te) (by show(if _ then _ else _)=_;rw[if_pos rfl];rfl) VB (Yj w _) ?_;rw[zzbs];exact grown (by rw[vU,eD,zzbq]) VB
     split at h
     case h_3=>exact h.1.elim
     case h_2=>
      rename_i gH fW cw sz2 e2;rw[e2]at h2;obtain⟨⟨⟨hfu,rfl⟩,hr,cI,ak6,fH,JN,hp2⟩,hk⟩:=h;replace h1:=h1.uj hfu;obtain⟨l2,oM,γ2,a2,cc,b2,gi,y7,s2,VC⟩:=Vc hm h2 ak6 fH JN hp2;generalize aY i.size cw (((m.boxes.getD gH []).map (bz m 6)).drop fW)=aq at*
      subst l2;obtain⟨v,w',γ',g1,g2,g3,g4⟩:=vI (ty:=ty) hm hu hi iR hz (id:=m.lens.length) (.inl ⟨h1,by simp[AM.L]⟩) s2 VC (fun row h=>(zzam.1 h).elim (hr row) (oM row)) cI (Js dY cI);intro rd next Q hn
      refine Zk (v:=v) (w':=w') (by simp[execOp,resolve,invoke,builtin,y7,g1]) (hn v w' γ' _ _ hk rfl g2 ?_ g4);rw[Cw];exact g3
     rename_i Sh aq e2;rw[e2]at h2;obtain⟨⟨hfu,hr,cI⟩,hk⟩:=h;replace h1:=h1.uj hfu;obtain⟨v,w',γ',g1,g2,g3,g4⟩:=Nu (ty:=ty) hm hu hi iR hz (id:=m.lens.length) (.inl ⟨h1,by simp[AM.L]⟩) h2 hr cI (Js dY cI);intro rd next Q hn
     refine Zk (v:=v) (w':=w') (by simp[execOp,resolve,invoke,builtin,g1]) (hn v w' γ' _ _ hk rfl g2 ?_ g4);rw[Cw];exact g3
    exact h.1.elim
  case copy=>
   simp only[Zr]at h;split at h
   case h_2=>exact h.1.elim
   rename_i x y t ts' ha ht;split at h
   case h_2=>exact h.1.elim
   rename_i te hu;split at h
   case h_2=>exact h.1.elim
   rename_i i hi;obtain rfl:args=#[x,y]:=by cases args;simp_all
   have ht0:ts[0]?=some t:=by cases ts;simp_all
   exact PE hm ht0 hu hi (he x (by simp[Call.operands])) (he y (by simp[Call.operands])) h
  case clear=>
   simp only[Zr]at h;split at h
   case h_2=>exact h.1.elim
   rename_i x t ha ht;split at h
   case h_2=>exact h.1.elim
   rename_i te hu;split at h
   case h_2=>exact h.1.elim
   rename_i zs hz;obtain rfl:args=#[x]:=by cases args;simp_all
   obtain rfl:ts=#[t]:=by cases ts;simp_all
   exact PF hm hu hz (he x (by simp[Call.operands])) h
  case len=>
   refine uk ?_;simp only[Zr];repeat' split
   all_goals rfl
  case max=>
   refine uk ?_;simp only[Zr];repeat' split
   all_goals rfl
  case min=>
   refine uk ?_;simp only[Zr];repeat' split
   all_goals rfl
def G.gq(γ:G)(id b:Nat):G:={γ with mm:=fun i=>if i=id then some b else γ.mm i}
def PJ:Obj->Bool
 |.map _ _=>true
 |.mapIter _ _ _ _=>true
 |_=>false
def cK.PJ{x:AV}{o:Obj}(h:cK w γ x o):PJ o=true:=by
 unfold cK at h;split at h<;>first|rfl|exact h.elim
def Ny{w:World}{b o':Nat}{o:Obj}(h:w.heap[b]?=some o)(hm:PJ o=true):w.cell? ⟨b,o',none⟩=none:=by
 cases o<;>simp[PJ]at hm<;>simp[World.cell?,h]
def au.JO{B:Nat->PH}{L:Nat->Option Nat}(hm:au N w0 an γ w B L)(id:Nat)(aL:B id=none){x:AV}{o:Obj}(hx:cK w γ x o):
  Ev w γ (w.alloc o) (γ.gq id w.heap.size)/\au N w0 an (γ.gq id w.heap.size) (w.alloc o) (fun i=>if i=id then some [x]else B i) L:=by
 have aO:∀i b,γ.mm i=some b->i≠id:=fun i b h=>by
  rintro rfl;obtain⟨_,_,_,_,_,_,_,_,_,hx,_⟩:=hm.mm i b h;rw[aL]at hx;cases hx
 have VD:∀i b,γ.β i=some b->i≠id:=fun i b h=>by
  rintro rfl;obtain⟨_,_,_,_,c,hc⟩:=hm.β i b h;rw[aL]at hc;cases hc
 have hβ0:γ.β id=none:=by
  cases h:γ.β id with
  |none=>rfl
  |some b=>exact absurd rfl (VD id b h)
 have bT:Ev w γ (w.alloc o) (γ.gq id w.heap.size):=⟨zd,fun b o' hb hr=>⟨hr,cell_of_heap (Below.heap_alloc w _ b hb)⟩,fun _ _ h=>h,fun _=>zzab _,fun i b h=>by simp[G.gq,aO i b h,h],rfl,
   fun i b _ ho=>⟨ho,fun arr e he=>⟨arr,by rw[Below.heap_alloc w _ b (hm.own i b ho).2.1];exact he,zzab _⟩,fun _ h=>h⟩,
   fun b hb=>⟨hb,Below.heap_alloc w _ b (hm.sp b hb).2.1⟩,Sz.of_same (Below.heap_alloc w _)⟩
 have ak8:∀i i' b,γ.β i=some b->γ.β i'=some b->(if i=id then some [x]else B i)=some []\/(if i'=id then some [x]else B i')=some []\/i=i':=fun i i' b h h'=>by
  rw[if_neg (VD i b h),if_neg (VD i' b h')];exact hm.inj i i' b h h'
 refine⟨bT,⟨w0.st _ _ _ _ hm.bs ⟨rfl,rfl,rfl,zd,fun b hb _=>Below.heap_alloc w _ b hb,bT.ro,fun b hb=>?_,fun _ _ h=>.inl h⟩,by have:=hm.hN;simp;omega,hm.an,fun b o h=>by have:=hm.robd b o h;simp;omega,
  fun i cells b hb h1=>?_,fun i b hb=>?_,ak8,fun i b hb=>?_,hm.oinj,fun b hb=>?_,fun i b hb=>?_,fun i i' b h h'=>?_,hm.len,hm.cur0⟩⟩
 ·obtain hb|hb|hb|⟨i,hb⟩:=hb
  ·exact .inl (.inl hb)
  ·exact .inl (.inr (.inl hb))
  ·exact .inl (.inr (.inr (.inl hb)))
  by_cases h:i=id
  ·simp[G.gq,h]at hb;exact .inr zE
  simp[G.gq,h]at hb;exact .inl (.inr (.inr (.inr ⟨i,hb⟩)))
 ·have mX:γ.β i=some b:=h1;simp only[if_neg (VD i b mX)]at hb;obtain⟨arr,e,h2,h3,h4⟩:=hm.box i cells b hb mX;exact⟨arr,e,by rw[Below.heap_alloc w _ b (aR h2)];exact h2,h3.mono bT,h4⟩
 ·have cL:γ.β i=some b:=hb;obtain⟨h1,h2,h3,h4,c,h5⟩:=hm.β i b cL;exact⟨h1,by simp;omega,h3,h4,c,by simp only[if_neg (VD i b cL)];exact h5⟩
 ·obtain⟨h1,h2,h3⟩:=hm.own i b hb;exact⟨h1,by simp;omega,h3⟩
 ·obtain⟨h1,h2,h3⟩:=hm.sp b hb;exact⟨h1,by simp;omega,h3⟩
 ·by_cases h:i=id
  ·subst h;simp[G.gq]at hb;subst hb;refine⟨hm.hN,zd,fun o' h=>?_,fun i h=>?_,fun i h=>?_,fun h=>?_,hβ0,x,o,zd,by show(w.heap.push _)[w.heap.size]?=_;simp,hx.mono bT.cG.Ap⟩
   ·have:=hm.robd _ _ h;omega
   ·have:=(hm.β i _ h).2.1;omega
   ·have:=(hm.own i _ h).2.1;omega
   have:=(hm.sp _ h).2.1;omega
  simp[G.gq,h]at hb;obtain⟨h1,h2,h3,h4,h5,h6,h8,h7⟩:=hm.mm i b hb;refine⟨h1,by simp;omega,h3,h4,h5,h6,h8,?_⟩;simp only[if_neg h];exact h7.mono bT.cG.Ap (Below.heap_alloc w _ b h2)
 by_cases hi:i=id<;>by_cases di:i'=id
 ·rw[hi,di]
 ·simp[G.gq,hi]at h;simp[G.gq,di]at h';have:=(hm.mm i' b h').2.1;omega
 ·simp[G.gq,hi]at h;simp[G.gq,di]at h';have:=(hm.mm i b h).2.1;omega
 simp[G.gq,hi]at h;simp[G.gq,di]at h';exact hm.minj i i' b h h'
def EW(hm:au N w0 an γ w m.B m.L){t:TypeId}{r:Option Operand}(h:((sop P gl orc e m dst (tr P ⟨dst,.makeMap t r,ty,pos,after,guard⟩)).1/\K (sop P gl orc e m dst (tr P ⟨dst,.makeMap t r,ty,pos,after,guard⟩)).2.1 (sop P gl orc e m dst (tr P ⟨dst,.makeMap t r,ty,pos,after,guard⟩)).2.2)):Ky N w0 an P ⟨dst,.makeMap t r,ty,pos,after,guard⟩ a γ w (m.st,m.ln) K:=by
 cases r with
 |some r=>exact h.1.elim
 |none=>
  simp only[tr]at h;split at h
  case h_2=>exact h.1.elim
  rename_i kn z ht;intro rd next Q hn
  have aL:m.B m.boxes.length=none:=by simp[AM.B]
  obtain⟨g1,g2⟩:=hm.JO _ aL (x:=.aJ kn []) (o:=.map #[] 0) ⟨rfl,rfl,fun i k a e q1=>by simp at q1⟩;refine Zk (v:=.map (some w.heap.size)) (w':=w.alloc (.map #[] 0)) (by simp[execOp,Instr.makeMap]) (hn _ _ (γ.gq m.boxes.length w.heap.size) _ _ h.2 rfl g1 ?_ (.mp (by simp[G.gq])));simp only[sop];rw[Sj];exact g2
def au.qN{B:Nat->PH}{L:Nat->Option Nat}(hm:au N w0 an γ w B L){id b:Nat}(hb:γ.mm id=some b){x:AV}{o:Obj}(hx:cK w γ x o):
  Ev w γ (w.putObj b o) γ/\au N w0 an γ (w.putObj b o) (fun i=>if i=id then some [x]else B i) L:=by
 obtain⟨n1,n2,n3,n4,n5,n6,n8,hmo⟩:=hm.mm id b hb;have hnc:=fun{arr:P1}{e:TypeId}{f:Nat×Nat}=>vC.UI hmo (arr:=arr) (e:=e) (f:=f);obtain⟨x0,o0,n7,h0,Nz⟩:=hmo;have cQ:∀b',b'≠b->(w.putObj b o).heap[b']?=w.heap[b']?:=fun b' cL=>World.putObj_heap_other cL;have EX:(w.putObj b o).heap[b]?=some o:=by simp[World.putObj,n2]
 have bL:∀b' o',(w.putObj b o).cell? ⟨b',o',none⟩=w.cell? ⟨b',o',none⟩:=fun b' o'=>by
  by_cases hbb:b'=b
  ·subst hbb;rw[Ny EX hx.PJ,Ny h0 Nz.PJ]
  exact cell_of_heap (cQ b' hbb)
 have bT:Ev w γ (w.putObj b o) γ:=by
  refine⟨zd,fun b' o' _ hr=>⟨hr,bL b' o'⟩,fun _ _ h=>h,fun _=>zzab _,fun _ _ h=>h,rfl,fun i b' _ ho=>⟨ho,fun arr e he=>⟨arr,?_,zzab _⟩,fun _ h=>h⟩,fun b' h=>⟨h,cQ b' (by rintro rfl;exact n6 h)⟩,fun b' arr e f h=>⟨arr,by rw[cQ b' (by rintro rfl;exact hnc h)];exact h,rfl⟩⟩;rw[cQ b' (by rintro rfl;exact n5 i ho)];exact he
 have ak8:∀i i' b',γ.β i=some b'->γ.β i'=some b'->(if i=id then some [x]else B i)=some []\/(if i'=id then some [x]else B i')=some []\/i=i':=fun i i' b' h h'=>by
  rw[if_neg (by rintro rfl;rw[n8]at h;cases h),if_neg (by rintro rfl;rw[n8]at h';cases h')];exact hm.inj i i' b' h h'
 refine⟨bT,⟨w0.st _ _ _ _ hm.bs ⟨rfl,rfl,rfl,zd,fun b' _ iw=>cQ b' (by rintro rfl;exact iw (.inr (.inr (.inr ⟨id,hb⟩)))),bT.ro,fun b' cL=>.inl cL,fun b' o' h=>.inl h⟩,Nm hm.hN,
  hm.an,fun b' o' h=>by simpa using hm.robd b' o' h,fun i cells b' dF h1=>?_,fun i b' cL=>?_,ak8,fun i b' cL=>?_,hm.oinj,fun b' cL=>?_,fun i b' cL=>?_,hm.minj,hm.len,hm.cur0⟩⟩
 ·have hi:i≠id:=by rintro rfl;rw[n8]at h1;cases h1
  simp only[if_neg hi]at dF;obtain⟨arr,e,h2,h3,h4⟩:=hm.box i cells b' dF h1;exact⟨arr,e,by rw[cQ b' (by rintro rfl;exact n4 i h1)];exact h2,h3.mono bT,h4⟩
 ·have hi:i≠id:=by rintro rfl;rw[n8]at cL;cases cL
  obtain⟨h1,h2,h3,h4,c',h5⟩:=hm.β i b' cL;exact⟨h1,Nm h2,h3,h4,c',by simp only[if_neg hi];exact h5⟩
 ·obtain⟨h1,h2,h3⟩:=hm.own i b' cL;exact⟨h1,Nm h2,h3⟩
 ·obtain⟨h1,h2,h3⟩:=hm.sp b' cL;exact⟨h1,Nm h2,h3⟩
 by_cases hi:i=id
 ·subst hi;obtain rfl:b'=b:=Option.some.inj (cL.symm.trans hb);exact⟨n1,Nm n2,n3,n4,n5,n6,n8,x,o,zd,EX,hx.mono bT.cG.Ap⟩
 obtain⟨h1,h2,h3,h4,h5,h6,h8,h7⟩:=hm.mm i b' cL;refine⟨h1,Nm h2,h3,h4,h5,h6,h8,?_⟩;simp only[if_neg hi];exact h7.mono bT.cG.Ap (cQ b' (by rintro rfl;exact hi (hm.minj _ _ _ cL hb)))
def nj{id:Nat}{x:AV}(h:m.boxes.getD id []=[x]):id<m.boxes.length/\m.B id=some [x]:=by
 have aL:id<m.boxes.length:=by
  rcases zzaa id m.boxes.length with h'|h'
  ·exact h'
  simp[List.getD,zzas h']at h
 refine⟨aL,?_⟩;simp[AM.B,aL];simpa[List.getD,aL]using h
def AF{kn:Nat}{kvs:List (Pi×AV)}{es:Array MapEntry}{n:Pi}{c:AV}{v:Value}(hn:EH kn n)(hl:kvs.length=es.size)
  (hk:∀(i:Nat)(k:Pi)(a:AV)(e:MapEntry),kvs[i]?=some (k,a)->es[i]?=some e->EH kn k/\e.key=Yo kn k/\e.born=i/\aA w γ a e.val)(hc:aA w γ c v):
  cK w γ (.aJ kn (kvs++[(n,c)])) (.map (es.push ⟨Yo kn n,v,es.size⟩) (es.size+1)):=by
 refine⟨zd,by simp[hl],fun j k' c' x' s1 s2=>?_⟩;rcases zzaa j kvs.length with hj|hj
 ·rw[zzaj hj]at s1;rw[Array.getElem?_push_lt zE]at s2;exact hk j k' c' x' s1 (by rw[zzah zE];exact s2)
 have Nt:j=kvs.length:=by
  have:=(zza.1 s1).1;simp at this;omega
 subst Nt;simp at s1;obtain⟨rfl,rfl⟩:=s1;rw[hl]at s2;simp at s2;subst s2;exact⟨hn,rfl,hl.symm,hc⟩
def vV{kn:Nat}{kvs:List (Pi×AV)}{es:Array MapEntry}{n:Pi}{j:Nat}{c:AV}{f:MapEntry->MapEntry}(hn:EH kn n)(hl:kvs.length=es.size)
  (hk:∀(i:Nat)(k:Pi)(a:AV)(e:MapEntry),kvs[i]?=some (k,a)->es[i]?=some e->EH kn k/\e.key=Yo kn k/\e.born=i/\aA w γ a e.val)(hj:j<kvs.length)
  (hf:∀e,es[j]?=some e->(f e).key=Yo kn n/\(f e).born=e.born/\aA w γ c (f e).val):
  cK w γ (.aJ kn (kvs.set j (n,c))) (.map (es.modify j f) es.size):=by
 refine⟨zd,by simp[hl],fun j' k' c' x' t1 t2=>?_⟩;rw[zzdn]at t2;by_cases hjj:j=j'
 ·subst hjj;have fP:j<es.size:=zE
  simp[fP]at t2;rw[zzbg zE]at t1;cases t1;subst t2;obtain⟨p1,p2,p3⟩:=hf es[j] (by simp[fP]);have:=hk j (kvs[j]'hj).1 (kvs[j]'hj).2 es[j] (by simp[hj]) (by simp[fP]);exact⟨hn,p1,by rw[p2];exact this.2.2.1,p3⟩
 rw[zzbn hjj]at t1;rw[if_neg hjj]at t2;exact hk j' k' c' x' t1 t2
def Cx(b:Nat)(o:Obj){es:Array MapEntry}{c:Nat}(q2:w.heap[b]?=some (.map es c)):(setObj b o).run P w=.ok () (w.putObj b o):=by simp[setObj,Sem.run,q2,World.putObj]
def JP(hm:au N w0 an γ w m.B m.L){t:TypeId}{x k y:Operand}(h1:aA w γ (e (aC x)) (a.eval x))(h2:aA w γ (e (aC k)) (a.eval k))(h3:aA w γ (e (aC y)) (a.eval y))
  (h:((sop P gl orc e m dst (tr P ⟨dst,.mapUpdate t x k y,ty,pos,after,guard⟩)).1/\K (sop P gl orc e m dst (tr P ⟨dst,.mapUpdate t x k y,ty,pos,after,guard⟩)).2.1 (sop P gl orc e m dst (tr P ⟨dst,.mapUpdate t x k y,ty,pos,after,guard⟩)).2.2)):Ky N w0 an P ⟨dst,.mapUpdate t x k y,ty,pos,after,guard⟩ a γ w (m.st,m.ln) K:=by
 simp only[tr]at h;split at h
 case h_2=>exact h.1.elim
 rename_i kn z ht;simp only[sop]at h;split at h
 case h_2=>exact h.1.elim
 rename_i id n e1 e2;rw[e1]at h1;obtain⟨e3,gj⟩:=Cu e2;rw[e3]at h2;split at h
 case h_2=>exact h.1.elim
 rename_i se kvs eX;obtain⟨⟨Eb,hba⟩,hK⟩:=h;subst Eb;obtain⟨kt,vt,i,zv,hu,hk,hi,hz,rfl⟩:=kH ht;obtain⟨aL,Cy⟩:=nj eX;obtain⟨b,es,hb,hv,q2,q3,q4⟩:=hm.iS h1 Cy
 obtain⟨f1,f2⟩:=Cv (w:=w) (γ:=γ) (P:=P) hk gj (kvs:=kvs) (es:=es.toList) (Nm q3) fun j k' c x' g1 g2=>by
  obtain⟨p1,p2,_,p3⟩:=q4 j k' c x' g1 (Nm g2);exact⟨p1,p2,p3⟩
 have cp:=MapKept.run_getObj_map (P:=P) q2;have bR:=fun o=>Cx (P:=P) b o q2;have gm:(Instr.checkKey false 10000 kt (Yo se n)).run P w=.ok () w:=run_checkKey hk gj;have Si:=qK gj h2;intro rd next Q hn
 cases hf:Xk n kvs 0 with
 |none=>
  rw[hf]at hK;have Pz:=f1 hf
  have aZ:(execOp a.eval ⟨dst,.mapUpdate t x k y,ty,pos,after,guard⟩).run P w=.ok .skip (w.putObj b (.map (es.push ⟨Yo se n,a.eval y,es.size⟩) (es.size+1))):=by
   simp[execOp,Instr.mapUpdate,run_underlying hu,hv,Si,cp,gm,Pz,bR]
  obtain⟨g1,g2⟩:=hm.qN hb (AF gj q3 q4 h3);refine oI aZ (hn undef _ γ _ _ hK rfl g1 ?_ (.junk _));rw[mg m id aL];exact g2
 |some p=>
  obtain⟨j,c⟩:=p;rw[hf]at hK;obtain⟨vv,Pz,s2,s3,s4⟩:=f2 j c hf;have gK:j<es.size:=zE
  have iU:=(q4 j n c es[j] s4 (zzah gK)).2.1;have Iv:=oR (P:=P) (w:=w) (new:=Yo se n) gj iU rfl
  have aZ:(execOp a.eval ⟨dst,.mapUpdate t x k y,ty,pos,after,guard⟩).run P w=.ok .skip (w.putObj b (.map (es.modify j fun q=>{q with key:=Yo se n,val:=a.eval y}) es.size)):=by
   simp[execOp,Instr.mapUpdate,run_underlying hu,hv,Si,cp,gm,Pz,gK,Iv,bR]
  obtain⟨g1,g2⟩:=hm.qN hb (vV (j:=j) (c:=e (aC y)) (f:=fun q=>{q with key:=Yo se n,val:=a.eval y}) gj q3 q4 s3 fun e he=>⟨rfl,rfl,h3⟩);refine oI aZ (hn undef _ γ _ _ hK rfl g1 ?_ (.junk _));rw[mg m id aL];exact g2
def JQ(hm:au N w0 an γ w m.B m.L){t:TypeId}{x k:Operand}(h1:aA w γ (e (aC x)) (a.eval x))(h2:aA w γ (e (aC k)) (a.eval k))
  (h:((sop P gl orc e m dst (tr P ⟨dst,.mapEntry t x k,ty,pos,after,guard⟩)).1/\K (sop P gl orc e m dst (tr P ⟨dst,.mapEntry t x k,ty,pos,after,guard⟩)).2.1 (sop P gl orc e m dst (tr P ⟨dst,.mapEntry t x k,ty,pos,after,guard⟩)).2.2)):Ky N w0 an P ⟨dst,.mapEntry t x k,ty,pos,after,guard⟩ a γ w (m.st,m.ln) K:=by
 simp only[tr]at h;split at h
 case h_2=>exact h.1.elim
 rename_i kn z ht;simp only[sop]at h;split at h
 case h_2=>exact h.1.elim
 rename_i id n e1 e2;rw[e1]at h1;obtain⟨e3,gj⟩:=Cu e2;rw[e3]at h2;split at h
 case h_2=>exact h.1.elim
 rename_i se kvs eX;obtain⟨Eb,hK⟩:=h;simp only at Eb;subst Eb;obtain⟨kt,vt,i,zv,hu,hk,hi,hz,rfl⟩:=kH ht;obtain⟨aL,Cy⟩:=nj eX;obtain⟨b,es,hb,hv,q2,q3,q4⟩:=hm.iS h1 Cy
 obtain⟨f1,f2⟩:=Cv (w:=w) (γ:=γ) (P:=P) hk gj (kvs:=kvs) (es:=es.toList) (Nm q3) fun j k' c x' g1 g2=>by
  obtain⟨p1,p2,_,p3⟩:=q4 j k' c x' g1 (Nm g2);exact⟨p1,p2,p3⟩
 have cp:=MapKept.run_getObj_map (P:=P) q2;have bR:=fun o=>Cx (P:=P) b o q2;have gm:(Instr.checkKey false 10000 kt (Yo se n)).run P w=.ok () w:=run_checkKey hk gj;have Si:=qK gj h2;intro rd next Q hn
 cases hf:Xk n kvs 0 with
 |none=>
  rw[hf]at hK;have Pz:=f1 hf
  have aZ:(execOp a.eval ⟨dst,.mapEntry t x k,ty,pos,after,guard⟩).run P w=.ok (.value (.tuple #[zv,.int .i64 es.size])) (w.putObj b (.map (es.push ⟨Yo se n,zv,es.size⟩) (es.size+1))):=by
   simp[execOp,Instr.mapEntry,run_underlying hu,hv,Si,cp,gm,Pz,bR,zeroValue,typeInfo,hi,hz,goInt]
  obtain⟨g1,g2⟩:=hm.qN hb (AF gj q3 q4 (Kc w γ zv));refine Zk aZ (hn _ _ γ _ _ hK rfl g1 ?_ ?_)
  ·rw[mg m id aL];exact g2
  rw[q3];exact(ak.cons (Kc _ γ zv) (ak.cons (.int .i64 _) ak.nil)).zm
 |some p=>
  obtain⟨j,c⟩:=p;rw[hf]at hK;obtain⟨vv,Pz,s2,s3,s4⟩:=f2 j c hf;have gK:j<es.size:=zE
  have iU:=q4 j n c es[j] s4 (zzah gK);have Iv:=oR (P:=P) (w:=w) (new:=Yo se n) gj iU.2.1 rfl
  have aZ:(execOp a.eval ⟨dst,.mapEntry t x k,ty,pos,after,guard⟩).run P w=.ok (.value (.tuple #[vv,.int .i64 j])) (w.putObj b (.map (es.modify j fun q=>{q with key:=Yo se n}) es.size)):=by
   simp[execOp,Instr.mapEntry,run_underlying hu,hv,Si,cp,gm,Pz,gK,Iv,bR,goInt,iU.2.2.1]
  have VE:kvs.set j (n,c)=kvs:=by
   apply zzcz;intro i;by_cases eF:j=i
   ·subst eF;rw[zzbg s3,s4]
   rw[zzbn eF]
  obtain⟨g1,g2⟩:=hm.qN hb (vV (j:=j) (c:=c) (f:=fun q=>{q with key:=Yo se n}) gj q3 q4 s3 fun e he=>⟨rfl,rfl,(q4 j n c e s4 he).2.2.2⟩);rw[VE]at g2;refine Zk aZ (hn _ _ γ _ _ hK rfl g1 ?_ ?_)
  ·rw[mg m id aL];exact g2
  exact((ak.cons s2 (ak.cons (.int .i64 _) ak.nil)).mono g1).zm
def JR(hm:au N w0 an γ w m.B m.L){t:TypeId}{x k y:Operand}(h1:aA w γ (e (aC x)) (a.eval x))(h2:aA w γ (e (aC k)) (a.eval k))(h3:aA w γ (e (aC y)) (a.eval y))
  (h:((sop P gl orc e m dst (tr P ⟨dst,.entryStore t x k y,ty,pos,after,guard⟩)).1/\K (sop P gl orc e m dst (tr P ⟨dst,.entryStore t x k y,ty,pos,after,guard⟩)).2.1 (sop P gl orc e m dst (tr P ⟨dst,.entryStore t x k y,ty,pos,after,guard⟩)).2.2)):Ky N w0 an P ⟨dst,.entryStore t x k y,ty,pos,after,guard⟩ a γ w (m.st,m.ln) K:=by
 simp only[tr,sop]at h;split at h
 case h_2=>exact h.1.elim
 rename_i id kk i e1 e2;rw[e1]at h1;rw[e2]at h2;split at h
 case h_2=>exact h.1.elim
 rename_i kn kvs eX;obtain⟨⟨⟨hi0,iV⟩,hba⟩,hK⟩:=h;obtain⟨aL,Cy⟩:=nj eX;obtain⟨b,es,hb,hv,q2,q3,q4⟩:=hm.iS h1 Cy;have cp:=MapKept.run_getObj_map (P:=P) q2;have bR:=fun o=>Cx (P:=P) b o q2;obtain⟨j,rfl⟩:∃j:Nat,i=j:=⟨i.toNat,zE⟩;have gK:j<es.size:=zE
 have tH:j<kvs.length:=zE
 have hfi:es.findIdx? (fun e=>(e.born:Int)==(j:Int))=some j:=by
  rw[Array.findIdx?_eq_some_iff_getElem];refine⟨gK,by simp[Qen q3 q4 gK],fun l hl=>?_⟩;have:=Qen q3 q4 (i:=l) zE;simp[this];omega
 have aZ:(execOp a.eval ⟨dst,.entryStore t x k y,ty,pos,after,guard⟩).run P w=.ok .skip (w.putObj b (.map (es.modify j fun q=>{q with val:=a.eval y}) es.size)):=by
  simp[execOp,Instr.entryStore,hv,cp,h2.aI,asInt,asIntOf,hfi,bR]
 have iU:=q4 j (kvs[j]'tH).1 (kvs[j]'tH).2 es[j] (by simp[tH]) (by simp[gK])
 obtain⟨g1,g2⟩:=hm.qN hb (vV (j:=j) (n:=(kvs[j]'tH).1) (c:=e (aC y)) (f:=fun q=>{q with val:=a.eval y}) iU.1 q3 q4 tH fun e he=>⟨by
  have:=q4 j (kvs[j]'tH).1 (kvs[j]'tH).2 e (by simp[tH]) he;exact this.2.1,rfl,h3⟩)
 intro rd next Q hn
 have JM:(kvs.getD (Int.toNat (j:Int)) ([],.junk)).1=(kvs[j]'tH).1:=by simp[List.getD,tH]
 rw[JM]at hK;refine oI aZ (hn undef _ γ _ _ hK rfl g1 ?_ (.junk _));rw[mg m id aL];exact g2
def PK(hm:au N w0 an γ w m.B m.L){t:TypeId}{x:Operand}(h1:aA w γ (e (aC x)) (a.eval x))
  (h:((sop P gl orc e m dst (tr P ⟨dst,.range t x,ty,pos,after,guard⟩)).1/\K (sop P gl orc e m dst (tr P ⟨dst,.range t x,ty,pos,after,guard⟩)).2.1 (sop P gl orc e m dst (tr P ⟨dst,.range t x,ty,pos,after,guard⟩)).2.2)):Ky N w0 an P ⟨dst,.range t x,ty,pos,after,guard⟩ a γ w (m.st,m.ln) K:=by
 simp only[tr]at h;split at h
 case h_2=>exact h.1.elim
 rename_i p ht;obtain⟨kn,z⟩:=p;simp only[sop]at h;split at h
 case h_2=>exact h.1.elim
 rename_i id e1;rw[e1]at h1;split at h
 case h_2=>exact h.1.elim
 rename_i se kvs eX;obtain⟨kt,vt,i,zv,hu,hk,hi,hz,rfl⟩:=kH ht;obtain⟨aL,Cy⟩:=nj eX;obtain⟨b,es,hb,hv,q2,q3,q4⟩:=hm.iS h1 Cy;have cH:m.B m.boxes.length=none:=by simp[AM.B]
 obtain⟨g1,g2⟩:=hm.JO _ cH (x:=.mitr id kvs.length []) (o:=.mapIter (some b) es.size #[] es.size) ⟨hb,q3.symm,q3.symm,rfl⟩
 have aZ:(execOp a.eval ⟨dst,.range t x,ty,pos,after,guard⟩).run P w=.ok (.value (.pointer (some ⟨w.heap.size,0,none⟩))) (w.alloc (.mapIter (some b) es.size #[] es.size)):=by
  simp[execOp,hv,run_range_map w t kt vt b es es.size hu q2]
 intro rd next Q hn
 refine Zk aZ (hn _ _ (γ.gq m.boxes.length w.heap.size) _ _ h.2 rfl g1 ?_ (.it (by simp[G.gq])));rw[Sj];exact g2
def JS(hm:au N w0 an γ w m.B m.L){t:TypeId}{l c:Operand}(h0:aA w γ (e (aC l)) (a.eval l))(h1:aA w γ (e (aC c)) (a.eval c))
  (h:((sop P gl orc e m dst (tr P ⟨dst,.makeSlice t l c,ty,pos,after,guard⟩)).1/\K (sop P gl orc e m dst (tr P ⟨dst,.makeSlice t l c,ty,pos,after,guard⟩)).2.1 (sop P gl orc e m dst (tr P ⟨dst,.makeSlice t l c,ty,pos,after,guard⟩)).2.2)):Ky N w0 an P ⟨dst,.makeSlice t l c,ty,pos,after,guard⟩ a γ w (m.st,m.ln) K:=by
 simp only[tr]at h;split at h
 case h_2=>exact h.1.elim
 rename_i te hu;split at h
 case h_3=>exact h.1.elim
 case h_2=>
  rename_i i hi Cz;split at h
  case h_2=>exact h.1.elim
  rename_i zs Cq;obtain⟨i',z,di,hz,JI⟩:=iQ (w:=w) (γ:=γ) Cq;rw[hi]at di;cases di;simp only[sop]at h;split at h
  case h_2=>exact h.1.elim
  rename_i k1 n1 k2 n2 e1 e2;rw[e1]at h0;rw[e2]at h1;obtain⟨⟨⟨g0,g1,g2,g3⟩,g4,g5⟩,g6⟩:=h;have aZ:=run_make (P:=P) w t te i z hu hi hz k1 k2 n1 n2 g0 zE g2 g3;have aL:m.B m.boxes.length=none:=by simp[AM.B]
  have gp:=Yn JI g5;have EV:z.cells.size=zs.length:=by have:=JI.1;simp at this;omega
  intro rd next Q hn
  refine Zk (v:=.slice (some ⟨w.heap.size,0,none⟩) n1.toNat n2.toNat) (w':=w.alloc (.cells (madeCells z.cells (n2.toNat*i.size)) te)) (by simp[execOp,h0.aI,h1.aI,aZ])
   (hn _ _ (γ.box m.boxes.length w.heap.size) _ _ g6 rfl (hm.dw _ aL _) ?_ ?_)
  ·rw[Sj]
   have zk:∀v∈(madeCells z.cells (n2.toNat*i.size)).toList,v.oneCell'=true:=fun v hv=>by
    simp[madeCells]at hv;obtain⟨k,hk,rfl⟩:=hv
    have h0:0<z.cells.size:=by
     rcases zzck z.cells.size with h0|h0
     ·rw[h0]at EV;rw[<- g4,<- EV]at hk;simp at hk
     exact h0
    have ai:k%z.cells.size<z.cells.size:=zzee _ h0;rw[getElem!_pos z.cells _ ai];exact gp _ zd
   refine hm.eW _ aL ⟨by simp[Kt,size_madeCells,g4],fun k c v j1 j2=>?_⟩ zk;obtain⟨q1,q2⟩:=kJ j1
   have h0:0<zs.length:=by
    rcases zzck zs.length with h0|h0
    ·simp[h0]at q1
    exact h0
   have ai:k%zs.length<z.cells.size:=by rw[EV];exact zzee _ h0
   have ER:v=z.cells[k%zs.length]:=by
    simp only[madeCells,zzcd,zzgb]at j2;rw[zzah (by simp;rw[<- g4];exact q1)]at j2;simp[EV]at j2;rw[<- j2,getElem!_pos z.cells _ ai]
   subst ER;exact JI.2 _ c _ q2 (by simp[ai])
  exact .bs (arr:=madeCells z.cells (n2.toNat*i.size)) (e:=te) (by simp[G.box]) zE (by show(w.heap.push _)[w.heap.size]?=_;simp) (by rw[zzbs,size_madeCells];exact zzab _)
 rename_i i hi;split at h
 case isFalse=>exact h.1.elim
 rename_i iR;simp only[zzac,beq_iff_eq,bne_iff_ne]at iR;obtain⟨iR,hi0⟩:=iR
 obtain⟨z,hz,Cq,hzo⟩:∃z,i.zero=some z/\z.cells.size=i.size/\∀v∈z.cells,v.oneCell'=true:=by
  cases hz:i.zero with
  |none=>simp[hz]at iR
  |some z=>
   simp[hz]at iR
   exact⟨z,rfl,iR.1,fun v hv=>by
    obtain⟨k,hk,rfl⟩:=zzhb.1 hv;exact iR.2 k hk⟩
 have VF:∀(n:Nat),z.cells.size≠0->∀v∈(madeCells z.cells n).toList,v.oneCell'=true:=fun n h0 v hv=>by
  simp[madeCells]at hv;obtain⟨k,hk,rfl⟩:=hv;have ai:k%z.cells.size<z.cells.size:=zzee _ zE;rw[getElem!_pos z.cells _ ai];exact hzo _ zd
 simp only[sop]at h;split at h
 case h_2=>exact h.1.elim
 rename_i kk n e1;rw[e1]at h1;have JJ:a.eval (.const (.int .i64 0))=.int .i64 0:=rfl;split at h
 ·split at h
  ·rename_i hc0;obtain⟨⟨g1,g2,g3⟩,g4⟩:=h;have aZ:=run_make (P:=P) w t te i z hu hi hz .i64 kk 0 n (zzbt _) g1 g2 g3;intro rd next Q hn
   have aL:m.B m.boxes.length=none:=by simp[AM.B]
   refine Zk (v:=.slice (some ⟨w.heap.size,0,none⟩) 0 n.toNat) (w':=w.alloc (.cells (madeCells z.cells (n.toNat*i.size)) te)) (by simp[execOp,JJ,h1.aI,aZ])
    (hn _ _ (γ.box m.boxes.length w.heap.size) _ _ g4 rfl (hm.dw _ aL _) ?_ ?_)
   ·rw[Sj];exact hm.eW _ aL ⟨zd,fun k c v j1 j2=>by simp at j1⟩ (by rw[hc0];simp[madeCells])
   exact .sl (rows:=[]) w.heap.size 0 i.size (fun _ _=>undef) (zzbp _) (fun h=>(by cases h)) (fun h=>absurd rfl h) (fun _ h=>by cases h) (fun i j c h=>by simp[Qv]at h) (fun i j c h=>by simp[Qv]at h) (by simpa[qE]using hc0)
  obtain⟨⟨g1,g2,g3⟩,g4⟩:=h;have aZ:=run_make (P:=P) w t te i z hu hi hz .i64 kk 0 n (zzbt _) g1 g2 g3;have aL:m.B m.boxes.length=none:=by simp[AM.B]
  intro rd next Q hn
  refine Zk (v:=.slice (some ⟨w.heap.size,0,none⟩) 0 n.toNat) (w':=w.alloc (.cells (madeCells z.cells (n.toNat*i.size)) te)) (by simp[execOp,JJ,h1.aI,aZ])
   (hn _ _ (γ.box m.boxes.length w.heap.size) _ _ g4 rfl (hm.dw _ aL _) ?_ ?_)
  ·rw[Sj];refine hm.eW _ aL ⟨by simp[size_madeCells],fun k c v j1 j2=>?_⟩ (VF _ zE);simp[zzcm]at j1;rw[<- j1.2];exact .junk _
  exact .bs (arr:=madeCells z.cells (n.toNat*i.size)) (e:=te) (by simp[G.box]) zE (by show(w.heap.push _)[w.heap.size]?=_;simp) (by rw[zzbs,size_madeCells];exact zzab _)
 obtain⟨⟨g1,g2,g3⟩,g4⟩:=h;have aZ:=run_make (P:=P) w t te i z hu hi hz .i64 kk 0 n (zzbt _) g1 g2 g3;have hL:m.L m.lens.length=none:=by simp[AM.L]
 have cW:γ.cur m.lens.length=0:=hm.cur0 _ hL
 have ct:γ.own m.lens.length=none:=by
  cases h:γ.own m.lens.length with
  |none=>rfl
  |some b=>obtain⟨_,_,k,hk⟩:=hm.own _ _ h;rw[hL]at hk;cases hk
 intro rd next Q hn
 let o:Obj:=.cells (madeCells z.cells (n.toNat*i.size)) te
 refine Zk (v:=.slice (some ⟨w.heap.size,0,none⟩) 0 n.toNat) (w':=w.alloc o) (by simp[execOp,JJ,h1.aI,aZ,o])
  (hn _ _ (γ.renew m.lens.length w.heap.size 0 0) _ _ g4 rfl (hm.fF (q:=0) zE (fun _=>ct) o) ?_ ?_)
 ·rw[Cw];exact hm.renew zE (fun _=>ct) o
 refine .sl (rows:=[]) w.heap.size 0 i.size (fun _ _=>undef) (zzbp _) (fun h=>(by cases h)) (fun h=>absurd rfl h) (fun _ h=>by cases h) (fun i j c h=>by simp[Qv]at h) (fun i j c h=>by simp[Qv]at h) ?_;refine⟨rfl,zzbp _,fun _=>.inr ⟨w.heap.size,0,madeCells z.cells (n.toNat*i.size),te,rfl,by simp[G.renew],by show(w.heap.push _)[w.heap.size]?=_;simp[o],by simp[size_madeCells],fun o' _ hr=>?_⟩⟩;obtain hr|⟨_,hr⟩:=hr
 ·have:=hm.robd _ _ hr;omega
 omega
def PL(hm:au N w0 an γ w m.B m.L)(lE:∀g,aA w γ.cT (gl g) (.pointer (some ⟨g,0,none⟩))){t:TypeId}{len:Nat}{parts:Array (Nat×Operand)}(he:∀x∈(Op.buildSlice t len parts).operands,aA w γ (e (aC x)) (a.eval x))
  (h:((sop P gl orc e m dst (tr P ⟨dst,.buildSlice t len parts,ty,pos,after,guard⟩)).1/\K (sop P gl orc e m dst (tr P ⟨dst,.buildSlice t len parts,ty,pos,after,guard⟩)).2.1 (sop P gl orc e m dst (tr P ⟨dst,.buildSlice t len parts,ty,pos,after,guard⟩)).2.2)):
  Ky N w0 an P ⟨dst,.buildSlice t len parts,ty,pos,after,guard⟩ a γ w (m.st,m.ln) K:=by
 by_cases hmut:mutO orc dst=true
 case neg=>
  refine qL (o:=⟨dst,.buildSlice t len parts,ty,pos,after,guard⟩) (orc:=orc) hm lE he ?_;simp only[tr]at h |-
  repeat' split at h
  all_goals first|exact h.1.elim|skip
  simp only[sop,if_neg hmut]at h;simp_all
 have h1:∀p∈parts,aA w γ (e (aC p.2)) (a.eval p.2):=fun p hp=>he p.2 (by simp[Op.operands];exact⟨p.1,hp⟩);simp only[tr]at h;split at h
 case h_2=>exact h.1.elim
 rename_i te hu;split at h
 case h_2=>exact h.1.elim
 rename_i i hi;split at h
 case isFalse=>exact h.1.elim
 rename_i bQ;simp only[zzac,beq_iff_eq,bne_iff_ne,decide_eq_true_eq]at bQ;obtain⟨⟨hz,Nv⟩,vH⟩:=bQ;cases iR:i.zero with
 |none=>simp[iR]at hz
 |some z=>
  simp[iR]at hz;simp only[sop,if_pos hmut]at h;obtain⟨⟨fk,Cs⟩,hk⟩:=h
  let dX:P1:=(Array.range (len*i.size)).map (z.cells[·%z.cells.size]!)
  have Ct:ak w γ (List.replicate (len*i.size) .junk) dX.toList:=by
   refine⟨by simp[dX],fun j x v hj _=>?_⟩;simp[zzcm]at hj;rw[<- hj.2];exact .junk _
  obtain⟨cells,f1,f2,f3⟩:=Qbx (w:=w) (γ:=γ) (place:=fun j=>some (j*i.size,i.size)) (parts.toList.map fun p=>(p.1*i.size,i.size,e (aC p.2))) (parts.toList.map fun p=>(p.1,a.eval p.2)) _ dX zd (fun j p q dW ov=>by
    simp at dW ov;obtain⟨x1,x2,Pf,rfl⟩:=dW;obtain⟨y1,y2,hy1,rfl⟩:=ov;rw[Pf]at hy1;cases hy1;exact⟨rfl,h1 (x1,x2) (zzda Pf)⟩) Ct (by simpa[Function.comp_def]using fk)
  have hq':(Qdi (List.replicate (len*i.size) .junk) ((parts.toList.map fun p=>(p.1,aC p.2)).map fun p=>(p.1*i.size,i.size,e p.2))).2=(Qdi (List.replicate (len*i.size) .junk) (parts.toList.map fun p=>(p.1*i.size,i.size,e (aC p.2)))).2:=by
   simp[Function.comp_def]
  rw[hq']at Cs hk;have fq:cells.size=len*i.size:=by rw[f3];simp[dX]
  have aZ:(execOp a.eval ⟨dst,.buildSlice t len parts,ty,pos,after,guard⟩).run P w=.ok (.value (.slice (some ⟨w.heap.size,0,none⟩) len len)) (w.alloc (.cells cells te)):=by
   have UW:¬(16777216<len*i.size):=zE
   by_cases qs:len*i.size=0
   ·have eY:dX=(Array.range (len*i.size)).map ((#[]:P1)[·%(#[]:P1).size]!):=by
     simp[dX,qs]
    rw[eY]at f1
    have gJ:len=0:=by
     rcases Nat.mul_eq_zero.1 qs with h|h
     ·exact h
     exact absurd h Nv
    simp[qs]at f1;simp[execOp,Instr.buildSlice,run_underlying hu,sizeOf,typeInfo,hi,qs,f1,newRow]
   simp only[execOp,Instr.buildSlice];have f1':Instr.fill (fun j=>some (j*i.size,i.size)) ((Array.range (len*i.size)).map (z.cells[·%z.cells.size]!)) (parts.toList.map fun p=>(p.1,a.eval p.2))=some cells:=f1;simp[run_underlying hu,sizeOf,typeInfo,zeroValue,hi,iR,qs,UW,f1',newRow]
  have aL:m.B m.boxes.length=none:=by simp[AM.B]
  intro rd next Q hn
  refine Zk aZ (hn _ _ (γ.box m.boxes.length w.heap.size) _ _ hk rfl (hm.dw _ aL _) ?_ ?_)
  ·rw[Sj];exact hm.eW _ aL f2.toP (Yn f2 Cs)
  exact .bs (arr:=cells) (e:=te) (by simp[G.box]) (zzab _) (by show(w.heap.push _)[w.heap.size]?=_;simp) (by rw[zzbs,fq];exact zzab _)
def AG(hm:au N w0 an γ w m.B m.L)(lE:∀g,aA w γ.cT (gl g) (.pointer (some ⟨g,0,none⟩)))
  (he:∀x∈o.op.operands,aA w γ (e (aC x)) (a.eval x))(h:((sop P gl orc e m o.dst (tr P o)).1/\K (sop P gl orc e m o.dst (tr P o)).2.1 (sop P gl orc e m o.dst (tr P o)).2.2)):Ky N w0 an P o a γ w (m.st,m.ln) K:=by
 have uk:sop P gl orc e m o.dst (tr P o)=((rop P gl orc e m o.dst (tr P o)).1,(rop P gl orc e m o.dst (tr P o)).2,m)->Ky N w0 an P o a γ w (m.st,m.ln) K:=fun hg=>
  qL hm lE he (by rw[hg]at h;exact h)
 obtain⟨dst,op,ty,pos,after,guard⟩:=o;cases op with
 |alloc t=>exact ET hm h
 |box t x=>exact PD hm (he x (by simp[Op.operands])) h
 |store t x y=>exact EU hm (he x (by simp[Op.operands])) (he y (by simp[Op.operands])) h
 |call c=>exact PG hm lE he h
 |makeMap t r=>exact EW hm h
 |mapUpdate t x k y=>exact JP hm (he x (by simp[Op.operands])) (he k (by simp[Op.operands])) (he y (by simp[Op.operands])) h
 |mapEntry t x k=>exact JQ hm (he x (by simp[Op.operands])) (he k (by simp[Op.operands])) h
 |entryStore t x k y=>exact JR hm (he x (by simp[Op.operands])) (he k (by simp[Op.operands])) (he y (by simp[Op.operands])) h
 |range t x=>exact PK hm (he x (by simp[Op.operands])) h
 |next x s=>refine uk ?_;cases s<;>rfl
 |makeSlice t l c=>exact JS hm (he l (by simp[Op.operands])) (he c (by simp[Op.operands])) h
 |buildSlice t len parts=>exact PL hm lE he h
 |binOp op t x y t'=>
  refine uk ?_;simp only[tr,lZ,Qcq,zh];repeat' split
  all_goals rfl
 |build t parts=>
  refine uk ?_;simp only[tr,Wt];repeat' split
  all_goals rfl
 |slice t x lo hi mx=>refine uk ?_;cases mx<;>simp only[tr]<;>(repeat' split)<;>rfl
 |makeFunc fn first cap=>refine uk ?_;cases fn<;>rfl
 |_=>first|exact uk rfl|(
  refine uk ?_;simp only[tr];repeat' split
  all_goals rfl)
end
open Go Go.RowKit
structure SO where
 dst:Option Nat
 op:aF
 guard:Option (Option Nat×Bool)
 xs:List bE
def Xf(P:Program)(ops:Array Oper)(o:Oper):SO:=
 {dst:=o.dst,op:=tr P o,guard:=o.guard.map fun p=>((ops[p.1]?).bind (·.dst),p.2),xs:=if o.guard.isSome then o.op.operands.toList.map aC else[]}
structure AS where
 T:P2
 m:AM
abbrev R0:=Exit->AS->Prop
def put(T:P2)(dst:Option Nat)(a:AV):P2:=match dst with|some d=>T.set d a|none=>T
def strip:AV->AV
 |.gd _ a=>a
 |a=>a
def evS(gl:Nat->AV)(T:P2)(x:bE):AV:=strip (ev gl T x)
def gok(gl:Nat->AV)(T:P2)(g:Bool):List bE->Prop
 |[]=>True
 |x::r=>(match ev gl T x with|.gd g' _=>(g=true->g'=true)|_=>True)/\gok gl T g r
def rawOp:aF->Bool
 |.pick _ _ _=>true
 |_=>false
def evG(gl:Nat->AV)(T:P2)(op:aF):bE->AV:=bif rawOp op then ev gl T else evS gl T
def gxs(op:aF)(xs:List bE):List bE:=bif rawOp op then[]else xs
def Ec(want:Bool):AV->Option Bool
 |.bool g=>some (g==want)
 |.gd d (.bool b)=>some (d&&(b==want))
 |.gd false _=>some false
 |_=>none
abbrev YT:=Nat->P2->AM->(Bool->AM->Prop)->Prop
def qO:Exit->Option Code
 |.ret=>some .ret
 |.exit id=>some (.exit id)
 |_=>none
def JT:LS->Loop->Prop
 |.gone,_=>True
 |.ready,r=>r.state=.ready/\r.pending=none
 |.busy,r=>r.state=.busy
 |.done ex,r=>r.state=.done/\r.pending=qO ex/\(qO ex).isSome=true
def cS(γ:G)(w:World)(m:AM):Prop:=(∀i,m.st i=.gone\/∃l,γ.lp i=some l/\γ.sp l/\∃r,w.heap[l]?=some (.loop r)/\JT (m.st i) r)/\
 (∀i,m.ln<=i->γ.lp i=none)/\(∀i j l,γ.lp i=some l->γ.lp j=some l->i=j)/\∀i l,γ.lp i=some l->γ.sp l/\∃r,w.heap[l]?=some (.loop r)
def cS.mono'{γ:G}{w:World}{m m':AM}(h:cS γ w m){γ':G}{w':World}(e:Ev w γ w' γ')(hm:(m'.st,m'.ln)=(m.st,m.ln)):cS γ' w' m':=by
 simp only[Prod.mk.injEq]at hm;unfold cS;rw[hm.1,hm.2,e.lp];exact⟨fun i=>(h.1 i).imp_right fun⟨l,h0,h1,r,h2,h3⟩=>⟨l,h0,(e.sp l h1).1,r,(e.sp l h1).2.trans h2,h3⟩,h.2.1,h.2.2.1,fun i l hl=>let⟨h1,r,h2⟩:=h.2.2.2 i l hl;⟨(e.sp l h1).1,r,(e.sp l h1).2.trans h2⟩⟩
def cS.mono{γ:G}{w:World}{m:AM}(h:cS γ w m){γ':G}{w':World}(e:Ev w γ w' γ'):cS γ' w' m:=h.mono' e rfl
def YOK(N:Nat)(w0:eN)(an:Nat->Nat->Prop)(P:Program)(Y:YT)(γ:G)(w:World):Prop:=∀(γ':G)(w':World),eC w γ w' γ'->∀(i:Nat)(args:P2)(m:AM)(K:Bool->AM->Prop)(vs:PQ),
 au N w0 an γ' w' m.B m.L->cS γ' w' m->ak w' γ' args vs->Y i args m K->∀l,γ'.lp i=some l->
 YieldAt (FW none) 0 P l vs.toArray w' fun e qG=>∃b Ea lG,e=.returned (.bool b)/\eC w' γ' qG Ea/\au N w0 an Ea qG lG.B lG.L/\cS Ea qG lG/\K b lG
def YOK.mono{N:Nat}{w0:eN}{an:Nat->Nat->Prop}{P:Program}{Y:YT}{γ:G}{w:World}(h:YOK N w0 an P Y γ w){γ':G}{w':World}(e:eC w γ w' γ'):YOK N w0 an P Y γ' w':=
 fun Ea qG e'=>h Ea qG (e.trans e')
def aB(P:Program)(gl:Nat->AV)(Y:YT)(f:FuncId)(as':P2)(m:AM)(K:So):Prop:=
 bw P f/\∀(N:Nat)(w0:eN)(an:Nat->Nat->Prop)(γ:G)(w:World)(vs:PQ),au N w0 an γ w m.B m.L->cS γ w m->(∀g,aA w γ.cT (gl g) (.pointer (some ⟨g,0,none⟩)))->
  YOK N w0 an P Y γ w->ak w γ as' vs->
  CallsIn (FW none) 0 P f vs.toArray w fun e w'=>∃v γ' r m',e=.returned v/\eC w γ w' γ'/\au N w0 an γ' w' m'.B m'.L/\cS γ' w' m'/\aA w' γ' r v/\K r m'
section vc
variable (P:Program) (gl:Nat->AV) (orc:UV) (Y:YT)
def effy(e:bE->AV)(m:AM)(dst:Option Nat):aF->Bool
 |.call f args=>(match e f with
  |.yld _=>true
  |.fn f first cap=>(match orc (dst.getD 0) f ((first++args.map e++cap).map (bz m 6))with|.gd false _=>true|_=>false)
  |_=>false)
 |.nxt _=>true
 |_=>false
def vcNxt(m:AM)(K:So):AV->Prop
 |.it id=>(match m.boxes.getD id []with
  |[.mitr mid n seen]=>(match m.boxes.getD mid []with
   |[.aJ kn kvs]=>kvs.length=n/\(∀i k c,kvs[i]?=some (k,c)->i ∉ seen->K (.aS [.bool true,keyAV kn k,c]) {m with boxes:=m.boxes.set id [.mitr mid n (seen++[i])]})/\
     ((∀i,i<n->i∈seen)->K (.aS [.bool false]) m)
   |_=>False)
  |_=>False)
 |_=>False
def Qao(e:bE->AV)(m:AM)(K:So):aF->Prop
 |.call f args=>(match e f with
  |.yld l=>Y l (args.map e) m fun b m'=>K (.bool b) m'
  |.fn f first cap=>aB P gl Y f (first++args.map e++cap) m K
  |_=>False)
 |.nxt x=>vcNxt m K (e x)
 |_=>False
def Zo:List SO->AS->(AS->Prop)->Prop
 |[],s,K=>K s
 |o::rest,s,K=>match o.guard with
  |none=>if effy orc (ev gl s.T) s.m o.dst o.op=true then Qao P gl Y (ev gl s.T) s.m (fun av m'=>Zo rest ⟨put s.T o.dst av,m'⟩ K) o.op
   else(sop P gl orc (ev gl s.T) s.m o.dst o.op).1/\Zo rest ⟨put s.T o.dst (sop P gl orc (ev gl s.T) s.m o.dst o.op).2.1,(sop P gl orc (ev gl s.T) s.m o.dst o.op).2.2⟩ K
  |some (some t,want)=>match Ec want (s.T.getD t .junk)with
   |some gw=>gok gl s.T gw (gxs o.op o.xs)/\
     if effy orc (evG gl s.T o.op) s.m o.dst o.op=true then
      (gw=true->Qao P gl Y (evG gl s.T o.op) s.m (fun av m'=>Zo rest ⟨put s.T o.dst (.gd true av),m'⟩ K) o.op)/\(gw=false->Zo rest ⟨put s.T o.dst (.gd false (.bool false)),s.m⟩ K)
     else(gw=true->(rop P gl orc (evG gl s.T o.op) s.m o.dst o.op).1)/\
      Zo rest ⟨put s.T o.dst (.gd gw (rop P gl orc (evG gl s.T o.op) s.m o.dst o.op).2),s.m⟩ K
   |none=>False
  |some (none,_)=>False
end vc
def Dfr(n0:Nat)(γ:G)(w:World)(ds:List Deferred):Prop:=
 n0<=w.heap.size/\(∀x∈ds,∃D,x.target=.collected D/\n0<=D/\γ.sp D/\w.heap[D]?=some (.deferred (some [])))/\ds.Pairwise fun x y=>∀D,x.target=.collected D->y.target≠.collected D
def Dfr.aU{n0:Nat}{γ:G}{w:World}{ds:List Deferred}(h:Dfr n0 γ w ds){γ':G}{w':World}(e:eC w γ w' γ'):Dfr n0 γ' w' ds:=
 ⟨zzbd h.1 e.size,fun x hx=>let⟨D,h1,h0,h2,h3⟩:=h.2.1 x hx;⟨D,h1,h0,(e.sp D h2).1,by
  rcases(e.sp D h2).2 with h|⟨r,_,_,h,_⟩
  ·exact h.trans h3
  rw[h3]at h;cases h⟩,h.2.2⟩
def Rdr(r:Option Nat)(γ:G)(w:World):Prop:=∀l,r=some l->γ.sp l/\∃rec,w.heap[l]?=some (.loop rec)
def Rdr.aU{r:Option Nat}{γ:G}{w:World}(h:Rdr r γ w){γ':G}{w':World}(e:eC w γ w' γ'):Rdr r γ' w':=
 fun l hl=>let⟨h1,rec,h2⟩:=h l hl;⟨(e.sp l h1).1,by
  rcases(e.sp l h1).2 with h|⟨r,s,p,_,h⟩
  ·exact⟨rec,h.trans h2⟩
  exact⟨_,h⟩⟩
structure eu (N:Nat) (w0:eN) (r:Option Nat) (an:Nat->Nat->Prop) (S:G×World) (P:Program) (gl:Nat->AV) (Y:YT) (γ:G) (w:World) (s:AS) (a:Act):Prop where
 m:au N w0 an γ w s.m.B s.m.L
 ls:cS γ w s.m
 rd:Rdr r γ w
 t:ak w γ s.T a.tmps.toList
 d:Dfr S.2.heap.size γ w a.defers
 g:∀g,aA w γ.cT (gl g) (.pointer (some ⟨g,0,none⟩))
 y:YOK N w0 an P Y γ w
 e:eC S.2 S.1 w γ
section
variable {N:Nat} {w0:eN} {r:Option Nat} {an:Nat->Nat->Prop} {S:G×World} {Y:YT} {γ:G} {w:World} {P:Program} {gl:Nat->AV} {orc:UV} {s:AS} {a:Act}
def eu.ev(h:eu N w0 r an S P gl Y γ w s a)(x:Operand):aA w γ (ev gl s.T (aC x)) (a.eval x):=by
 cases x with
 |tmp t=>
  have:=h.t.get t;simpa[Abs.ev,aC,Act.eval,List.getD]using this
 |const v=>exact Kc w γ v
 |func f=>exact .fn rfl (fun i c v h=>by simp at h) rfl fun i c v h=>by simp at h
 |global g=>exact(h.g g).gh
def eu.ak9(h:eu N w0 r an S P gl Y γ w s a){dst:Option Nat}{av:AV}{v:Value}{w':World}{γ':G}{m':AM}(e:eC w γ w' γ')(hm:au N w0 an γ' w' m'.B m'.L)(hl:cS γ' w' m')(hr:aA w' γ' av v):
  eu N w0 r an S P gl Y γ' w' ⟨Abs.put s.T dst av,m'⟩ (a.put dst v):=by
 refine⟨hm,hl,h.rd.aU e,?_,?_,fun g=>(h.g g).aU e.cT,h.y.mono e,h.e.trans e⟩
 ·cases dst with
  |none=>exact h.t.aU e
  |some d=>
   simp only[Abs.put,Act.put,zzdj];exact(h.t.aU e).set d hr
 cases dst<;>exact h.d.aU e
def eu.put(h:eu N w0 r an S P gl Y γ w s a){dst:Option Nat}{av:AV}{v:Value}{w':World}{γ':G}{m':AM}(e:Ev w γ w' γ')(hm:au N w0 an γ' w' m'.B m'.L)(ho:(m'.st,m'.ln)=(s.m.st,s.m.ln))(hr:aA w' γ' av v):
  eu N w0 r an S P gl Y γ' w' ⟨Abs.put s.T dst av,m'⟩ (a.put dst v):=h.ak9 e.cG hm (h.ls.mono' e ho) hr
def CA{T:P2}{g:Bool}:∀{xs:List bE},gok gl T g xs->∀x∈xs,∀g' b,Abs.ev gl T x=.gd g' b->g=true->g'=true
 |[],_,x,hx,_,_,_,_=>by cases hx
 |y::ys,h,x,hx,g',b,he,hg=>by
  obtain⟨h1,h2⟩:=h;rcases zzap.1 hx with rfl|hx
  ·rw[he]at h1;exact h1 hg
  exact CA h2 x hx g' b he hg
def AH{x:AV}{v:Value}(h:aA w γ x v)(hg:∀g b,x=.gd g b->g=true):aA w γ (strip x) v:=by
 cases x<;>first|exact h|skip
 rename_i g b;exact h.Cm (hg g b rfl)
def EY{c:Call}{fo:bE}{xs:List bE}(h:Zr P c=.call fo xs):∃(f:Operand)(as':Array Operand)(ts:Array TypeId),c=⟨.value f,as',ts⟩/\fo=aC f/\xs=as'.toList.map aC:=by
 obtain⟨callee,args,ts⟩:=c;cases callee with
 |value f=>cases h;exact⟨f,args,ts,rfl,rfl,rfl⟩
 |invoke r n=>cases h
 |builtin b=>cases b<;>simp only[Zr]at h<;>(repeat' split at h)<;>cases h
def adS{o:Oper}{fo:bE}{xs:List bE}(h:tr P o=.call fo xs):∃(f:Operand)(as':Array Operand)(ts:Array TypeId),o.op=.call ⟨.value f,as',ts⟩/\fo=aC f/\xs=as'.toList.map aC:=by
 obtain⟨dst,op,ty,pos,after,guard⟩:=o;cases op
 case call c=>
  obtain⟨f,as',ts,rfl,h1,h2⟩:=EY h;exact⟨f,as',ts,rfl,h1,h2⟩
 case next x s=>cases s<;>cases h
 case build t parts=>
  simp only[tr,Wt]at h;repeat' split at h
  all_goals cases h
 case slice t x lo hi mx=>cases mx<;>simp only[tr]at h<;>(repeat' split at h)<;>cases h
 case makeFunc fn a b=>cases fn<;>cases h
 case makeMap t r=>cases r<;>simp only[tr]at h<;>(try split at h)<;>cases h
 case binOp op t x y t'=>
  simp only[tr,lZ,Qcq,zh]at h;repeat' split at h
  all_goals cases h
 all_goals first|(cases h;done)|(
  simp only[tr]at h;repeat' split at h
  all_goals cases h)
def ala{o:Oper}{xo:bE}(h:tr P o=.nxt xo):∃x:Operand,o.op=.next x false/\xo=aC x:=by
 obtain⟨dst,op,ty,pos,after,guard⟩:=o;cases op
 case next x s=>cases s<;>cases h;exact⟨x,rfl,rfl⟩
 case build t parts=>
  simp only[tr,Wt]at h;repeat' split at h
  all_goals cases h
 case slice t x lo hi mx=>cases mx<;>simp only[tr]at h<;>(repeat' split at h)<;>cases h
 case makeFunc fn a b=>cases fn<;>cases h
 case makeMap t r=>cases r<;>simp only[tr]at h<;>(try split at h)<;>cases h
 case binOp op t x y t'=>
  simp only[tr,lZ,Qcq,zh]at h;repeat' split at h
  all_goals cases h
 case call c=>
  obtain⟨callee,args,ts⟩:=c;cases callee with
  |value f=>cases h
  |invoke r n=>cases h
  |builtin b=>cases b<;>simp only[tr,Zr]at h<;>(repeat' split at h)<;>cases h
 all_goals first|(cases h;done)|(
  simp only[tr]at h;repeat' split at h
  all_goals cases h)
def au.aiq{B:Nat->PH}{L:Nat->Option Nat}(hm:au N w0 an γ w B L):au N w0 an γ w.drew B L/\Ev w γ w.drew γ:=by
 have bT:Ev w γ w.drew γ:=⟨zzab _,fun _ _ _ h=>⟨h,rfl⟩,fun _ _ h=>h,fun _=>zzab _,fun _ _ h=>h,rfl,fun _ _ _ ho=>⟨ho,fun arr _ he=>⟨arr,he,zzab _⟩,fun _ h=>h⟩,fun _ h=>⟨h,rfl⟩,Sz.of_same fun _ _=>rfl⟩;refine⟨⟨w0.st _ _ _ _ hm.bs ⟨rfl,rfl,rfl,zzab _,fun _ _ _=>rfl,bT.ro,fun _ h=>.inl h,fun _ _ h=>.inl h⟩,hm.hN,hm.an,hm.robd,fun i cells b hb h1=>?_,hm.β,hm.inj,hm.own,hm.oinj,hm.sp,fun i b hb=>?_,hm.minj,hm.len,hm.cur0⟩,bT⟩
 ·obtain⟨arr,e,h2,h3,h4⟩:=hm.box i cells b hb h1;exact⟨arr,e,h2,h3.mono bT,h4⟩
 obtain⟨h1,h2,h3,h4,h5,h6,h8,h7⟩:=hm.mm i b hb;exact⟨h1,h2,h3,h4,h5,h6,h8,h7.mono bT.cG.Ap rfl⟩
def vW{es:Array MapEntry}{seen:Array Nat}{x:MapEntry}:x∈(leftOf es seen).toList<->x∈es.toList/\x.born ∉ seen.toList:=by
 simp[leftOf]
def PM{m:AM}(hm:au N w0 an γ w m.B m.L){x:AV}{v:Value}{K:So}(h1:aA w γ x v)(h:vcNxt m K x)(ty:TypeId):
  ∃u w' av m',(Instr.next v false ty).run P w=.ok u w'/\K av m'/\Ev w γ w' γ/\au N w0 an γ w' m'.B m'.L/\aA w' γ av u/\(m'.st,m'.ln)=(m.st,m.ln):=by
 unfold vcNxt at h;split at h
 case h_2=>exact h.elim
 rename_i id;split at h
 case h_2=>exact h.elim
 rename_i mid n seen eX;split at h
 case h_2=>exact h.elim
 rename_i kn kvs gI;obtain⟨hn,VG,hK2⟩:=h;obtain⟨aL,Cy⟩:=nj eX;obtain⟨VH,aq6⟩:=nj gI;obtain⟨b,mb,hb,rfl,q1,q2⟩:=hm.Nw h1 Cy;obtain⟨b',es,cL,ER,q3,q4,q5⟩:=hm.iS (v:=.map (some mb)) (.mp q2) aq6;cases ER
 have U6:∀y∈es.toList,y.born<n:=fun y hy=>by
  obtain⟨j,hj,rfl⟩:=zzfu hy;simp at hj;have:=Qen q4 q5 hj;simp only[Array.getElem_toList];omega
 rcases run_next_at (P:=P) w ty b mb n n seen.toArray es es.size q1 q3 U6 (zzab _)with⟨g1,g2⟩|⟨y,g1,w1,g2,g3⟩
 ·refine⟨_,w,.aS [.bool false],m,g2,hK2 fun i hi=>?_,Ev.refl w γ,hm,(ak.cons (.bool false) ak.nil).zm,rfl⟩;have hie:i<es.size:=zE
  have hnil:leftOf es seen.toArray=#[]:=zzem g1;have:es[i] ∉ (leftOf es seen.toArray).toList:=by rw[hnil];simp
  rw[vW]at this;simp only[not_and,Decidable.not_not]at this;have:=this zd;rw[Qen q4 q5 hie]at this;simpa using this
 obtain⟨g4,g5⟩:=vW.1 g1;obtain⟨i,hi,rfl⟩:=zzfu g4;simp at hi;simp only[Array.getElem_toList]at g3 g5;have dF:=Qen q4 q5 hi;have qP:i<kvs.length:=zE
 obtain⟨p1,p2,_,p3⟩:=q5 i (kvs[i]'qP).1 (kvs[i]'qP).2 es[i] (by simp[qP]) (by simp[hi])
 have tI:au N w0 an γ w1 m.B m.L/\Ev w γ w1 γ:=by
  obtain rfl|rfl:=g2
  ·exact⟨hm,Ev.refl _ γ⟩
  exact hm.aiq
 obtain⟨tI,eZ⟩:=tI;obtain⟨f1,f2⟩:=tI.qN hb (x:=.mitr mid n (seen++[i])) (o:=.mapIter (some mb) n (seen.toArray.push es[i].born) es.size) ⟨q2,rfl,zE,by simp[dF]⟩;refine⟨_,_,_,_,g3,VG i (kvs[i]'qP).1 (kvs[i]'qP).2 (by simp[qP]) (by rw[dF]at g5;simpa using g5),eZ.trans f1,?_,?_,rfl⟩
 ·rw[mg m id aL];exact f2
 rw[p2];exact((ak.cons (.bool true) (ak.cons (Ay p1) (ak.cons p3 ak.nil))).mono (eZ.trans f1)).zm
def Qdl{o:Oper}{e:bE->AV}{Q:PP}{K:So}(hs:eu N w0 r an S P gl Y γ w s a)(he:∀x∈o.op.operands,aA w γ (e (aC x)) (a.eval x))(h:Qao P gl Y e s.m K (tr P o))
  {next:Act->World->Prop}(hn:∀v w' γ' av m',K av m'->eC w γ w' γ'->au N w0 an γ' w' m'.B m'.L->cS γ' w' m'->aA w' γ' av v->next (a.put o.dst v) w'):o.wpIn (FW r) 0 P a w next Q:=by
 obtain⟨dst,op,ty,pos,after,guard⟩:=o;cases dm:tr P ⟨dst,op,ty,pos,after,guard⟩with
 |call fo args=>
  rw[dm]at h;obtain⟨f,as',ts,rfl,rfl,rfl⟩:∃(f:Operand)(as':Array Operand)(ts:Array TypeId),op=.call ⟨.value f,as',ts⟩/\fo=aC f/\args=as'.toList.map aC:=by simpa using adS dm
  simp only[Qao]at h;have h1:=he f (by simp[Op.operands,Call.operands]);have h2:∀x∈as',aA w γ (e (aC x)) (a.eval x):=fun x hx=>he x (by simp[Op.operands,Call.operands,hx]);have oJ:=AB h2;split at h
  ·rename_i i e1;rw[e1]at h1
   obtain⟨l,hl,hv⟩:∃l,γ.lp i=some l/\a.eval f=.func (.yield l) #[] #[]:=by
    generalize a.eval f=v at h1;cases h1 with
    |yld h=>exact⟨_,h,rfl⟩
   obtain⟨fn,tmps,assign,body,hy,hR⟩:=hs.y γ w (Ev.refl w γ).cG i _ s.m _ _ hs.m hs.ls oJ h l hl
   have aZ:(execOp a.eval ⟨dst,.call ⟨.value f,as',ts⟩,ty,pos,after,guard⟩).run P w=.ok (.round l fn tmps assign body) w:=by
    rw[Array.toArray_toList]at hy;simpa[execOp,resolve,hv,Deferred.ofValue,invoke]using hy
   refine wp_run aZ (fun _ h=>by cases h) ?_;rw[Oper.uponIn_round];refine⟨fun h=>by simp[FW,Fence.wide]at h,RoundIn.mono hR ?_⟩;rintro en w' ⟨b,γ',m',rfl,g1,g2,g3,g4⟩;exact hn _ _ _ _ _ g4 g1 g2 g3 (.bool b)
  ·rename_i g first cap e1
   rw[e1]at h1;obtain⟨fa,ca,hv,r1,r2⟩:=h1.qH
   have aZ:(execOp a.eval ⟨dst,.call ⟨.value f,as',ts⟩,ty,pos,after,guard⟩).run P w=.ok (.enter g ((fa.toList++(as'.map a.eval).toList++ca.toList).toArray)) w:=by
    simp[execOp,resolve,hv,Deferred.ofValue,invoke,Qea h.1]
   refine wp_run aZ (fun _ h=>by cases h) ⟨fun h=>by simp[FW,Fence.wide]at h,?_⟩;refine CallsIn.mono (h.2 N w0 an γ w _ hs.m hs.ls hs.g hs.y ((r1.append oJ).append r2)) ?_;rintro en w' ⟨v,γ',r',m',rfl,g1,g2,g3,g4,g5⟩;exact hn v w' γ' r' m' g5 g1 g2 g3 g4
  exact h.elim
 |nxt xo=>
  rw[dm]at h;obtain⟨x,rfl,rfl⟩:∃x:Operand,op=.next x false/\xo=aC x:=by simpa using ala dm
  simp only[Qao]at h;obtain⟨u,w',av,m',g1,g2,g3,g4,g5,g6⟩:=PM (P:=P) hs.m (he x (by simp[Op.operands])) h ty;exact Zk (v:=u) (w':=w') (by simp[execOp,g1]) (hn u w' γ av m' g2 g3.cG g4 (hs.ls.mono' g3 g6) g5)
 |_=>rw[dm]at h;exact h.elim
def vX{ops:Array Oper}{Q:PP}{K:AS->Prop}{k:Nat}(ai:k<ops.size)(hs:eu N w0 r an S P gl Y γ w s a)
  (h:Zo P gl orc Y ((ops.toList.drop k).map (Xf P ops)) s K):
  wpOpIn (FW r) 0 P ops Q k (fun a' w'=>∃γ' s',eu N w0 r an S P gl Y γ' w' s' a'/\Zo P gl orc Y ((ops.toList.drop (k+1)).map (Xf P ops)) s' K) a w:=by
 have hd:ops.toList.drop k=ops[k]::ops.toList.drop (k+1):=by
  rw[zzag (Nm ai)];simp
 rw[hd,zzbb]at h;have ho:ops[k]?=some ops[k]:=zzah ai;generalize ops[k]=o at ho h;simp only[wpOpIn,ho];cases hg:o.guard with
 |none=>
  have hw:Region.wanted o (yielded ops a.tmps)=true:=by simp[Region.wanted,hg]
  rw[if_pos hw];have e1:(Xf P ops o).guard=none:=by simp[Xf,hg]
  simp only[Zo,e1]at h;split at h
  ·exact Qdl (K:=fun av m=>Zo P gl orc Y ((ops.toList.drop (k+1)).map (Xf P ops)) ⟨Abs.put s.T o.dst av,m⟩ K) hs (fun x _=>hs.ev x) h fun v w' γ' av m' hK h1 h2 h3 h4=>⟨γ',_,hs.ak9 h1 h2 h3 h4,hK⟩
  exact AG (K:=fun av m=>Zo P gl orc Y ((ops.toList.drop (k+1)).map (Xf P ops)) ⟨Abs.put s.T o.dst av,m⟩ K) hs.m hs.g (fun x _=>hs.ev x) h r _ Q fun v w' γ' av m' hK cO h1 h2 h3=>⟨γ',_,hs.put h1 h2 cO h3,hK⟩
 |some p=>
  obtain⟨j,want⟩:=p;have e1:(Xf P ops o).guard=some ((ops[j]?).bind (·.dst),want):=by simp[Xf,hg]
  simp only[Zo,e1]at h;cases hj:(ops[j]?).bind (·.dst)with
  |none=>rw[hj]at h;exact h.elim
  |some t=>
   rw[hj]at h;simp only at h;split at h
   case h_2=>exact h.elim
   rename_i gw lH;obtain⟨h1,h⟩:=h
   have VI:Region.wanted o (yielded ops a.tmps)=gw:=by
    have hr:=hs.t.get t
    have bZ:t<a.tmps.size:=by
     rcases zzaa t s.T.length with h|h
     ·have h5:=hs.t.1;rw[zzbi]at h5;rw[<- h5];exact h
     simp[List.getD,zzas h,Ec]at lH
    have cp:(a.tmps.toList.getD t undef)=a.tmps[t]:=by simp[List.getD,bZ]
    rw[cp]at hr;have hyv:∀b,a.tmps[t]=.bool b->yielded ops a.tmps j=some b:=fun b hb=>by simp only[yielded,hj,zzcv,zzah bZ,hb]
    have hyu:a.tmps[t]=undef->yielded ops a.tmps j=none:=fun hb=>by simp only[yielded,hj,zzcv,zzah bZ,hb];rfl
    generalize s.T.getD t .junk=gv at lH hr
    have hf:∀{x:AV},aA w γ (.gd false x) a.tmps[t]->Region.wanted o (yielded ops a.tmps)=false:=fun hx=>by
     simp only[Region.wanted,hg,hyu hx.Ns];cases want<;>rfl
    cases gv with
    |bool g=>
     simp only[Ec,Option.some.injEq]at lH;subst lH;simp only[Region.wanted,hg,hyv g hr.bu];cases g<;>cases want<;>rfl
    |gd d x=>
     cases d with
     |false=>
      rw[hf hr];cases x<;>simp[Ec]at lH<;>exact lH.symm
     |true=>
      cases x<;>simp[Ec]at lH;rename_i b;subst lH;simp only[Region.wanted,hg,hyv b (hr.Cm rfl).bu];cases b<;>cases want<;>rfl
    |_=>simp[Ec]at lH
   rw[VI]
   have VJ:gw=true->∀x∈o.op.operands,aA w γ (evG gl s.T (tr P o) (aC x)) (a.eval x):=fun AI x hx=>by
    unfold evG;cases gV:rawOp (tr P o)with
    |true=>exact hs.ev x
    |false=>
     refine AH (hs.ev x) fun g' b hgb=>CA h1 (aC x) ?_ g' b hgb AI;have fV:rawOp (Xf P ops o).op=false:=gV;simp only[gxs,fV,cond_false];simp[Xf,hg];exact⟨x,Nm hx,rfl⟩
   split at h
   ·obtain⟨h2,h3⟩:=h;cases AI:gw with
    |true=>
     simp only[if_true];exact Qdl (e:=evG gl s.T (tr P o)) (K:=fun av m=>Zo P gl orc Y ((ops.toList.drop (k+1)).map (Xf P ops)) ⟨Abs.put s.T o.dst (.gd true av),m⟩ K) hs (VJ AI) (h2 AI) fun v w' γ' av m' hK h1 h2 h3 h4=>⟨γ',_,hs.ak9 h1 h2 h3 (.gd (fun _=>h4) (fun h=>by cases h)),hK⟩
    |false=>
     simp only[zzbh,if_false];exact⟨fun _ _=>trivial,γ,_,hs.put (Ev.refl _ _) hs.m rfl (.gd (fun h=>by cases h) (fun _=>rfl)),h3 AI⟩
   obtain⟨h2,h3⟩:=h;cases AI:gw with
   |true=>
    rw[AI]at h2 h3;simp only[if_true];refine Qdc (e:=evG gl s.T (tr P o)) hs.m (fun _ _ h=>h) hs.g (VJ AI) (h2 rfl) r _ Q fun v w' γ' q1 q2 q3=>?_;exact⟨γ',_,hs.put q1 q2 rfl (.gd (fun _=>q3) (fun h=>by cases h)),h3⟩
   |false=>
    rw[AI]at h3;simp only[zzbh,if_false];exact⟨fun _ _=>trivial,γ,_,hs.put (Ev.refl _ _) hs.m rfl (.gd (fun h=>by cases h) (fun _=>rfl)),h3⟩
def sr{ops:Array Oper}{Q:PP}{K:AS->Prop}(hQ:∀γ w s a,K s->eu N w0 r an S P gl Y γ w s a->Q .normal a w):
  ∀(n k:Nat)(γ:G)(w:World)(s:AS)(a:Act),k+n=ops.size->Zo P gl orc Y ((ops.toList.drop k).map (Xf P ops)) s K->eu N w0 r an S P gl Y γ w s a->wpOpsIn (FW r) 0 P ops Q (List.range' k n) a w
 |0,k,γ,w,s,a,hk,h,hs=>by
  have:ops.toList.drop k=[]:=zzal (by simp;omega);rw[this]at h;exact hQ γ w s a h hs
 |n+1,k,γ,w,s,a,hk,h,hs=>by
  rw[zzgr,wpOpsIn_cons];refine wpOpIn_mono ?_ (vX zE hs h);rintro a' w' ⟨γ',s',dK,h'⟩;exact sr hQ n (k+1) γ' w' s' a' zE h' dK
end
end Go.Abs
