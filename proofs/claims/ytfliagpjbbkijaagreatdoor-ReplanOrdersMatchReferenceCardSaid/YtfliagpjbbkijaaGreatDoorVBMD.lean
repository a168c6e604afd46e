import Derived.Test.YtfliagpjbbkijaaGreatDoorVBMC
import Derived.RangeFuncSeq
set_option linter.all false
namespace Go.Abs
open Go Go.RowKit
def Kb(N:Nat)(w0:fE)(an:Nat->Nat->Prop)(P:Program)(o:Oper)(a:Act)(γ:G)(w:World)(ph:(Nat->LS)×Nat)(K:UV):Prop:=
 ∀(rd:Option Nat)(next:Act->World->Prop)(Q:PH),(∀v w' γ' av m',K av m'->(m'.st,m'.ln)=ph->Ev w γ w' γ'->aq N w0 an γ' w' m'.B m'.L->au w' γ' av v->next (a.put o.dst v) w')->o.wpIn (FW rd) 0 P a w next Q
section
variable {N:Nat} {w0:fE} {an:Nat->Nat->Prop} {γ:G} {w:World} {P:Program} {o:Oper} {a:Act} {K:UV}
variable {dst:Option Tmp} {ty:TypeId} {pos:String} {after:Array Edge} {guard:Option (Nat×Bool)} {gl:Nat->AV} {orc:X1} {e:bN->AV} {m:AM}
def qK(hm:aq N w0 an γ w m.B m.L)(fh:∀g,au w γ.cQ (gl g) (.pointer (some ⟨g,0,none⟩)))
  (he:∀x∈o.op.operands,au w γ (e (aA x)) (a.eval x))(hc:(rop P gl orc e m o.dst (tr P o)).1/\K (rop P gl orc e m o.dst (tr P o)).2 m):Kb N w0 an P o a γ w (m.st,m.ln) K:=
 fun rd next Q hk=>Qct hm (fun _ _ h=>h) fh he hc.1 rd next Q fun v w' γ' h1 h2 h3=>hk v w' γ' _ m hc.2 rfl h1 h2 h3
def VD(m:AM)(cells:P1):({m with boxes:=m.boxes++[cells]}:AM).B=fun i=>if i=m.boxes.length then some cells else m.B i:=by
 funext i;simp only[AM.B];by_cases h:i=m.boxes.length
 ·simp[h]
 rw[if_neg h];rcases zzab i m.boxes.length with h'|h'
 ·rw[zzam h']
 rw[zzar h',zzar (by simp;omega)]
def CD(m:AM)(n:Nat):({m with lens:=m.lens++[n]}:AM).L=fun i=>if i=m.lens.length then some n else m.L i:=by
 funext i;simp only[AM.L];by_cases h:i=m.lens.length
 ·simp[h]
 rw[if_neg h];rcases zzab i m.lens.length with h'|h'
 ·rw[zzam h']
 rw[zzar h',zzar (by simp;omega)]
def oK(m:AM)(id:Nat)(h:id<m.boxes.length)(cells:P1):({m with boxes:=m.boxes.set id cells}:AM).B=fun i=>if i=id then some cells else m.B i:=by
 funext i;simp only[AM.B];by_cases hi:i=id
 ·subst hi;simp[h]
 rw[if_neg hi,zzbm (Ne.symm hi)]
def aiO(m:AM)(id:Nat)(h:id<m.lens.length)(n:Nat):({m with lens:=m.lens.set id n}:AM).L=fun i=>if i=id then some n else m.L i:=by
 funext i;simp only[AM.L];by_cases hi:i=id
 ·subst hi;simp[h]
 rw[if_neg hi,zzbm (Ne.symm hi)]
def Yy{cs:P1}{vs:PP}(h:ak w γ cs vs)(hc:cs.all Qw=true):∀v∈vs,v.oneCell'=true:=fun v hv=>by
 obtain⟨i,hi⟩:=zzcl.1 hv;have ah:i<cs.length:=by rw[h.1];exact(zza.1 hi).1
 have:=zzac ah;exact ue (h.2 i _ v this hi) (zzbf.1 hc _ (zzdc ah))
def AH(hm:aq N w0 an γ w m.B m.L){cells:P1}{arr:PQ}{te:TypeId}(hr:ak w γ cells arr.toList)(hc:cells.all Qw=true)
  (aZ:(execOp a.eval o).run P w=.ok (.value (.pointer (some ⟨w.heap.size,0,none⟩))) (w.alloc (.cells arr te)))(hk:K (.ptr m.boxes.length 0) {m with boxes:=m.boxes++[cells]}):Kb N w0 an P o a γ w (m.st,m.ln) K:=by
 intro rd next Q hn
 have aL:m.B m.boxes.length=none:=by simp[AM.B]
 refine Zn aZ (hn _ _ (γ.box m.boxes.length w.heap.size) _ _ hk rfl (hm.dK _ aL _) ?_ (.ptr (by simp[G.box])));rw[VD];exact hm.gC _ aL hr.toP (Yy hr hc)
def E6(hm:aq N w0 an γ w m.B m.L){t:TypeId}(h:((sop P gl orc e m dst (tr P ⟨dst,.alloc t,ty,pos,after,guard⟩)).1/\K (sop P gl orc e m dst (tr P ⟨dst,.alloc t,ty,pos,after,guard⟩)).2.1 (sop P gl orc e m dst (tr P ⟨dst,.alloc t,ty,pos,after,guard⟩)).2.2)):Kb N w0 an P ⟨dst,.alloc t,ty,pos,after,guard⟩ a γ w (m.st,m.ln) K:=by
 simp only[tr]at h;split at h
 case h_2=>exact h.1.elim
 rename_i zs hz;obtain⟨i,z,hi,iW,hr⟩:=iV (w:=w) (γ:=γ) hz;obtain⟨h1,h2⟩:=h;refine AH hm (te:=t) hr h1 ?_ h2;simp[execOp,Instr.alloc,zeroValue,typeInfo,hi,iW,newVar,newRow]
def PZ(hm:aq N w0 an γ w m.B m.L){t:TypeId}{x:Operand}(he:au w γ (e (aA x)) (a.eval x))(h:((sop P gl orc e m dst (.box (aA x))).1/\K (sop P gl orc e m dst (.box (aA x))).2.1 (sop P gl orc e m dst (.box (aA x))).2.2)):Kb N w0 an P ⟨dst,.box t x,ty,pos,after,guard⟩ a γ w (m.st,m.ln) K:=by
 have key:bare (e (aA x))=true->(cellsOf (e (aA x))).all Qw=true->K (.ptr m.boxes.length 0) {m with boxes:=m.boxes++[cellsOf (e (aA x))]}->Kb N w0 an P ⟨dst,.box t x,ty,pos,after,guard⟩ a γ w (m.st,m.ln) K:=fun hb h1 h2=>
  AH hm (te:=t) (j9 he hb) h1 (by simp[execOp,Instr.box,newVar,newRow]) h2
 exact key h.1.1 h.1.2 h.2
def E7(hm:aq N w0 an γ w m.B m.L){t:TypeId}{x y:Operand}(h1:au w γ (e (aA x)) (a.eval x))(h2:au w γ (e (aA y)) (a.eval y))(h:((sop P gl orc e m dst (tr P ⟨dst,.store t x y,ty,pos,after,guard⟩)).1/\K (sop P gl orc e m dst (tr P ⟨dst,.store t x y,ty,pos,after,guard⟩)).2.1 (sop P gl orc e m dst (tr P ⟨dst,.store t x y,ty,pos,after,guard⟩)).2.2)):
  Kb N w0 an P ⟨dst,.store t x y,ty,pos,after,guard⟩ a γ w (m.st,m.ln) K:=by
 simp only[tr]at h;split at h
 case h_2=>exact h.1.elim
 rename_i i hi;simp only[sop]at h;split at h
 case h_2=>exact h.1.elim
 rename_i id o' e1;rw[e1]at h1;obtain⟨b,hb,hv⟩:=h1.dO;obtain⟨⟨g1,g2,g3,g4,g5⟩,g6⟩:=h;have qq:=j9 h2 g1;have oM:=Yy qq g2;have hB:m.B id=some (m.boxes.getD id []):=by simp[AM.B,g5]
 obtain⟨arr,te,q2,q3,q4⟩:=hm.box id _ b hB hb;have hsz:(a.eval y).cells.size=i.size:=by have:=qq.1;simp at this;omega
 have aH:(m.boxes.getD id []).length<=arr.size:=by have:=q3.1;simpa using this
 have cI:=run_storeCells_cells (P:=P) b o' (a.eval y).cells.toList 0 w (fun j hj=>by
   simp at hj;rw[aQ q2,zzd,zzag zE];rfl) (fun j hj=>Uc q2) oM
 intro rd next Q hn
 simp only[zzd]at cI
 have aZ:(execOp a.eval ⟨dst,.store t x y,ty,pos,after,guard⟩).run P w=.ok .skip (w.setCells b o' (a.eval y).cells.toList):=by
  simp[execOp,Instr.storeAt,hv,Instr.sureAddr,storeVar,sizeOf,typeInfo,hi,hsz,cI]
 refine oy aZ (hn undef _ γ _ _ g6 rfl (hm.dV hb o' _) ?_ (.junk _));rw[oK m id g5];by_cases lg:m.boxes.getD id []=[]
 ·have hz:(a.eval y).cells.toList=[]:=by
   rw[lg]at g4;apply zzbh;simp at g4 |-
   have:i.size=0:=g4.2;rw[this]at hsz;simpa using hsz
  have VE:cellsOf (e (aA y))=[]:=zzbh (by rw[qq.1,hz];rfl);rw[hz,VE,lg]
  have:(fun i=>if i=id then some (setA [] o' [])else m.B i)=m.B:=by
   funext i;by_cases hi:i=id
   ·subst hi;rw[if_pos rfl,hB,lg];rfl
   rw[if_neg hi]
  rw[this];exact hm
 exact hm.store hB hb q2 q3 q4 qq oM lg
def sy{sz:Nat}{c:AV}:∀{rows:X2}{k:Nat},(∀row∈rows,row.length=sz)->rows.flatten[k]?=some c->k<rows.length*sz/\Qr rows (k/sz) (k%sz)=some c
 |[],k,_,h=>by simp at h
 |row::rows,k,hs,h=>by
  have hr:=hs row zd;rw[zzcg]at h;rcases zzab k sz with hk|hk
  ·rw[zzam zE]at h;rw[Nat.div_eq_of_lt hk,zzdx hk];refine⟨?_,by simpa[Qr]using h⟩;simp[zzbi];omega
  rw[zzaw zE,hr]at h;obtain⟨h1,h2⟩:=sy (rows:=rows) (fun row h=>hs row (by simp[h])) h
  have h0:0<sz:=by
   rcases zzbx sz with h0|h0
   ·subst h0;simp at h1
   exact h0
  have e1:k/sz=(k-sz)/sz+1:=by rw[Nat.div_eq_sub_div h0 hk]
  have e2:k%sz=(k-sz)%sz:=(Nat.mod_eq_sub_mod hk);rw[e1,e2];refine⟨?_,by simpa[Qr]using h2⟩;simp[zzbi];omega
def iZ{sz:Nat}:∀{rows:X2},(∀row∈rows,row.length=sz)->rows.flatten.length=rows.length*sz
 |[],_=>zd
 |row::rows,hs=>by
  have:=iZ (rows:=rows) fun row h=>hs row (by simp[h]);have hr:=hs row zd;simp[this,hr,zzbi];omega
def E8:∀(vs:PP)(arr:PQ)(o k:Nat),(yJ arr o vs)[k]?=if o<=k/\k<o+vs.length/\k<arr.size then vs[k-o]? else arr[k]?
 |[],arr,o,k=>by
  rw[yJ,if_neg];simp;omega
 |v::vs,arr,o,k=>by
  rw[yJ,E8 vs _ (o+1) k];by_cases h1:o+1<=k/\k<o+1+vs.length/\k<(arr.setIfInBounds o v).size
  ·rw[if_pos h1];simp at h1;rw[if_pos (by simp;omega)];rw[show k-o=(k-(o+1))+1 by omega];simp
  rw[if_neg h1];simp at h1;by_cases h2:o<=k/\k<o+(v::vs).length/\k<arr.size
  ·simp at h2;obtain rfl:k=o:=zE
   rw[if_pos (by simp;omega)];simp[zzes];omega
  rw[if_neg h2];simp at h2;by_cases hk:o=k
  ·subst hk;have:arr.size<=o:=zE
   simp[zzbt,this]
  rw[zzck hk]
def Qbk(hm:aq N w0 an γ w m.B m.L){y:AV}{v2:Value}{sz:Nat}(hr:au w γ y v2)(hc:(cellsS m sz y).1):
  ∃(a2:Option Addr)(cr:Nat)(vs:PP),v2=.slice a2 (lenS y) cr/\ak w γ (cellsS m sz y).2 vs/\(∀v∈vs,v.oneCell'=true)/\vs.length=lenS y*sz/\
   ∀n,n<=lenS y->∀w':World,(∀x,w'.cell? x=w.cell? x)->(Builtin.firstCells sz n v2).run P w'=.ok (vs.take (n*sz)).toArray w':=by
 have VF:∀(a2:Option Addr)(len cr:Nat)(w':World),(Builtin.firstCells sz 0 (.slice a2 len cr)).run P w'=.ok #[] w':=fun a2 len cr w'=>by
  cases a2<;>simp[Builtin.firstCells,loadCells,loadCellsFrom]
 cases y with
 |sl rt rows=>
  obtain⟨a2,cr,b2,gD,sz2,gH,rfl,s2,_⟩:=hr.cq;replace s2:=s2.fix (sz:=sz) hc;refine⟨a2,cr,Ve rows.length sz gH,rfl,⟨by simp[cellsS,iZ hc,Zf],fun k c v h1 h2=>?_⟩,s2.one,by simp[lenS,Zf],fun n hn w' hw=>?_⟩
  ·obtain⟨g1,g2⟩:=sy hc h1;obtain⟨_,rfl⟩:=qG h2;exact(s2.rep _ _ c g2).gF
  by_cases fF:n=0
  ·subst fF;simpa using VF a2 _ cr w'
  simp only[lenS]at hn;have aK:rows≠[]:=by rintro rfl;simp at hn;omega
  obtain⟨rfl,_⟩:=s2.at_ aK;refine run_firstCells_some w' sz n _ rows.length cr _ ?_ fun j u hj=>?_
  ·rw[zzav,Zf];have:n*sz<=rows.length*sz:=zzbb _ hn;omega
  rw[hw];rw[zzbw]at hj;split at hj
  ·exact s2.cells j u hj
  cases hj
 |bs id off len gz=>
  obtain⟨rfl,cw,aL⟩:=hc;obtain⟨b,cap,arr,te,hβ,rfl,hl,hh,hs⟩:=hr.dz;have hsz:=U7 hm (m:=m) (fun _ _ h=>h) hβ hh;have aH:((arr.toList.drop off).take (len*gz)).length=len*gz:=by simp;omega
  refine⟨_,cap,(arr.toList.drop off).take (len*gz),rfl,⟨?_,fun k c v h1 h2=>?_⟩,fun v hv=>?_,aH,fun n hn w' hw=>?_⟩
  ·rw[aH];show(List.take _ (List.drop _ _)).length=_;rw[zzav,zzcw];omega
  ·simp only[cellsS]at h1;rw[zzbw]at h1 h2;split at h1
   ·rename_i hk;simp only[hk,if_true]at h2;rw[zzbr]at h1 h2;obtain⟨u,g1,g2,_⟩:=vH hm (m:=m) (fun _ _ h=>h) hβ hh h1;rw[zzby,g1]at h2;cases h2;exact g2
   cases h1
  ·have lq:=zzec (zzdq hv);obtain⟨bU,e',g2,_,g4⟩:=hm.box id _ b (by simp[AM.B,aL]:m.B id=some (m.boxes.getD id [])) hβ;rw[hh]at g2;cases g2;exact g4 v lq
  by_cases fF:n=0
  ·subst fF;simpa using VF _ _ cap w'
  refine run_firstCells_some w' gz n _ len cap _ ?_ fun j u hj=>?_
  ·rw[zzav,aH];simp only[lenS]at hn;have:n*gz<=len*gz:=zzbb _ hn;omega
  rw[hw,bC,aQ hh];rw[zzbw]at hj;split at hj
  ·rw[zzbw]at hj;split at hj
   ·rw[zzbr,zzby]at hj;exact hj
   cases hj
  cases hj
 |_=>exact hc.elim
section grow
variable {t te:TypeId} {i:TypeInfo} {z:Value} {a1 a2:Option Addr} {len cE cap cr:Nat} {c1 c2:PP}
def lS(ht:P.underlying t=some (.slice te))(hi:P.info? te=some i)(hz:i.zero=some z)(f1:(Builtin.firstCells i.size len (.slice a1 len cap)).run P w.drew=.ok c1.toArray w.drew)
  (f2:(Builtin.firstCells i.size cE (.slice a2 cE cr)).run P w.drew=.ok c2.toArray w.drew)
  (hg:cap<len+cE)(cN:(3*(len+cE)+4000)*i.bytes<=562949953421312)(Cw:len+cE<=9223372036854775807):
  ∃bq,len+cE<=bq/\(Builtin.append_ #[t,t] ty #[.slice a1 len cap,.slice a2 cE cr]).run P w=
   .ok (.slice (some ⟨w.heap.size,0,none⟩) (len+cE) bq) (w.drew.alloc (.cells (c1.toArray++c2.toArray++Builtin.zeroCells z.cells (bq-(len+cE))) te)):=by
 have hn:¬(len+cE<=cap):=zE
 have alE:¬(9223372036854775807<((len:Int)+(cE:Int))):=zE
 have cw:=UR hg
 have alF:¬(281474976710656<Builtin.nextslicecap (len+cE) cap*i.bytes):=by
  have:2*Builtin.nextslicecap (len+cE) cap*i.bytes<=(3*(len+cE)+4000)*i.bytes:=zzbb _ zE;rw[zzgi]at this;omega
 refine⟨grownCap w (len+cE) cap te,grownCap_ge w _ _ _,?_⟩;simp[Builtin.append_,run_underlying ht,sizeOf,typeInfo,zeroValue,hi,hz,Builtin.lenOf,hn,alE,alF,Question.forced,f1,f2,newRow,grownCap];congr 2;apply Array.ext';simp[zzbd]
def zf{b off:Nat}(ht:P.underlying t=some (.slice te))(hi:P.info? te=some i)(f2:(Builtin.firstCells i.size cE (.slice a2 cE cr)).run P w=.ok c2.toArray w)(h1:∀v∈c2,v.oneCell'=true)(hl:c2.length=cE*i.size)
  (eU:len+cE<=cap){arr:PQ}{e':TypeId}(hh:w.heap[b]?=some (.cells arr e' (0,0)))(hsz:off+cap*i.size<=arr.size):
  (
   Builtin.append_ #[t,t] ty #[.slice (some ⟨b,off,none⟩) len cap,.slice a2 cE cr]).run P w=
   .ok (.slice (some ⟨b,off,none⟩) (len+cE) cap) (w.setCells b (off+len*i.size) c2):=by
 have cw:(len+cE)*i.size<=cap*i.size:=zzbb _ eU;rw[zzbi]at cw
 have cI:=run_storeCells_cells (P:=P) b (off+len*i.size) c2 0 w (fun j hj=>by
   rw[aQ hh,zzd,zzag zE];rfl)
  (fun j hj=>Uc hh) h1
 simp only[zzd]at cI;simp[Builtin.append_,run_underlying ht,sizeOf,typeInfo,hi,Builtin.lenOf,eU,f2,bC,cI]
end grow
def AI{as' bs:P1}{us vs rest:PP}(h1:ak w γ as' us)(h2:ak w γ bs vs):cG w γ (as'++bs) (us++vs++rest):=by
 have h:=h1.append h2;refine⟨by have:=h.1;simp at this |-;omega,fun k c v g1 g2=>h.2 k c v g1 ?_⟩;have hk:=(zza.1 g1).1;rw[h.1]at hk;rwa [zzam hk]at g2
def lT{cs:PQ}(h:∀u∈cs,u.oneCell'=true)(n:Nat):∀v∈(Builtin.zeroCells cs n).toList,v.oneCell'=true:=fun v hv=>by
 simp[Builtin.zeroCells]at hv;obtain⟨k,hk,rfl⟩:=hv
 have h0:0<cs.size:=by
  rcases zzbx cs.size with h0|h0
  ·simp[h0]at hk
  exact h0
 have ah:k%cs.size<cs.size:=zzdk _ h0;rw[getElem!_pos cs _ ah];exact h _ (Array.getElem_mem ah)
def kH{zs:P1}:∀{n k:Nat}{c:AV},(bH n zs)[k]?=some c->k<n*zs.length/\zs[k%zs.length]?=some c
 |0,k,c,h=>by simp[bH]at h
 |n+1,k,c,h=>by
  rw[bH]at h;rcases zzab k zs.length with hk|hk
  ·rw[zzam hk]at h;rw[zzdx hk];exact⟨by rw[zzbi];omega,h⟩
  rw[zzaw hk]at h;obtain⟨h1,h2⟩:=kH h;rw[Nat.mod_eq_sub_mod hk];exact⟨by rw[zzbi];omega,h2⟩
def Jy(zs:P1):∀n,(bH n zs).length=n*zs.length
 |0=>by simp[bH]
 |n+1=>by rw[bH,zzal,Jy zs n,zzbi];omega
def qL(hm:aq N w0 an γ w m.B m.L){id b off:Nat}(hβ:γ.β id=some b)(aL:id<m.boxes.length)(aK:m.boxes.getD id []≠[]){arr:PQ}{te:TypeId}(hh:w.heap[b]?=some (.cells arr te (0,0)))
  {as':P1}{vs:PP}(hr:ak w γ as' vs)(oM:∀v∈vs,v.oneCell'=true)(cN:off+as'.length<=(m.boxes.getD id []).length):
  (storeCells ⟨b,off,none⟩ vs).run P w=.ok () (w.setCells b off vs)/\Ev w γ (w.setCells b off vs) γ/\aq N w0 an γ (w.setCells b off vs) ({m with boxes:=m.boxes.set id (setA (m.boxes.getD id []) off as')}:AM).B m.L:=by
 have hB:m.B id=some (m.boxes.getD id []):=by simp[AM.B,aL]
 obtain⟨bU,e',q2,q3,q4⟩:=hm.box id _ b hB hβ;rw[hh]at q2;cases q2;have hsz:=q3.1;simp only[zzcs]at hsz;have hl:=hr.1
 have cI:=run_storeCells_cells (P:=P) b off vs 0 w (fun j hj=>by
   rw[aQ hh,zzd,zzag zE];rfl) (fun j hj=>Uc hh) oM
 simp only[zzd]at cI;refine⟨cI,hm.dV hβ off vs,?_⟩;rw[oK m id aL];exact hm.store hB hβ hh q3 q4 hr oM aK
def P0(hm:aq N w0 an γ w m.B m.L){x y:Operand}{t te:TypeId}{ts:Array TypeId}{i:TypeInfo}(ht:ts[0]?=some t)(hu:P.underlying t=some (.slice te))(hi:P.info? te=some i)(h1:au w γ (e (aA x)) (a.eval x))(h2:au w γ (e (aA y)) (a.eval y))
  (h:(sop P gl orc e m dst (.cpy i.size (aA x) (aA y))).1/\K (sop P gl orc e m dst (.cpy i.size (aA x) (aA y))).2.1 (sop P gl orc e m dst (.cpy i.size (aA x) (aA y))).2.2):
  Kb N w0 an P ⟨dst,.call ⟨.builtin .copy,#[x,y],ts⟩,ty,pos,after,guard⟩ a γ w (m.st,m.ln) K:=by
 simp only[sop]at h;split at h
 case h_2=>exact h.1.elim
 rename_i id off len gz e1;rw[e1]at h1;obtain⟨b,cap,arr,y7,hβ,hv,hl,hh,hs⟩:=h1.dz;intro rd next Q hn
 split at h
 ·rename_i s e2;rw[e2]at h2;obtain⟨⟨⟨rfl,hi1⟩,aL,cN,aK⟩,hk⟩:=h
  have hr:ak w γ ((s.data.toList.take len).map fun b=>(.int .u8 b.toNat:AV)) ((s.data.toList.take len).map fun b=>(.int .u8 b.toNat:Value)):=by
   refine⟨zd,fun k c v g1 g2=>?_⟩;simp only[zzbc]at g1 g2;cases hx:(s.data.toList.take len)[k]? with
   |none=>simp[hx]at g1
   |some u=>simp[hx]at g1 g2;subst g1;subst g2;exact .int _ _
  obtain⟨g1,g2,g3⟩:=qL (P:=P) (off:=off) hm hβ aL aK hh hr (fun v hv=>by obtain⟨u,_,rfl⟩:=zzbk.1 hv;rfl) (by rw[zzbv,zzav];omega)
  have hfc:(Builtin.firstCells 1 (Nat.min s.size len) (.string s)).run P w=.ok ((s.data.toList.take len).map fun b=>(.int .u8 b.toNat:Value)).toArray w:=by
   simp only[Builtin.firstCells,Sem.run_pure];congr 1;apply Array.ext';simp only[ByteArray.data_extract,Array.toList_map,zzfr,zzgo,zzdf,zzef];congr 1;rcases zzhn s.size len with h'|h'
   ·have:Nat.min s.size len=s.size:=zzgw h';rw[this,zzai zd,zzai (Nm h')]
   have:Nat.min s.size len=len:=Nat.min_eq_right h';rw[this]
  generalize((s.data.toList.take len).map fun b=>(.int .u8 b.toNat:Value))=cs at*
  refine Zn (v:=.int .i64 (min s.size len:Nat)) (w':=w.setCells b off cs) ?_ (hn _ _ γ _ _ hk rfl g2 g3 (.int _ _));simp[execOp,resolve,invoke,builtin,Builtin.copy_,ht,run_underlying hu,hv,h2.cD,Builtin.lenOf,sizeOf,typeInfo,hi,hi1,hfc,g1,goInt]
 rename_i sA;obtain⟨⟨rfl,hcy,aL,cN,aK⟩,hk⟩:=h;obtain⟨a2,cr,vs,yL,dB,sB,eW,hf2⟩:=Qbk (P:=P) hm h2 hcy;have hr:=dB.take (len*i.size);obtain⟨g1,g2,g3⟩:=qL (P:=P) (off:=off) hm hβ aL aK hh hr (fun v hv=>sB v (zzdq hv)) (by rw[zzav];omega);have hfc:=hf2 (min (lenS (e (aA y))) len) (Nat.min_le_left _ _) w (fun _=>rfl);rw[yL]at hfc
 have bD:vs.take (min (lenS (e (aA y))) len*i.size)=vs.take (len*i.size):=by
  rcases zzhn (lenS (e (aA y))) len with h'|h'
  ·rw[zzgw h',<- eW,zzbp,zzai];rw[eW];exact zzbb _ h'
  rw[Nat.min_eq_right h']
 rw[bD]at hfc;refine Zn (v:=.int .i64 (min (lenS (e (aA y))) len:Nat)) (w':=w.setCells b off (vs.take (len*i.size))) ?_ (hn _ _ γ _ _ hk rfl g2 g3 (.int _ _));simp[execOp,resolve,invoke,builtin,Builtin.copy_,ht,run_underlying hu,hv,yL,Builtin.lenOf,sizeOf,typeInfo,hi,hfc,g1,goInt]
def P3(hm:aq N w0 an γ w m.B m.L){x:Operand}{t te:TypeId}{zs:P1}(hu:P.underlying t=some (.slice te))(hz:zc P te=some zs)(h1:au w γ (e (aA x)) (a.eval x))
  (h:(sop P gl orc e m dst (.clr zs (aA x))).1/\K (sop P gl orc e m dst (.clr zs (aA x))).2.1 (sop P gl orc e m dst (.clr zs (aA x))).2.2):
  Kb N w0 an P ⟨dst,.call ⟨.builtin .clear,#[x],#[t]⟩,ty,pos,after,guard⟩ a γ w (m.st,m.ln) K:=by
 obtain⟨i,z,hi,iW,JQ⟩:=iV (w:=w) (γ:=γ) hz;simp only[sop]at h;split at h
 ·rename_i id off len gz e1;rw[e1]at h1;obtain⟨⟨⟨rfl,bP⟩,aL,cN,aK⟩,hk⟩:=h;obtain⟨b,cap,arr,y7,hβ,hv,hl,hh,hs⟩:=h1.dz;have oM:=Yy JQ bP;intro rd next Q hn
  have E9:z.cells.size=zs.length:=by have:=JQ.1;simp at this;omega
  have hr:ak w γ (bH len zs) (Builtin.zeroCells z.cells len).toList:=by
   refine⟨by simp[Jy,size_zeroCells,E9],fun k c v g1 g2=>?_⟩;obtain⟨j1,j2⟩:=kH g1
   have h0:0<zs.length:=by
    rcases zzbx zs.length with h0|h0
    ·simp[h0]at j1
    exact h0
   have ah:k%zs.length<z.cells.size:=by rw[E9];exact zzdk _ h0
   have AG:v=z.cells[k%zs.length]:=by
    simp only[Builtin.zeroCells,zzby,zzgd]at g2;rw[zzag (by simp[E9];exact j1)]at g2;simp[E9]at g2;rw[<- g2,getElem!_pos z.cells _ ah]
   subst AG;exact JQ.2 _ c _ j2 (by simp[ah])
  obtain⟨g1,g2,g3⟩:=qL (P:=P) (off:=off) hm hβ aL aK hh hr (lT (fun u hu=>oM u (Nm hu)) len) (by rw[Jy];exact cN);by_cases iX:len=0
  ·subst iX;have e0:(Builtin.zeroCells z.cells 0).toList=[]:=by simp[Builtin.zeroCells]
   rw[e0]at g2 g3;refine Zn (v:=.tuple #[]) (w':=w) (by simp[execOp,resolve,invoke,builtin,Builtin.clear_,run_underlying hu,hv]) (hn _ _ γ _ _ hk rfl g2 g3 (ak.za ak.nil))
  refine Zn (v:=.tuple #[]) (w':=w.setCells b off (Builtin.zeroCells z.cells len).toList) ?_ (hn _ _ γ _ _ hk rfl g2 g3 (ak.za ak.nil));cases len with
  |zero=>exact absurd rfl iX
  |succ len=>simp[execOp,resolve,invoke,builtin,Builtin.clear_,run_underlying hu,hv,zeroValue,typeInfo,hi,iW,g1]
 ·rename_i rt e1;rw[e1]at h1;obtain⟨a1,cap,b1,arP,sz1,cv1,hv,s1,_⟩:=h1.cq;intro rd next Q hn
  refine Zn (v:=.tuple #[]) (w':=w) ?_ (hn _ _ γ _ _ h.2 rfl (Ev.refl w γ) hm (ak.za ak.nil));simp only[zzcp]at hv;cases a1<;>simp[execOp,resolve,invoke,builtin,Builtin.clear_,run_underlying hu,hv]
 exact h.1.elim
def VG(hm:aq N w0 an γ w m.B m.L){id off len sz:Nat}{v2:Value}(hr:au w γ (.bs id off len sz) v2)(cw:off+len*sz<=(m.boxes.getD id []).length)(aL:id<m.boxes.length)
  (bP:(m.boxes.getD id []).all Qw=true)(hp:(m.boxes.getD id []).any (Vz 6)=false):
  (aY sz len (((m.boxes.getD id []).map (bG m 6)).drop off)).length=len/\(∀row∈aY sz len (((m.boxes.getD id []).map (bG m 6)).drop off),row.length=sz)/\
  ∃(γ2:G)(a2:Option Addr)(cr b2:Nat)(gH:Nat->Nat->Value),v2=.slice a2 len cr/\qp w γ2 (aY sz len (((m.boxes.getD id []).map (bG m 6)).drop off)) a2 cr b2 off sz gH/\
   ∀i j c,Qr (aY sz len (((m.boxes.getD id []).map (bG m 6)).drop off)) i j=some c->au w γ.cQ c (gH i j):=by
 obtain⟨b,cap,arr,y7,hβ,hv,hl,hh,hs⟩:=hr.dz;have hB:m.B id=some (m.boxes.getD id []):=by simp[AM.B,aL]
 obtain⟨bU,e',q2,q3,q4⟩:=hm.box id _ b hB hβ;rw[hh]at q2;cases q2;have aH:(aY sz len (((m.boxes.getD id []).map (bG m 6)).drop off)).length=len:=by rw[Wp];simp
 have hsz:∀row∈aY sz len (((m.boxes.getD id []).map (bG m 6)).drop off),row.length=sz:=fun row ai=>by
  rw[Wp]at ai;simp only[zzbk,zzay]at ai;obtain⟨k,hk,rfl⟩:=ai;have:(k+1)*sz<=len*sz:=zzbb _ hk;rw[zzbi,zzdp]at this;simp only[zzav,zzcw,zzbv];omega
 have nZ:∀(k j:Nat)(c:AV),Qr (aY sz len (((m.boxes.getD id []).map (bG m 6)).drop off)) k j=some c->∃c' u,(m.boxes.getD id [])[off+k*sz+j]?=some c'/\c=bG m 6 c'/\arr[off+k*sz+j]?=some u/\arr.getD (off+k*sz+j) undef=u/\au w γ c' u:=fun k j c h=>by
  rw[Wp]at h;unfold Qr at h;rcases zzab k len with hk|hk
  ·rw[zzbc,zzei hk]at h;simp only[zzcb,zzcr]at h;rw[zzbw]at h;split at h
   ·rw[zzbr,zzbr,zzbc]at h;obtain⟨c',kj,rfl⟩:=zzb.1 h;rw[<- zzas]at kj
    have ah:off+k*sz+j<arr.size:=by
     have h1:=(zza.1 kj).1;have h2:=q3.1;simp at h2;simp only[List.getD]at h1;omega
    have hu':arr[off+k*sz+j]?=some arr[off+k*sz+j]:=zzag ah;exact⟨c',_,kj,rfl,hu',by simp[ah],q3.2 _ _ _ kj (by simp[ah])⟩
   cases h
  rw[zzbc,zzar (Nm hk)]at h;cases h
 have tH:∀(k j:Nat)(c':AV),(m.boxes.getD id [])[off+k*sz+j]?=some c'->Vz 6 c'=true->False:=fun k j c' h hp'=>by
  have:(m.boxes.getD id []).any (Vz 6)=true:=zzbu.2 ⟨c',zzad h,hp'⟩;rw[hp]at this;cases this
 refine⟨aH,hsz,{γ with ro:=fun _ _=>True},some ⟨b,off,none⟩,cap,b,fun k j=>arr.getD (off+k*sz+j) undef,hv,⟨by rw[aH];exact hl,fun h=>(by cases h),fun _=>⟨rfl,aW hh⟩,hsz,fun k j c h=>?_,fun k j c h=>?_⟩,fun k j c h=>?_⟩
 ·obtain⟨c',u,g1,rfl,g3,g4,g5⟩:=nZ k j c h;rw[aQ hh,g3,g4];exact⟨rfl,trivial,ue g5 (zzbf.1 bP c' (zzad g1))⟩
 ·obtain⟨c',u,g1,rfl,g3,g4,g5⟩:=nZ k j c h;rw[g4];exact Qel hm (m:=m) (fun _ _ h=>h) (ro':=fun _ _=>True) (fun _ _ _=>trivial) 6 c' u g5 fun hp'=>(tH k j c' g1 hp').elim
 obtain⟨c',u,g1,rfl,g3,g4,g5⟩:=nZ k j c h;show au w γ.cQ (bG m 6 c') (arr.getD (off+k*sz+j) undef);rw[g4];exact Qel hm (m:=m) (fun _ _ h=>h) (ro':=γ.ro) (fun _ _ h=>h) 6 c' u g5 fun hp'=>(tH k j c' g1 hp').elim
def P4(hm:aq N w0 an γ w m.B m.L)(fh:∀g,au w γ.cQ (gl g) (.pointer (some ⟨g,0,none⟩))){c:Call}(he:∀x∈c.operands,au w γ (e (aA x)) (a.eval x))(h:((sop P gl orc e m dst (Zq P c)).1/\K (sop P gl orc e m dst (Zq P c)).2.1 (sop P gl orc e m dst (Zq P c)).2.2)):
  Kb N w0 an P ⟨dst,.call c,ty,pos,after,guard⟩ a γ w (m.st,m.ln) K:=by
 have D8:sop P gl orc e m dst (Zq P c)=((rop P gl orc e m dst (Zq P c)).1,(rop P gl orc e m dst (Zq P c)).2,m)->Kb N w0 an P ⟨dst,.call c,ty,pos,after,guard⟩ a γ w (m.st,m.ln) K:=fun hg=>
  qK hm fh he (by rw[hg]at h;exact h)
 obtain⟨callee,args,ts⟩:=c;cases callee with
 |value f=>exact D8 rfl
 |invoke recv name=>exact D8 rfl
 |builtin b=>
  cases b<;>first|exact D8 rfl|skip
  case append=>
   simp only[Zq]at h;split at h
   case h_2=>exact h.1.elim
   rename_i s x t t' ha ht;split at h
   case h_2=>exact h.1.elim
   rename_i te y7 hu hu';split at h
   case h_2=>exact h.1.elim
   rename_i i hi;split at h
   case isFalse=>exact h.1.elim
   rename_i bV;simp only[zzak,beq_iff_eq,bne_iff_ne]at bV;obtain⟨⟨⟨rfl,hz⟩,_⟩,di⟩:=bV;obtain rfl:args=#[s,x]:=by cases args;simp_all
   obtain rfl:ts=#[t,t]:=by cases ts;simp_all
   have h1:=he s (by simp[Call.operands]);have h2:=he x (by simp[Call.operands]);cases iW:i.zero with
   |none=>simp[iW]at hz
   |some z=>
    simp[iW]at hz;obtain⟨hz,hzo⟩:=hz;have aiP:∀(n:Nat),∀v∈(Builtin.zeroCells z.cells n).toList,v.oneCell'=true:=fun n v hv=>lT (fun u hu=>by obtain⟨k,hk,rfl⟩:=zzhc.1 hu;exact hzo k hk) n v hv
    have grown:∀{c1 c2:PP}{bq len:Nat},c1.length+c2.length=len*i.size->len<=bq->bq*i.size<=(c1.toArray++c2.toArray++Builtin.zeroCells z.cells (bq-len)).size:=fun{c1 c2 bq len}hl cw=>by
     simp only[zzfo,zzfn,size_zeroCells,hz];have:bq*i.size=len*i.size+(bq-len)*i.size:=by rw[<- zzbi];congr 1;omega
     omega
    simp only[sop]at h;split at h
    ·rename_i id gz rows US aB e1 e2;rw[e1]at h1;rw[e2]at h2;obtain⟨⟨rfl,aH,hr,cN⟩,hk⟩:=h;obtain⟨v,w',γ',g1,g2,g3,g4⟩:=NC (ty:=ty) hm hu hi iW hz (id:=id) (.inr ⟨h1,aH⟩) h2 hr cN (Ji di cN);intro rd next Q hn
     refine Zn (v:=v) (w':=w') (by simp[execOp,resolve,invoke,builtin,g1]) (hn v w' γ' _ _ hk rfl g2 ?_ g4);rw[aiO m id (zza.1 aH).1];exact g3
    ·
     rename_i y' id off len gz e1;rw[e1]at h1;obtain⟨⟨⟨⟨rfl,rfl,aL,aK,cw⟩,cN⟩,hcy⟩,hk⟩:=h;obtain⟨b,cap,arr,y7,hβ,hv,hl,hh,hs⟩:=h1.dz;obtain⟨a2,cr,vs,yL,dB,sB,eW,hf2⟩:=Qbk (P:=P) hm h2 hcy;have hB:m.B id=some (m.boxes.getD id []):=by simp[AM.B,aL]
     obtain⟨bU,e',q2,q3,q4⟩:=hm.box id _ b hB hβ;rw[hh]at q2;cases q2;have hsz:=q3.1;simp only[zzcs]at hsz
     have fB:ak w γ ((m.boxes.getD id []).take (len*i.size)) (arr.toList.take (len*i.size)):=by
      refine⟨by simp only[zzav,zzcs];omega,fun k c v g1 g2=>?_⟩;rw[zzbw]at g1 g2;split at g1
      ·rename_i tI;rw[if_pos tI]at g2;exact q3.2 k c v g1 g2
      cases g1
     have dc:m.B m.boxes.length=none:=by simp[AM.B]
     have hBB:∀cells:P1,({m with boxes:=m.boxes.set id []++[cells]}:AM).B=fun i=>if i=m.boxes.length then some cells else if i=id then some []else m.B i:=fun cells=>by
      have e1:=VD {m with boxes:=m.boxes.set id []} cells;rw[oK m id aL]at e1;simpa using e1
     intro rd next Q hn
     by_cases eU:len+lenS (e (aA x))<=cap
     ·have aZ:=zf (P:=P) (ty:=ty) (w:=w) (len:=len) (b:=b) (off:=0) hu hi (by have:=hf2 _ (zzaa _) w (fun _=>rfl);rw[yL,<- eW,zzbp]at this;exact this) sB eW eU hh hs;simp only[zzbn]at aZ;have alH:(len+lenS (e (aA x)))*i.size<=cap*i.size:=zzbb _ eU;rw[zzbi]at alH
      obtain⟨g1,g2⟩:=hm.share (id':=m.boxes.length) (new:=(m.boxes.getD id []).take (len*i.size)++(cellsS m i.size (e (aA x))).2) hβ hB aK dc hh (p:=len*i.size) (vs:=vs) (by
       refine⟨by simp only[zzal,zzav,dB.1,zzcs,Kk];omega,fun k c v j1 j2=>?_⟩;rw[zzby,E8]at j2;rcases zzab k (len*i.size)with tI|tI
       ·rw[if_neg zE]at j2;rw[zzam (by rw[zzav];omega)]at j1;refine fB.2 k c v j1 ?_;rw[zzbw,if_pos tI,zzby];exact j2
       rw[zzaw (by rw[zzav];omega)]at j1;have e0:((m.boxes.getD id []).take (len*i.size)).length=len*i.size:=by rw[zzav];omega
       rw[e0]at j1;have dM:=(zza.1 j1).1;rw[dB.1]at dM;rw[if_pos zE]at j2;exact dB.2 _ c v j1 j2) q4 sB
      refine Zn (v:=.slice (some ⟨b,0,none⟩) (len+lenS (e (aA x))) cap) (w':=w.setCells b (len*i.size) vs) (by simp[execOp,resolve,invoke,builtin,hv,yL,aZ]) (hn _ _ _ _ _ hk rfl g1 ?_ ?_)
      ·rw[hBB];exact g2
      exact .bs (by simp[G.box]) eU (Zm b vs _ w arr y7 _ hh) (by rw[Kk];exact hs)
     have f1:(Builtin.firstCells i.size len (.slice (some ⟨b,0,none⟩) len cap)).run P w.drew=.ok (arr.toList.take (len*i.size)).toArray w.drew:=by
      refine run_firstCells_some w.drew i.size len _ len cap _ (by simp;omega) fun j u hj=>?_;rw[bC];show w.cell? _=_;rw[aQ hh];rw[zzbw]at hj;split at hj
      ·simpa using hj
      cases hj
     have f2:(Builtin.firstCells i.size (lenS (e (aA x))) (.slice a2 (lenS (e (aA x))) cr)).run P w.drew=.ok vs.toArray w.drew:=by
      have:=hf2 _ (zzaa _) w.drew (fun _=>rfl);rw[yL,<- eW,zzbp]at this;exact this
     obtain⟨bq,VH,aZ⟩:=lS (P:=P) (ty:=ty) (w:=w) hu hi iW f1 f2 zE cN (Ji di cN);have hmk:=(hm.kill hβ).drew
     have tK:(fun i=>if i=id then some []else m.B i) m.boxes.length=none:=by
      have:m.boxes.length≠id:=zE
      simp only[if_neg this];exact dc
     have hP:=AI (rest:=(Builtin.zeroCells z.cells (bq-(len+lenS (e (aA x))))).toList) fB dB;have bZ:=hmk.dK _ tK (.cells ((arr.toList.take (len*i.size)).toArray++vs.toArray++Builtin.zeroCells z.cells (bq-(len+lenS (e (aA x))))) te)
     have od:=hmk.gC _ tK (e:=te) (arr:=(arr.toList.take (len*i.size)).toArray++vs.toArray++Builtin.zeroCells z.cells (bq-(len+lenS (e (aA x))))) (by
      have:=hP.mono (Ev.drew w γ)
      simpa using this) (fun v hv=>by
       simp only[Array.toList_append,zzat]at hv;obtain(hv|hv)|hv:=hv
       ·exact q4 v (zzdq (Nm hv))
       ·exact sB v (Nm hv)
       exact aiP _ v hv)
     refine Zn (v:=.slice (some ⟨w.heap.size,0,none⟩) (len+lenS (e (aA x))) bq) (by simp[execOp,resolve,invoke,builtin,hv,yL,aZ]) (hn _ _ _ _ _ hk rfl ((Ev.drew w γ).trans bZ) ?_ ?_)
     ·rw[hBB];exact od
     refine .bs (arr:=(arr.toList.take (len*i.size)).toArray++vs.toArray++Builtin.zeroCells z.cells (bq-(len+lenS (e (aA x))))) (e:=te) (by show(if _ then _ else _)=_;rw[if_pos rfl];rfl) VH (Kz w _) ?_;rw[zzbn];exact grown (by rw[eW,zzbi];simp;omega) VH
    ·
     rename_i id gz rows qE gD cE sz2 e1 e2;rw[e1]at h1;rw[e2]at h2;obtain⟨⟨⟨rfl,rfl⟩,aH,hr,cN,alK,tK,JV,hp2⟩,hk⟩:=h;obtain⟨l2,dB,γ2,a2,cr,b2,gH,yL,s2,Fa⟩:=VG hm h2 alK tK JV hp2;generalize aY i.size cE (((m.boxes.getD qE []).map (bG m 6)).drop gD)=aB at*
     subst l2;obtain⟨v,w',γ',g1,g2,g3,g4⟩:=vA (ty:=ty) hm hu hi iW hz (id:=id) (.inr ⟨h1,aH⟩) s2 Fa (fun row h=>(zzat.1 h).elim (hr row) (dB row)) cN (Ji di cN);intro rd next Q hn
     refine Zn (v:=v) (w':=w') (by simp[execOp,resolve,invoke,builtin,yL,g1]) (hn v w' γ' _ _ hk rfl g2 ?_ g4);rw[aiO m id (zza.1 aH).1];exact g3
    ·rename_i y' rt rows e1 tH P5;rw[e1]at h1;split at h
     ·split at h
      ·
       rename_i iX;obtain⟨hcy,hk⟩:=h;obtain⟨a1,cap,b1,arP,sz1,cv1,hv,s1,hcap⟩:=h1.cq;obtain⟨a2,cr,vs,yL,dB,sB,eW,hf2⟩:=Qbk (P:=P) hm h2 hcy;rw[iX]at yL;have aZ:=Qdv (P:=P) (w:=w) (ty:=ty) (a:=a1) hu hi a2 cr rows.length s1.hcap;intro rd next Q hn
       refine Zn (v:=.slice a1 rows.length cap) (w':=w) (by simp[execOp,resolve,invoke,builtin,hv,yL,aZ]) (hn _ _ γ _ _ hk rfl (Ev.refl _ _) hm ?_);rw[<- hv];exact h1
      obtain⟨⟨⟨hfu,hny,hsz,cN⟩,hcy⟩,hk⟩:=h;replace h1:=h1.uf hfu;obtain⟨a1,cap,b1,arP,sz1,cv1,hv,s1,hcap⟩:=h1.cq;replace s1:=s1.fix (sz:=i.size) hsz;obtain⟨a2,cr,vs,yL,dB,sB,eW,hf2⟩:=Qbk (P:=P) hm h2 hcy;obtain⟨a1',azL,vs1,alL,sC,arQ,sD,hf1⟩:=Qbk (P:=P) (sz:=i.size) hm h1 hsz;rw[hv]at alL;simp only[lenS]at alL sD;cases alL;have dc:m.B m.boxes.length=none:=by simp[AM.B]
      have f1:(Builtin.firstCells i.size rows.length (.slice a1 rows.length cap)).run P w.drew=.ok vs1.toArray w.drew:=by
       have:=hf1 _ (zzaa _) w.drew (fun _=>rfl);rw[hv]at this;simp only[lenS]at this;rw[<- sD,zzbp]at this;exact this
      have f2:(Builtin.firstCells i.size (lenS (e (aA x))) (.slice a2 (lenS (e (aA x))) cr)).run P w.drew=.ok vs.toArray w.drew:=by
       have:=hf2 _ (zzaa _) w.drew (fun _=>rfl);rw[yL,<- eW,zzbp]at this;exact this
      have azM:cap=rows.length:=hcap;obtain⟨bq,VH,aZ⟩:=lS (P:=P) (ty:=ty) (w:=w) hu hi iW f1 f2 zE cN (Ji di cN);have hP:=AI (rest:=(Builtin.zeroCells z.cells (bq-(rows.length+lenS (e (aA x))))).toList) sC dB;have hmk:=hm.drew;have bZ:=hmk.dK _ dc (.cells (vs1.toArray++vs.toArray++Builtin.zeroCells z.cells (bq-(rows.length+lenS (e (aA x))))) te)
      have od:=hmk.gC _ dc (e:=te) (arr:=vs1.toArray++vs.toArray++Builtin.zeroCells z.cells (bq-(rows.length+lenS (e (aA x))))) (by
       have:=hP.mono (Ev.drew w γ)
       simpa using this) (fun v hv=>by
        simp only[Array.toList_append,zzat]at hv;obtain(hv|hv)|hv:=hv
        ·exact arQ v (Nm hv)
        ·exact sB v (Nm hv)
        exact aiP _ v hv)
      intro rd next Q hn
      refine Zn (v:=.slice (some ⟨w.heap.size,0,none⟩) (rows.length+lenS (e (aA x))) bq) (by simp[execOp,resolve,invoke,builtin,hv,yL,aZ]) (hn _ _ _ _ _ hk rfl ((Ev.drew w γ).trans bZ) ?_ ?_)
      ·rw[VD];exact od
      refine .bs (arr:=vs1.toArray++vs.toArray++Builtin.zeroCells z.cells (bq-(rows.length+lenS (e (aA x))))) (e:=te) (by show(if _ then _ else _)=_;rw[if_pos rfl];rfl) VH (Kz w _) ?_;rw[zzbn];exact grown (by rw[sD,eW,zzbi]) VH
     split at h
     case h_3=>exact h.1.elim
     case h_2=>
      rename_i qE gD cE sz2 e2;rw[e2]at h2;obtain⟨⟨⟨hfu,rfl⟩,hr,cN,alK,tK,JV,hp2⟩,hk⟩:=h;replace h1:=h1.uf hfu;obtain⟨l2,dB,γ2,a2,cr,b2,gH,yL,s2,Fa⟩:=VG hm h2 alK tK JV hp2;generalize aY i.size cE (((m.boxes.getD qE []).map (bG m 6)).drop gD)=aB at*
      subst l2;obtain⟨v,w',γ',g1,g2,g3,g4⟩:=vA (ty:=ty) hm hu hi iW hz (id:=m.lens.length) (.inl ⟨h1,by simp[AM.L]⟩) s2 Fa (fun row h=>(zzat.1 h).elim (hr row) (dB row)) cN (Ji di cN);intro rd next Q hn
      refine Zn (v:=v) (w':=w') (by simp[execOp,resolve,invoke,builtin,yL,g1]) (hn v w' γ' _ _ hk rfl g2 ?_ g4);rw[CD];exact g3
     rename_i US aB e2;rw[e2]at h2;obtain⟨⟨hfu,hr,cN⟩,hk⟩:=h;replace h1:=h1.uf hfu;obtain⟨v,w',γ',g1,g2,g3,g4⟩:=NC (ty:=ty) hm hu hi iW hz (id:=m.lens.length) (.inl ⟨h1,by simp[AM.L]⟩) h2 hr cN (Ji di cN);intro rd next Q hn
     refine Zn (v:=v) (w':=w') (by simp[execOp,resolve,invoke,builtin,g1]) (hn v w' γ' _ _ hk rfl g2 ?_ g4);rw[CD];exact g3
    exact h.1.elim
  case copy=>
   simp only[Zq]at h;split at h
   case h_2=>exact h.1.elim
   rename_i x y t ts' ha ht;split at h
   case h_2=>exact h.1.elim
   rename_i te hu;split at h
   case h_2=>exact h.1.elim
   rename_i i hi;obtain rfl:args=#[x,y]:=by cases args;simp_all
   have ht0:ts[0]?=some t:=by cases ts;simp_all
   exact P0 hm ht0 hu hi (he x (by simp[Call.operands])) (he y (by simp[Call.operands])) h
  case clear=>
   simp only[Zq]at h;split at h
   case h_2=>exact h.1.elim
   rename_i x t ha ht;split at h
   case h_2=>exact h.1.elim
   rename_i te hu;split at h
   case h_2=>exact h.1.elim
   rename_i zs hz;obtain rfl:args=#[x]:=by cases args;simp_all
   obtain rfl:ts=#[t]:=by cases ts;simp_all
   exact P3 hm hu hz (he x (by simp[Call.operands])) h
  case len=>
   refine D8 ?_;simp only[Zq];repeat' split
   all_goals rfl
  case max=>
   refine D8 ?_;simp only[Zq];repeat' split
   all_goals rfl
  case min=>
   refine D8 ?_;simp only[Zq];repeat' split
   all_goals rfl
def G.gJ(γ:G)(id b:Nat):G:={γ with mm:=fun i=>if i=id then some b else γ.mm i}
def P6:Obj->Bool
 |.map _ _=>true
 |.mapIter _ _ _ _=>true
 |_=>false
def cS.P6{x:AV}{o:Obj}(h:cS w γ x o):P6 o=true:=by
 unfold cS at h;split at h<;>first|rfl|exact h.elim
def NF{w:World}{b o':Nat}{o:Obj}(h:w.heap[b]?=some o)(hm:P6 o=true):w.cell? ⟨b,o',none⟩=none:=by
 cases o<;>simp[P6]at hm<;>simp[World.cell?,h]
def aq.JW{B:Nat->QR}{L:Nat->Option Nat}(hm:aq N w0 an γ w B L)(id:Nat)(aL:B id=none){x:AV}{o:Obj}(hx:cS w γ x o):
  Ev w γ (w.alloc o) (γ.gJ id w.heap.size)/\aq N w0 an (γ.gJ id w.heap.size) (w.alloc o) (fun i=>if i=id then some [x]else B i) L:=by
 have aK:∀i b,γ.mm i=some b->i≠id:=fun i b h=>by
  rintro rfl;obtain⟨_,_,_,_,_,_,_,_,_,hx,_⟩:=hm.mm i b h;rw[aL]at hx;cases hx
 have VI:∀i b,γ.β i=some b->i≠id:=fun i b h=>by
  rintro rfl;obtain⟨_,_,_,_,c,hc⟩:=hm.β i b h;rw[aL]at hc;cases hc
 have hβ0:γ.β id=none:=by
  cases h:γ.β id with
  |none=>rfl
  |some b=>exact absurd rfl (VI id b h)
 have bZ:Ev w γ (w.alloc o) (γ.gJ id w.heap.size):=⟨zd,fun b o' hb hr=>⟨hr,cell_of_heap (Below.heap_alloc w _ b hb)⟩,fun _ _ h=>h,fun _=>zzaa _,fun i b h=>by simp[G.gJ,aK i b h,h],rfl,
   fun i b _ ho=>⟨ho,fun arr e he=>⟨arr,by rw[Below.heap_alloc w _ b (hm.own i b ho).2.1];exact he,zzaa _⟩,fun _ h=>h⟩,
   fun b hb=>⟨hb,Below.heap_alloc w _ b (hm.sp b hb).2.1⟩,Sz.of_same (Below.heap_alloc w _)⟩
 have alM:∀i i' b,γ.β i=some b->γ.β i'=some b->(if i=id then some [x]else B i)=some []\/(if i'=id then some [x]else B i')=some []\/i=i':=fun i i' b h h'=>by
  rw[if_neg (VI i b h),if_neg (VI i' b h')];exact hm.inj i i' b h h'
 refine⟨bZ,⟨w0.st _ _ _ _ hm.bs ⟨rfl,rfl,rfl,zd,fun b hb _=>Below.heap_alloc w _ b hb,bZ.ro,fun b hb=>?_,fun _ _ h=>.inl h⟩,by have:=hm.hN;simp;omega,hm.an,fun b o h=>by have:=hm.robd b o h;simp;omega,
  fun i cells b hb h1=>?_,fun i b hb=>?_,alM,fun i b hb=>?_,hm.oinj,fun b hb=>?_,fun i b hb=>?_,fun i i' b h h'=>?_,hm.len,hm.cur0⟩⟩
 ·obtain hb|hb|hb|⟨i,hb⟩:=hb
  ·exact .inl (.inl hb)
  ·exact .inl (.inr (.inl hb))
  ·exact .inl (.inr (.inr (.inl hb)))
  by_cases h:i=id
  ·simp[G.gJ,h]at hb;exact .inr zE
  simp[G.gJ,h]at hb;exact .inl (.inr (.inr (.inr ⟨i,hb⟩)))
 ·have lR:γ.β i=some b:=h1;simp only[if_neg (VI i b lR)]at hb;obtain⟨arr,e,h2,h3,h4⟩:=hm.box i cells b hb lR;exact⟨arr,e,by rw[Below.heap_alloc w _ b (aW h2)];exact h2,h3.mono bZ,h4⟩
 ·have cU:γ.β i=some b:=hb;obtain⟨h1,h2,h3,h4,c,h5⟩:=hm.β i b cU;exact⟨h1,by simp;omega,h3,h4,c,by simp only[if_neg (VI i b cU)];exact h5⟩
 ·obtain⟨h1,h2,h3⟩:=hm.own i b hb;exact⟨h1,by simp;omega,h3⟩
 ·obtain⟨h1,h2,h3⟩:=hm.sp b hb;exact⟨h1,by simp;omega,h3⟩
 ·by_cases h:i=id
  ·subst h;simp[G.gJ]at hb;subst hb;refine⟨hm.hN,zd,fun o' h=>?_,fun i h=>?_,fun i h=>?_,fun h=>?_,hβ0,x,o,zd,by show(w.heap.push _)[w.heap.size]?=_;simp,hx.mono bZ.cR.Aq⟩
   ·have:=hm.robd _ _ h;omega
   ·have:=(hm.β i _ h).2.1;omega
   ·have:=(hm.own i _ h).2.1;omega
   have:=(hm.sp _ h).2.1;omega
  simp[G.gJ,h]at hb;obtain⟨h1,h2,h3,h4,h5,h6,h8,h7⟩:=hm.mm i b hb;refine⟨h1,by simp;omega,h3,h4,h5,h6,h8,?_⟩;simp only[if_neg h];exact h7.mono bZ.cR.Aq (Below.heap_alloc w _ b h2)
 by_cases hi:i=id<;>by_cases dm:i'=id
 ·rw[hi,dm]
 ·simp[G.gJ,hi]at h;simp[G.gJ,dm]at h';have:=(hm.mm i' b h').2.1;omega
 ·simp[G.gJ,hi]at h;simp[G.gJ,dm]at h';have:=(hm.mm i b h).2.1;omega
 simp[G.gJ,hi]at h;simp[G.gJ,dm]at h';exact hm.minj i i' b h h'
def Fb(hm:aq N w0 an γ w m.B m.L){t:TypeId}{r:Option Operand}(h:((sop P gl orc e m dst (tr P ⟨dst,.makeMap t r,ty,pos,after,guard⟩)).1/\K (sop P gl orc e m dst (tr P ⟨dst,.makeMap t r,ty,pos,after,guard⟩)).2.1 (sop P gl orc e m dst (tr P ⟨dst,.makeMap t r,ty,pos,after,guard⟩)).2.2)):Kb N w0 an P ⟨dst,.makeMap t r,ty,pos,after,guard⟩ a γ w (m.st,m.ln) K:=by
 cases r with
 |some r=>exact h.1.elim
 |none=>
  simp only[tr]at h;split at h
  case h_2=>exact h.1.elim
  rename_i kn z ht;intro rd next Q hn
  have aL:m.B m.boxes.length=none:=by simp[AM.B]
  obtain⟨g1,g2⟩:=hm.JW _ aL (x:=.aM kn []) (o:=.map #[] 0) ⟨rfl,rfl,fun i k a e q1=>by simp at q1⟩;refine Zn (v:=.map (some w.heap.size)) (w':=w.alloc (.map #[] 0)) (by simp[execOp,Instr.makeMap]) (hn _ _ (γ.gJ m.boxes.length w.heap.size) _ _ h.2 rfl g1 ?_ (.mp (by simp[G.gJ])));simp only[sop];rw[VD];exact g2
def aq.qM{B:Nat->QR}{L:Nat->Option Nat}(hm:aq N w0 an γ w B L){id b:Nat}(hb:γ.mm id=some b){x:AV}{o:Obj}(hx:cS w γ x o):
  Ev w γ (w.putObj b o) γ/\aq N w0 an γ (w.putObj b o) (fun i=>if i=id then some [x]else B i) L:=by
 obtain⟨n1,n2,n3,n4,n5,n6,n8,hmo⟩:=hm.mm id b hb;have hnc:=fun{arr:PQ}{e:TypeId}{f:Nat×Nat}=>vp.UJ hmo (arr:=arr) (e:=e) (f:=f);obtain⟨x0,o0,n7,h0,AJ⟩:=hmo;have c9:∀b',b'≠b->(w.putObj b o).heap[b']?=w.heap[b']?:=fun b' cU=>World.putObj_heap_other cU;have Fc:(w.putObj b o).heap[b]?=some o:=by simp[World.putObj,n2]
 have bP:∀b' o',(w.putObj b o).cell? ⟨b',o',none⟩=w.cell? ⟨b',o',none⟩:=fun b' o'=>by
  by_cases NG:b'=b
  ·subst NG;rw[NF Fc hx.P6,NF h0 AJ.P6]
  exact cell_of_heap (c9 b' NG)
 have bZ:Ev w γ (w.putObj b o) γ:=by
  refine⟨zd,fun b' o' _ hr=>⟨hr,bP b' o'⟩,fun _ _ h=>h,fun _=>zzaa _,fun _ _ h=>h,rfl,fun i b' _ ho=>⟨ho,fun arr e he=>⟨arr,?_,zzaa _⟩,fun _ h=>h⟩,fun b' h=>⟨h,c9 b' (by rintro rfl;exact n6 h)⟩,fun b' arr e f h=>⟨arr,by rw[c9 b' (by rintro rfl;exact hnc h)];exact h,rfl⟩⟩;rw[c9 b' (by rintro rfl;exact n5 i ho)];exact he
 have alM:∀i i' b',γ.β i=some b'->γ.β i'=some b'->(if i=id then some [x]else B i)=some []\/(if i'=id then some [x]else B i')=some []\/i=i':=fun i i' b' h h'=>by
  rw[if_neg (by rintro rfl;rw[n8]at h;cases h),if_neg (by rintro rfl;rw[n8]at h';cases h')];exact hm.inj i i' b' h h'
 refine⟨bZ,⟨w0.st _ _ _ _ hm.bs ⟨rfl,rfl,rfl,zd,fun b' _ tH=>c9 b' (by rintro rfl;exact tH (.inr (.inr (.inr ⟨id,hb⟩)))),bZ.ro,fun b' cU=>.inl cU,fun b' o' h=>.inl h⟩,Nm hm.hN,
  hm.an,fun b' o' h=>by simpa using hm.robd b' o' h,fun i cells b' dL h1=>?_,fun i b' cU=>?_,alM,fun i b' cU=>?_,hm.oinj,fun b' cU=>?_,fun i b' cU=>?_,hm.minj,hm.len,hm.cur0⟩⟩
 ·have hi:i≠id:=by rintro rfl;rw[n8]at h1;cases h1
  simp only[if_neg hi]at dL;obtain⟨arr,e,h2,h3,h4⟩:=hm.box i cells b' dL h1;exact⟨arr,e,by rw[c9 b' (by rintro rfl;exact n4 i h1)];exact h2,h3.mono bZ,h4⟩
 ·have hi:i≠id:=by rintro rfl;rw[n8]at cU;cases cU
  obtain⟨h1,h2,h3,h4,c',h5⟩:=hm.β i b' cU;exact⟨h1,Nm h2,h3,h4,c',by simp only[if_neg hi];exact h5⟩
 ·obtain⟨h1,h2,h3⟩:=hm.own i b' cU;exact⟨h1,Nm h2,h3⟩
 ·obtain⟨h1,h2,h3⟩:=hm.sp b' cU;exact⟨h1,Nm h2,h3⟩
 by_cases hi:i=id
 ·subst hi;obtain rfl:b'=b:=Option.some.inj (cU.symm.trans hb);exact⟨n1,Nm n2,n3,n4,n5,n6,n8,x,o,zd,Fc,hx.mono bZ.cR.Aq⟩
 obtain⟨h1,h2,h3,h4,h5,h6,h8,h7⟩:=hm.mm i b' cU;refine⟨h1,Nm h2,h3,h4,h5,h6,h8,?_⟩;simp only[if_neg hi];exact h7.mono bZ.cR.Aq (c9 b' (by rintro rfl;exact hi (hm.minj _ _ _ cU hb)))
def mQ{id:Nat}{x:AV}(h:m.boxes.getD id []=[x]):id<m.boxes.length/\m.B id=some [x]:=by
 have aL:id<m.boxes.length:=by
  rcases zzab id m.boxes.length with h'|h'
  ·exact h'
  simp[List.getD,zzar h']at h
 refine⟨aL,?_⟩;simp[AM.B,aL];simpa[List.getD,aL]using h
def AK{kn:Nat}{kvs:List (Pi×AV)}{es:Array MapEntry}{n:Pi}{c:AV}{v:Value}(hn:Wl kn n)(hl:kvs.length=es.size)
  (hk:∀(i:Nat)(k:Pi)(a:AV)(e:MapEntry),kvs[i]?=some (k,a)->es[i]?=some e->Wl kn k/\e.key=Yi kn k/\e.born=i/\au w γ a e.val)(hc:au w γ c v):
  cS w γ (.aM kn (kvs++[(n,c)])) (.map (es.push ⟨Yi kn n,v,es.size⟩) (es.size+1)):=by
 refine⟨zd,by simp[hl],fun j k' c' x' s1 s2=>?_⟩;rcases zzab j kvs.length with hj|hj
 ·rw[zzam hj]at s1;rw[Array.getElem?_push_lt zE]at s2;exact hk j k' c' x' s1 (by rw[zzag zE];exact s2)
 have NB:j=kvs.length:=by
  have:=(zza.1 s1).1;simp at this;omega
 subst NB;simp at s1;obtain⟨rfl,rfl⟩:=s1;rw[hl]at s2;simp at s2;subst s2;exact⟨hn,rfl,hl.symm,hc⟩
def vL{kn:Nat}{kvs:List (Pi×AV)}{es:Array MapEntry}{n:Pi}{j:Nat}{c:AV}{f:MapEntry->MapEntry}(hn:Wl kn n)(hl:kvs.length=es.size)
  (hk:∀(i:Nat)(k:Pi)(a:AV)(e:MapEntry),kvs[i]?=some (k,a)->es[i]?=some e->Wl kn k/\e.key=Yi kn k/\e.born=i/\au w γ a e.val)(hj:j<kvs.length)
  (hf:∀e,es[j]?=some e->(f e).key=Yi kn n/\(f e).born=e.born/\au w γ c (f e).val):
  cS w γ (.aM kn (kvs.set j (n,c))) (.map (es.modify j f) es.size):=by
 refine⟨zd,by simp[hl],fun j' k' c' x' t1 t2=>?_⟩;rw[zzdm]at t2;by_cases hjj:j=j'
 ·subst hjj;have ja:j<es.size:=zE
  simp[ja]at t2;rw[zzbg zE]at t1;cases t1;subst t2;obtain⟨p1,p2,p3⟩:=hf es[j] (by simp[ja]);have:=hk j (kvs[j]'hj).1 (kvs[j]'hj).2 es[j] (by simp[hj]) (by simp[ja]);exact⟨hn,p1,by rw[p2];exact this.2.2.1,p3⟩
 rw[zzbm hjj]at t1;rw[if_neg hjj]at t2;exact hk j' k' c' x' t1 t2
def CE(b:Nat)(o:Obj){es:Array MapEntry}{c:Nat}(q2:w.heap[b]?=some (.map es c)):(setObj b o).run P w=.ok () (w.putObj b o):=by simp[setObj,Sem.run,q2,World.putObj]
def JX(hm:aq N w0 an γ w m.B m.L){t:TypeId}{x k y:Operand}(h1:au w γ (e (aA x)) (a.eval x))(h2:au w γ (e (aA k)) (a.eval k))(h3:au w γ (e (aA y)) (a.eval y))
  (h:((sop P gl orc e m dst (tr P ⟨dst,.mapUpdate t x k y,ty,pos,after,guard⟩)).1/\K (sop P gl orc e m dst (tr P ⟨dst,.mapUpdate t x k y,ty,pos,after,guard⟩)).2.1 (sop P gl orc e m dst (tr P ⟨dst,.mapUpdate t x k y,ty,pos,after,guard⟩)).2.2)):Kb N w0 an P ⟨dst,.mapUpdate t x k y,ty,pos,after,guard⟩ a γ w (m.st,m.ln) K:=by
 simp only[tr]at h;split at h
 case h_2=>exact h.1.elim
 rename_i kn z ht;simp only[sop]at h;split at h
 case h_2=>exact h.1.elim
 rename_i id n e1 e2;rw[e1]at h1;obtain⟨e3,fF⟩:=CA e2;rw[e3]at h2;split at h
 case h_2=>exact h.1.elim
 rename_i Av kvs fK;obtain⟨⟨Ip,hba⟩,hK⟩:=h;subst Ip;obtain⟨kt,vt,i,zv,hu,hk,hi,hz,rfl⟩:=ko ht;obtain⟨aL,CF⟩:=mQ fK;obtain⟨b,es,hb,hv,q2,q3,q4⟩:=hm.iY h1 CF
 obtain⟨f1,f2⟩:=CB (w:=w) (γ:=γ) (P:=P) hk fF (kvs:=kvs) (es:=es.toList) (Nm q3) fun j k' c x' g1 g2=>by
  obtain⟨p1,p2,_,p3⟩:=q4 j k' c x' g1 (Nm g2);exact⟨p1,p2,p3⟩
 have cA:=MapKept.run_getObj_map (P:=P) q2;have bQ:=fun o=>CE (P:=P) b o q2;have ku:(Instr.checkKey false 10000 kt (Yi Av n)).run P w=.ok () w:=run_checkKey hk fF;have SL:=qI fF h2;intro rd next Q hn
 cases hf:Xg n kvs 0 with
 |none=>
  rw[hf]at hK;have PV:=f1 hf
  have aZ:(execOp a.eval ⟨dst,.mapUpdate t x k y,ty,pos,after,guard⟩).run P w=.ok .skip (w.putObj b (.map (es.push ⟨Yi Av n,a.eval y,es.size⟩) (es.size+1))):=by
   simp[execOp,Instr.mapUpdate,run_underlying hu,hv,SL,cA,ku,PV,bQ]
  obtain⟨g1,g2⟩:=hm.qM hb (AK fF q3 q4 h3);refine oy aZ (hn undef _ γ _ _ hK rfl g1 ?_ (.junk _));rw[oK m id aL];exact g2
 |some p=>
  obtain⟨j,c⟩:=p;rw[hf]at hK;obtain⟨vv,PV,s2,s3,s4⟩:=f2 j c hf;have ug:j<es.size:=zE
  have vM:=(q4 j n c es[j] s4 (zzag ug)).2.1;have Io:=oI (P:=P) (w:=w) (new:=Yi Av n) fF vM rfl
  have aZ:(execOp a.eval ⟨dst,.mapUpdate t x k y,ty,pos,after,guard⟩).run P w=.ok .skip (w.putObj b (.map (es.modify j fun q=>{q with key:=Yi Av n,val:=a.eval y}) es.size)):=by
   simp[execOp,Instr.mapUpdate,run_underlying hu,hv,SL,cA,ku,PV,ug,Io,bQ]
  obtain⟨g1,g2⟩:=hm.qM hb (vL (j:=j) (c:=e (aA y)) (f:=fun q=>{q with key:=Yi Av n,val:=a.eval y}) fF q3 q4 s3 fun e he=>⟨rfl,rfl,h3⟩);refine oy aZ (hn undef _ γ _ _ hK rfl g1 ?_ (.junk _));rw[oK m id aL];exact g2
def JY(hm:aq N w0 an γ w m.B m.L){t:TypeId}{x k:Operand}(h1:au w γ (e (aA x)) (a.eval x))(h2:au w γ (e (aA k)) (a.eval k))
  (h:((sop P gl orc e m dst (tr P ⟨dst,.mapEntry t x k,ty,pos,after,guard⟩)).1/\K (sop P gl orc e m dst (tr P ⟨dst,.mapEntry t x k,ty,pos,after,guard⟩)).2.1 (sop P gl orc e m dst (tr P ⟨dst,.mapEntry t x k,ty,pos,after,guard⟩)).2.2)):Kb N w0 an P ⟨dst,.mapEntry t x k,ty,pos,after,guard⟩ a γ w (m.st,m.ln) K:=by
 simp only[tr]at h;split at h
 case h_2=>exact h.1.elim
 rename_i kn z ht;simp only[sop]at h;split at h
 case h_2=>exact h.1.elim
 rename_i id n e1 e2;rw[e1]at h1;obtain⟨e3,fF⟩:=CA e2;rw[e3]at h2;split at h
 case h_2=>exact h.1.elim
 rename_i Av kvs fK;obtain⟨Ip,hK⟩:=h;simp only at Ip;subst Ip;obtain⟨kt,vt,i,zv,hu,hk,hi,hz,rfl⟩:=ko ht;obtain⟨aL,CF⟩:=mQ fK;obtain⟨b,es,hb,hv,q2,q3,q4⟩:=hm.iY h1 CF
 obtain⟨f1,f2⟩:=CB (w:=w) (γ:=γ) (P:=P) hk fF (kvs:=kvs) (es:=es.toList) (Nm q3) fun j k' c x' g1 g2=>by
  obtain⟨p1,p2,_,p3⟩:=q4 j k' c x' g1 (Nm g2);exact⟨p1,p2,p3⟩
 have cA:=MapKept.run_getObj_map (P:=P) q2;have bQ:=fun o=>CE (P:=P) b o q2;have ku:(Instr.checkKey false 10000 kt (Yi Av n)).run P w=.ok () w:=run_checkKey hk fF;have SL:=qI fF h2;intro rd next Q hn
 cases hf:Xg n kvs 0 with
 |none=>
  rw[hf]at hK;have PV:=f1 hf
  have aZ:(execOp a.eval ⟨dst,.mapEntry t x k,ty,pos,after,guard⟩).run P w=.ok (.value (.tuple #[zv,.int .i64 es.size])) (w.putObj b (.map (es.push ⟨Yi Av n,zv,es.size⟩) (es.size+1))):=by
   simp[execOp,Instr.mapEntry,run_underlying hu,hv,SL,cA,ku,PV,bQ,zeroValue,typeInfo,hi,hz,goInt]
  obtain⟨g1,g2⟩:=hm.qM hb (AK fF q3 q4 (Jn w γ zv));refine Zn aZ (hn _ _ γ _ _ hK rfl g1 ?_ ?_)
  ·rw[oK m id aL];exact g2
  rw[q3];exact(ak.cons (Jn _ γ zv) (ak.cons (.int .i64 _) ak.nil)).za
 |some p=>
  obtain⟨j,c⟩:=p;rw[hf]at hK;obtain⟨vv,PV,s2,s3,s4⟩:=f2 j c hf;have ug:j<es.size:=zE
  have vM:=q4 j n c es[j] s4 (zzag ug);have Io:=oI (P:=P) (w:=w) (new:=Yi Av n) fF vM.2.1 rfl
  have aZ:(execOp a.eval ⟨dst,.mapEntry t x k,ty,pos,after,guard⟩).run P w=.ok (.value (.tuple #[vv,.int .i64 j])) (w.putObj b (.map (es.modify j fun q=>{q with key:=Yi Av n}) es.size)):=by
   simp[execOp,Instr.mapEntry,run_underlying hu,hv,SL,cA,ku,PV,ug,Io,bQ,goInt,vM.2.2.1]
  have VJ:kvs.set j (n,c)=kvs:=by
   apply zzct;intro i;by_cases fP:j=i
   ·subst fP;rw[zzbg s3,s4]
   rw[zzbm fP]
  obtain⟨g1,g2⟩:=hm.qM hb (vL (j:=j) (c:=c) (f:=fun q=>{q with key:=Yi Av n}) fF q3 q4 s3 fun e he=>⟨rfl,rfl,(q4 j n c e s4 he).2.2.2⟩);rw[VJ]at g2;refine Zn aZ (hn _ _ γ _ _ hK rfl g1 ?_ ?_)
  ·rw[oK m id aL];exact g2
  exact((ak.cons s2 (ak.cons (.int .i64 _) ak.nil)).mono g1).za
def JZ(hm:aq N w0 an γ w m.B m.L){t:TypeId}{x k y:Operand}(h1:au w γ (e (aA x)) (a.eval x))(h2:au w γ (e (aA k)) (a.eval k))(h3:au w γ (e (aA y)) (a.eval y))
  (h:((sop P gl orc e m dst (tr P ⟨dst,.entryStore t x k y,ty,pos,after,guard⟩)).1/\K (sop P gl orc e m dst (tr P ⟨dst,.entryStore t x k y,ty,pos,after,guard⟩)).2.1 (sop P gl orc e m dst (tr P ⟨dst,.entryStore t x k y,ty,pos,after,guard⟩)).2.2)):Kb N w0 an P ⟨dst,.entryStore t x k y,ty,pos,after,guard⟩ a γ w (m.st,m.ln) K:=by
 simp only[tr,sop]at h;split at h
 case h_2=>exact h.1.elim
 rename_i id kk i e1 e2;rw[e1]at h1;rw[e2]at h2;split at h
 case h_2=>exact h.1.elim
 rename_i kn kvs fK;obtain⟨⟨⟨hi0,lu⟩,hba⟩,hK⟩:=h;obtain⟨aL,CF⟩:=mQ fK;obtain⟨b,es,hb,hv,q2,q3,q4⟩:=hm.iY h1 CF;have cA:=MapKept.run_getObj_map (P:=P) q2;have bQ:=fun o=>CE (P:=P) b o q2;obtain⟨j,rfl⟩:∃j:Nat,i=j:=⟨i.toNat,zE⟩;have ug:j<es.size:=zE
 have yM:j<kvs.length:=zE
 have PL:es.findIdx? (fun e=>(e.born:Int)==(j:Int))=some j:=by
  rw[Array.findIdx?_eq_some_iff_getElem];refine⟨ug,by simp[Qem q3 q4 ug],fun l hl=>?_⟩;have:=Qem q3 q4 (i:=l) zE;simp[this];omega
 have aZ:(execOp a.eval ⟨dst,.entryStore t x k y,ty,pos,after,guard⟩).run P w=.ok .skip (w.putObj b (.map (es.modify j fun q=>{q with val:=a.eval y}) es.size)):=by
  simp[execOp,Instr.entryStore,hv,cA,h2.aJ,asInt,asIntOf,PL,bQ]
 have vM:=q4 j (kvs[j]'yM).1 (kvs[j]'yM).2 es[j] (by simp[yM]) (by simp[ug])
 obtain⟨g1,g2⟩:=hm.qM hb (vL (j:=j) (n:=(kvs[j]'yM).1) (c:=e (aA y)) (f:=fun q=>{q with val:=a.eval y}) vM.1 q3 q4 yM fun e he=>⟨by
  have:=q4 j (kvs[j]'yM).1 (kvs[j]'yM).2 e (by simp[yM]) he;exact this.2.1,rfl,h3⟩)
 intro rd next Q hn
 have hgd:(kvs.getD (Int.toNat (j:Int)) ([],.junk)).1=(kvs[j]'yM).1:=by simp[List.getD,yM]
 rw[hgd]at hK;refine oy aZ (hn undef _ γ _ _ hK rfl g1 ?_ (.junk _));rw[oK m id aL];exact g2
def P7(hm:aq N w0 an γ w m.B m.L){t:TypeId}{x:Operand}(h1:au w γ (e (aA x)) (a.eval x))
  (h:((sop P gl orc e m dst (tr P ⟨dst,.range t x,ty,pos,after,guard⟩)).1/\K (sop P gl orc e m dst (tr P ⟨dst,.range t x,ty,pos,after,guard⟩)).2.1 (sop P gl orc e m dst (tr P ⟨dst,.range t x,ty,pos,after,guard⟩)).2.2)):Kb N w0 an P ⟨dst,.range t x,ty,pos,after,guard⟩ a γ w (m.st,m.ln) K:=by
 simp only[tr]at h;split at h
 case h_2=>exact h.1.elim
 rename_i p ht;obtain⟨kn,z⟩:=p;simp only[sop]at h;split at h
 case h_2=>exact h.1.elim
 rename_i id e1;rw[e1]at h1;split at h
 case h_2=>exact h.1.elim
 rename_i Av kvs fK;obtain⟨kt,vt,i,zv,hu,hk,hi,hz,rfl⟩:=ko ht;obtain⟨aL,CF⟩:=mQ fK;obtain⟨b,es,hb,hv,q2,q3,q4⟩:=hm.iY h1 CF;have dc:m.B m.boxes.length=none:=by simp[AM.B]
 obtain⟨g1,g2⟩:=hm.JW _ dc (x:=.mitr id kvs.length []) (o:=.mapIter (some b) es.size #[] es.size) ⟨hb,q3.symm,q3.symm,rfl⟩
 have aZ:(execOp a.eval ⟨dst,.range t x,ty,pos,after,guard⟩).run P w=.ok (.value (.pointer (some ⟨w.heap.size,0,none⟩))) (w.alloc (.mapIter (some b) es.size #[] es.size)):=by
  simp[execOp,hv,run_range_map w t kt vt b es es.size hu q2]
 intro rd next Q hn
 refine Zn aZ (hn _ _ (γ.gJ m.boxes.length w.heap.size) _ _ h.2 rfl g1 ?_ (.it (by simp[G.gJ])));rw[VD];exact g2
def J1(hm:aq N w0 an γ w m.B m.L){t:TypeId}{l c:Operand}(h0:au w γ (e (aA l)) (a.eval l))(h1:au w γ (e (aA c)) (a.eval c))
  (h:((sop P gl orc e m dst (tr P ⟨dst,.makeSlice t l c,ty,pos,after,guard⟩)).1/\K (sop P gl orc e m dst (tr P ⟨dst,.makeSlice t l c,ty,pos,after,guard⟩)).2.1 (sop P gl orc e m dst (tr P ⟨dst,.makeSlice t l c,ty,pos,after,guard⟩)).2.2)):Kb N w0 an P ⟨dst,.makeSlice t l c,ty,pos,after,guard⟩ a γ w (m.st,m.ln) K:=by
 simp only[tr]at h;split at h
 case h_2=>exact h.1.elim
 rename_i te hu;split at h
 case h_3=>exact h.1.elim
 case h_2=>
  rename_i i hi gK;split at h
  case h_2=>exact h.1.elim
  rename_i zs JM;obtain⟨i',z,dm,hz,JQ⟩:=iV (w:=w) (γ:=γ) JM;rw[hi]at dm;cases dm;simp only[sop]at h;split at h
  case h_2=>exact h.1.elim
  rename_i k1 n1 k2 n2 e1 e2;rw[e1]at h0;rw[e2]at h1;obtain⟨⟨⟨g0,g1,g2,g3⟩,g4,g5⟩,g6⟩:=h;have aZ:=run_make (P:=P) w t te i z hu hi hz k1 k2 n1 n2 g0 zE g2 g3;have aL:m.B m.boxes.length=none:=by simp[AM.B]
  have oM:=Yy JQ g5;have E9:z.cells.size=zs.length:=by have:=JQ.1;simp at this;omega
  intro rd next Q hn
  refine Zn (v:=.slice (some ⟨w.heap.size,0,none⟩) n1.toNat n2.toNat) (w':=w.alloc (.cells (madeCells z.cells (n2.toNat*i.size)) te)) (by simp[execOp,h0.aJ,h1.aJ,aZ])
   (hn _ _ (γ.box m.boxes.length w.heap.size) _ _ g6 rfl (hm.dK _ aL _) ?_ ?_)
  ·rw[VD]
   have y9:∀v∈(madeCells z.cells (n2.toNat*i.size)).toList,v.oneCell'=true:=fun v hv=>by
    simp[madeCells]at hv;obtain⟨k,hk,rfl⟩:=hv
    have h0:0<z.cells.size:=by
     rcases zzbx z.cells.size with h0|h0
     ·rw[h0]at E9;rw[<- g4,<- E9]at hk;simp at hk
     exact h0
    have ah:k%z.cells.size<z.cells.size:=zzdk _ h0;rw[getElem!_pos z.cells _ ah];exact oM _ zd
   refine hm.gC _ aL ⟨by simp[Jy,size_madeCells,g4],fun k c v j1 j2=>?_⟩ y9;obtain⟨q1,q2⟩:=kH j1
   have h0:0<zs.length:=by
    rcases zzbx zs.length with h0|h0
    ·simp[h0]at q1
    exact h0
   have ah:k%zs.length<z.cells.size:=by rw[E9];exact zzdk _ h0
   have AG:v=z.cells[k%zs.length]:=by
    simp only[madeCells,zzby,zzgd]at j2;rw[zzag (by simp;rw[<- g4];exact q1)]at j2;simp[E9]at j2;rw[<- j2,getElem!_pos z.cells _ ah]
   subst AG;exact JQ.2 _ c _ q2 (by simp[ah])
  exact .bs (arr:=madeCells z.cells (n2.toNat*i.size)) (e:=te) (by simp[G.box]) zE (by show(w.heap.push _)[w.heap.size]?=_;simp) (by rw[zzbn,size_madeCells];exact zzaa _)
 rename_i i hi;split at h
 case isFalse=>exact h.1.elim
 rename_i iW;simp only[zzak,beq_iff_eq,bne_iff_ne]at iW;obtain⟨iW,hi0⟩:=iW
 obtain⟨z,hz,JM,hzo⟩:∃z,i.zero=some z/\z.cells.size=i.size/\∀v∈z.cells,v.oneCell'=true:=by
  cases hz:i.zero with
  |none=>simp[hz]at iW
  |some z=>
   simp[hz]at iW
   exact⟨z,rfl,iW.1,fun v hv=>by
    obtain⟨k,hk,rfl⟩:=zzhc.1 hv;exact iW.2 k hk⟩
 have VK:∀(n:Nat),z.cells.size≠0->∀v∈(madeCells z.cells n).toList,v.oneCell'=true:=fun n h0 v hv=>by
  simp[madeCells]at hv;obtain⟨k,hk,rfl⟩:=hv;have ah:k%z.cells.size<z.cells.size:=zzdk _ zE;rw[getElem!_pos z.cells _ ah];exact hzo _ zd
 simp only[sop]at h;split at h
 case h_2=>exact h.1.elim
 rename_i kk n e1;rw[e1]at h1;have JS:a.eval (.const (.int .i64 0))=.int .i64 0:=rfl;split at h
 ·split at h
  ·rename_i hc0;obtain⟨⟨g1,g2,g3⟩,g4⟩:=h;have aZ:=run_make (P:=P) w t te i z hu hi hz .i64 kk 0 n (zzcx _) g1 g2 g3;intro rd next Q hn
   have aL:m.B m.boxes.length=none:=by simp[AM.B]
   refine Zn (v:=.slice (some ⟨w.heap.size,0,none⟩) 0 n.toNat) (w':=w.alloc (.cells (madeCells z.cells (n.toNat*i.size)) te)) (by simp[execOp,JS,h1.aJ,aZ])
    (hn _ _ (γ.box m.boxes.length w.heap.size) _ _ g4 rfl (hm.dK _ aL _) ?_ ?_)
   ·rw[VD];exact hm.gC _ aL ⟨zd,fun k c v j1 j2=>by simp at j1⟩ (by rw[hc0];simp[madeCells])
   exact .sl (rows:=[]) w.heap.size 0 i.size (fun _ _=>undef) (zzbe _) (fun h=>(by cases h)) (fun h=>absurd rfl h) (fun _ h=>by cases h) (fun i j c h=>by simp[Qr]at h) (fun i j c h=>by simp[Qr]at h) (by simpa[tG]using hc0)
  obtain⟨⟨g1,g2,g3⟩,g4⟩:=h;have aZ:=run_make (P:=P) w t te i z hu hi hz .i64 kk 0 n (zzcx _) g1 g2 g3;have aL:m.B m.boxes.length=none:=by simp[AM.B]
  intro rd next Q hn
  refine Zn (v:=.slice (some ⟨w.heap.size,0,none⟩) 0 n.toNat) (w':=w.alloc (.cells (madeCells z.cells (n.toNat*i.size)) te)) (by simp[execOp,JS,h1.aJ,aZ])
   (hn _ _ (γ.box m.boxes.length w.heap.size) _ _ g4 rfl (hm.dK _ aL _) ?_ ?_)
  ·rw[VD];refine hm.gC _ aL ⟨by simp[size_madeCells],fun k c v j1 j2=>?_⟩ (VK _ zE);simp[zzcn]at j1;rw[<- j1.2];exact .junk _
  exact .bs (arr:=madeCells z.cells (n.toNat*i.size)) (e:=te) (by simp[G.box]) zE (by show(w.heap.push _)[w.heap.size]?=_;simp) (by rw[zzbn,size_madeCells];exact zzaa _)
 obtain⟨⟨g1,g2,g3⟩,g4⟩:=h;have aZ:=run_make (P:=P) w t te i z hu hi hz .i64 kk 0 n (zzcx _) g1 g2 g3;have hL:m.L m.lens.length=none:=by simp[AM.L]
 have eu:γ.cur m.lens.length=0:=hm.cur0 _ hL
 have cp:γ.own m.lens.length=none:=by
  cases h:γ.own m.lens.length with
  |none=>rfl
  |some b=>obtain⟨_,_,k,hk⟩:=hm.own _ _ h;rw[hL]at hk;cases hk
 intro rd next Q hn
 let o:Obj:=.cells (madeCells z.cells (n.toNat*i.size)) te
 refine Zn (v:=.slice (some ⟨w.heap.size,0,none⟩) 0 n.toNat) (w':=w.alloc o) (by simp[execOp,JS,h1.aJ,aZ,o])
  (hn _ _ (γ.renew m.lens.length w.heap.size 0 0) _ _ g4 rfl (hm.fZ (q:=0) zE (fun _=>cp) o) ?_ ?_)
 ·rw[CD];exact hm.renew zE (fun _=>cp) o
 refine .sl (rows:=[]) w.heap.size 0 i.size (fun _ _=>undef) (zzbe _) (fun h=>(by cases h)) (fun h=>absurd rfl h) (fun _ h=>by cases h) (fun i j c h=>by simp[Qr]at h) (fun i j c h=>by simp[Qr]at h) ?_;refine⟨rfl,zzbe _,fun _=>.inr ⟨w.heap.size,0,madeCells z.cells (n.toNat*i.size),te,rfl,by simp[G.renew],by show(w.heap.push _)[w.heap.size]?=_;simp[o],by simp[size_madeCells],fun o' _ hr=>?_⟩⟩;obtain hr|⟨_,hr⟩:=hr
 ·have:=hm.robd _ _ hr;omega
 omega
def P8(hm:aq N w0 an γ w m.B m.L)(fh:∀g,au w γ.cQ (gl g) (.pointer (some ⟨g,0,none⟩))){t:TypeId}{len:Nat}{parts:Array (Nat×Operand)}(he:∀x∈(Op.buildSlice t len parts).operands,au w γ (e (aA x)) (a.eval x))
  (h:((sop P gl orc e m dst (tr P ⟨dst,.buildSlice t len parts,ty,pos,after,guard⟩)).1/\K (sop P gl orc e m dst (tr P ⟨dst,.buildSlice t len parts,ty,pos,after,guard⟩)).2.1 (sop P gl orc e m dst (tr P ⟨dst,.buildSlice t len parts,ty,pos,after,guard⟩)).2.2)):
  Kb N w0 an P ⟨dst,.buildSlice t len parts,ty,pos,after,guard⟩ a γ w (m.st,m.ln) K:=by
 by_cases hmut:mutO orc dst=true
 case neg=>
  refine qK (o:=⟨dst,.buildSlice t len parts,ty,pos,after,guard⟩) (orc:=orc) hm fh he ?_;simp only[tr]at h |-
  repeat' split at h
  all_goals first|exact h.1.elim|skip
  simp only[sop,if_neg hmut]at h;simp_all
 have h1:∀p∈parts,au w γ (e (aA p.2)) (a.eval p.2):=fun p hp=>he p.2 (by simp[Op.operands];exact⟨p.1,hp⟩);simp only[tr]at h;split at h
 case h_2=>exact h.1.elim
 rename_i te hu;split at h
 case h_2=>exact h.1.elim
 rename_i i hi;split at h
 case isFalse=>exact h.1.elim
 rename_i bV;simp only[zzak,beq_iff_eq,bne_iff_ne,decide_eq_true_eq]at bV;obtain⟨⟨hz,JR⟩,Cw⟩:=bV;cases iW:i.zero with
 |none=>simp[iW]at hz
 |some z=>
  simp[iW]at hz;simp only[sop,if_pos hmut]at h;obtain⟨⟨fB,yZ⟩,hk⟩:=h
  let ew:PQ:=(Array.range (len*i.size)).map (z.cells[·%z.cells.size]!)
  have Cz:ak w γ (List.replicate (len*i.size) .junk) ew.toList:=by
   refine⟨by simp[ew],fun j x v hj _=>?_⟩;simp[zzcn]at hj;rw[<- hj.2];exact .junk _
  obtain⟨cells,f1,f2,f3⟩:=Qeg (w:=w) (γ:=γ) (place:=fun j=>some (j*i.size,i.size)) (parts.toList.map fun p=>(p.1*i.size,i.size,e (aA p.2))) (parts.toList.map fun p=>(p.1,a.eval p.2)) _ ew zd (fun j p q ek nY=>by
    simp at ek nY;obtain⟨x1,x2,Im,rfl⟩:=ek;obtain⟨y1,y2,hy1,rfl⟩:=nY;rw[Im]at hy1;cases hy1;exact⟨rfl,h1 (x1,x2) (zzda Im)⟩) Cz (by simpa[Function.comp_def]using fB)
  have hq':(fillA (List.replicate (len*i.size) .junk) ((parts.toList.map fun p=>(p.1,aA p.2)).map fun p=>(p.1*i.size,i.size,e p.2))).2=(fillA (List.replicate (len*i.size) .junk) (parts.toList.map fun p=>(p.1*i.size,i.size,e (aA p.2)))).2:=by
   simp[Function.comp_def]
  rw[hq']at yZ hk;have qq:cells.size=len*i.size:=by rw[f3];simp[ew]
  have aZ:(execOp a.eval ⟨dst,.buildSlice t len parts,ty,pos,after,guard⟩).run P w=.ok (.value (.slice (some ⟨w.heap.size,0,none⟩) len len)) (w.alloc (.cells cells te)):=by
   have U1:¬(16777216<len*i.size):=zE
   by_cases iX:len*i.size=0
   ·have dD:ew=(Array.range (len*i.size)).map ((#[]:PQ)[·%(#[]:PQ).size]!):=by
     simp[ew,iX]
    rw[dD]at f1
    have eR:len=0:=by
     rcases Nat.mul_eq_zero.1 iX with h|h
     ·exact h
     exact absurd h JR
    simp[iX]at f1;simp[execOp,Instr.buildSlice,run_underlying hu,sizeOf,typeInfo,hi,iX,f1,newRow]
   simp only[execOp,Instr.buildSlice];have f1':Instr.fill (fun j=>some (j*i.size,i.size)) ((Array.range (len*i.size)).map (z.cells[·%z.cells.size]!)) (parts.toList.map fun p=>(p.1,a.eval p.2))=some cells:=f1;simp[run_underlying hu,sizeOf,typeInfo,zeroValue,hi,iW,iX,U1,f1',newRow]
  have aL:m.B m.boxes.length=none:=by simp[AM.B]
  intro rd next Q hn
  refine Zn aZ (hn _ _ (γ.box m.boxes.length w.heap.size) _ _ hk rfl (hm.dK _ aL _) ?_ ?_)
  ·rw[VD];exact hm.gC _ aL f2.toP (Yy f2 yZ)
  exact .bs (arr:=cells) (e:=te) (by simp[G.box]) (zzaa _) (by show(w.heap.push _)[w.heap.size]?=_;simp) (by rw[zzbn,qq];exact zzaa _)
def AL(hm:aq N w0 an γ w m.B m.L)(fh:∀g,au w γ.cQ (gl g) (.pointer (some ⟨g,0,none⟩)))
  (he:∀x∈o.op.operands,au w γ (e (aA x)) (a.eval x))(h:((sop P gl orc e m o.dst (tr P o)).1/\K (sop P gl orc e m o.dst (tr P o)).2.1 (sop P gl orc e m o.dst (tr P o)).2.2)):Kb N w0 an P o a γ w (m.st,m.ln) K:=by
 have D8:sop P gl orc e m o.dst (tr P o)=((rop P gl orc e m o.dst (tr P o)).1,(rop P gl orc e m o.dst (tr P o)).2,m)->Kb N w0 an P o a γ w (m.st,m.ln) K:=fun hg=>
  qK hm fh he (by rw[hg]at h;exact h)
 obtain⟨dst,op,ty,pos,after,guard⟩:=o;cases op with
 |alloc t=>exact E6 hm h
 |box t x=>exact PZ hm (he x (by simp[Op.operands])) h
 |store t x y=>exact E7 hm (he x (by simp[Op.operands])) (he y (by simp[Op.operands])) h
 |call c=>exact P4 hm fh he h
 |makeMap t r=>exact Fb hm h
 |mapUpdate t x k y=>exact JX hm (he x (by simp[Op.operands])) (he k (by simp[Op.operands])) (he y (by simp[Op.operands])) h
 |mapEntry t x k=>exact JY hm (he x (by simp[Op.operands])) (he k (by simp[Op.operands])) h
 |entryStore t x k y=>exact JZ hm (he x (by simp[Op.operands])) (he k (by simp[Op.operands])) (he y (by simp[Op.operands])) h
 |range t x=>exact P7 hm (he x (by simp[Op.operands])) h
 |next x s=>refine D8 ?_;cases s<;>rfl
 |makeSlice t l c=>exact J1 hm (he l (by simp[Op.operands])) (he c (by simp[Op.operands])) h
 |buildSlice t len parts=>exact P8 hm fh he h
 |binOp op t x y t'=>
  refine D8 ?_;simp only[tr,iR,UM,vr];repeat' split
  all_goals rfl
 |build t parts=>
  refine D8 ?_;simp only[tr,Js];repeat' split
  all_goals rfl
 |slice t x lo hi mx=>refine D8 ?_;cases mx<;>simp only[tr]<;>(repeat' split)<;>rfl
 |makeFunc fn first cap=>refine D8 ?_;cases fn<;>rfl
 |_=>first|exact D8 rfl|(
  refine D8 ?_;simp only[tr];repeat' split
  all_goals rfl)
end
structure SO where
 dst:Option Nat
 op:aC
 guard:Option (Option Nat×Bool)
 xs:List bN
def Xf(P:Program)(ops:Array Oper)(o:Oper):SO:=
 {dst:=o.dst,op:=tr P o,guard:=o.guard.map fun p=>((ops[p.1]?).bind (·.dst),p.2),xs:=if o.guard.isSome then o.op.operands.toList.map aA else[]}
structure AS where
 T:P1
 m:AM
abbrev So:=Exit->AS->Prop
def put(T:P1)(dst:Option Nat)(a:AV):P1:=match dst with|some d=>T.set d a|none=>T
def strip:AV->AV
 |.gd _ a=>a
 |a=>a
def evS(gl:Nat->AV)(T:P1)(x:bN):AV:=strip (ev gl T x)
def gok(gl:Nat->AV)(T:P1)(g:Bool):List bN->Prop
 |[]=>True
 |x::r=>(match ev gl T x with|.gd g' _=>(g=true->g'=true)|_=>True)/\gok gl T g r
def rawOp:aC->Bool
 |.pick _ _ _=>true
 |_=>false
def evG(gl:Nat->AV)(T:P1)(op:aC):bN->AV:=bif rawOp op then ev gl T else evS gl T
def gxs(op:aC)(xs:List bN):List bN:=bif rawOp op then[]else xs
def Iq(want:Bool):AV->Option Bool
 |.bool g=>some (g==want)
 |.gd d (.bool b)=>some (d&&(b==want))
 |.gd false _=>some false
 |_=>none
abbrev YT:=Nat->P1->AM->(Bool->AM->Prop)->Prop
def qN:Exit->Option Code
 |.ret=>some .ret
 |.exit id=>some (.exit id)
 |_=>none
def J2:LS->Loop->Prop
 |.gone,_=>True
 |.ready,r=>r.state=.ready/\r.pending=none
 |.busy,r=>r.state=.busy
 |.done ex,r=>r.state=.done/\r.pending=qN ex/\(qN ex).isSome=true
def cB(γ:G)(w:World)(m:AM):Prop:=(∀i,m.st i=.gone\/∃l,γ.lp i=some l/\γ.sp l/\∃r,w.heap[l]?=some (.loop r)/\J2 (m.st i) r)/\
 (∀i,m.ln<=i->γ.lp i=none)/\(∀i j l,γ.lp i=some l->γ.lp j=some l->i=j)/\∀i l,γ.lp i=some l->γ.sp l/\∃r,w.heap[l]?=some (.loop r)
def cB.mono'{γ:G}{w:World}{m m':AM}(h:cB γ w m){γ':G}{w':World}(e:Ev w γ w' γ')(hm:(m'.st,m'.ln)=(m.st,m.ln)):cB γ' w' m':=by
 simp only[Prod.mk.injEq]at hm;unfold cB;rw[hm.1,hm.2,e.lp];exact⟨fun i=>(h.1 i).imp_right fun⟨l,h0,h1,r,h2,h3⟩=>⟨l,h0,(e.sp l h1).1,r,(e.sp l h1).2.trans h2,h3⟩,h.2.1,h.2.2.1,fun i l hl=>let⟨h1,r,h2⟩:=h.2.2.2 i l hl;⟨(e.sp l h1).1,r,(e.sp l h1).2.trans h2⟩⟩
def cB.mono{γ:G}{w:World}{m:AM}(h:cB γ w m){γ':G}{w':World}(e:Ev w γ w' γ'):cB γ' w' m:=h.mono' e rfl
def VL(N:Nat)(w0:fE)(an:Nat->Nat->Prop)(P:Program)(Y:YT)(γ:G)(w:World):Prop:=∀(γ':G)(w':World),eC w γ w' γ'->∀(i:Nat)(args:P1)(m:AM)(K:Bool->AM->Prop)(vs:PP),
 aq N w0 an γ' w' m.B m.L->cB γ' w' m->ak w' γ' args vs->Y i args m K->∀l,γ'.lp i=some l->
 YieldAt (FW none) 0 P l vs.toArray w' fun e iw=>∃b Ar lz,e=.returned (.bool b)/\eC w' γ' iw Ar/\aq N w0 an Ar iw lz.B lz.L/\cB Ar iw lz/\K b lz
def VL.mono{N:Nat}{w0:fE}{an:Nat->Nat->Prop}{P:Program}{Y:YT}{γ:G}{w:World}(h:VL N w0 an P Y γ w){γ':G}{w':World}(e:eC w γ w' γ'):VL N w0 an P Y γ' w':=
 fun Ar iw e'=>h Ar iw (e.trans e')
def aF(P:Program)(gl:Nat->AV)(Y:YT)(f:FuncId)(as':P1)(m:AM)(K:UV):Prop:=
 bF P f/\∀(N:Nat)(w0:fE)(an:Nat->Nat->Prop)(γ:G)(w:World)(vs:PP),aq N w0 an γ w m.B m.L->cB γ w m->(∀g,au w γ.cQ (gl g) (.pointer (some ⟨g,0,none⟩)))->
  VL N w0 an P Y γ w->ak w γ as' vs->
  CallsIn (FW none) 0 P f vs.toArray w fun e w'=>∃v γ' r m',e=.returned v/\eC w γ w' γ'/\aq N w0 an γ' w' m'.B m'.L/\cB γ' w' m'/\au w' γ' r v/\K r m'
def Fe(P:Program)(gl:Nat->AV)(Y:YT)(f:FuncId)(as':P1)(m:AM)(K:List PanicEntry->AM->Prop):Prop:=
 bF P f/\∀(N:Nat)(w0:fE)(an:Nat->Nat->Prop)(γ:G)(w:World)(vs:PP),aq N w0 an γ w m.B m.L->cB γ w m->(∀g,au w γ.cQ (gl g) (.pointer (some ⟨g,0,none⟩)))->
  VL N w0 an P Y γ w->ak w γ as' vs->
  CallsIn (FW none) 0 P f vs.toArray w fun e w'=>∃ch γ' m',e=.panicked ch/\eC w γ w' γ'/\aq N w0 an γ' w' m'.B m'.L/\cB γ' w' m'/\K ch m'
section vc
variable (P:Program) (gl:Nat->AV) (orc:X1) (Y:YT)
def effy(e:bN->AV)(m:AM)(dst:Option Nat):aC->Bool
 |.call f args=>(match e f with
  |.yld _=>true
  |.fn f first cap=>(match orc (dst.getD 0) f ((first++args.map e++cap).map (bG m 6))with|.gd false _=>true|_=>false)
  |_=>false)
 |.nxt _=>true
 |_=>false
def vcNxt(m:AM)(K:UV):AV->Prop
 |.it id=>(match m.boxes.getD id []with
  |[.mitr mid n seen]=>(match m.boxes.getD mid []with
   |[.aM kn kvs]=>kvs.length=n/\(∀i k c,kvs[i]?=some (k,c)->i ∉ seen->K (.aS [.bool true,keyAV kn k,c]) {m with boxes:=m.boxes.set id [.mitr mid n (seen++[i])]})/\
     ((∀i,i<n->i∈seen)->K (.aS [.bool false]) m)
   |_=>False)
  |_=>False)
 |_=>False
def Qbo(e:bN->AV)(m:AM)(K:UV):aC->Prop
 |.call f args=>(match e f with
  |.yld l=>Y l (args.map e) m fun b m'=>K (.bool b) m'
  |.fn f first cap=>aF P gl Y f (first++args.map e++cap) m K
  |_=>False)
 |.nxt x=>vcNxt m K (e x)
 |_=>False
def Zg:List SO->AS->(AS->Prop)->Prop
 |[],s,K=>K s
 |o::rest,s,K=>match o.guard with
  |none=>if effy orc (ev gl s.T) s.m o.dst o.op=true then Qbo P gl Y (ev gl s.T) s.m (fun av m'=>Zg rest ⟨put s.T o.dst av,m'⟩ K) o.op
   else(sop P gl orc (ev gl s.T) s.m o.dst o.op).1/\Zg rest ⟨put s.T o.dst (sop P gl orc (ev gl s.T) s.m o.dst o.op).2.1,(sop P gl orc (ev gl s.T) s.m o.dst o.op).2.2⟩ K
  |some (some t,want)=>match Iq want (s.T.getD t .junk)with
   |some gw=>gok gl s.T gw (gxs o.op o.xs)/\
     if effy orc (evG gl s.T o.op) s.m o.dst o.op=true then
      (gw=true->Qbo P gl Y (evG gl s.T o.op) s.m (fun av m'=>Zg rest ⟨put s.T o.dst (.gd true av),m'⟩ K) o.op)/\(gw=false->Zg rest ⟨put s.T o.dst (.gd false (.bool false)),s.m⟩ K)
     else(gw=true->(rop P gl orc (evG gl s.T o.op) s.m o.dst o.op).1)/\
      Zg rest ⟨put s.T o.dst (.gd gw (rop P gl orc (evG gl s.T o.op) s.m o.dst o.op).2),s.m⟩ K
   |none=>False
  |some (none,_)=>False
def Wy(e:bN->AV)(m:AM)(K:List PanicEntry->AM->Prop):aC->Prop
 |.call f args=>(match e f with
  |.fn f first cap=>Fe P gl Y f (first++args.map e++cap) m K
  |_=>False)
 |.pan x=>(match e x with
  |.er t a=>K [{v:=.iface t (.pointer (some a)),recovered:=false}] m
  |_=>False)
 |_=>False
def Ir(k:Nat)(l:List SO)(s:AS)(Q:So):Prop:=∃o,l[k]?=some o/\o.guard=none/\
 Zg P gl orc Y (l.take k) s fun s'=>Wy P gl Y (ev gl s'.T) s'.m (fun ch m'=>Q (.panic ch) ⟨s'.T,m'⟩) o.op
end vc
def Dfr(n0:Nat)(γ:G)(w:World)(ds:List Deferred):Prop:=
 n0<=w.heap.size/\(∀x∈ds,∃D,x.target=.collected D/\n0<=D/\γ.sp D/\w.heap[D]?=some (.deferred (some [])))/\ds.Pairwise fun x y=>∀D,x.target=.collected D->y.target≠.collected D
def Dfr.aV{n0:Nat}{γ:G}{w:World}{ds:List Deferred}(h:Dfr n0 γ w ds){γ':G}{w':World}(e:eC w γ w' γ'):Dfr n0 γ' w' ds:=
 ⟨zzaz h.1 e.size,fun x hx=>let⟨D,h1,h0,h2,h3⟩:=h.2.1 x hx;⟨D,h1,h0,(e.sp D h2).1,by
  rcases(e.sp D h2).2 with h|⟨r,_,_,h,_⟩
  ·exact h.trans h3
  rw[h3]at h;cases h⟩,h.2.2⟩
def Rdr(r:Option Nat)(γ:G)(w:World):Prop:=∀l,r=some l->γ.sp l/\∃rec,w.heap[l]?=some (.loop rec)
def Rdr.aV{r:Option Nat}{γ:G}{w:World}(h:Rdr r γ w){γ':G}{w':World}(e:eC w γ w' γ'):Rdr r γ' w':=
 fun l hl=>let⟨h1,rec,h2⟩:=h l hl;⟨(e.sp l h1).1,by
  rcases(e.sp l h1).2 with h|⟨r,s,p,_,h⟩
  ·exact⟨rec,h.trans h2⟩
  exact⟨_,h⟩⟩
structure dQ (N:Nat) (w0:fE) (r:Option Nat) (an:Nat->Nat->Prop) (S:G×World) (P:Program) (gl:Nat->AV) (Y:YT) (γ:G) (w:World) (s:AS) (a:Act):Prop where
 m:aq N w0 an γ w s.m.B s.m.L
 ls:cB γ w s.m
 rd:Rdr r γ w
 t:ak w γ s.T a.tmps.toList
 d:Dfr S.2.heap.size γ w a.defers
 g:∀g,au w γ.cQ (gl g) (.pointer (some ⟨g,0,none⟩))
 y:VL N w0 an P Y γ w
 e:eC S.2 S.1 w γ
section
variable {N:Nat} {w0:fE} {r:Option Nat} {an:Nat->Nat->Prop} {S:G×World} {Y:YT} {γ:G} {w:World} {P:Program} {gl:Nat->AV} {orc:X1} {s:AS} {a:Act}
def dQ.ev(h:dQ N w0 r an S P gl Y γ w s a)(x:Operand):au w γ (ev gl s.T (aA x)) (a.eval x):=by
 cases x with
 |tmp t=>
  have:=h.t.get t;simpa[Abs.ev,aA,Act.eval,List.getD]using this
 |const v=>exact Jn w γ v
 |func f=>exact .fn rfl (fun i c v h=>by simp at h) rfl fun i c v h=>by simp at h
 |global g=>exact(h.g g).gF
def dQ.aee(h:dQ N w0 r an S P gl Y γ w s a){dst:Option Nat}{av:AV}{v:Value}{w':World}{γ':G}{m':AM}(e:eC w γ w' γ')(hm:aq N w0 an γ' w' m'.B m'.L)(hl:cB γ' w' m')(hr:au w' γ' av v):
  dQ N w0 r an S P gl Y γ' w' ⟨Abs.put s.T dst av,m'⟩ (a.put dst v):=by
 refine⟨hm,hl,h.rd.aV e,?_,?_,fun g=>(h.g g).aV e.cQ,h.y.mono e,h.e.trans e⟩
 ·cases dst with
  |none=>exact h.t.aV e
  |some d=>
   simp only[Abs.put,Act.put,zzdj];exact(h.t.aV e).set d hr
 cases dst<;>exact h.d.aV e
def dQ.put(h:dQ N w0 r an S P gl Y γ w s a){dst:Option Nat}{av:AV}{v:Value}{w':World}{γ':G}{m':AM}(e:Ev w γ w' γ')(hm:aq N w0 an γ' w' m'.B m'.L)(ho:(m'.st,m'.ln)=(s.m.st,s.m.ln))(hr:au w' γ' av v):
  dQ N w0 r an S P gl Y γ' w' ⟨Abs.put s.T dst av,m'⟩ (a.put dst v):=h.aee e.cR hm (h.ls.mono' e ho) hr
def CG{T:P1}{g:Bool}:∀{xs:List bN},gok gl T g xs->∀x∈xs,∀g' b,Abs.ev gl T x=.gd g' b->g=true->g'=true
 |[],_,x,hx,_,_,_,_=>by cases hx
 |y::ys,h,x,hx,g',b,he,hg=>by
  obtain⟨h1,h2⟩:=h;rcases zzao.1 hx with rfl|hx
  ·rw[he]at h1;exact h1 hg
  exact CG h2 x hx g' b he hg
def AN{x:AV}{v:Value}(h:au w γ x v)(hg:∀g b,x=.gd g b->g=true):au w γ (strip x) v:=by
 cases x<;>first|exact h|skip
 rename_i g b;exact h.Cu (hg g b rfl)
def Ff{c:Call}{fo:bN}{xs:List bN}(h:Zq P c=.call fo xs):∃(f:Operand)(as':Array Operand)(ts:Array TypeId),c=⟨.value f,as',ts⟩/\fo=aA f/\xs=as'.toList.map aA:=by
 obtain⟨callee,args,ts⟩:=c;cases callee with
 |value f=>cases h;exact⟨f,args,ts,rfl,rfl,rfl⟩
 |invoke r n=>cases h
 |builtin b=>cases b<;>simp only[Zq]at h<;>(repeat' split at h)<;>cases h
def NH{o:Oper}{fo:bN}{xs:List bN}(h:tr P o=.call fo xs):∃(f:Operand)(as':Array Operand)(ts:Array TypeId),o.op=.call ⟨.value f,as',ts⟩/\fo=aA f/\xs=as'.toList.map aA:=by
 obtain⟨dst,op,ty,pos,after,guard⟩:=o;cases op
 case call c=>
  obtain⟨f,as',ts,rfl,h1,h2⟩:=Ff h;exact⟨f,as',ts,rfl,h1,h2⟩
 case next x s=>cases s<;>cases h
 case build t parts=>
  simp only[tr,Js]at h;repeat' split at h
  all_goals cases h
 case slice t x lo hi mx=>cases mx<;>simp only[tr]at h<;>(repeat' split at h)<;>cases h
 case makeFunc fn a b=>cases fn<;>cases h
 case makeMap t r=>cases r<;>simp only[tr]at h<;>(try split at h)<;>cases h
 case binOp op t x y t'=>
  simp only[tr,iR,UM,vr]at h;repeat' split at h
  all_goals cases h
 all_goals first|(cases h;done)|(
  simp only[tr]at h;repeat' split at h
  all_goals cases h)
def alN{o:Oper}{xo:bN}(h:tr P o=.nxt xo):∃x:Operand,o.op=.next x false/\xo=aA x:=by
 obtain⟨dst,op,ty,pos,after,guard⟩:=o;cases op
 case next x s=>cases s<;>cases h;exact⟨x,rfl,rfl⟩
 case build t parts=>
  simp only[tr,Js]at h;repeat' split at h
  all_goals cases h
 case slice t x lo hi mx=>cases mx<;>simp only[tr]at h<;>(repeat' split at h)<;>cases h
 case makeFunc fn a b=>cases fn<;>cases h
 case makeMap t r=>cases r<;>simp only[tr]at h<;>(try split at h)<;>cases h
 case binOp op t x y t'=>
  simp only[tr,iR,UM,vr]at h;repeat' split at h
  all_goals cases h
 case call c=>
  obtain⟨callee,args,ts⟩:=c;cases callee with
  |value f=>cases h
  |invoke r n=>cases h
  |builtin b=>cases b<;>simp only[tr,Zq]at h<;>(repeat' split at h)<;>cases h
 all_goals first|(cases h;done)|(
  simp only[tr]at h;repeat' split at h
  all_goals cases h)
def aq.aiQ{B:Nat->QR}{L:Nat->Option Nat}(hm:aq N w0 an γ w B L):aq N w0 an γ w.drew B L/\Ev w γ w.drew γ:=by
 have bZ:Ev w γ w.drew γ:=⟨zzaa _,fun _ _ _ h=>⟨h,rfl⟩,fun _ _ h=>h,fun _=>zzaa _,fun _ _ h=>h,rfl,fun _ _ _ ho=>⟨ho,fun arr _ he=>⟨arr,he,zzaa _⟩,fun _ h=>h⟩,fun _ h=>⟨h,rfl⟩,Sz.of_same fun _ _=>rfl⟩;refine⟨⟨w0.st _ _ _ _ hm.bs ⟨rfl,rfl,rfl,zzaa _,fun _ _ _=>rfl,bZ.ro,fun _ h=>.inl h,fun _ _ h=>.inl h⟩,hm.hN,hm.an,hm.robd,fun i cells b hb h1=>?_,hm.β,hm.inj,hm.own,hm.oinj,hm.sp,fun i b hb=>?_,hm.minj,hm.len,hm.cur0⟩,bZ⟩
 ·obtain⟨arr,e,h2,h3,h4⟩:=hm.box i cells b hb h1;exact⟨arr,e,h2,h3.mono bZ,h4⟩
 obtain⟨h1,h2,h3,h4,h5,h6,h8,h7⟩:=hm.mm i b hb;exact⟨h1,h2,h3,h4,h5,h6,h8,h7.mono bZ.cR.Aq rfl⟩
def vN{es:Array MapEntry}{seen:Array Nat}{x:MapEntry}:x∈(leftOf es seen).toList<->x∈es.toList/\x.born ∉ seen.toList:=by
 simp[leftOf]
def P9{m:AM}(hm:aq N w0 an γ w m.B m.L){x:AV}{v:Value}{K:UV}(h1:au w γ x v)(h:vcNxt m K x)(ty:TypeId):
  ∃u w' av m',(Instr.next v false ty).run P w=.ok u w'/\K av m'/\Ev w γ w' γ/\aq N w0 an γ w' m'.B m'.L/\au w' γ av u/\(m'.st,m'.ln)=(m.st,m.ln):=by
 unfold vcNxt at h;split at h
 case h_2=>exact h.elim
 rename_i id;split at h
 case h_2=>exact h.elim
 rename_i mid n seen fK;split at h
 case h_2=>exact h.elim
 rename_i kn kvs gT;obtain⟨hn,SM,hK2⟩:=h;obtain⟨aL,CF⟩:=mQ fK;obtain⟨VM,arR⟩:=mQ gT;obtain⟨b,mb,hb,rfl,q1,q2⟩:=hm.ND h1 CF;obtain⟨b',es,cU,AG,q3,q4,q5⟩:=hm.iY (v:=.map (some mb)) (.mp q2) arR;cases AG
 have VA:∀y∈es.toList,y.born<n:=fun y hy=>by
  obtain⟨j,hj,rfl⟩:=zzfy hy;simp at hj;have:=Qem q4 q5 hj;simp only[Array.getElem_toList];omega
 rcases run_next_at (P:=P) w ty b mb n n seen.toArray es es.size q1 q3 VA (zzaa _)with⟨g1,g2⟩|⟨y,g1,w1,g2,g3⟩
 ·refine⟨_,w,.aS [.bool false],m,g2,hK2 fun i hi=>?_,Ev.refl w γ,hm,(ak.cons (.bool false) ak.nil).za,rfl⟩;have hie:i<es.size:=zE
  have hnil:leftOf es seen.toArray=#[]:=zzem g1;have:es[i] ∉ (leftOf es seen.toArray).toList:=by rw[hnil];simp
  rw[vN]at this;simp only[not_and,Decidable.not_not]at this;have:=this zd;rw[Qem q4 q5 hie]at this;simpa using this
 obtain⟨g4,g5⟩:=vN.1 g1;obtain⟨i,hi,rfl⟩:=zzfy g4;simp at hi;simp only[Array.getElem_toList]at g3 g5;have dL:=Qem q4 q5 hi;have vO:i<kvs.length:=zE
 obtain⟨p1,p2,_,p3⟩:=q5 i (kvs[i]'vO).1 (kvs[i]'vO).2 es[i] (by simp[vO]) (by simp[hi])
 have iF:aq N w0 an γ w1 m.B m.L/\Ev w γ w1 γ:=by
  obtain rfl|rfl:=g2
  ·exact⟨hm,Ev.refl _ γ⟩
  exact hm.aiQ
 obtain⟨iF,fL⟩:=iF;obtain⟨f1,f2⟩:=iF.qM hb (x:=.mitr mid n (seen++[i])) (o:=.mapIter (some mb) n (seen.toArray.push es[i].born) es.size) ⟨q2,rfl,zE,by simp[dL]⟩;refine⟨_,_,_,_,g3,SM i (kvs[i]'vO).1 (kvs[i]'vO).2 (by simp[vO]) (by rw[dL]at g5;simpa using g5),fL.trans f1,?_,?_,rfl⟩
 ·rw[oK m id aL];exact f2
 rw[p2];exact((ak.cons (.bool true) (ak.cons (AD p1) (ak.cons p3 ak.nil))).mono (fL.trans f1)).za
def Qdg{o:Oper}{e:bN->AV}{Q:PH}{K:UV}(hs:dQ N w0 r an S P gl Y γ w s a)(he:∀x∈o.op.operands,au w γ (e (aA x)) (a.eval x))(h:Qbo P gl Y e s.m K (tr P o))
  {next:Act->World->Prop}(hn:∀v w' γ' av m',K av m'->eC w γ w' γ'->aq N w0 an γ' w' m'.B m'.L->cB γ' w' m'->au w' γ' av v->next (a.put o.dst v) w'):o.wpIn (FW r) 0 P a w next Q:=by
 obtain⟨dst,op,ty,pos,after,guard⟩:=o;cases eV:tr P ⟨dst,op,ty,pos,after,guard⟩with
 |call fo args=>
  rw[eV]at h;obtain⟨f,as',ts,rfl,rfl,rfl⟩:∃(f:Operand)(as':Array Operand)(ts:Array TypeId),op=.call ⟨.value f,as',ts⟩/\fo=aA f/\args=as'.toList.map aA:=by simpa using NH eV
  simp only[Qbo]at h;have h1:=he f (by simp[Op.operands,Call.operands]);have h2:∀x∈as',au w γ (e (aA x)) (a.eval x):=fun x hx=>he x (by simp[Op.operands,Call.operands,hx]);have iT:=qJ h2;split at h
  ·rename_i i e1;rw[e1]at h1
   obtain⟨l,hl,hv⟩:∃l,γ.lp i=some l/\a.eval f=.func (.yield l) #[] #[]:=by
    generalize a.eval f=v at h1;cases h1 with
    |yld h=>exact⟨_,h,rfl⟩
   obtain⟨fn,tmps,assign,body,hy,hR⟩:=hs.y γ w (Ev.refl w γ).cR i _ s.m _ _ hs.m hs.ls iT h l hl
   have aZ:(execOp a.eval ⟨dst,.call ⟨.value f,as',ts⟩,ty,pos,after,guard⟩).run P w=.ok (.round l fn tmps assign body) w:=by
    rw[Array.toArray_toList]at hy;simpa[execOp,resolve,hv,Deferred.ofValue,invoke]using hy
   refine wp_run aZ (fun _ h=>by cases h) ?_;rw[Oper.uponIn_round];refine⟨fun h=>by simp[FW,Fence.wide]at h,RoundIn.mono hR ?_⟩;rintro en w' ⟨b,γ',m',rfl,g1,g2,g3,g4⟩;exact hn _ _ _ _ _ g4 g1 g2 g3 (.bool b)
  ·rename_i g first cap e1
   rw[e1]at h1;obtain⟨fa,ca,hv,r1,r2⟩:=h1.mH
   have aZ:(execOp a.eval ⟨dst,.call ⟨.value f,as',ts⟩,ty,pos,after,guard⟩).run P w=.ok (.enter g ((fa.toList++(as'.map a.eval).toList++ca.toList).toArray)) w:=by
    simp[execOp,resolve,hv,Deferred.ofValue,invoke,Qai h.1]
   refine wp_run aZ (fun _ h=>by cases h) ⟨fun h=>by simp[FW,Fence.wide]at h,?_⟩;refine CallsIn.mono (h.2 N w0 an γ w _ hs.m hs.ls hs.g hs.y ((r1.append iT).append r2)) ?_;rintro en w' ⟨v,γ',r',m',rfl,g1,g2,g3,g4,g5⟩;exact hn v w' γ' r' m' g5 g1 g2 g3 g4
  exact h.elim
 |nxt xo=>
  rw[eV]at h;obtain⟨x,rfl,rfl⟩:∃x:Operand,op=.next x false/\xo=aA x:=by simpa using alN eV
  simp only[Qbo]at h;obtain⟨u,w',av,m',g1,g2,g3,g4,g5,g6⟩:=P9 (P:=P) hs.m (he x (by simp[Op.operands])) h ty;exact Zn (v:=u) (w':=w') (by simp[execOp,g1]) (hn u w' γ av m' g2 g3.cR g4 (hs.ls.mono' g3 g6) g5)
 |_=>rw[eV]at h;exact h.elim
def sE{ops:Array Oper}{Q:PH}{K:AS->Prop}{k:Nat}(ah:k<ops.size){rest:List SO}(hs:dQ N w0 r an S P gl Y γ w s a)
  (h:Zg P gl orc Y (Xf P ops ops[k]::rest) s K):
  wpOpIn (FW r) 0 P ops Q k (fun a' w'=>∃γ' s',dQ N w0 r an S P gl Y γ' w' s' a'/\Zg P gl orc Y rest s' K) a w:=by
 have ho:ops[k]?=some ops[k]:=zzag ah;generalize ops[k]=o at ho h;simp only[wpOpIn,ho];cases hg:o.guard with
 |none=>
  have hw:Region.wanted o (yielded ops a.tmps)=true:=by simp[Region.wanted,hg]
  rw[if_pos hw];have e1:(Xf P ops o).guard=none:=by simp[Xf,hg]
  simp only[Zg,e1]at h;split at h
  ·exact Qdg (K:=fun av m=>Zg P gl orc Y rest ⟨Abs.put s.T o.dst av,m⟩ K) hs (fun x _=>hs.ev x) h fun v w' γ' av m' hK h1 h2 h3 h4=>⟨γ',_,hs.aee h1 h2 h3 h4,hK⟩
  exact AL (K:=fun av m=>Zg P gl orc Y rest ⟨Abs.put s.T o.dst av,m⟩ K) hs.m hs.g (fun x _=>hs.ev x) h r _ Q fun v w' γ' av m' hK dg h1 h2 h3=>⟨γ',_,hs.put h1 h2 dg h3,hK⟩
 |some p=>
  obtain⟨j,want⟩:=p;have e1:(Xf P ops o).guard=some ((ops[j]?).bind (·.dst),want):=by simp[Xf,hg]
  simp only[Zg,e1]at h;cases hj:(ops[j]?).bind (·.dst)with
  |none=>rw[hj]at h;exact h.elim
  |some t=>
   rw[hj]at h;simp only at h;split at h
   case h_2=>exact h.elim
   rename_i gw oN;obtain⟨h1,h⟩:=h
   have VN:Region.wanted o (yielded ops a.tmps)=gw:=by
    have hr:=hs.t.get t
    have bL:t<a.tmps.size:=by
     rcases zzab t s.T.length with h|h
     ·have h5:=hs.t.1;rw[zzcs]at h5;rw[<- h5];exact h
     simp[List.getD,zzar h,Iq]at oN
    have cA:(a.tmps.toList.getD t undef)=a.tmps[t]:=by simp[List.getD,bL]
    rw[cA]at hr;have hyv:∀b,a.tmps[t]=.bool b->yielded ops a.tmps j=some b:=fun b hb=>by simp only[yielded,hj,zzcr,zzag bL,hb]
    have hyu:a.tmps[t]=undef->yielded ops a.tmps j=none:=fun hb=>by simp only[yielded,hj,zzcr,zzag bL,hb];rfl
    generalize s.T.getD t .junk=gv at oN hr
    have hf:∀{x:AV},au w γ (.gd false x) a.tmps[t]->Region.wanted o (yielded ops a.tmps)=false:=fun hx=>by
     simp only[Region.wanted,hg,hyu hx.NA];cases want<;>rfl
    cases gv with
    |bool g=>
     simp only[Iq,Option.some.injEq]at oN;subst oN;simp only[Region.wanted,hg,hyv g hr.bA];cases g<;>cases want<;>rfl
    |gd d x=>
     cases d with
     |false=>
      rw[hf hr];cases x<;>simp[Iq]at oN<;>exact oN.symm
     |true=>
      cases x<;>simp[Iq]at oN;rename_i b;subst oN;simp only[Region.wanted,hg,hyv b (hr.Cu rfl).bA];cases b<;>cases want<;>rfl
    |_=>simp[Iq]at oN
   rw[VN]
   have VO:gw=true->∀x∈o.op.operands,au w γ (evG gl s.T (tr P o) (aA x)) (a.eval x):=fun SN x hx=>by
    unfold evG;cases fk:rawOp (tr P o)with
    |true=>exact hs.ev x
    |false=>
     refine AN (hs.ev x) fun g' b hgb=>CG h1 (aA x) ?_ g' b hgb SN;have gA:rawOp (Xf P ops o).op=false:=fk;simp only[gxs,gA,cond_false];simp[Xf,hg];exact⟨x,Nm hx,rfl⟩
   split at h
   ·obtain⟨h2,h3⟩:=h;cases SN:gw with
    |true=>
     simp only[if_true];exact Qdg (e:=evG gl s.T (tr P o)) (K:=fun av m=>Zg P gl orc Y rest ⟨Abs.put s.T o.dst (.gd true av),m⟩ K) hs (VO SN) (h2 SN) fun v w' γ' av m' hK h1 h2 h3 h4=>⟨γ',_,hs.aee h1 h2 h3 (.gd (fun _=>h4) (fun h=>by cases h)),hK⟩
    |false=>
     simp only[zzbo,if_false];exact⟨fun _ _=>trivial,γ,_,hs.put (Ev.refl _ _) hs.m rfl (.gd (fun h=>by cases h) (fun _=>rfl)),h3 SN⟩
   obtain⟨h2,h3⟩:=h;cases SN:gw with
   |true=>
    rw[SN]at h2 h3;simp only[if_true];refine Qct (e:=evG gl s.T (tr P o)) hs.m (fun _ _ h=>h) hs.g (VO SN) (h2 rfl) r _ Q fun v w' γ' q1 q2 q3=>?_;exact⟨γ',_,hs.put q1 q2 rfl (.gd (fun _=>q3) (fun h=>by cases h)),h3⟩
   |false=>
    rw[SN]at h3;simp only[zzbo,if_false];exact⟨fun _ _=>trivial,γ,_,hs.put (Ev.refl _ _) hs.m rfl (.gd (fun h=>by cases h) (fun _=>rfl)),h3⟩
def vP{ops:Array Oper}{Q:PH}{K:AS->Prop}{k:Nat}(ah:k<ops.size)(hs:dQ N w0 r an S P gl Y γ w s a)
  (h:Zg P gl orc Y ((ops.toList.drop k).map (Xf P ops)) s K):
  wpOpIn (FW r) 0 P ops Q k (fun a' w'=>∃γ' s',dQ N w0 r an S P gl Y γ' w' s' a'/\Zg P gl orc Y ((ops.toList.drop (k+1)).map (Xf P ops)) s' K) a w:=by
 have hd:ops.toList.drop k=ops[k]::ops.toList.drop (k+1):=by
  rw[zzae (Nm ah)];simp
 rw[hd,zzax]at h;exact sE ah hs h
def AO{ops:Array Oper}{Q:PH}{K:AS->Prop}{more:P2}(hQ:∀γ w s a,K s->dQ N w0 r an S P gl Y γ w s a->wpOpsIn (FW r) 0 P ops Q more a w):
  ∀(n k:Nat)(γ:G)(w:World)(s:AS)(a:Act),k+n<=ops.size->Zg P gl orc Y (((ops.toList.drop k).take n).map (Xf P ops)) s K->dQ N w0 r an S P gl Y γ w s a->wpOpsIn (FW r) 0 P ops Q (List.range' k n++more) a w
 |0,k,γ,w,s,a,hk,h,hs=>hQ γ w s a h hs
 |n+1,k,γ,w,s,a,hk,h,hs=>by
  have ah:k<ops.size:=zE
  have hd:ops.toList.drop k=ops[k]::ops.toList.drop (k+1):=by
   rw[zzae (Nm ah)];simp
  rw[hd,zzcy,zzax]at h;rw[zzez,zzaf,wpOpsIn_cons];refine wpOpIn_mono ?_ (sE ah hs h);rintro a' w' ⟨γ',s',dR,h'⟩;exact AO hQ n (k+1) γ' w' s' a' zE h' dR
def jb{ops:Array Oper}{Q:PH}{K:AS->Prop}(hQ:∀γ w s a,K s->dQ N w0 r an S P gl Y γ w s a->Q .normal a w):
  ∀(n k:Nat)(γ:G)(w:World)(s:AS)(a:Act),k+n=ops.size->Zg P gl orc Y ((ops.toList.drop k).map (Xf P ops)) s K->dQ N w0 r an S P gl Y γ w s a->wpOpsIn (FW r) 0 P ops Q (List.range' k n) a w
 |0,k,γ,w,s,a,hk,h,hs=>by
  have:ops.toList.drop k=[]:=zzaj (by simp;omega);rw[this]at h;exact hQ γ w s a h hs
 |n+1,k,γ,w,s,a,hk,h,hs=>by
  rw[zzez,wpOpsIn_cons];refine wpOpIn_mono ?_ (vP zE hs h);rintro a' w' ⟨γ',s',dR,h'⟩;exact jb hQ n (k+1) γ' w' s' a' zE h' dR
def alO{o:Oper}{xo:bN}(h:tr P o=.pan xo):∃x:Operand,o.op=.panic x/\xo=aA x:=by
 obtain⟨dst,op,ty,pos,after,guard⟩:=o;cases op
 case panic x=>cases h;exact⟨x,rfl,rfl⟩
 case next x s=>cases s<;>cases h
 case build t parts=>
  simp only[tr,Js]at h;repeat' split at h
  all_goals cases h
 case slice t x lo hi mx=>cases mx<;>simp only[tr]at h<;>(repeat' split at h)<;>cases h
 case makeFunc fn a b=>cases fn<;>cases h
 case makeMap t r=>cases r<;>simp only[tr]at h<;>(try split at h)<;>cases h
 case binOp op t x y t'=>
  simp only[tr,iR,UM,vr]at h;repeat' split at h
  all_goals cases h
 case call c=>
  obtain⟨callee,args,ts⟩:=c;cases callee with
  |value f=>cases h
  |invoke r n=>cases h
  |builtin b=>cases b<;>simp only[tr,Zq]at h<;>(repeat' split at h)<;>cases h
 all_goals first|(cases h;done)|(
  simp only[tr]at h;repeat' split at h
  all_goals cases h)
def QA{ops:Array Oper}{Q:PH}{QX:So}(hQ:∀γ w s a ch,QX (.panic ch) s->dQ N w0 r an S P gl Y γ w s a->Q (.panic ch) a w){k:Nat}
  (h:Ir P gl orc Y k (ops.toList.map (Xf P ops)) s QX)(hs:dQ N w0 r an S P gl Y γ w s a):wpOpsIn (FW r) 0 P ops Q (List.range ops.size) a w:=by
 obtain⟨o',ho,hg,h⟩:=h;rw[zzbc,zzb]at ho;obtain⟨o,ho,rfl⟩:=ho;rw[zzby]at ho;obtain⟨ah,bY⟩:=zzbs.1 ho
 have hr:List.range ops.size=List.range' 0 k++k::List.range' (k+1) (ops.size-(k+1)):=by
  have h1:=List.range'_append_1 (s:=0) (m:=k) (n:=ops.size-(k+1)+1);rw[zzed,show List.range' 0 ops.size=List.range' 0 (k+(ops.size-(k+1)+1)) by congr 1;omega,<- h1,zzez,zzbn]
 rw[hr];rw[<- List.map_take]at h;refine AO (P:=P) (orc:=orc) (ops:=ops) (fun γ w s a hK hs=>?_) k 0 γ w s a zE (Nm h) hs;rw[wpOpsIn_cons];simp only[wpOpIn,ho]
 have hg':o.guard=none:=by
  cases hgo:o.guard with
  |none=>rfl
  |some p=>simp[Xf,hgo]at hg
 have hw:Region.wanted o (yielded ops a.tmps)=true:=by simp[Region.wanted,hg']
 rw[if_pos hw];have eV:(Xf P ops o).op=tr P o:=rfl;rw[eV]at hK;obtain⟨dst,op,ty,pos,after,guard⟩:=o;cases hc:tr P ⟨dst,op,ty,pos,after,guard⟩with
 |call fo args=>
  rw[hc]at hK;obtain⟨f,as',ts,rfl,rfl,rfl⟩:∃(f:Operand)(as':Array Operand)(ts:Array TypeId),op=.call ⟨.value f,as',ts⟩/\fo=aA f/\args=as'.toList.map aA:=by simpa using NH hc
  simp only[Wy]at hK;have h1:=hs.ev f;have iT:=qJ (xs:=as') fun x _=>hs.ev x;split at hK
  case h_2=>exact hK.elim
  rename_i g first cap e1
  rw[e1]at h1;obtain⟨fa,ca,hv,r1,r2⟩:=h1.mH
  have aZ:(execOp a.eval ⟨dst,.call ⟨.value f,as',ts⟩,ty,pos,after,guard⟩).run P w=.ok (.enter g ((fa.toList++(as'.map a.eval).toList++ca.toList).toArray)) w:=by
   simp[execOp,resolve,hv,Deferred.ofValue,invoke,Qai hK.1]
  refine wp_run aZ (fun _ h=>by cases h) ⟨fun h=>by simp[FW,Fence.wide]at h,?_⟩;refine CallsIn.mono (hK.2 N w0 an γ w _ hs.m hs.ls hs.g hs.y ((r1.append iT).append r2)) ?_;rintro en w' ⟨ch,γ',m',rfl,g1,g2,g3,g4⟩;exact hQ γ' w' _ _ ch g4 (hs.aee (dst:=none) (av:=.junk) (v:=undef) g1 g2 g3 (.junk _))
 |pan xo=>
  rw[hc]at hK;obtain⟨x,rfl,rfl⟩:∃x:Operand,op=.panic x/\xo=aA x:=by simpa using alO hc
  simp only[Wy]at hK;have h1:=hs.ev x;split at hK
  case h_2=>exact hK.elim
  rename_i t b e1;rw[e1]at h1
  have hv:a.eval x=.iface t (.pointer (some b)):=by
   generalize a.eval x=v at h1;cases h1;rfl
  have aZ:(execOp a.eval ⟨dst,.panic x,ty,pos,after,guard⟩).run P w=.halt (.panic (.iface t (.pointer (some b)))) w:=by
   simp only[execOp,hv];rfl
  refine⟨fun f _=>trivial,?_⟩;rw[Oper.semAt_eq _ _ _ (fun c h=>by cases h),aZ];exact hQ γ w _ _ _ hK hs
 |_=>rw[hc]at hK;exact hK.elim
end
end Go.Abs
