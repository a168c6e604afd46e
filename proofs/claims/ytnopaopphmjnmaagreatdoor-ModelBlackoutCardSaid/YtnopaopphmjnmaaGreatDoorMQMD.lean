import Derived.Test.YtnopaopphmjnmaaGreatDoorMQMC
import Derived.RangeFuncSeq
set_option linter.all false
namespace Go.Abs
open Go Go.RowKit
def Kw(N:Nat)(w0:fF)(aq:Nat->Nat->Prop)(P:Program)(o:Oper)(a:Act)(γ:G)(w:World)(ph:(Nat->LS)×Nat)(K:AV->AM->Prop):Prop:=
 ∀(rd:Option Nat)(next:Act->World->Prop)(Q:Exit->Act->World->Prop),(∀v w' γ' av m',K av m'->(m'.st,m'.ln)=ph->Ev w γ w' γ'->au N w0 aq γ' w' m'.B m'.L->aC w' γ' av v->next (a.put o.dst v) w')->o.wpIn (FW rd) 0 P a w next Q
section
variable {N:Nat} {w0:fF} {aq:Nat->Nat->Prop} {γ:G} {w:World} {P:Program} {o:Oper} {a:Act} {K:AV->AM->Prop}
variable {dst:Option Tmp} {ty:TypeId} {pos:String} {after:Array Edge} {guard:Option (Nat×Bool)} {gl:Nat->AV} {orc:Nat->FuncId->List AV->AV} {e:bN->AV} {m:AM}
def ri(hm:au N w0 aq γ w m.B m.L)(ji:∀g,aC w γ.cT (gl g) (.pointer (some ⟨g,0,none⟩)))
  (he:∀x∈o.op.operands,aC w γ (e (aB x)) (a.eval x))(hc:(rop P gl orc e m o.dst (tr P o)).1/\K (rop P gl orc e m o.dst (tr P o)).2 m):Kw N w0 aq P o a γ w (m.st,m.ln) K:=
 fun rd next Q hk=>Qde hm (fun _ _ h=>h) ji he hc.1 rd next Q fun v w' γ' h1 h2 h3=>hk v w' γ' _ m hc.2 rfl h1 h2 h3
def TW(m:AM)(cells:List AV):({m with boxes:=m.boxes++[cells]}:AM).B=fun i=>if i=m.boxes.length then some cells else m.B i:=by
 funext i;simp only[AM.B];by_cases h:i=m.boxes.length
 ·simp[h]
 rw[if_neg h];rcases zzaa i m.boxes.length with h'|h'
 ·rw[zzag h']
 rw[zzaw h',zzaw (by simp;omega)]
def CY(m:AM)(n:Nat):({m with lens:=m.lens++[n]}:AM).L=fun i=>if i=m.lens.length then some n else m.L i:=by
 funext i;simp only[AM.L];by_cases h:i=m.lens.length
 ·simp[h]
 rw[if_neg h];rcases zzaa i m.lens.length with h'|h'
 ·rw[zzag h']
 rw[zzaw h',zzaw (by simp;omega)]
def mF(m:AM)(id:Nat)(h:id<m.boxes.length)(cells:List AV):({m with boxes:=m.boxes.set id cells}:AM).B=fun i=>if i=id then some cells else m.B i:=by
 funext i;simp only[AM.B];by_cases hi:i=id
 ·subst hi;simp[h]
 rw[if_neg hi,zzbf (Ne.symm hi)]
def aj0(m:AM)(id:Nat)(h:id<m.lens.length)(n:Nat):({m with lens:=m.lens.set id n}:AM).L=fun i=>if i=id then some n else m.L i:=by
 funext i;simp only[AM.L];by_cases hi:i=id
 ·subst hi;simp[h]
 rw[if_neg hi,zzbf (Ne.symm hi)]
def Yq{cs:List AV}{vs:List Value}(h:ak w γ cs vs)(hc:cs.all Qw=true):∀v∈vs,v.oneCell'=true:=fun v hv=>by
 obtain⟨i,hi⟩:=zzc.1 hv;have ai:i<cs.length:=by rw[h.1];exact(zza.1 hi).1
 have:=zzae ai;exact uH (h.2 i _ v this hi) (zzbh.1 hc _ (zzdk ai))
def A7(hm:au N w0 aq γ w m.B m.L){cells:List AV}{arr:Array Value}{te:TypeId}(hr:ak w γ cells arr.toList)(hc:cells.all Qw=true)
  (bn:(execOp a.eval o).run P w=.ok (.value (.pointer (some ⟨w.heap.size,0,none⟩))) (w.alloc (.cells arr te)))(hk:K (.ptr m.boxes.length 0) {m with boxes:=m.boxes++[cells]}):Kw N w0 aq P o a γ w (m.st,m.ln) K:=by
 intro rd next Q hn
 have aK:m.B m.boxes.length=none:=by simp[AM.B]
 refine Zm bn (hn _ _ (γ.box m.boxes.length w.heap.size) _ _ hk rfl (hm.dB _ aK _) ?_ (.ptr (by simp[G.box])));rw[TW];exact hm.fG _ aK hr.toP (Yq hr hc)
def FF(hm:au N w0 aq γ w m.B m.L){t:TypeId}(h:((sop P gl orc e m dst (tr P ⟨dst,.alloc t,ty,pos,after,guard⟩)).1/\K (sop P gl orc e m dst (tr P ⟨dst,.alloc t,ty,pos,after,guard⟩)).2.1 (sop P gl orc e m dst (tr P ⟨dst,.alloc t,ty,pos,after,guard⟩)).2.2)):Kw N w0 aq P ⟨dst,.alloc t,ty,pos,after,guard⟩ a γ w (m.st,m.ln) K:=by
 simp only[tr]at h;split at h
 case h_2=>exact h.1.elim
 rename_i zs hz;obtain⟨i,z,hi,jm,hr⟩:=jk (w:=w) (γ:=γ) hz;obtain⟨h1,h2⟩:=h;refine A7 hm (te:=t) hr h1 ?_ h2;simp[execOp,Instr.alloc,zeroValue,typeInfo,hi,jm,newVar,newRow]
def Rz(hm:au N w0 aq γ w m.B m.L){t:TypeId}{x:Operand}(he:aC w γ (e (aB x)) (a.eval x))(h:((sop P gl orc e m dst (.box (aB x))).1/\K (sop P gl orc e m dst (.box (aB x))).2.1 (sop P gl orc e m dst (.box (aB x))).2.2)):Kw N w0 aq P ⟨dst,.box t x,ty,pos,after,guard⟩ a γ w (m.st,m.ln) K:=by
 have key:bare (e (aB x))=true->(cellsOf (e (aB x))).all Qw=true->K (.ptr m.boxes.length 0) {m with boxes:=m.boxes++[cellsOf (e (aB x))]}->Kw N w0 aq P ⟨dst,.box t x,ty,pos,after,guard⟩ a γ w (m.st,m.ln) K:=fun hb h1 h2=>
  A7 hm (te:=t) (kV he hb) h1 (by simp[execOp,Instr.box,newVar,newRow]) h2
 exact key h.1.1 h.1.2 h.2
def FG(hm:au N w0 aq γ w m.B m.L){t:TypeId}{x y:Operand}(h1:aC w γ (e (aB x)) (a.eval x))(h2:aC w γ (e (aB y)) (a.eval y))(h:((sop P gl orc e m dst (tr P ⟨dst,.store t x y,ty,pos,after,guard⟩)).1/\K (sop P gl orc e m dst (tr P ⟨dst,.store t x y,ty,pos,after,guard⟩)).2.1 (sop P gl orc e m dst (tr P ⟨dst,.store t x y,ty,pos,after,guard⟩)).2.2)):
  Kw N w0 aq P ⟨dst,.store t x y,ty,pos,after,guard⟩ a γ w (m.st,m.ln) K:=by
 simp only[tr]at h;split at h
 case h_2=>exact h.1.elim
 rename_i i hi;simp only[sop]at h;split at h
 case h_2=>exact h.1.elim
 rename_i id o' e1;rw[e1]at h1;obtain⟨b,hb,hv⟩:=h1.dO;obtain⟨⟨g1,g2,g3,g4,g5⟩,g6⟩:=h;have qZ:=kV h2 g1;have gO:=Yq qZ g2;have hB:m.B id=some (m.boxes.getD id []):=by simp[AM.B,g5]
 obtain⟨arr,te,q2,q3,q4⟩:=hm.box id _ b hB hb;have hsz:(a.eval y).cells.size=i.size:=by have:=qZ.1;simp at this;omega
 have aH:(m.boxes.getD id []).length<=arr.size:=by have:=q3.1;simpa using this
 have ct:=run_storeCells_cells (P:=P) b o' (a.eval y).cells.toList 0 w (fun j hj=>by
   simp at hj;rw[aO q2,zzcq,zzaj zE];rfl) (fun j hj=>Zu q2) gO
 intro rd next Q hn
 simp only[zzcq]at ct
 have bn:(execOp a.eval ⟨dst,.store t x y,ty,pos,after,guard⟩).run P w=.ok .skip (w.setCells b o' (a.eval y).cells.toList):=by
  simp[execOp,Instr.storeAt,hv,Instr.sureAddr,storeVar,sizeOf,typeInfo,hi,hsz,ct]
 refine oQ bn (hn undef _ γ _ _ g6 rfl (hm.cG hb o' _) ?_ (.junk _));rw[mF m id g5];by_cases qS:m.boxes.getD id []=[]
 ·have hz:(a.eval y).cells.toList=[]:=by
   rw[qS]at g4;apply zzav;simp at g4 |-
   have:i.size=0:=g4.2;rw[this]at hsz;simpa using hsz
  have hz2:cellsOf (e (aB y))=[]:=zzav (by rw[qZ.1,hz];rfl);rw[hz,hz2,qS]
  have:(fun i=>if i=id then some (setA [] o' [])else m.B i)=m.B:=by
   funext i;by_cases hi:i=id
   ·subst hi;rw[if_pos rfl,hB,qS];rfl
   rw[if_neg hi]
  rw[this];exact hm
 exact hm.store hB hb q2 q3 q4 qZ gO qS
def sF{sz:Nat}{c:AV}:∀{rows:List (List AV)}{k:Nat},(∀row∈rows,row.length=sz)->rows.flatten[k]?=some c->k<rows.length*sz/\Qv rows (k/sz) (k%sz)=some c
 |[],k,_,h=>by simp at h
 |row::rows,k,hs,h=>by
  have hr:=hs row zd;rw[zzcl]at h;rcases zzaa k sz with hk|hk
  ·rw[zzag zE]at h;rw[zzey hk,zzgv hk];refine⟨?_,by simpa[Qv]using h⟩;simp[zzbr];omega
  rw[zzal zE,hr]at h;obtain⟨h1,h2⟩:=sF (rows:=rows) (fun row h=>hs row (by simp[h])) h
  have h0:0<sz:=by
   rcases zzcn sz with h0|h0
   ·subst h0;simp at h1
   exact h0
  have e1:k/sz=(k-sz)/sz+1:=by rw[Nat.div_eq_sub_div h0 hk]
  have e2:k%sz=(k-sz)%sz:=(Nat.mod_eq_sub_mod hk);rw[e1,e2];refine⟨?_,by simpa[Qv]using h2⟩;simp[zzbr];omega
def jq{sz:Nat}:∀{rows:List (List AV)},(∀row∈rows,row.length=sz)->rows.flatten.length=rows.length*sz
 |[],_=>zd
 |row::rows,hs=>by
  have:=jq (rows:=rows) fun row h=>hs row (by simp[h]);have hr:=hs row zd;simp[this,hr,zzbr];omega
def wI:∀(vs:List Value)(arr:Array Value)(o k:Nat),(tZ arr o vs)[k]?=if o<=k/\k<o+vs.length/\k<arr.size then vs[k-o]? else arr[k]?
 |[],arr,o,k=>by
  rw[tZ,if_neg];simp;omega
 |v::vs,arr,o,k=>by
  rw[tZ,wI vs _ (o+1) k];by_cases h1:o+1<=k/\k<o+1+vs.length/\k<(arr.setIfInBounds o v).size
  ·rw[if_pos h1];simp at h1;rw[if_pos (by simp;omega)];rw[show k-o=(k-(o+1))+1 by omega];simp
  rw[if_neg h1];simp at h1;by_cases h2:o<=k/\k<o+(v::vs).length/\k<arr.size
  ·simp at h2;obtain rfl:k=o:=zE
   rw[if_pos (by simp;omega)];simp[zzeu];omega
  rw[if_neg h2];simp at h2;by_cases hk:o=k
  ·subst hk;have:arr.size<=o:=zE
   simp[zzcv,this]
  rw[zzcs hk]
def Qbw(hm:au N w0 aq γ w m.B m.L){y:AV}{v2:Value}{sz:Nat}(hr:aC w γ y v2)(hc:(cellsS m sz y).1):
  ∃(a2:Option Addr)(cn:Nat)(vs:List Value),v2=.slice a2 (lenS y) cn/\ak w γ (cellsS m sz y).2 vs/\(∀v∈vs,v.oneCell'=true)/\vs.length=lenS y*sz/\
   ∀n,n<=lenS y->∀w':World,(∀x,w'.cell? x=w.cell? x)->(Builtin.firstCells sz n v2).run P w'=.ok (vs.take (n*sz)).toArray w':=by
 have XQ:∀(a2:Option Addr)(len cn:Nat)(w':World),(Builtin.firstCells sz 0 (.slice a2 len cn)).run P w'=.ok #[] w':=fun a2 len cn w'=>by
  cases a2<;>simp[Builtin.firstCells,loadCells,loadCellsFrom]
 cases y with
 |sl rt rows=>
  obtain⟨a2,cn,b2,gI,sz2,gL,rfl,s2,_⟩:=hr.cm;replace s2:=s2.fix (sz:=sz) hc;refine⟨a2,cn,Vf rows.length sz gL,rfl,⟨by simp[cellsS,jq hc,Zg],fun k c v h1 h2=>?_⟩,s2.one,by simp[lenS,Zg],fun n hn w' hw=>?_⟩
  ·obtain⟨g1,g2⟩:=sF hc h1;obtain⟨_,rfl⟩:=qW h2;exact(s2.rep _ _ c g2).gK
  by_cases eZ:n=0
  ·subst eZ;simpa using XQ a2 _ cn w'
  simp only[lenS]at hn;have aM:rows≠[]:=by rintro rfl;simp at hn;omega
  obtain⟨rfl,_⟩:=s2.at_ aM;refine run_firstCells_some w' sz n _ rows.length cn _ ?_ fun j u hj=>?_
  ·rw[zzaq,Zg];have:n*sz<=rows.length*sz:=zzbc _ hn;omega
  rw[hw];rw[zzbl]at hj;split at hj
  ·exact s2.cells j u hj
  cases hj
 |bs id off len gH=>
  obtain⟨rfl,cw,aK⟩:=hc;obtain⟨b,cap,arr,te,hβ,rfl,hl,hh,hs⟩:=hr.cQ;have hsz:=XJ hm (m:=m) (fun _ _ h=>h) hβ hh;have aH:((arr.toList.drop off).take (len*gH)).length=len*gH:=by simp;omega
  refine⟨_,cap,(arr.toList.drop off).take (len*gH),rfl,⟨?_,fun k c v h1 h2=>?_⟩,fun v hv=>?_,aH,fun n hn w' hw=>?_⟩
  ·rw[aH];show(List.take _ (List.drop _ _)).length=_;rw[zzaq,zzcr];omega
  ·simp only[cellsS]at h1;rw[zzbl]at h1 h2;split at h1
   ·rename_i hk;simp only[hk,if_true]at h2;rw[zzbm]at h1 h2;obtain⟨u,g1,g2,_⟩:=wD hm (m:=m) (fun _ _ h=>h) hβ hh h1;rw[zzce,g1]at h2;cases h2;exact g2
   cases h1
  ·have dU:=zzdt (zzcb hv);obtain⟨bR,e',g2,_,g4⟩:=hm.box id _ b (by simp[AM.B,aK]:m.B id=some (m.boxes.getD id [])) hβ;rw[hh]at g2;cases g2;exact g4 v dU
  by_cases eZ:n=0
  ·subst eZ;simpa using XQ _ _ cap w'
  refine run_firstCells_some w' gH n _ len cap _ ?_ fun j u hj=>?_
  ·rw[zzaq,aH];simp only[lenS]at hn;have:n*gH<=len*gH:=zzbc _ hn;omega
  rw[hw,bA,aO hh];rw[zzbl]at hj;split at hj
  ·rw[zzbl]at hj;split at hj
   ·rw[zzbm,zzce]at hj;exact hj
   cases hj
  cases hj
 |_=>exact hc.elim
section grow
variable {t te:TypeId} {i:TypeInfo} {z:Value} {a1 a2:Option Addr} {len cC cap cn:Nat} {c1 c2:List Value}
def mG(ht:P.underlying t=some (.slice te))(hi:P.info? te=some i)(hz:i.zero=some z)(f1:(Builtin.firstCells i.size len (.slice a1 len cap)).run P w.drew=.ok c1.toArray w.drew)
  (f2:(Builtin.firstCells i.size cC (.slice a2 cC cn)).run P w.drew=.ok c2.toArray w.drew)
  (hg:cap<len+cC)(bX:(3*(len+cC)+4000)*i.bytes<=562949953421312)(wj:len+cC<=9223372036854775807):
  ∃bq,len+cC<=bq/\(Builtin.append_ #[t,t] ty #[.slice a1 len cap,.slice a2 cC cn]).run P w=
   .ok (.slice (some ⟨w.heap.size,0,none⟩) (len+cC) bq) (w.drew.alloc (.cells (c1.toArray++c2.toArray++Builtin.zeroCells z.cells (bq-(len+cC))) te)):=by
 have hn:¬(len+cC<=cap):=zE
 have amr:¬(9223372036854775807<((len:Int)+(cC:Int))):=zE
 have cw:=KW hg
 have ams:¬(281474976710656<Builtin.nextslicecap (len+cC) cap*i.bytes):=by
  have:2*Builtin.nextslicecap (len+cC) cap*i.bytes<=(3*(len+cC)+4000)*i.bytes:=zzbc _ zE;rw[Nat.mul_assoc]at this;omega
 refine⟨grownCap w (len+cC) cap te,grownCap_ge w _ _ _,?_⟩;simp[Builtin.append_,run_underlying ht,sizeOf,typeInfo,zeroValue,hi,hz,Builtin.lenOf,hn,amr,ams,Question.forced,f1,f2,newRow,grownCap];congr 2;apply Array.ext';simp[zzb]
def zO{b off:Nat}(ht:P.underlying t=some (.slice te))(hi:P.info? te=some i)(f2:(Builtin.firstCells i.size cC (.slice a2 cC cn)).run P w=.ok c2.toArray w)(h1:∀v∈c2,v.oneCell'=true)(hl:c2.length=cC*i.size)
  (cH:len+cC<=cap){arr:Array Value}{e':TypeId}(hh:w.heap[b]?=some (.cells arr e' (0,0)))(hsz:off+cap*i.size<=arr.size):
  (
   Builtin.append_ #[t,t] ty #[.slice (some ⟨b,off,none⟩) len cap,.slice a2 cC cn]).run P w=
   .ok (.slice (some ⟨b,off,none⟩) (len+cC) cap) (w.setCells b (off+len*i.size) c2):=by
 have cw:(len+cC)*i.size<=cap*i.size:=zzbc _ cH;rw[zzbr]at cw
 have ct:=run_storeCells_cells (P:=P) b (off+len*i.size) c2 0 w (fun j hj=>by
   rw[aO hh,zzcq,zzaj zE];rfl)
  (fun j hj=>Zu hh) h1
 simp only[zzcq]at ct;simp[Builtin.append_,run_underlying ht,sizeOf,typeInfo,hi,Builtin.lenOf,cH,f2,bA,ct]
end grow
def A8{as bs:List AV}{us vs rest:List Value}(h1:ak w γ as us)(h2:ak w γ bs vs):cF w γ (as++bs) (us++vs++rest):=by
 have h:=h1.append h2;refine⟨by have:=h.1;simp at this |-;omega,fun k c v g1 g2=>h.2 k c v g1 ?_⟩;have hk:=(zza.1 g1).1;rw[h.1]at hk;rwa [zzag hk]at g2
def Ws{cs:Array Value}(h:∀u∈cs,u.oneCell'=true)(n:Nat):∀v∈(Builtin.zeroCells cs n).toList,v.oneCell'=true:=fun v hv=>by
 simp[Builtin.zeroCells]at hv;obtain⟨k,hk,rfl⟩:=hv
 have h0:0<cs.size:=by
  rcases zzcn cs.size with h0|h0
  ·simp[h0]at hk
  exact h0
 have ai:k%cs.size<cs.size:=zzed _ h0;rw[getElem!_pos cs _ ai];exact h _ (Array.getElem_mem ai)
def kZ{zs:List AV}:∀{n k:Nat}{c:AV},(bK n zs)[k]?=some c->k<n*zs.length/\zs[k%zs.length]?=some c
 |0,k,c,h=>by simp[bK]at h
 |n+1,k,c,h=>by
  rw[bK]at h;rcases zzaa k zs.length with hk|hk
  ·rw[zzag hk]at h;rw[zzgv hk];exact⟨by rw[zzbr];omega,h⟩
  rw[zzal hk]at h;obtain⟨h1,h2⟩:=kZ h;rw[Nat.mod_eq_sub_mod hk];exact⟨by rw[zzbr];omega,h2⟩
def Kt(zs:List AV):∀n,(bK n zs).length=n*zs.length
 |0=>by simp[bK]
 |n+1=>by rw[bK,zzai,Kt zs n,zzbr];omega
def rj(hm:au N w0 aq γ w m.B m.L){id b off:Nat}(hβ:γ.β id=some b)(aK:id<m.boxes.length)(aM:m.boxes.getD id []≠[]){arr:Array Value}{te:TypeId}(hh:w.heap[b]?=some (.cells arr te (0,0)))
  {as:List AV}{vs:List Value}(hr:ak w γ as vs)(gO:∀v∈vs,v.oneCell'=true)(bX:off+as.length<=(m.boxes.getD id []).length):
  (storeCells ⟨b,off,none⟩ vs).run P w=.ok () (w.setCells b off vs)/\Ev w γ (w.setCells b off vs) γ/\au N w0 aq γ (w.setCells b off vs) ({m with boxes:=m.boxes.set id (setA (m.boxes.getD id []) off as)}:AM).B m.L:=by
 have hB:m.B id=some (m.boxes.getD id []):=by simp[AM.B,aK]
 obtain⟨bR,e',q2,q3,q4⟩:=hm.box id _ b hB hβ;rw[hh]at q2;cases q2;have hsz:=q3.1;simp only[zzbk]at hsz;have hl:=hr.1
 have ct:=run_storeCells_cells (P:=P) b off vs 0 w (fun j hj=>by
   rw[aO hh,zzcq,zzaj zE];rfl) (fun j hj=>Zu hh) gO
 simp only[zzcq]at ct;refine⟨ct,hm.cG hβ off vs,?_⟩;rw[mF m id aK];exact hm.store hB hβ hh q3 q4 hr gO aM
def RA(hm:au N w0 aq γ w m.B m.L){x y:Operand}{t te:TypeId}{ts:Array TypeId}{i:TypeInfo}(ht:ts[0]?=some t)(hu:P.underlying t=some (.slice te))(hi:P.info? te=some i)(h1:aC w γ (e (aB x)) (a.eval x))(h2:aC w γ (e (aB y)) (a.eval y))
  (h:(sop P gl orc e m dst (.cpy i.size (aB x) (aB y))).1/\K (sop P gl orc e m dst (.cpy i.size (aB x) (aB y))).2.1 (sop P gl orc e m dst (.cpy i.size (aB x) (aB y))).2.2):
  Kw N w0 aq P ⟨dst,.call ⟨.builtin .copy,#[x,y],ts⟩,ty,pos,after,guard⟩ a γ w (m.st,m.ln) K:=by
 simp only[sop]at h;split at h
 case h_2=>exact h.1.elim
 rename_i id off len gH e1;rw[e1]at h1;obtain⟨b,cap,arr,zn,hβ,hv,hl,hh,hs⟩:=h1.cQ;intro rd next Q hn
 split at h
 ·rename_i s e2;rw[e2]at h2;obtain⟨⟨⟨rfl,hi1⟩,aK,bX,aM⟩,hk⟩:=h
  have hr:ak w γ ((s.data.toList.take len).map fun b=>(.int .u8 b.toNat:AV)) ((s.data.toList.take len).map fun b=>(.int .u8 b.toNat:Value)):=by
   refine⟨zd,fun k c v g1 g2=>?_⟩;simp only[zzbi]at g1 g2;cases hx:(s.data.toList.take len)[k]? with
   |none=>simp[hx]at g1
   |some u=>simp[hx]at g1 g2;subst g1;subst g2;exact .int _ _
  obtain⟨g1,g2,g3⟩:=rj (P:=P) (off:=off) hm hβ aK aM hh hr (fun v hv=>by obtain⟨u,_,rfl⟩:=zzax.1 hv;rfl) (by rw[zzbj,zzaq];omega)
  have hfc:(Builtin.firstCells 1 (Nat.min s.size len) (.string s)).run P w=.ok ((s.data.toList.take len).map fun b=>(.int .u8 b.toNat:Value)).toArray w:=by
   simp only[Builtin.firstCells,Sem.run_pure];congr 1;apply Array.ext';simp only[ByteArray.data_extract,Array.toList_map,zzfv,List.extract_eq_take_drop,zzde,zzfm];congr 1;rcases zzhv s.size len with h'|h'
   ·have:Nat.min s.size len=s.size:=zzfw h';rw[this,zzap zd,zzap (by simpa using h')]
   have:Nat.min s.size len=len:=zzgw h';rw[this]
  generalize((s.data.toList.take len).map fun b=>(.int .u8 b.toNat:Value))=cs at*
  refine Zm (v:=.int .i64 (min s.size len:Nat)) (w':=w.setCells b off cs) ?_ (hn _ _ γ _ _ hk rfl g2 g3 (.int _ _));simp[execOp,resolve,invoke,builtin,Builtin.copy_,ht,run_underlying hu,hv,h2.cB,Builtin.lenOf,sizeOf,typeInfo,hi,hi1,hfc,g1,goInt]
 rename_i hns;obtain⟨⟨rfl,XR,aK,bX,aM⟩,hk⟩:=h;obtain⟨a2,cn,vs,uJ,iC,sG,eC,hf2⟩:=Qbw (P:=P) hm h2 XR;have hr:=iC.take (len*i.size);obtain⟨g1,g2,g3⟩:=rj (P:=P) (off:=off) hm hβ aK aM hh hr (fun v hv=>sG v (zzcb hv)) (by rw[zzaq];omega);have hfc:=hf2 (min (lenS (e (aB y))) len) (Nat.min_le_left _ _) w (fun _=>rfl);rw[uJ]at hfc
 have bC:vs.take (min (lenS (e (aB y))) len*i.size)=vs.take (len*i.size):=by
  rcases zzhv (lenS (e (aB y))) len with h'|h'
  ·rw[zzfw h',<- eC,zzbu,zzap];rw[eC];exact zzbc _ h'
  rw[zzgw h']
 rw[bC]at hfc;refine Zm (v:=.int .i64 (min (lenS (e (aB y))) len:Nat)) (w':=w.setCells b off (vs.take (len*i.size))) ?_ (hn _ _ γ _ _ hk rfl g2 g3 (.int _ _));simp[execOp,resolve,invoke,builtin,Builtin.copy_,ht,run_underlying hu,hv,uJ,Builtin.lenOf,sizeOf,typeInfo,hi,hfc,g1,goInt]
def RB(hm:au N w0 aq γ w m.B m.L){x:Operand}{t te:TypeId}{zs:List AV}(hu:P.underlying t=some (.slice te))(hz:zc P te=some zs)(h1:aC w γ (e (aB x)) (a.eval x))
  (h:(sop P gl orc e m dst (.clr zs (aB x))).1/\K (sop P gl orc e m dst (.clr zs (aB x))).2.1 (sop P gl orc e m dst (.clr zs (aB x))).2.2):
  Kw N w0 aq P ⟨dst,.call ⟨.builtin .clear,#[x],#[t]⟩,ty,pos,after,guard⟩ a γ w (m.st,m.ln) K:=by
 obtain⟨i,z,hi,jm,K1⟩:=jk (w:=w) (γ:=γ) hz;simp only[sop]at h;split at h
 ·rename_i id off len gH e1;rw[e1]at h1;obtain⟨⟨⟨rfl,bO⟩,aK,bX,aM⟩,hk⟩:=h;obtain⟨b,cap,arr,zn,hβ,hv,hl,hh,hs⟩:=h1.cQ;have gO:=Yq K1 bO;intro rd next Q hn
  have FH:z.cells.size=zs.length:=by have:=K1.1;simp at this;omega
  have hr:ak w γ (bK len zs) (Builtin.zeroCells z.cells len).toList:=by
   refine⟨by simp[Kt,size_zeroCells,FH],fun k c v g1 g2=>?_⟩;obtain⟨j1,j2⟩:=kZ g1
   have h0:0<zs.length:=by
    rcases zzcn zs.length with h0|h0
    ·simp[h0]at j1
    exact h0
   have ai:k%zs.length<z.cells.size:=by rw[FH];exact zzed _ h0
   have CX:v=z.cells[k%zs.length]:=by
    simp only[Builtin.zeroCells,zzce,zzgh]at g2;rw[zzaj (by simp[FH];exact j1)]at g2;simp[FH]at g2;rw[<- g2,getElem!_pos z.cells _ ai]
   subst CX;exact K1.2 _ c _ j2 (by simp[ai])
  obtain⟨g1,g2,g3⟩:=rj (P:=P) (off:=off) hm hβ aK aM hh hr (Ws (fun u hu=>gO u (by simpa using hu)) len) (by rw[Kt];exact bX);by_cases kW:len=0
  ·subst kW;have e0:(Builtin.zeroCells z.cells 0).toList=[]:=by simp[Builtin.zeroCells]
   rw[e0]at g2 g3;refine Zm (v:=.tuple #[]) (w':=w) (by simp[execOp,resolve,invoke,builtin,Builtin.clear_,run_underlying hu,hv]) (hn _ _ γ _ _ hk rfl g2 g3 (ak.zM ak.nil))
  refine Zm (v:=.tuple #[]) (w':=w.setCells b off (Builtin.zeroCells z.cells len).toList) ?_ (hn _ _ γ _ _ hk rfl g2 g3 (ak.zM ak.nil));cases len with
  |zero=>exact absurd rfl kW
  |succ len=>simp[execOp,resolve,invoke,builtin,Builtin.clear_,run_underlying hu,hv,zeroValue,typeInfo,hi,jm,g1]
 ·rename_i rt e1;rw[e1]at h1;obtain⟨a1,cap,b1,arF,sz1,cv1,hv,s1,_⟩:=h1.cm;intro rd next Q hn
  refine Zm (v:=.tuple #[]) (w':=w) ?_ (hn _ _ γ _ _ h.2 rfl (Ev.refl w γ) hm (ak.zM ak.nil));simp only[zzcf]at hv;cases a1<;>simp[execOp,resolve,invoke,builtin,Builtin.clear_,run_underlying hu,hv]
 exact h.1.elim
def XS(hm:au N w0 aq γ w m.B m.L){id off len sz:Nat}{v2:Value}(hr:aC w γ (.bs id off len sz) v2)(cw:off+len*sz<=(m.boxes.getD id []).length)(aK:id<m.boxes.length)
  (bO:(m.boxes.getD id []).all Qw=true)(hp:(m.boxes.getD id []).any (Yl 6)=false):
  (bh sz len (((m.boxes.getD id []).map (bJ m 6)).drop off)).length=len/\(∀row∈bh sz len (((m.boxes.getD id []).map (bJ m 6)).drop off),row.length=sz)/\
  ∃(γ2:G)(a2:Option Addr)(cn b2:Nat)(gL:Nat->Nat->Value),v2=.slice a2 len cn/\qz w γ2 (bh sz len (((m.boxes.getD id []).map (bJ m 6)).drop off)) a2 cn b2 off sz gL/\
   ∀i j c,Qv (bh sz len (((m.boxes.getD id []).map (bJ m 6)).drop off)) i j=some c->aC w γ.cT c (gL i j):=by
 obtain⟨b,cap,arr,zn,hβ,hv,hl,hh,hs⟩:=hr.cQ;have hB:m.B id=some (m.boxes.getD id []):=by simp[AM.B,aK]
 obtain⟨bR,e',q2,q3,q4⟩:=hm.box id _ b hB hβ;rw[hh]at q2;cases q2;have aH:(bh sz len (((m.boxes.getD id []).map (bJ m 6)).drop off)).length=len:=by rw[Qai];simp
 have hsz:∀row∈bh sz len (((m.boxes.getD id []).map (bJ m 6)).drop off),row.length=sz:=fun row ah=>by
  rw[Qai]at ah;simp only[zzax,zzbb]at ah;obtain⟨k,hk,rfl⟩:=ah;have:(k+1)*sz<=len*sz:=zzbc _ hk;rw[zzbr,zzds]at this;simp only[zzaq,zzcr,zzbj];omega
 have oE:∀(k j:Nat)(c:AV),Qv (bh sz len (((m.boxes.getD id []).map (bJ m 6)).drop off)) k j=some c->∃c' u,(m.boxes.getD id [])[off+k*sz+j]?=some c'/\c=bJ m 6 c'/\arr[off+k*sz+j]?=some u/\arr.getD (off+k*sz+j) undef=u/\aC w γ c' u:=fun k j c h=>by
  rw[Qai]at h;unfold Qv at h;rcases zzaa k len with hk|hk
  ·rw[zzbi,zzej hk]at h;simp only[zzcw,zzbz]at h;rw[zzbl]at h;split at h
   ·rw[zzbm,zzbm,zzbi]at h;obtain⟨c',oW,rfl⟩:=zzcj.1 h;rw[<- zzao]at oW
    have ai:off+k*sz+j<arr.size:=by
     have h1:=(zza.1 oW).1;have h2:=q3.1;simp at h2;simp only[List.getD]at h1;omega
    have hu':arr[off+k*sz+j]?=some arr[off+k*sz+j]:=zzaj ai;exact⟨c',_,oW,rfl,hu',by simp[ai],q3.2 _ _ _ oW (by simp[ai])⟩
   cases h
  rw[zzbi,zzaw (by simpa using hk)]at h;cases h
 have qT:∀(k j:Nat)(c':AV),(m.boxes.getD id [])[off+k*sz+j]?=some c'->Yl 6 c'=true->False:=fun k j c' h XT=>by
  have:(m.boxes.getD id []).any (Yl 6)=true:=zzbx.2 ⟨c',zzac h,XT⟩;rw[hp]at this;cases this
 refine⟨aH,hsz,{γ with ro:=fun _ _=>True},some ⟨b,off,none⟩,cap,b,fun k j=>arr.getD (off+k*sz+j) undef,hv,⟨by rw[aH];exact hl,fun h=>(by cases h),fun _=>⟨rfl,aS hh⟩,hsz,fun k j c h=>?_,fun k j c h=>?_⟩,fun k j c h=>?_⟩
 ·obtain⟨c',u,g1,rfl,g3,g4,g5⟩:=oE k j c h;rw[aO hh,g3,g4];exact⟨rfl,trivial,uH g5 (zzbh.1 bO c' (zzac g1))⟩
 ·obtain⟨c',u,g1,rfl,g3,g4,g5⟩:=oE k j c h;rw[g4];exact kU hm (m:=m) (fun _ _ h=>h) (ro':=fun _ _=>True) (fun _ _ _=>trivial) 6 c' u g5 fun XT=>(qT k j c' g1 XT).elim
 obtain⟨c',u,g1,rfl,g3,g4,g5⟩:=oE k j c h;show aC w γ.cT (bJ m 6 c') (arr.getD (off+k*sz+j) undef);rw[g4];exact kU hm (m:=m) (fun _ _ h=>h) (ro':=γ.ro) (fun _ _ h=>h) 6 c' u g5 fun XT=>(qT k j c' g1 XT).elim
def RC(hm:au N w0 aq γ w m.B m.L)(ji:∀g,aC w γ.cT (gl g) (.pointer (some ⟨g,0,none⟩))){c:Call}(he:∀x∈c.operands,aC w γ (e (aB x)) (a.eval x))(h:((sop P gl orc e m dst (Zv P c)).1/\K (sop P gl orc e m dst (Zv P c)).2.1 (sop P gl orc e m dst (Zv P c)).2.2)):
  Kw N w0 aq P ⟨dst,.call c,ty,pos,after,guard⟩ a γ w (m.st,m.ln) K:=by
 have EI:sop P gl orc e m dst (Zv P c)=((rop P gl orc e m dst (Zv P c)).1,(rop P gl orc e m dst (Zv P c)).2,m)->Kw N w0 aq P ⟨dst,.call c,ty,pos,after,guard⟩ a γ w (m.st,m.ln) K:=fun hg=>
  ri hm ji he (by rw[hg]at h;exact h)
 obtain⟨callee,args,ts⟩:=c;cases callee with
 |value f=>exact EI rfl
 |invoke recv name=>exact EI rfl
 |builtin b=>
  cases b<;>first|exact EI rfl|skip
  case append=>
   simp only[Zv]at h;split at h
   case h_2=>exact h.1.elim
   rename_i s x t t' ha ht;split at h
   case h_2=>exact h.1.elim
   rename_i te zn hu hu';split at h
   case h_2=>exact h.1.elim
   rename_i i hi;split at h
   case isFalse=>exact h.1.elim
   rename_i bU;simp only[zzak,beq_iff_eq,bne_iff_ne]at bU;obtain⟨⟨⟨rfl,hz⟩,_⟩,dV⟩:=bU;obtain rfl:args=#[s,x]:=by cases args;simp_all
   obtain rfl:ts=#[t,t]:=by cases ts;simp_all
   have h1:=he s (by simp[Call.operands]);have h2:=he x (by simp[Call.operands]);cases jm:i.zero with
   |none=>simp[jm]at hz
   |some z=>
    simp[jm]at hz;obtain⟨hz,hzo⟩:=hz;have aj1:∀(n:Nat),∀v∈(Builtin.zeroCells z.cells n).toList,v.oneCell'=true:=fun n v hv=>Ws (fun u hu=>by obtain⟨k,hk,rfl⟩:=zzhp.1 hu;exact hzo k hk) n v hv
    have grown:∀{c1 c2:List Value}{bq len:Nat},c1.length+c2.length=len*i.size->len<=bq->bq*i.size<=(c1.toArray++c2.toArray++Builtin.zeroCells z.cells (bq-len)).size:=fun{c1 c2 bq len}hl cw=>by
     simp only[zzer,zzeq,size_zeroCells,hz];have:bq*i.size=len*i.size+(bq-len)*i.size:=by rw[<- zzbr];congr 1;omega
     omega
    simp only[sop]at h;split at h
    ·rename_i id gH rows KX aD e1 e2;rw[e1]at h1;rw[e2]at h2;obtain⟨⟨rfl,aH,hr,bX⟩,hk⟩:=h;obtain⟨v,w',γ',g1,g2,g3,g4⟩:=OB (ty:=ty) hm hu hi jm hz (id:=id) (.inr ⟨h1,aH⟩) h2 hr bX (Jz dV bX);intro rd next Q hn
     refine Zm (v:=v) (w':=w') (by simp[execOp,resolve,invoke,builtin,g1]) (hn v w' γ' _ _ hk rfl g2 ?_ g4);rw[aj0 m id (zza.1 aH).1];exact g3
    ·
     rename_i y' id off len gH e1;rw[e1]at h1;obtain⟨⟨⟨⟨rfl,rfl,aK,aM,cw⟩,bX⟩,XR⟩,hk⟩:=h;obtain⟨b,cap,arr,zn,hβ,hv,hl,hh,hs⟩:=h1.cQ;obtain⟨a2,cn,vs,uJ,iC,sG,eC,hf2⟩:=Qbw (P:=P) hm h2 XR;have hB:m.B id=some (m.boxes.getD id []):=by simp[AM.B,aK]
     obtain⟨bR,e',q2,q3,q4⟩:=hm.box id _ b hB hβ;rw[hh]at q2;cases q2;have hsz:=q3.1;simp only[zzbk]at hsz
     have fN:ak w γ ((m.boxes.getD id []).take (len*i.size)) (arr.toList.take (len*i.size)):=by
      refine⟨by simp only[zzaq,zzbk];omega,fun k c v g1 g2=>?_⟩;rw[zzbl]at g1 g2;split at g1
      ·rename_i zI;rw[if_pos zI]at g2;exact q3.2 k c v g1 g2
      cases g1
     have cL:m.B m.boxes.length=none:=by simp[AM.B]
     have hBB:∀cells:List AV,({m with boxes:=m.boxes.set id []++[cells]}:AM).B=fun i=>if i=m.boxes.length then some cells else if i=id then some []else m.B i:=fun cells=>by
      have e1:=TW {m with boxes:=m.boxes.set id []} cells;rw[mF m id aK]at e1;simpa using e1
     intro rd next Q hn
     by_cases cH:len+lenS (e (aB x))<=cap
     ·have bn:=zO (P:=P) (ty:=ty) (w:=w) (len:=len) (b:=b) (off:=0) hu hi (by have:=hf2 _ (zzab _) w (fun _=>rfl);rw[uJ,<- eC,zzbu]at this;exact this) sG eC cH hh hs;simp only[zzbw]at bn;have Ra:(len+lenS (e (aB x)))*i.size<=cap*i.size:=zzbc _ cH;rw[zzbr]at Ra
      obtain⟨g1,g2⟩:=hm.share (id':=m.boxes.length) (new:=(m.boxes.getD id []).take (len*i.size)++(cellsS m i.size (e (aB x))).2) hβ hB aM cL hh (p:=len*i.size) (vs:=vs) (by
       refine⟨by simp only[zzai,zzaq,iC.1,zzbk,Vd];omega,fun k c v j1 j2=>?_⟩;rw[zzce,wI]at j2;rcases zzaa k (len*i.size)with zI|zI
       ·rw[if_neg zE]at j2;rw[zzag (by rw[zzaq];omega)]at j1;refine fN.2 k c v j1 ?_;rw[zzbl,if_pos zI,zzce];exact j2
       rw[zzal (by rw[zzaq];omega)]at j1;have e0:((m.boxes.getD id []).take (len*i.size)).length=len*i.size:=by rw[zzaq];omega
       rw[e0]at j1;have dD:=(zza.1 j1).1;rw[iC.1]at dD;rw[if_pos zE]at j2;exact iC.2 _ c v j1 j2) q4 sG
      refine Zm (v:=.slice (some ⟨b,0,none⟩) (len+lenS (e (aB x))) cap) (w':=w.setCells b (len*i.size) vs) (by simp[execOp,resolve,invoke,builtin,hv,uJ,bn]) (hn _ _ _ _ _ hk rfl g1 ?_ ?_)
      ·rw[hBB];exact g2
      exact .bs (by simp[G.box]) cH (Xb b vs _ w arr zn _ hh) (by rw[Vd];exact hs)
     have f1:(Builtin.firstCells i.size len (.slice (some ⟨b,0,none⟩) len cap)).run P w.drew=.ok (arr.toList.take (len*i.size)).toArray w.drew:=by
      refine run_firstCells_some w.drew i.size len _ len cap _ (by simp;omega) fun j u hj=>?_;rw[bA];show w.cell? _=_;rw[aO hh];rw[zzbl]at hj;split at hj
      ·simpa using hj
      cases hj
     have f2:(Builtin.firstCells i.size (lenS (e (aB x))) (.slice a2 (lenS (e (aB x))) cn)).run P w.drew=.ok vs.toArray w.drew:=by
      have:=hf2 _ (zzab _) w.drew (fun _=>rfl);rw[uJ,<- eC,zzbu]at this;exact this
     obtain⟨bq,CZ,bn⟩:=mG (P:=P) (ty:=ty) (w:=w) hu hi jm f1 f2 zE bX (Jz dV bX);have K5:=(hm.kill hβ).drew
     have dW:(fun i=>if i=id then some []else m.B i) m.boxes.length=none:=by
      have:m.boxes.length≠id:=zE
      simp only[if_neg this];exact cL
     have hP:=A8 (rest:=(Builtin.zeroCells z.cells (bq-(len+lenS (e (aB x))))).toList) fN iC;have bT:=K5.dB _ dW (.cells ((arr.toList.take (len*i.size)).toArray++vs.toArray++Builtin.zeroCells z.cells (bq-(len+lenS (e (aB x))))) te)
     have zo:=K5.fG _ dW (e:=te) (arr:=(arr.toList.take (len*i.size)).toArray++vs.toArray++Builtin.zeroCells z.cells (bq-(len+lenS (e (aB x))))) (by
      have:=hP.mono (Ev.drew w γ)
      simpa using this) (fun v hv=>by
       simp only[Array.toList_append,zzam]at hv;obtain(hv|hv)|hv:=hv
       ·exact q4 v (zzcb (by simpa using hv))
       ·exact sG v (by simpa using hv)
       exact aj1 _ v hv)
     refine Zm (v:=.slice (some ⟨w.heap.size,0,none⟩) (len+lenS (e (aB x))) bq) (by simp[execOp,resolve,invoke,builtin,hv,uJ,bn]) (hn _ _ _ _ _ hk rfl ((Ev.drew w γ).trans bT) ?_ ?_)
     ·rw[hBB];exact zo
     refine .bs (arr:=(arr.toList.take (len*i.size)).toArray++vs.toArray++Builtin.zeroCells z.cells (bq-(len+lenS (e (aB x))))) (e:=te) (by show(if _ then _ else _)=_;rw[if_pos rfl];rfl) CZ (Yj w _) ?_;rw[zzbw];exact grown (by rw[eC,zzbr];simp;omega) CZ
    ·
     rename_i id gH rows gV gI cC sz2 e1 e2;rw[e1]at h1;rw[e2]at h2;obtain⟨⟨⟨rfl,rfl⟩,aH,hr,bX,amw,dW,K6,FI⟩,hk⟩:=h;obtain⟨l2,iC,γ2,a2,cn,b2,gL,uJ,s2,XU⟩:=XS hm h2 amw dW K6 FI;generalize bh i.size cC (((m.boxes.getD gV []).map (bJ m 6)).drop gI)=aD at*
     subst l2;obtain⟨v,w',γ',g1,g2,g3,g4⟩:=wm (ty:=ty) hm hu hi jm hz (id:=id) (.inr ⟨h1,aH⟩) s2 XU (fun row h=>(zzam.1 h).elim (hr row) (iC row)) bX (Jz dV bX);intro rd next Q hn
     refine Zm (v:=v) (w':=w') (by simp[execOp,resolve,invoke,builtin,uJ,g1]) (hn v w' γ' _ _ hk rfl g2 ?_ g4);rw[aj0 m id (zza.1 aH).1];exact g3
    ·rename_i y' rt rows e1 qT RD;rw[e1]at h1;split at h
     ·split at h
      ·
       rename_i kW;obtain⟨XR,hk⟩:=h;obtain⟨a1,cap,b1,arF,sz1,cv1,hv,s1,hcap⟩:=h1.cm;obtain⟨a2,cn,vs,uJ,iC,sG,eC,hf2⟩:=Qbw (P:=P) hm h2 XR;rw[kW]at uJ;have bn:=Qec (P:=P) (w:=w) (ty:=ty) (a:=a1) hu hi a2 cn rows.length s1.hcap;intro rd next Q hn
       refine Zm (v:=.slice a1 rows.length cap) (w':=w) (by simp[execOp,resolve,invoke,builtin,hv,uJ,bn]) (hn _ _ γ _ _ hk rfl (Ev.refl _ _) hm ?_);rw[<- hv];exact h1
      obtain⟨⟨⟨hfu,hny,hsz,bX⟩,XR⟩,hk⟩:=h;replace h1:=h1.uI hfu;obtain⟨a1,cap,b1,arF,sz1,cv1,hv,s1,hcap⟩:=h1.cm;replace s1:=s1.fix (sz:=i.size) hsz;obtain⟨a2,cn,vs,uJ,iC,sG,eC,hf2⟩:=Qbw (P:=P) hm h2 XR;obtain⟨a1',azm,vs1,amx,zq,arG,jr,hf1⟩:=Qbw (P:=P) (sz:=i.size) hm h1 hsz;rw[hv]at amx;simp only[lenS]at amx jr;cases amx;have cL:m.B m.boxes.length=none:=by simp[AM.B]
      have f1:(Builtin.firstCells i.size rows.length (.slice a1 rows.length cap)).run P w.drew=.ok vs1.toArray w.drew:=by
       have:=hf1 _ (zzab _) w.drew (fun _=>rfl);rw[hv]at this;simp only[lenS]at this;rw[<- jr,zzbu]at this;exact this
      have f2:(Builtin.firstCells i.size (lenS (e (aB x))) (.slice a2 (lenS (e (aB x))) cn)).run P w.drew=.ok vs.toArray w.drew:=by
       have:=hf2 _ (zzab _) w.drew (fun _=>rfl);rw[uJ,<- eC,zzbu]at this;exact this
      have azn:cap=rows.length:=hcap;obtain⟨bq,CZ,bn⟩:=mG (P:=P) (ty:=ty) (w:=w) hu hi jm f1 f2 zE bX (Jz dV bX);have hP:=A8 (rest:=(Builtin.zeroCells z.cells (bq-(rows.length+lenS (e (aB x))))).toList) zq iC;have K5:=hm.drew;have bT:=K5.dB _ cL (.cells (vs1.toArray++vs.toArray++Builtin.zeroCells z.cells (bq-(rows.length+lenS (e (aB x))))) te)
      have zo:=K5.fG _ cL (e:=te) (arr:=vs1.toArray++vs.toArray++Builtin.zeroCells z.cells (bq-(rows.length+lenS (e (aB x))))) (by
       have:=hP.mono (Ev.drew w γ)
       simpa using this) (fun v hv=>by
        simp only[Array.toList_append,zzam]at hv;obtain(hv|hv)|hv:=hv
        ·exact arG v (by simpa using hv)
        ·exact sG v (by simpa using hv)
        exact aj1 _ v hv)
      intro rd next Q hn
      refine Zm (v:=.slice (some ⟨w.heap.size,0,none⟩) (rows.length+lenS (e (aB x))) bq) (by simp[execOp,resolve,invoke,builtin,hv,uJ,bn]) (hn _ _ _ _ _ hk rfl ((Ev.drew w γ).trans bT) ?_ ?_)
      ·rw[TW];exact zo
      refine .bs (arr:=vs1.toArray++vs.toArray++Builtin.zeroCells z.cells (bq-(rows.length+lenS (e (aB x))))) (e:=te) (by show(if _ then _ else _)=_;rw[if_pos rfl];rfl) CZ (Yj w _) ?_;rw[zzbw];exact grown (by rw[jr,eC,zzbr]) CZ
     split at h
     case h_3=>exact h.1.elim
     case h_2=>
      rename_i gV gI cC sz2 e2;rw[e2]at h2;obtain⟨⟨⟨hfu,rfl⟩,hr,bX,amw,dW,K6,FI⟩,hk⟩:=h;replace h1:=h1.uI hfu;obtain⟨l2,iC,γ2,a2,cn,b2,gL,uJ,s2,XU⟩:=XS hm h2 amw dW K6 FI;generalize bh i.size cC (((m.boxes.getD gV []).map (bJ m 6)).drop gI)=aD at*
      subst l2;obtain⟨v,w',γ',g1,g2,g3,g4⟩:=wm (ty:=ty) hm hu hi jm hz (id:=m.lens.length) (.inl ⟨h1,by simp[AM.L]⟩) s2 XU (fun row h=>(zzam.1 h).elim (hr row) (iC row)) bX (Jz dV bX);intro rd next Q hn
      refine Zm (v:=v) (w':=w') (by simp[execOp,resolve,invoke,builtin,uJ,g1]) (hn v w' γ' _ _ hk rfl g2 ?_ g4);rw[CY];exact g3
     rename_i KX aD e2;rw[e2]at h2;obtain⟨⟨hfu,hr,bX⟩,hk⟩:=h;replace h1:=h1.uI hfu;obtain⟨v,w',γ',g1,g2,g3,g4⟩:=OB (ty:=ty) hm hu hi jm hz (id:=m.lens.length) (.inl ⟨h1,by simp[AM.L]⟩) h2 hr bX (Jz dV bX);intro rd next Q hn
     refine Zm (v:=v) (w':=w') (by simp[execOp,resolve,invoke,builtin,g1]) (hn v w' γ' _ _ hk rfl g2 ?_ g4);rw[CY];exact g3
    exact h.1.elim
  case copy=>
   simp only[Zv]at h;split at h
   case h_2=>exact h.1.elim
   rename_i x y t ts' ha ht;split at h
   case h_2=>exact h.1.elim
   rename_i te hu;split at h
   case h_2=>exact h.1.elim
   rename_i i hi;obtain rfl:args=#[x,y]:=by cases args;simp_all
   have ht0:ts[0]?=some t:=by cases ts;simp_all
   exact RA hm ht0 hu hi (he x (by simp[Call.operands])) (he y (by simp[Call.operands])) h
  case clear=>
   simp only[Zv]at h;split at h
   case h_2=>exact h.1.elim
   rename_i x t ha ht;split at h
   case h_2=>exact h.1.elim
   rename_i te hu;split at h
   case h_2=>exact h.1.elim
   rename_i zs hz;obtain rfl:args=#[x]:=by cases args;simp_all
   obtain rfl:ts=#[t]:=by cases ts;simp_all
   exact RB hm hu hz (he x (by simp[Call.operands])) h
  case len=>
   refine EI ?_;simp only[Zv];repeat' split
   all_goals rfl
  case max=>
   refine EI ?_;simp only[Zv];repeat' split
   all_goals rfl
  case min=>
   refine EI ?_;simp only[Zv];repeat' split
   all_goals rfl
def G.gP(γ:G)(id b:Nat):G:={γ with mm:=fun i=>if i=id then some b else γ.mm i}
def RE:Obj->Bool
 |.map _ _=>true
 |.mapIter _ _ _ _=>true
 |_=>false
def cN.RE{x:AV}{o:Obj}(h:cN w γ x o):RE o=true:=by
 unfold cN at h;split at h<;>first|rfl|exact h.elim
def OE{w:World}{b o':Nat}{o:Obj}(h:w.heap[b]?=some o)(hm:RE o=true):w.cell? ⟨b,o',none⟩=none:=by
 cases o<;>simp[RE]at hm<;>simp[World.cell?,h]
def au.K7{B:Nat->Option (List AV)}{L:Nat->Option Nat}(hm:au N w0 aq γ w B L)(id:Nat)(aK:B id=none){x:AV}{o:Obj}(hx:cN w γ x o):
  Ev w γ (w.alloc o) (γ.gP id w.heap.size)/\au N w0 aq (γ.gP id w.heap.size) (w.alloc o) (fun i=>if i=id then some [x]else B i) L:=by
 have aM:∀i b,γ.mm i=some b->i≠id:=fun i b h=>by
  rintro rfl;obtain⟨_,_,_,_,_,_,_,_,_,hx,_⟩:=hm.mm i b h;rw[aK]at hx;cases hx
 have XV:∀i b,γ.β i=some b->i≠id:=fun i b h=>by
  rintro rfl;obtain⟨_,_,_,_,c,hc⟩:=hm.β i b h;rw[aK]at hc;cases hc
 have hβ0:γ.β id=none:=by
  cases h:γ.β id with
  |none=>rfl
  |some b=>exact absurd rfl (XV id b h)
 have bT:Ev w γ (w.alloc o) (γ.gP id w.heap.size):=⟨zd,fun b o' hb hr=>⟨hr,cell_of_heap (Below.heap_alloc w _ b hb)⟩,fun _ _ h=>h,fun _=>zzab _,fun i b h=>by simp[G.gP,aM i b h,h],rfl,
   fun i b _ ho=>⟨ho,fun arr e he=>⟨arr,by rw[Below.heap_alloc w _ b (hm.own i b ho).2.1];exact he,zzab _⟩,fun _ h=>h⟩,
   fun b hb=>⟨hb,Below.heap_alloc w _ b (hm.sp b hb).2.1⟩,Sz.of_same (Below.heap_alloc w _)⟩
 have amy:∀i i' b,γ.β i=some b->γ.β i'=some b->(if i=id then some [x]else B i)=some []\/(if i'=id then some [x]else B i')=some []\/i=i':=fun i i' b h h'=>by
  rw[if_neg (XV i b h),if_neg (XV i' b h')];exact hm.inj i i' b h h'
 refine⟨bT,⟨w0.st _ _ _ _ hm.bs ⟨rfl,rfl,rfl,zd,fun b hb _=>Below.heap_alloc w _ b hb,bT.ro,fun b hb=>?_,fun _ _ h=>.inl h⟩,by have:=hm.hN;simp;omega,hm.aq,fun b o h=>by have:=hm.robd b o h;simp;omega,
  fun i cells b hb h1=>?_,fun i b hb=>?_,amy,fun i b hb=>?_,hm.oinj,fun b hb=>?_,fun i b hb=>?_,fun i i' b h h'=>?_,hm.len,hm.cur0⟩⟩
 ·obtain hb|hb|hb|⟨i,hb⟩:=hb
  ·exact .inl (.inl hb)
  ·exact .inl (.inr (.inl hb))
  ·exact .inl (.inr (.inr (.inl hb)))
  by_cases h:i=id
  ·simp[G.gP,h]at hb;exact .inr zE
  simp[G.gP,h]at hb;exact .inl (.inr (.inr (.inr ⟨i,hb⟩)))
 ·have oV:γ.β i=some b:=h1;simp only[if_neg (XV i b oV)]at hb;obtain⟨arr,e,h2,h3,h4⟩:=hm.box i cells b hb oV;exact⟨arr,e,by rw[Below.heap_alloc w _ b (aS h2)];exact h2,h3.mono bT,h4⟩
 ·have cO:γ.β i=some b:=hb;obtain⟨h1,h2,h3,h4,c,h5⟩:=hm.β i b cO;exact⟨h1,by simp;omega,h3,h4,c,by simp only[if_neg (XV i b cO)];exact h5⟩
 ·obtain⟨h1,h2,h3⟩:=hm.own i b hb;exact⟨h1,by simp;omega,h3⟩
 ·obtain⟨h1,h2,h3⟩:=hm.sp b hb;exact⟨h1,by simp;omega,h3⟩
 ·by_cases h:i=id
  ·subst h;simp[G.gP]at hb;subst hb;refine⟨hm.hN,zd,fun o' h=>?_,fun i h=>?_,fun i h=>?_,fun h=>?_,hβ0,x,o,zd,by show(w.heap.push _)[w.heap.size]?=_;simp,hx.mono bT.cK.AR⟩
   ·have:=hm.robd _ _ h;omega
   ·have:=(hm.β i _ h).2.1;omega
   ·have:=(hm.own i _ h).2.1;omega
   have:=(hm.sp _ h).2.1;omega
  simp[G.gP,h]at hb;obtain⟨h1,h2,h3,h4,h5,h6,h8,h7⟩:=hm.mm i b hb;refine⟨h1,by simp;omega,h3,h4,h5,h6,h8,?_⟩;simp only[if_neg h];exact h7.mono bT.cK.AR (Below.heap_alloc w _ b h2)
 by_cases hi:i=id<;>by_cases di:i'=id
 ·rw[hi,di]
 ·simp[G.gP,hi]at h;simp[G.gP,di]at h';have:=(hm.mm i' b h').2.1;omega
 ·simp[G.gP,hi]at h;simp[G.gP,di]at h';have:=(hm.mm i b h).2.1;omega
 simp[G.gP,hi]at h;simp[G.gP,di]at h';exact hm.minj i i' b h h'
def FJ(hm:au N w0 aq γ w m.B m.L){t:TypeId}{r:Option Operand}(h:((sop P gl orc e m dst (tr P ⟨dst,.makeMap t r,ty,pos,after,guard⟩)).1/\K (sop P gl orc e m dst (tr P ⟨dst,.makeMap t r,ty,pos,after,guard⟩)).2.1 (sop P gl orc e m dst (tr P ⟨dst,.makeMap t r,ty,pos,after,guard⟩)).2.2)):Kw N w0 aq P ⟨dst,.makeMap t r,ty,pos,after,guard⟩ a γ w (m.st,m.ln) K:=by
 cases r with
 |some r=>exact h.1.elim
 |none=>
  simp only[tr]at h;split at h
  case h_2=>exact h.1.elim
  rename_i kn z ht;intro rd next Q hn
  have aK:m.B m.boxes.length=none:=by simp[AM.B]
  obtain⟨g1,g2⟩:=hm.K7 _ aK (x:=.aL kn []) (o:=.map #[] 0) ⟨rfl,rfl,fun i k a e q1=>by simp at q1⟩;refine Zm (v:=.map (some w.heap.size)) (w':=w.alloc (.map #[] 0)) (by simp[execOp,Instr.makeMap]) (hn _ _ (γ.gP m.boxes.length w.heap.size) _ _ h.2 rfl g1 ?_ (.mp (by simp[G.gP])));simp only[sop];rw[TW];exact g2
def au.rq{B:Nat->Option (List AV)}{L:Nat->Option Nat}(hm:au N w0 aq γ w B L){id b:Nat}(hb:γ.mm id=some b){x:AV}{o:Obj}(hx:cN w γ x o):
  Ev w γ (w.putObj b o) γ/\au N w0 aq γ (w.putObj b o) (fun i=>if i=id then some [x]else B i) L:=by
 obtain⟨n1,n2,n3,n4,n5,n6,n8,hmo⟩:=hm.mm id b hb;have hnc:=fun{arr:Array Value}{e:TypeId}{f:Nat×Nat}=>vZ.WW hmo (arr:=arr) (e:=e) (f:=f);obtain⟨x0,o0,n7,h0,RF⟩:=hmo;have cR:∀b',b'≠b->(w.putObj b o).heap[b']?=w.heap[b']?:=fun b' cO=>World.putObj_heap_other cO;have FK:(w.putObj b o).heap[b]?=some o:=by simp[World.putObj,n2]
 have bO:∀b' o',(w.putObj b o).cell? ⟨b',o',none⟩=w.cell? ⟨b',o',none⟩:=fun b' o'=>by
  by_cases EJ:b'=b
  ·subst EJ;rw[OE FK hx.RE,OE h0 RF.RE]
  exact cell_of_heap (cR b' EJ)
 have bT:Ev w γ (w.putObj b o) γ:=by
  refine⟨zd,fun b' o' _ hr=>⟨hr,bO b' o'⟩,fun _ _ h=>h,fun _=>zzab _,fun _ _ h=>h,rfl,fun i b' _ ho=>⟨ho,fun arr e he=>⟨arr,?_,zzab _⟩,fun _ h=>h⟩,fun b' h=>⟨h,cR b' (by rintro rfl;exact n6 h)⟩,fun b' arr e f h=>⟨arr,by rw[cR b' (by rintro rfl;exact hnc h)];exact h,rfl⟩⟩;rw[cR b' (by rintro rfl;exact n5 i ho)];exact he
 have amy:∀i i' b',γ.β i=some b'->γ.β i'=some b'->(if i=id then some [x]else B i)=some []\/(if i'=id then some [x]else B i')=some []\/i=i':=fun i i' b' h h'=>by
  rw[if_neg (by rintro rfl;rw[n8]at h;cases h),if_neg (by rintro rfl;rw[n8]at h';cases h')];exact hm.inj i i' b' h h'
 refine⟨bT,⟨w0.st _ _ _ _ hm.bs ⟨rfl,rfl,rfl,zd,fun b' _ qT=>cR b' (by rintro rfl;exact qT (.inr (.inr (.inr ⟨id,hb⟩)))),bT.ro,fun b' cO=>.inl cO,fun b' o' h=>.inl h⟩,by simpa using hm.hN,
  hm.aq,fun b' o' h=>by simpa using hm.robd b' o' h,fun i cells b' dL h1=>?_,fun i b' cO=>?_,amy,fun i b' cO=>?_,hm.oinj,fun b' cO=>?_,fun i b' cO=>?_,hm.minj,hm.len,hm.cur0⟩⟩
 ·have hi:i≠id:=by rintro rfl;rw[n8]at h1;cases h1
  simp only[if_neg hi]at dL;obtain⟨arr,e,h2,h3,h4⟩:=hm.box i cells b' dL h1;exact⟨arr,e,by rw[cR b' (by rintro rfl;exact n4 i h1)];exact h2,h3.mono bT,h4⟩
 ·have hi:i≠id:=by rintro rfl;rw[n8]at cO;cases cO
  obtain⟨h1,h2,h3,h4,c',h5⟩:=hm.β i b' cO;exact⟨h1,by simpa using h2,h3,h4,c',by simp only[if_neg hi];exact h5⟩
 ·obtain⟨h1,h2,h3⟩:=hm.own i b' cO;exact⟨h1,by simpa using h2,h3⟩
 ·obtain⟨h1,h2,h3⟩:=hm.sp b' cO;exact⟨h1,by simpa using h2,h3⟩
 by_cases hi:i=id
 ·subst hi;obtain rfl:b'=b:=Option.some.inj (cO.symm.trans hb);exact⟨n1,by simpa using n2,n3,n4,n5,n6,n8,x,o,zd,FK,hx.mono bT.cK.AR⟩
 obtain⟨h1,h2,h3,h4,h5,h6,h8,h7⟩:=hm.mm i b' cO;refine⟨h1,by simpa using h2,h3,h4,h5,h6,h8,?_⟩;simp only[if_neg hi];exact h7.mono bT.cK.AR (cR b' (by rintro rfl;exact hi (hm.minj _ _ _ cO hb)))
def nG{id:Nat}{x:AV}(h:m.boxes.getD id []=[x]):id<m.boxes.length/\m.B id=some [x]:=by
 have aK:id<m.boxes.length:=by
  rcases zzaa id m.boxes.length with h'|h'
  ·exact h'
  simp[List.getD,zzaw h']at h
 refine⟨aK,?_⟩;simp[AM.B,aK];simpa[List.getD,aK]using h
def A9{kn:Nat}{kvs:List (List Int×AV)}{es:Array MapEntry}{n:List Int}{c:AV}{v:Value}(hn:Fu kn n)(hl:kvs.length=es.size)
  (hk:∀(i:Nat)(k:List Int)(a:AV)(e:MapEntry),kvs[i]?=some (k,a)->es[i]?=some e->Fu kn k/\e.key=Yr kn k/\e.born=i/\aC w γ a e.val)(hc:aC w γ c v):
  cN w γ (.aL kn (kvs++[(n,c)])) (.map (es.push ⟨Yr kn n,v,es.size⟩) (es.size+1)):=by
 refine⟨zd,by simp[hl],fun j k' c' x' s1 s2=>?_⟩;rcases zzaa j kvs.length with hj|hj
 ·rw[zzag hj]at s1;rw[Array.getElem?_push_lt zE]at s2;exact hk j k' c' x' s1 (by rw[zzaj zE];exact s2)
 have OA:j=kvs.length:=by
  have:=(zza.1 s1).1;simp at this;omega
 subst OA;simp at s1;obtain⟨rfl,rfl⟩:=s1;rw[hl]at s2;simp at s2;subst s2;exact⟨hn,rfl,hl.symm,hc⟩
def wJ{kn:Nat}{kvs:List (List Int×AV)}{es:Array MapEntry}{n:List Int}{j:Nat}{c:AV}{f:MapEntry->MapEntry}(hn:Fu kn n)(hl:kvs.length=es.size)
  (hk:∀(i:Nat)(k:List Int)(a:AV)(e:MapEntry),kvs[i]?=some (k,a)->es[i]?=some e->Fu kn k/\e.key=Yr kn k/\e.born=i/\aC w γ a e.val)(hj:j<kvs.length)
  (hf:∀e,es[j]?=some e->(f e).key=Yr kn n/\(f e).born=e.born/\aC w γ c (f e).val):
  cN w γ (.aL kn (kvs.set j (n,c))) (.map (es.modify j f) es.size):=by
 refine⟨zd,by simp[hl],fun j' k' c' x' t1 t2=>?_⟩;rw[zzet]at t2;by_cases hjj:j=j'
 ·subst hjj;have o8:j<es.size:=zE
  simp[o8]at t2;rw[zzba zE]at t1;cases t1;subst t2;obtain⟨p1,p2,p3⟩:=hf es[j] (by simp[o8]);have:=hk j (kvs[j]'hj).1 (kvs[j]'hj).2 es[j] (by simp[hj]) (by simp[o8]);exact⟨hn,p1,by rw[p2];exact this.2.2.1,p3⟩
 rw[zzbf hjj]at t1;rw[if_neg hjj]at t2;exact hk j' k' c' x' t1 t2
def C0(b:Nat)(o:Obj){es:Array MapEntry}{c:Nat}(q2:w.heap[b]?=some (.map es c)):(setObj b o).run P w=.ok () (w.putObj b o):=by simp[setObj,Sem.run,q2,World.putObj]
def K8(hm:au N w0 aq γ w m.B m.L){t:TypeId}{x k y:Operand}(h1:aC w γ (e (aB x)) (a.eval x))(h2:aC w γ (e (aB k)) (a.eval k))(h3:aC w γ (e (aB y)) (a.eval y))
  (h:((sop P gl orc e m dst (tr P ⟨dst,.mapUpdate t x k y,ty,pos,after,guard⟩)).1/\K (sop P gl orc e m dst (tr P ⟨dst,.mapUpdate t x k y,ty,pos,after,guard⟩)).2.1 (sop P gl orc e m dst (tr P ⟨dst,.mapUpdate t x k y,ty,pos,after,guard⟩)).2.2)):Kw N w0 aq P ⟨dst,.mapUpdate t x k y,ty,pos,after,guard⟩ a γ w (m.st,m.ln) K:=by
 simp only[tr]at h;split at h
 case h_2=>exact h.1.elim
 rename_i kn z ht;simp only[sop]at h;split at h
 case h_2=>exact h.1.elim
 rename_i id n e1 e2;rw[e1]at h1;obtain⟨e3,eZ⟩:=CV e2;rw[e3]at h2;split at h
 case h_2=>exact h.1.elim
 rename_i AW kvs fH;obtain⟨⟨EG,hba⟩,hK⟩:=h;subst EG;obtain⟨kt,vt,i,zv,hu,hk,hi,hz,rfl⟩:=kX ht;obtain⟨aK,C1⟩:=nG fH;obtain⟨b,es,hb,hv,q2,q3,q4⟩:=hm.jo h1 C1
 obtain⟨f1,f2⟩:=CW (w:=w) (γ:=γ) (P:=P) hk eZ (kvs:=kvs) (es:=es.toList) (by simpa using q3) fun j k' c x' g1 g2=>by
  obtain⟨p1,p2,_,p3⟩:=q4 j k' c x' g1 (by simpa using g2);exact⟨p1,p2,p3⟩
 have cA:=MapKept.run_getObj_map (P:=P) q2;have bY:=fun o=>C0 (P:=P) b o q2;have kY:(Instr.checkKey false 10000 kt (Yr AW n)).run P w=.ok () w:=run_checkKey hk eZ;have hkv:=rf eZ h2;intro rd next Q hn
 cases hf:Xl n kvs 0 with
 |none=>
  rw[hf]at hK;have Rv:=f1 hf
  have bn:(execOp a.eval ⟨dst,.mapUpdate t x k y,ty,pos,after,guard⟩).run P w=.ok .skip (w.putObj b (.map (es.push ⟨Yr AW n,a.eval y,es.size⟩) (es.size+1))):=by
   simp[execOp,Instr.mapUpdate,run_underlying hu,hv,hkv,cA,kY,Rv,bY]
  obtain⟨g1,g2⟩:=hm.rq hb (A9 eZ q3 q4 h3);refine oQ bn (hn undef _ γ _ _ hK rfl g1 ?_ (.junk _));rw[mF m id aK];exact g2
 |some p=>
  obtain⟨j,c⟩:=p;rw[hf]at hK;obtain⟨vv,Rv,s2,s3,s4⟩:=f2 j c hf;have uK:j<es.size:=zE
  have o9:=(q4 j n c es[j] s4 (zzaj uK)).2.1;have JG:=o7 (P:=P) (w:=w) (new:=Yr AW n) eZ o9 rfl
  have bn:(execOp a.eval ⟨dst,.mapUpdate t x k y,ty,pos,after,guard⟩).run P w=.ok .skip (w.putObj b (.map (es.modify j fun q=>{q with key:=Yr AW n,val:=a.eval y}) es.size)):=by
   simp[execOp,Instr.mapUpdate,run_underlying hu,hv,hkv,cA,kY,Rv,uK,JG,bY]
  obtain⟨g1,g2⟩:=hm.rq hb (wJ (j:=j) (c:=e (aB y)) (f:=fun q=>{q with key:=Yr AW n,val:=a.eval y}) eZ q3 q4 s3 fun e he=>⟨rfl,rfl,h3⟩);refine oQ bn (hn undef _ γ _ _ hK rfl g1 ?_ (.junk _));rw[mF m id aK];exact g2
def K9(hm:au N w0 aq γ w m.B m.L){t:TypeId}{x k:Operand}(h1:aC w γ (e (aB x)) (a.eval x))(h2:aC w γ (e (aB k)) (a.eval k))
  (h:((sop P gl orc e m dst (tr P ⟨dst,.mapEntry t x k,ty,pos,after,guard⟩)).1/\K (sop P gl orc e m dst (tr P ⟨dst,.mapEntry t x k,ty,pos,after,guard⟩)).2.1 (sop P gl orc e m dst (tr P ⟨dst,.mapEntry t x k,ty,pos,after,guard⟩)).2.2)):Kw N w0 aq P ⟨dst,.mapEntry t x k,ty,pos,after,guard⟩ a γ w (m.st,m.ln) K:=by
 simp only[tr]at h;split at h
 case h_2=>exact h.1.elim
 rename_i kn z ht;simp only[sop]at h;split at h
 case h_2=>exact h.1.elim
 rename_i id n e1 e2;rw[e1]at h1;obtain⟨e3,eZ⟩:=CV e2;rw[e3]at h2;split at h
 case h_2=>exact h.1.elim
 rename_i AW kvs fH;obtain⟨EG,hK⟩:=h;simp only at EG;subst EG;obtain⟨kt,vt,i,zv,hu,hk,hi,hz,rfl⟩:=kX ht;obtain⟨aK,C1⟩:=nG fH;obtain⟨b,es,hb,hv,q2,q3,q4⟩:=hm.jo h1 C1
 obtain⟨f1,f2⟩:=CW (w:=w) (γ:=γ) (P:=P) hk eZ (kvs:=kvs) (es:=es.toList) (by simpa using q3) fun j k' c x' g1 g2=>by
  obtain⟨p1,p2,_,p3⟩:=q4 j k' c x' g1 (by simpa using g2);exact⟨p1,p2,p3⟩
 have cA:=MapKept.run_getObj_map (P:=P) q2;have bY:=fun o=>C0 (P:=P) b o q2;have kY:(Instr.checkKey false 10000 kt (Yr AW n)).run P w=.ok () w:=run_checkKey hk eZ;have hkv:=rf eZ h2;intro rd next Q hn
 cases hf:Xl n kvs 0 with
 |none=>
  rw[hf]at hK;have Rv:=f1 hf
  have bn:(execOp a.eval ⟨dst,.mapEntry t x k,ty,pos,after,guard⟩).run P w=.ok (.value (.tuple #[zv,.int .i64 es.size])) (w.putObj b (.map (es.push ⟨Yr AW n,zv,es.size⟩) (es.size+1))):=by
   simp[execOp,Instr.mapEntry,run_underlying hu,hv,hkv,cA,kY,Rv,bY,zeroValue,typeInfo,hi,hz,goInt]
  obtain⟨g1,g2⟩:=hm.rq hb (A9 eZ q3 q4 (Ke w γ zv));refine Zm bn (hn _ _ γ _ _ hK rfl g1 ?_ ?_)
  ·rw[mF m id aK];exact g2
  rw[q3];exact(ak.cons (Ke _ γ zv) (ak.cons (.int .i64 _) ak.nil)).zM
 |some p=>
  obtain⟨j,c⟩:=p;rw[hf]at hK;obtain⟨vv,Rv,s2,s3,s4⟩:=f2 j c hf;have uK:j<es.size:=zE
  have o9:=q4 j n c es[j] s4 (zzaj uK);have JG:=o7 (P:=P) (w:=w) (new:=Yr AW n) eZ o9.2.1 rfl
  have bn:(execOp a.eval ⟨dst,.mapEntry t x k,ty,pos,after,guard⟩).run P w=.ok (.value (.tuple #[vv,.int .i64 j])) (w.putObj b (.map (es.modify j fun q=>{q with key:=Yr AW n}) es.size)):=by
   simp[execOp,Instr.mapEntry,run_underlying hu,hv,hkv,cA,kY,Rv,uK,JG,bY,goInt,o9.2.2.1]
  have XW:kvs.set j (n,c)=kvs:=by
   apply zzcm;intro i;by_cases eE:j=i
   ·subst eE;rw[zzba s3,s4]
   rw[zzbf eE]
  obtain⟨g1,g2⟩:=hm.rq hb (wJ (j:=j) (c:=c) (f:=fun q=>{q with key:=Yr AW n}) eZ q3 q4 s3 fun e he=>⟨rfl,rfl,(q4 j n c e s4 he).2.2.2⟩);rw[XW]at g2;refine Zm bn (hn _ _ γ _ _ hK rfl g1 ?_ ?_)
  ·rw[mF m id aK];exact g2
  exact((ak.cons s2 (ak.cons (.int .i64 _) ak.nil)).mono g1).zM
def La(hm:au N w0 aq γ w m.B m.L){t:TypeId}{x k y:Operand}(h1:aC w γ (e (aB x)) (a.eval x))(h2:aC w γ (e (aB k)) (a.eval k))(h3:aC w γ (e (aB y)) (a.eval y))
  (h:((sop P gl orc e m dst (tr P ⟨dst,.entryStore t x k y,ty,pos,after,guard⟩)).1/\K (sop P gl orc e m dst (tr P ⟨dst,.entryStore t x k y,ty,pos,after,guard⟩)).2.1 (sop P gl orc e m dst (tr P ⟨dst,.entryStore t x k y,ty,pos,after,guard⟩)).2.2)):Kw N w0 aq P ⟨dst,.entryStore t x k y,ty,pos,after,guard⟩ a γ w (m.st,m.ln) K:=by
 simp only[tr,sop]at h;split at h
 case h_2=>exact h.1.elim
 rename_i id kk i e1 e2;rw[e1]at h1;rw[e2]at h2;split at h
 case h_2=>exact h.1.elim
 rename_i kn kvs fH;obtain⟨⟨⟨hi0,fO⟩,hba⟩,hK⟩:=h;obtain⟨aK,C1⟩:=nG fH;obtain⟨b,es,hb,hv,q2,q3,q4⟩:=hm.jo h1 C1;have cA:=MapKept.run_getObj_map (P:=P) q2;have bY:=fun o=>C0 (P:=P) b o q2;obtain⟨j,rfl⟩:∃j:Nat,i=j:=⟨i.toNat,zE⟩;have uK:j<es.size:=zE
 have zu:j<kvs.length:=zE
 have CU:es.findIdx? (fun e=>(e.born:Int)==(j:Int))=some j:=by
  rw[Array.findIdx?_eq_some_iff_getElem];refine⟨uK,by simp[Qep q3 q4 uK],fun l hl=>?_⟩;have:=Qep q3 q4 (i:=l) zE;simp[this];omega
 have bn:(execOp a.eval ⟨dst,.entryStore t x k y,ty,pos,after,guard⟩).run P w=.ok .skip (w.putObj b (.map (es.modify j fun q=>{q with val:=a.eval y}) es.size)):=by
  simp[execOp,Instr.entryStore,hv,cA,h2.aI,asInt,asIntOf,CU,bY]
 have o9:=q4 j (kvs[j]'zu).1 (kvs[j]'zu).2 es[j] (by simp[zu]) (by simp[uK])
 obtain⟨g1,g2⟩:=hm.rq hb (wJ (j:=j) (n:=(kvs[j]'zu).1) (c:=e (aB y)) (f:=fun q=>{q with val:=a.eval y}) o9.1 q3 q4 zu fun e he=>⟨by
  have:=q4 j (kvs[j]'zu).1 (kvs[j]'zu).2 e (by simp[zu]) he;exact this.2.1,rfl,h3⟩)
 intro rd next Q hn
 have XH:(kvs.getD (Int.toNat (j:Int)) ([],.junk)).1=(kvs[j]'zu).1:=by simp[List.getD,zu]
 rw[XH]at hK;refine oQ bn (hn undef _ γ _ _ hK rfl g1 ?_ (.junk _));rw[mF m id aK];exact g2
def RG(hm:au N w0 aq γ w m.B m.L){t:TypeId}{x:Operand}(h1:aC w γ (e (aB x)) (a.eval x))
  (h:((sop P gl orc e m dst (tr P ⟨dst,.range t x,ty,pos,after,guard⟩)).1/\K (sop P gl orc e m dst (tr P ⟨dst,.range t x,ty,pos,after,guard⟩)).2.1 (sop P gl orc e m dst (tr P ⟨dst,.range t x,ty,pos,after,guard⟩)).2.2)):Kw N w0 aq P ⟨dst,.range t x,ty,pos,after,guard⟩ a γ w (m.st,m.ln) K:=by
 simp only[tr]at h;split at h
 case h_2=>exact h.1.elim
 rename_i p ht;obtain⟨kn,z⟩:=p;simp only[sop]at h;split at h
 case h_2=>exact h.1.elim
 rename_i id e1;rw[e1]at h1;split at h
 case h_2=>exact h.1.elim
 rename_i AW kvs fH;obtain⟨kt,vt,i,zv,hu,hk,hi,hz,rfl⟩:=kX ht;obtain⟨aK,C1⟩:=nG fH;obtain⟨b,es,hb,hv,q2,q3,q4⟩:=hm.jo h1 C1;have cL:m.B m.boxes.length=none:=by simp[AM.B]
 obtain⟨g1,g2⟩:=hm.K7 _ cL (x:=.mitr id kvs.length []) (o:=.mapIter (some b) es.size #[] es.size) ⟨hb,q3.symm,q3.symm,rfl⟩
 have bn:(execOp a.eval ⟨dst,.range t x,ty,pos,after,guard⟩).run P w=.ok (.value (.pointer (some ⟨w.heap.size,0,none⟩))) (w.alloc (.mapIter (some b) es.size #[] es.size)):=by
  simp[execOp,hv,run_range_map w t kt vt b es es.size hu q2]
 intro rd next Q hn
 refine Zm bn (hn _ _ (γ.gP m.boxes.length w.heap.size) _ _ h.2 rfl g1 ?_ (.it (by simp[G.gP])));rw[TW];exact g2
def Lb(hm:au N w0 aq γ w m.B m.L){t:TypeId}{l c:Operand}(h0:aC w γ (e (aB l)) (a.eval l))(h1:aC w γ (e (aB c)) (a.eval c))
  (h:((sop P gl orc e m dst (tr P ⟨dst,.makeSlice t l c,ty,pos,after,guard⟩)).1/\K (sop P gl orc e m dst (tr P ⟨dst,.makeSlice t l c,ty,pos,after,guard⟩)).2.1 (sop P gl orc e m dst (tr P ⟨dst,.makeSlice t l c,ty,pos,after,guard⟩)).2.2)):Kw N w0 aq P ⟨dst,.makeSlice t l c,ty,pos,after,guard⟩ a γ w (m.st,m.ln) K:=by
 simp only[tr]at h;split at h
 case h_2=>exact h.1.elim
 rename_i te hu;split at h
 case h_3=>exact h.1.elim
 case h_2=>
  rename_i i hi C2;split at h
  case h_2=>exact h.1.elim
  rename_i zs CS;obtain⟨i',z,di,hz,K1⟩:=jk (w:=w) (γ:=γ) CS;rw[hi]at di;cases di;simp only[sop]at h;split at h
  case h_2=>exact h.1.elim
  rename_i k1 n1 k2 n2 e1 e2;rw[e1]at h0;rw[e2]at h1;obtain⟨⟨⟨g0,g1,g2,g3⟩,g4,g5⟩,g6⟩:=h;have bn:=run_make (P:=P) w t te i z hu hi hz k1 k2 n1 n2 g0 zE g2 g3;have aK:m.B m.boxes.length=none:=by simp[AM.B]
  have gO:=Yq K1 g5;have FH:z.cells.size=zs.length:=by have:=K1.1;simp at this;omega
  intro rd next Q hn
  refine Zm (v:=.slice (some ⟨w.heap.size,0,none⟩) n1.toNat n2.toNat) (w':=w.alloc (.cells (madeCells z.cells (n2.toNat*i.size)) te)) (by simp[execOp,h0.aI,h1.aI,bn])
   (hn _ _ (γ.box m.boxes.length w.heap.size) _ _ g6 rfl (hm.dB _ aK _) ?_ ?_)
  ·rw[TW]
   have zL:∀v∈(madeCells z.cells (n2.toNat*i.size)).toList,v.oneCell'=true:=fun v hv=>by
    simp[madeCells]at hv;obtain⟨k,hk,rfl⟩:=hv
    have h0:0<z.cells.size:=by
     rcases zzcn z.cells.size with h0|h0
     ·rw[h0]at FH;rw[<- g4,<- FH]at hk;simp at hk
     exact h0
    have ai:k%z.cells.size<z.cells.size:=zzed _ h0;rw[getElem!_pos z.cells _ ai];exact gO _ zd
   refine hm.fG _ aK ⟨by simp[Kt,size_madeCells,g4],fun k c v j1 j2=>?_⟩ zL;obtain⟨q1,q2⟩:=kZ j1
   have h0:0<zs.length:=by
    rcases zzcn zs.length with h0|h0
    ·simp[h0]at q1
    exact h0
   have ai:k%zs.length<z.cells.size:=by rw[FH];exact zzed _ h0
   have CX:v=z.cells[k%zs.length]:=by
    simp only[madeCells,zzce,zzgh]at j2;rw[zzaj (by simp;rw[<- g4];exact q1)]at j2;simp[FH]at j2;rw[<- j2,getElem!_pos z.cells _ ai]
   subst CX;exact K1.2 _ c _ q2 (by simp[ai])
  exact .bs (arr:=madeCells z.cells (n2.toNat*i.size)) (e:=te) (by simp[G.box]) zE (by show(w.heap.push _)[w.heap.size]?=_;simp) (by rw[zzbw,size_madeCells];exact zzab _)
 rename_i i hi;split at h
 case isFalse=>exact h.1.elim
 rename_i jm;simp only[zzak,beq_iff_eq,bne_iff_ne]at jm;obtain⟨jm,hi0⟩:=jm
 obtain⟨z,hz,CS,hzo⟩:∃z,i.zero=some z/\z.cells.size=i.size/\∀v∈z.cells,v.oneCell'=true:=by
  cases hz:i.zero with
  |none=>simp[hz]at jm
  |some z=>
   simp[hz]at jm
   exact⟨z,rfl,jm.1,fun v hv=>by
    obtain⟨k,hk,rfl⟩:=zzhp.1 hv;exact jm.2 k hk⟩
 have XX:∀(n:Nat),z.cells.size≠0->∀v∈(madeCells z.cells n).toList,v.oneCell'=true:=fun n h0 v hv=>by
  simp[madeCells]at hv;obtain⟨k,hk,rfl⟩:=hv;have ai:k%z.cells.size<z.cells.size:=zzed _ zE;rw[getElem!_pos z.cells _ ai];exact hzo _ zd
 simp only[sop]at h;split at h
 case h_2=>exact h.1.elim
 rename_i kk n e1;rw[e1]at h1;have K2:a.eval (.const (.int .i64 0))=.int .i64 0:=rfl;split at h
 ·split at h
  ·rename_i hc0;obtain⟨⟨g1,g2,g3⟩,g4⟩:=h;have bn:=run_make (P:=P) w t te i z hu hi hz .i64 kk 0 n (zzbq _) g1 g2 g3;intro rd next Q hn
   have aK:m.B m.boxes.length=none:=by simp[AM.B]
   refine Zm (v:=.slice (some ⟨w.heap.size,0,none⟩) 0 n.toNat) (w':=w.alloc (.cells (madeCells z.cells (n.toNat*i.size)) te)) (by simp[execOp,K2,h1.aI,bn])
    (hn _ _ (γ.box m.boxes.length w.heap.size) _ _ g4 rfl (hm.dB _ aK _) ?_ ?_)
   ·rw[TW];exact hm.fG _ aK ⟨zd,fun k c v j1 j2=>by simp at j1⟩ (by rw[hc0];simp[madeCells])
   exact .sl (rows:=[]) w.heap.size 0 i.size (fun _ _=>undef) (zzbt _) (fun h=>(by cases h)) (fun h=>absurd rfl h) (fun _ h=>by cases h) (fun i j c h=>by simp[Qv]at h) (fun i j c h=>by simp[Qv]at h) (by simpa[tY]using hc0)
  obtain⟨⟨g1,g2,g3⟩,g4⟩:=h;have bn:=run_make (P:=P) w t te i z hu hi hz .i64 kk 0 n (zzbq _) g1 g2 g3;have aK:m.B m.boxes.length=none:=by simp[AM.B]
  intro rd next Q hn
  refine Zm (v:=.slice (some ⟨w.heap.size,0,none⟩) 0 n.toNat) (w':=w.alloc (.cells (madeCells z.cells (n.toNat*i.size)) te)) (by simp[execOp,K2,h1.aI,bn])
   (hn _ _ (γ.box m.boxes.length w.heap.size) _ _ g4 rfl (hm.dB _ aK _) ?_ ?_)
  ·rw[TW];refine hm.fG _ aK ⟨by simp[size_madeCells],fun k c v j1 j2=>?_⟩ (XX _ zE);simp[zzcp]at j1;rw[<- j1.2];exact .junk _
  exact .bs (arr:=madeCells z.cells (n.toNat*i.size)) (e:=te) (by simp[G.box]) zE (by show(w.heap.push _)[w.heap.size]?=_;simp) (by rw[zzbw,size_madeCells];exact zzab _)
 obtain⟨⟨g1,g2,g3⟩,g4⟩:=h;have bn:=run_make (P:=P) w t te i z hu hi hz .i64 kk 0 n (zzbq _) g1 g2 g3;have hL:m.L m.lens.length=none:=by simp[AM.L]
 have dH:γ.cur m.lens.length=0:=hm.cur0 _ hL
 have fh:γ.own m.lens.length=none:=by
  cases h:γ.own m.lens.length with
  |none=>rfl
  |some b=>obtain⟨_,_,k,hk⟩:=hm.own _ _ h;rw[hL]at hk;cases hk
 intro rd next Q hn
 let o:Obj:=.cells (madeCells z.cells (n.toNat*i.size)) te
 refine Zm (v:=.slice (some ⟨w.heap.size,0,none⟩) 0 n.toNat) (w':=w.alloc o) (by simp[execOp,K2,h1.aI,bn,o])
  (hn _ _ (γ.renew m.lens.length w.heap.size 0 0) _ _ g4 rfl (hm.gj (q:=0) zE (fun _=>fh) o) ?_ ?_)
 ·rw[CY];exact hm.renew zE (fun _=>fh) o
 refine .sl (rows:=[]) w.heap.size 0 i.size (fun _ _=>undef) (zzbt _) (fun h=>(by cases h)) (fun h=>absurd rfl h) (fun _ h=>by cases h) (fun i j c h=>by simp[Qv]at h) (fun i j c h=>by simp[Qv]at h) ?_;refine⟨rfl,zzbt _,fun _=>.inr ⟨w.heap.size,0,madeCells z.cells (n.toNat*i.size),te,rfl,by simp[G.renew],by show(w.heap.push _)[w.heap.size]?=_;simp[o],by simp[size_madeCells],fun o' _ hr=>?_⟩⟩;obtain hr|⟨_,hr⟩:=hr
 ·have:=hm.robd _ _ hr;omega
 omega
def RH(hm:au N w0 aq γ w m.B m.L)(ji:∀g,aC w γ.cT (gl g) (.pointer (some ⟨g,0,none⟩))){t:TypeId}{len:Nat}{parts:Array (Nat×Operand)}(he:∀x∈(Op.buildSlice t len parts).operands,aC w γ (e (aB x)) (a.eval x))
  (h:((sop P gl orc e m dst (tr P ⟨dst,.buildSlice t len parts,ty,pos,after,guard⟩)).1/\K (sop P gl orc e m dst (tr P ⟨dst,.buildSlice t len parts,ty,pos,after,guard⟩)).2.1 (sop P gl orc e m dst (tr P ⟨dst,.buildSlice t len parts,ty,pos,after,guard⟩)).2.2)):
  Kw N w0 aq P ⟨dst,.buildSlice t len parts,ty,pos,after,guard⟩ a γ w (m.st,m.ln) K:=by
 by_cases hmut:mutO orc dst=true
 case neg=>
  refine ri (o:=⟨dst,.buildSlice t len parts,ty,pos,after,guard⟩) (orc:=orc) hm ji he ?_;simp only[tr]at h |-
  repeat' split at h
  all_goals first|exact h.1.elim|skip
  simp only[sop,if_neg hmut]at h;simp_all
 have h1:∀p∈parts,aC w γ (e (aB p.2)) (a.eval p.2):=fun p hp=>he p.2 (by simp[Op.operands];exact⟨p.1,hp⟩);simp only[tr]at h;split at h
 case h_2=>exact h.1.elim
 rename_i te hu;split at h
 case h_2=>exact h.1.elim
 rename_i i hi;split at h
 case isFalse=>exact h.1.elim
 rename_i bU;simp only[zzak,beq_iff_eq,bne_iff_ne,decide_eq_true_eq]at bU;obtain⟨⟨hz,OC⟩,wj⟩:=bU;cases jm:i.zero with
 |none=>simp[jm]at hz
 |some z=>
  simp[jm]at hz;simp only[sop,if_pos hmut]at h;obtain⟨⟨fN,zJ⟩,hk⟩:=h
  let eu:Array Value:=(Array.range (len*i.size)).map (z.cells[·%z.cells.size]!)
  have ud:ak w γ (List.replicate (len*i.size) .junk) eu.toList:=by
   refine⟨by simp[eu],fun j x v hj _=>?_⟩;simp[zzcp]at hj;rw[<- hj.2];exact .junk _
  obtain⟨cells,f1,f2,f3⟩:=Qbt (w:=w) (γ:=γ) (place:=fun j=>some (j*i.size,i.size)) (parts.toList.map fun p=>(p.1*i.size,i.size,e (aB p.2))) (parts.toList.map fun p=>(p.1,a.eval p.2)) _ eu zd (fun j p q ek oD=>by
    simp at ek oD;obtain⟨x1,x2,Q9,rfl⟩:=ek;obtain⟨y1,y2,hy1,rfl⟩:=oD;rw[Q9]at hy1;cases hy1;exact⟨rfl,h1 (x1,x2) (zzdc Q9)⟩) ud (by simpa[Function.comp_def]using fN)
  have Rl:(fillA (List.replicate (len*i.size) .junk) ((parts.toList.map fun p=>(p.1,aB p.2)).map fun p=>(p.1*i.size,i.size,e p.2))).2=(fillA (List.replicate (len*i.size) .junk) (parts.toList.map fun p=>(p.1*i.size,i.size,e (aB p.2)))).2:=by
   simp[Function.comp_def]
  rw[Rl]at zJ hk;have qZ:cells.size=len*i.size:=by rw[f3];simp[eu]
  have bn:(execOp a.eval ⟨dst,.buildSlice t len parts,ty,pos,after,guard⟩).run P w=.ok (.value (.slice (some ⟨w.heap.size,0,none⟩) len len)) (w.alloc (.cells cells te)):=by
   have XC:¬(16777216<len*i.size):=zE
   by_cases kW:len*i.size=0
   ·have fJ:eu=(Array.range (len*i.size)).map ((#[]:Array Value)[·%(#[]:Array Value).size]!):=by
     simp[eu,kW]
    rw[fJ]at f1
    have ez:len=0:=by
     rcases Nat.mul_eq_zero.1 kW with h|h
     ·exact h
     exact absurd h OC
    simp[kW]at f1;simp[execOp,Instr.buildSlice,run_underlying hu,sizeOf,typeInfo,hi,kW,f1,newRow]
   simp only[execOp,Instr.buildSlice];have f1':Instr.fill (fun j=>some (j*i.size,i.size)) ((Array.range (len*i.size)).map (z.cells[·%z.cells.size]!)) (parts.toList.map fun p=>(p.1,a.eval p.2))=some cells:=f1;simp[run_underlying hu,sizeOf,typeInfo,zeroValue,hi,jm,kW,XC,f1',newRow]
  have aK:m.B m.boxes.length=none:=by simp[AM.B]
  intro rd next Q hn
  refine Zm bn (hn _ _ (γ.box m.boxes.length w.heap.size) _ _ hk rfl (hm.dB _ aK _) ?_ ?_)
  ·rw[TW];exact hm.fG _ aK f2.toP (Yq f2 zJ)
  exact .bs (arr:=cells) (e:=te) (by simp[G.box]) (zzab _) (by show(w.heap.push _)[w.heap.size]?=_;simp) (by rw[zzbw,qZ];exact zzab _)
def Ba(hm:au N w0 aq γ w m.B m.L)(ji:∀g,aC w γ.cT (gl g) (.pointer (some ⟨g,0,none⟩)))
  (he:∀x∈o.op.operands,aC w γ (e (aB x)) (a.eval x))(h:((sop P gl orc e m o.dst (tr P o)).1/\K (sop P gl orc e m o.dst (tr P o)).2.1 (sop P gl orc e m o.dst (tr P o)).2.2)):Kw N w0 aq P o a γ w (m.st,m.ln) K:=by
 have EI:sop P gl orc e m o.dst (tr P o)=((rop P gl orc e m o.dst (tr P o)).1,(rop P gl orc e m o.dst (tr P o)).2,m)->Kw N w0 aq P o a γ w (m.st,m.ln) K:=fun hg=>
  ri hm ji he (by rw[hg]at h;exact h)
 obtain⟨dst,op,ty,pos,after,guard⟩:=o;cases op with
 |alloc t=>exact FF hm h
 |box t x=>exact Rz hm (he x (by simp[Op.operands])) h
 |store t x y=>exact FG hm (he x (by simp[Op.operands])) (he y (by simp[Op.operands])) h
 |call c=>exact RC hm ji he h
 |makeMap t r=>exact FJ hm h
 |mapUpdate t x k y=>exact K8 hm (he x (by simp[Op.operands])) (he k (by simp[Op.operands])) (he y (by simp[Op.operands])) h
 |mapEntry t x k=>exact K9 hm (he x (by simp[Op.operands])) (he k (by simp[Op.operands])) h
 |entryStore t x k y=>exact La hm (he x (by simp[Op.operands])) (he k (by simp[Op.operands])) (he y (by simp[Op.operands])) h
 |range t x=>exact RG hm (he x (by simp[Op.operands])) h
 |next x s=>refine EI ?_;cases s<;>rfl
 |makeSlice t l c=>exact Lb hm (he l (by simp[Op.operands])) (he c (by simp[Op.operands])) h
 |buildSlice t len parts=>exact RH hm ji he h
 |binOp op t x y t'=>
  refine EI ?_;simp only[tr,mE,Qcs,zG];repeat' split
  all_goals rfl
 |build t parts=>
  refine EI ?_;simp only[tr,Wt];repeat' split
  all_goals rfl
 |slice t x lo hi mx=>refine EI ?_;cases mx<;>simp only[tr]<;>(repeat' split)<;>rfl
 |makeFunc fn first cap=>refine EI ?_;cases fn<;>rfl
 |_=>first|exact EI rfl|(
  refine EI ?_;simp only[tr];repeat' split
  all_goals rfl)
end
open Go Go.RowKit
structure SO where
 dst:Option Nat
 op:aF
 guard:Option (Option Nat×Bool)
 xs:List bN
def Xm(P:Program)(ops:Array Oper)(o:Oper):SO:=
 {dst:=o.dst,op:=tr P o,guard:=o.guard.map fun p=>((ops[p.1]?).bind (·.dst),p.2),xs:=if o.guard.isSome then o.op.operands.toList.map aB else[]}
structure AS where
 T:List AV
 m:AM
def put(T:List AV)(dst:Option Nat)(a:AV):List AV:=match dst with|some d=>T.set d a|none=>T
def strip:AV->AV
 |.gd _ a=>a
 |a=>a
def evS(gl:Nat->AV)(T:List AV)(x:bN):AV:=strip (ev gl T x)
def gok(gl:Nat->AV)(T:List AV)(g:Bool):List bN->Prop
 |[]=>True
 |x::r=>(match ev gl T x with|.gd g' _=>(g=true->g'=true)|_=>True)/\gok gl T g r
def rawOp:aF->Bool
 |.pick _ _ _=>true
 |_=>false
def evG(gl:Nat->AV)(T:List AV)(op:aF):bN->AV:=bif rawOp op then ev gl T else evS gl T
def gxs(op:aF)(xs:List bN):List bN:=bif rawOp op then[]else xs
def JH(want:Bool):AV->Option Bool
 |.bool g=>some (g==want)
 |.gd d (.bool b)=>some (d&&(b==want))
 |.gd false _=>some false
 |_=>none
abbrev YT:=Nat->List AV->AM->(Bool->AM->Prop)->Prop
def ru:Exit->Option Code
 |.ret=>some .ret
 |.exit id=>some (.exit id)
 |_=>none
def Lc:LS->Loop->Prop
 |.gone,_=>True
 |.ready,r=>r.state=.ready/\r.pending=none
 |.busy,r=>r.state=.busy
 |.done ex,r=>r.state=.done/\r.pending=ru ex/\(ru ex).isSome=true
def cZ(γ:G)(w:World)(m:AM):Prop:=(∀i,m.st i=.gone\/∃l,γ.lp i=some l/\γ.sp l/\∃r,w.heap[l]?=some (.loop r)/\Lc (m.st i) r)/\
 (∀i,m.ln<=i->γ.lp i=none)/\(∀i j l,γ.lp i=some l->γ.lp j=some l->i=j)/\∀i l,γ.lp i=some l->γ.sp l/\∃r,w.heap[l]?=some (.loop r)
def cZ.mono'{γ:G}{w:World}{m m':AM}(h:cZ γ w m){γ':G}{w':World}(e:Ev w γ w' γ')(hm:(m'.st,m'.ln)=(m.st,m.ln)):cZ γ' w' m':=by
 simp only[Prod.mk.injEq]at hm;unfold cZ;rw[hm.1,hm.2,e.lp];exact⟨fun i=>(h.1 i).imp_right fun⟨l,h0,h1,r,h2,h3⟩=>⟨l,h0,(e.sp l h1).1,r,(e.sp l h1).2.trans h2,h3⟩,h.2.1,h.2.2.1,fun i l hl=>let⟨h1,r,h2⟩:=h.2.2.2 i l hl;⟨(e.sp l h1).1,r,(e.sp l h1).2.trans h2⟩⟩
def cZ.mono{γ:G}{w:World}{m:AM}(h:cZ γ w m){γ':G}{w':World}(e:Ev w γ w' γ'):cZ γ' w' m:=h.mono' e rfl
def YOK(N:Nat)(w0:fF)(aq:Nat->Nat->Prop)(P:Program)(Y:YT)(γ:G)(w:World):Prop:=∀(γ':G)(w':World),eP w γ w' γ'->∀(i:Nat)(args:List AV)(m:AM)(K:Bool->AM->Prop)(vs:List Value),
 au N w0 aq γ' w' m.B m.L->cZ γ' w' m->ak w' γ' args vs->Y i args m K->∀l,γ'.lp i=some l->
 YieldAt (FW none) 0 P l vs.toArray w' fun e uG=>∃b EF lU,e=.returned (.bool b)/\eP w' γ' uG EF/\au N w0 aq EF uG lU.B lU.L/\cZ EF uG lU/\K b lU
def YOK.mono{N:Nat}{w0:fF}{aq:Nat->Nat->Prop}{P:Program}{Y:YT}{γ:G}{w:World}(h:YOK N w0 aq P Y γ w){γ':G}{w':World}(e:eP w γ w' γ'):YOK N w0 aq P Y γ' w':=
 fun EF uG e'=>h EF uG (e.trans e')
def an(P:Program)(gl:Nat->AV)(Y:YT)(f:FuncId)(as:List AV)(m:AM)(K:AV->AM->Prop):Prop:=
 bD P f/\∀(N:Nat)(w0:fF)(aq:Nat->Nat->Prop)(γ:G)(w:World)(vs:List Value),au N w0 aq γ w m.B m.L->cZ γ w m->(∀g,aC w γ.cT (gl g) (.pointer (some ⟨g,0,none⟩)))->
  YOK N w0 aq P Y γ w->ak w γ as vs->
  CallsIn (FW none) 0 P f vs.toArray w fun e w'=>∃v γ' r m',e=.returned v/\eP w γ w' γ'/\au N w0 aq γ' w' m'.B m'.L/\cZ γ' w' m'/\aC w' γ' r v/\K r m'
section vc
variable (P:Program) (gl:Nat->AV) (orc:Nat->FuncId->List AV->AV) (Y:YT)
def effy(e:bN->AV)(m:AM)(dst:Option Nat):aF->Bool
 |.call f args=>(match e f with
  |.yld _=>true
  |.fn f first cap=>(match orc (dst.getD 0) f ((first++args.map e++cap).map (bJ m 6))with|.gd false _=>true|_=>false)
  |_=>false)
 |.nxt _=>true
 |_=>false
def vcNxt(m:AM)(K:AV->AM->Prop):AV->Prop
 |.it id=>(match m.boxes.getD id []with
  |[.mitr mid n seen]=>(match m.boxes.getD mid []with
   |[.aL kn kvs]=>kvs.length=n/\(∀i k c,kvs[i]?=some (k,c)->i ∉ seen->K (.aZ [.bool true,keyAV kn k,c]) {m with boxes:=m.boxes.set id [.mitr mid n (seen++[i])]})/\
     ((∀i,i<n->i∈seen)->K (.aZ [.bool false]) m)
   |_=>False)
  |_=>False)
 |_=>False
def Qcc(e:bN->AV)(m:AM)(K:AV->AM->Prop):aF->Prop
 |.call f args=>(match e f with
  |.yld l=>Y l (args.map e) m fun b m'=>K (.bool b) m'
  |.fn f first cap=>an P gl Y f (first++args.map e++cap) m K
  |_=>False)
 |.nxt x=>vcNxt m K (e x)
 |_=>False
def Zy:List SO->AS->(AS->Prop)->Prop
 |[],s,K=>K s
 |o::rest,s,K=>match o.guard with
  |none=>if effy orc (ev gl s.T) s.m o.dst o.op=true then Qcc P gl Y (ev gl s.T) s.m (fun av m'=>Zy rest ⟨put s.T o.dst av,m'⟩ K) o.op
   else(sop P gl orc (ev gl s.T) s.m o.dst o.op).1/\Zy rest ⟨put s.T o.dst (sop P gl orc (ev gl s.T) s.m o.dst o.op).2.1,(sop P gl orc (ev gl s.T) s.m o.dst o.op).2.2⟩ K
  |some (some t,want)=>match JH want (s.T.getD t .junk)with
   |some gw=>gok gl s.T gw (gxs o.op o.xs)/\
     if effy orc (evG gl s.T o.op) s.m o.dst o.op=true then
      (gw=true->Qcc P gl Y (evG gl s.T o.op) s.m (fun av m'=>Zy rest ⟨put s.T o.dst (.gd true av),m'⟩ K) o.op)/\(gw=false->Zy rest ⟨put s.T o.dst (.gd false (.bool false)),s.m⟩ K)
     else(gw=true->(rop P gl orc (evG gl s.T o.op) s.m o.dst o.op).1)/\
      Zy rest ⟨put s.T o.dst (.gd gw (rop P gl orc (evG gl s.T o.op) s.m o.dst o.op).2),s.m⟩ K
   |none=>False
  |some (none,_)=>False
end vc
def Dfr(n0:Nat)(γ:G)(w:World)(ds:List Deferred):Prop:=
 n0<=w.heap.size/\(∀x∈ds,∃D,x.target=.collected D/\n0<=D/\γ.sp D/\w.heap[D]?=some (.deferred (some [])))/\ds.Pairwise fun x y=>∀D,x.target=.collected D->y.target≠.collected D
def Dfr.aW{n0:Nat}{γ:G}{w:World}{ds:List Deferred}(h:Dfr n0 γ w ds){γ':G}{w':World}(e:eP w γ w' γ'):Dfr n0 γ' w' ds:=
 ⟨zzbg h.1 e.size,fun x hx=>let⟨D,h1,h0,h2,h3⟩:=h.2.1 x hx;⟨D,h1,h0,(e.sp D h2).1,by
  rcases(e.sp D h2).2 with h|⟨r,_,_,h,_⟩
  ·exact h.trans h3
  rw[h3]at h;cases h⟩,h.2.2⟩
def Rdr(r:Option Nat)(γ:G)(w:World):Prop:=∀l,r=some l->γ.sp l/\∃rec,w.heap[l]?=some (.loop rec)
def Rdr.aW{r:Option Nat}{γ:G}{w:World}(h:Rdr r γ w){γ':G}{w':World}(e:eP w γ w' γ'):Rdr r γ' w':=
 fun l hl=>let⟨h1,rec,h2⟩:=h l hl;⟨(e.sp l h1).1,by
  rcases(e.sp l h1).2 with h|⟨r,s,p,_,h⟩
  ·exact⟨rec,h.trans h2⟩
  exact⟨_,h⟩⟩
structure fc (N:Nat) (w0:fF) (r:Option Nat) (aq:Nat->Nat->Prop) (S:G×World) (P:Program) (gl:Nat->AV) (Y:YT) (γ:G) (w:World) (s:AS) (a:Act):Prop where
 m:au N w0 aq γ w s.m.B s.m.L
 ls:cZ γ w s.m
 rd:Rdr r γ w
 t:ak w γ s.T a.tmps.toList
 d:Dfr S.2.heap.size γ w a.defers
 g:∀g,aC w γ.cT (gl g) (.pointer (some ⟨g,0,none⟩))
 y:YOK N w0 aq P Y γ w
 e:eP S.2 S.1 w γ
section
variable {N:Nat} {w0:fF} {r:Option Nat} {aq:Nat->Nat->Prop} {S:G×World} {Y:YT} {γ:G} {w:World} {P:Program} {gl:Nat->AV} {orc:Nat->FuncId->List AV->AV} {s:AS} {a:Act}
def fc.ev(h:fc N w0 r aq S P gl Y γ w s a)(x:Operand):aC w γ (ev gl s.T (aB x)) (a.eval x):=by
 cases x with
 |tmp t=>
  have:=h.t.get t;simpa[Abs.ev,aB,Act.eval,List.getD]using this
 |const v=>exact Ke w γ v
 |func f=>exact .fn rfl (fun i c v h=>by simp at h) rfl fun i c v h=>by simp at h
 |global g=>exact(h.g g).gK
def fc.amz(h:fc N w0 r aq S P gl Y γ w s a){dst:Option Nat}{av:AV}{v:Value}{w':World}{γ':G}{m':AM}(e:eP w γ w' γ')(hm:au N w0 aq γ' w' m'.B m'.L)(hl:cZ γ' w' m')(hr:aC w' γ' av v):
  fc N w0 r aq S P gl Y γ' w' ⟨Abs.put s.T dst av,m'⟩ (a.put dst v):=by
 refine⟨hm,hl,h.rd.aW e,?_,?_,fun g=>(h.g g).aW e.cT,h.y.mono e,h.e.trans e⟩
 ·cases dst with
  |none=>exact h.t.aW e
  |some d=>
   simp only[Abs.put,Act.put,zzdj];exact(h.t.aW e).set d hr
 cases dst<;>exact h.d.aW e
def fc.put(h:fc N w0 r aq S P gl Y γ w s a){dst:Option Nat}{av:AV}{v:Value}{w':World}{γ':G}{m':AM}(e:Ev w γ w' γ')(hm:au N w0 aq γ' w' m'.B m'.L)(ho:(m'.st,m'.ln)=(s.m.st,s.m.ln))(hr:aC w' γ' av v):
  fc N w0 r aq S P gl Y γ' w' ⟨Abs.put s.T dst av,m'⟩ (a.put dst v):=h.amz e.cK hm (h.ls.mono' e ho) hr
def C4{T:List AV}{g:Bool}:∀{xs:List bN},gok gl T g xs->∀x∈xs,∀g' b,Abs.ev gl T x=.gd g' b->g=true->g'=true
 |[],_,x,hx,_,_,_,_=>by cases hx
 |y::ys,h,x,hx,g',b,he,hg=>by
  obtain⟨h1,h2⟩:=h;rcases zzat.1 hx with rfl|hx
  ·rw[he]at h1;exact h1 hg
  exact C4 h2 x hx g' b he hg
def Bb{x:AV}{v:Value}(h:aC w γ x v)(hg:∀g b,x=.gd g b->g=true):aC w γ (strip x) v:=by
 cases x<;>first|exact h|skip
 rename_i g b;exact h.CP (hg g b rfl)
def FL{c:Call}{fo:bN}{xs:List bN}(h:Zv P c=.call fo xs):∃(f:Operand)(as:Array Operand)(ts:Array TypeId),c=⟨.value f,as,ts⟩/\fo=aB f/\xs=as.toList.map aB:=by
 obtain⟨callee,args,ts⟩:=c;cases callee with
 |value f=>cases h;exact⟨f,args,ts,rfl,rfl,rfl⟩
 |invoke r n=>cases h
 |builtin b=>cases b<;>simp only[Zv]at h<;>(repeat' split at h)<;>cases h
def afc{o:Oper}{fo:bN}{xs:List bN}(h:tr P o=.call fo xs):∃(f:Operand)(as:Array Operand)(ts:Array TypeId),o.op=.call ⟨.value f,as,ts⟩/\fo=aB f/\xs=as.toList.map aB:=by
 obtain⟨dst,op,ty,pos,after,guard⟩:=o;cases op
 case call c=>
  obtain⟨f,as,ts,rfl,h1,h2⟩:=FL h;exact⟨f,as,ts,rfl,h1,h2⟩
 case next x s=>cases s<;>cases h
 case build t parts=>
  simp only[tr,Wt]at h;repeat' split at h
  all_goals cases h
 case slice t x lo hi mx=>cases mx<;>simp only[tr]at h<;>(repeat' split at h)<;>cases h
 case makeFunc fn a b=>cases fn<;>cases h
 case makeMap t r=>cases r<;>simp only[tr]at h<;>(try split at h)<;>cases h
 case binOp op t x y t'=>
  simp only[tr,mE,Qcs,zG]at h;repeat' split at h
  all_goals cases h
 all_goals first|(cases h;done)|(
  simp only[tr]at h;repeat' split at h
  all_goals cases h)
def amA{o:Oper}{xo:bN}(h:tr P o=.nxt xo):∃x:Operand,o.op=.next x false/\xo=aB x:=by
 obtain⟨dst,op,ty,pos,after,guard⟩:=o;cases op
 case next x s=>cases s<;>cases h;exact⟨x,rfl,rfl⟩
 case build t parts=>
  simp only[tr,Wt]at h;repeat' split at h
  all_goals cases h
 case slice t x lo hi mx=>cases mx<;>simp only[tr]at h<;>(repeat' split at h)<;>cases h
 case makeFunc fn a b=>cases fn<;>cases h
 case makeMap t r=>cases r<;>simp only[tr]at h<;>(try split at h)<;>cases h
 case binOp op t x y t'=>
  simp only[tr,mE,Qcs,zG]at h;repeat' split at h
  all_goals cases h
 case call c=>
  obtain⟨callee,args,ts⟩:=c;cases callee with
  |value f=>cases h
  |invoke r n=>cases h
  |builtin b=>cases b<;>simp only[tr,Zv]at h<;>(repeat' split at h)<;>cases h
 all_goals first|(cases h;done)|(
  simp only[tr]at h;repeat' split at h
  all_goals cases h)
def au.aj2{B:Nat->Option (List AV)}{L:Nat->Option Nat}(hm:au N w0 aq γ w B L):au N w0 aq γ w.drew B L/\Ev w γ w.drew γ:=by
 have bT:Ev w γ w.drew γ:=⟨zzab _,fun _ _ _ h=>⟨h,rfl⟩,fun _ _ h=>h,fun _=>zzab _,fun _ _ h=>h,rfl,fun _ _ _ ho=>⟨ho,fun arr _ he=>⟨arr,he,zzab _⟩,fun _ h=>h⟩,fun _ h=>⟨h,rfl⟩,Sz.of_same fun _ _=>rfl⟩;refine⟨⟨w0.st _ _ _ _ hm.bs ⟨rfl,rfl,rfl,zzab _,fun _ _ _=>rfl,bT.ro,fun _ h=>.inl h,fun _ _ h=>.inl h⟩,hm.hN,hm.aq,hm.robd,fun i cells b hb h1=>?_,hm.β,hm.inj,hm.own,hm.oinj,hm.sp,fun i b hb=>?_,hm.minj,hm.len,hm.cur0⟩,bT⟩
 ·obtain⟨arr,e,h2,h3,h4⟩:=hm.box i cells b hb h1;exact⟨arr,e,h2,h3.mono bT,h4⟩
 obtain⟨h1,h2,h3,h4,h5,h6,h8,h7⟩:=hm.mm i b hb;exact⟨h1,h2,h3,h4,h5,h6,h8,h7.mono bT.cK.AR rfl⟩
def wK{es:Array MapEntry}{seen:Array Nat}{x:MapEntry}:x∈(leftOf es seen).toList<->x∈es.toList/\x.born ∉ seen.toList:=by
 simp[leftOf]
def RI{m:AM}(hm:au N w0 aq γ w m.B m.L){x:AV}{v:Value}{K:AV->AM->Prop}(h1:aC w γ x v)(h:vcNxt m K x)(ty:TypeId):
  ∃u w' av m',(Instr.next v false ty).run P w=.ok u w'/\K av m'/\Ev w γ w' γ/\au N w0 aq γ w' m'.B m'.L/\aC w' γ av u/\(m'.st,m'.ln)=(m.st,m.ln):=by
 unfold vcNxt at h;split at h
 case h_2=>exact h.elim
 rename_i id;split at h
 case h_2=>exact h.elim
 rename_i mid n seen fH;split at h
 case h_2=>exact h.elim
 rename_i kn kvs fI;obtain⟨hn,hK1,hK2⟩:=h;obtain⟨aK,C1⟩:=nG fH;obtain⟨XY,arH⟩:=nG fI;obtain⟨b,mb,hb,rfl,q1,q2⟩:=hm.OD h1 C1;obtain⟨b',es,cO,CX,q3,q4,q5⟩:=hm.jo (v:=.map (some mb)) (.mp q2) arH;cases CX
 have XN:∀y∈es.toList,y.born<n:=fun y hy=>by
  obtain⟨j,hj,rfl⟩:=zzgc hy;simp at hj;have:=Qep q4 q5 hj;simp only[Array.getElem_toList];omega
 rcases run_next_at (P:=P) w ty b mb n n seen.toArray es es.size q1 q3 XN (zzab _)with⟨g1,g2⟩|⟨y,g1,w1,g2,g3⟩
 ·refine⟨_,w,.aZ [.bool false],m,g2,hK2 fun i hi=>?_,Ev.refl w γ,hm,(ak.cons (.bool false) ak.nil).zM,rfl⟩;have hie:i<es.size:=zE
  have hnil:leftOf es seen.toArray=#[]:=zzen g1;have:es[i] ∉ (leftOf es seen.toArray).toList:=by rw[hnil];simp
  rw[wK]at this;simp only[not_and,Decidable.not_not]at this;have:=this zd;rw[Qep q4 q5 hie]at this;simpa using this
 obtain⟨g4,g5⟩:=wK.1 g1;obtain⟨i,hi,rfl⟩:=zzgc g4;simp at hi;simp only[Array.getElem_toList]at g3 g5;have dL:=Qep q4 q5 hi;have ry:i<kvs.length:=zE
 obtain⟨p1,p2,_,p3⟩:=q5 i (kvs[i]'ry).1 (kvs[i]'ry).2 es[i] (by simp[ry]) (by simp[hi])
 have oG:au N w0 aq γ w1 m.B m.L/\Ev w γ w1 γ:=by
  obtain rfl|rfl:=g2
  ·exact⟨hm,Ev.refl _ γ⟩
  exact hm.aj2
 obtain⟨oG,fK⟩:=oG;obtain⟨f1,f2⟩:=oG.rq hb (x:=.mitr mid n (seen++[i])) (o:=.mapIter (some mb) n (seen.toArray.push es[i].born) es.size) ⟨q2,rfl,zE,by simp[dL]⟩;refine⟨_,_,_,_,g3,hK1 i (kvs[i]'ry).1 (kvs[i]'ry).2 (by simp[ry]) (by rw[dL]at g5;simpa using g5),fK.trans f1,?_,?_,rfl⟩
 ·rw[mF m id aK];exact f2
 rw[p2];exact((ak.cons (.bool true) (ak.cons (A3 p1) (ak.cons p3 ak.nil))).mono (fK.trans f1)).zM
def Qdm{o:Oper}{e:bN->AV}{Q:Exit->Act->World->Prop}{K:AV->AM->Prop}(hs:fc N w0 r aq S P gl Y γ w s a)(he:∀x∈o.op.operands,aC w γ (e (aB x)) (a.eval x))(h:Qcc P gl Y e s.m K (tr P o))
  {next:Act->World->Prop}(hn:∀v w' γ' av m',K av m'->eP w γ w' γ'->au N w0 aq γ' w' m'.B m'.L->cZ γ' w' m'->aC w' γ' av v->next (a.put o.dst v) w'):o.wpIn (FW r) 0 P a w next Q:=by
 obtain⟨dst,op,ty,pos,after,guard⟩:=o;cases eR:tr P ⟨dst,op,ty,pos,after,guard⟩with
 |call fo args=>
  rw[eR]at h;obtain⟨f,as,ts,rfl,rfl,rfl⟩:∃(f:Operand)(as:Array Operand)(ts:Array TypeId),op=.call ⟨.value f,as,ts⟩/\fo=aB f/\args=as.toList.map aB:=by simpa using afc eR
  simp only[Qcc]at h;have h1:=he f (by simp[Op.operands,Call.operands]);have h2:∀x∈as,aC w γ (e (aB x)) (a.eval x):=fun x hx=>he x (by simp[Op.operands,Call.operands,hx]);have oR:=A6 h2;split at h
  ·rename_i i e1;rw[e1]at h1
   obtain⟨l,hl,hv⟩:∃l,γ.lp i=some l/\a.eval f=.func (.yield l) #[] #[]:=by
    generalize a.eval f=v at h1;cases h1 with
    |yld h=>exact⟨_,h,rfl⟩
   obtain⟨fn,tmps,assign,body,hy,hR⟩:=hs.y γ w (Ev.refl w γ).cK i _ s.m _ _ hs.m hs.ls oR h l hl
   have bn:(execOp a.eval ⟨dst,.call ⟨.value f,as,ts⟩,ty,pos,after,guard⟩).run P w=.ok (.round l fn tmps assign body) w:=by
    rw[Array.toArray_toList]at hy;simpa[execOp,resolve,hv,Deferred.ofValue,invoke]using hy
   refine wp_run bn (fun _ h=>by cases h) ?_;rw[Oper.uponIn_round];refine⟨fun h=>by simp[FW,Fence.wide]at h,RoundIn.mono hR ?_⟩;rintro en w' ⟨b,γ',m',rfl,g1,g2,g3,g4⟩;exact hn _ _ _ _ _ g4 g1 g2 g3 (.bool b)
  ·rename_i g first cap e1
   rw[e1]at h1;obtain⟨fa,ca,hv,r1,r2⟩:=h1.qU
   have bn:(execOp a.eval ⟨dst,.call ⟨.value f,as,ts⟩,ty,pos,after,guard⟩).run P w=.ok (.enter g ((fa.toList++(as.map a.eval).toList++ca.toList).toArray)) w:=by
    simp[execOp,resolve,hv,Deferred.ofValue,invoke,Qeb h.1]
   refine wp_run bn (fun _ h=>by cases h) ⟨fun h=>by simp[FW,Fence.wide]at h,?_⟩;refine CallsIn.mono (h.2 N w0 aq γ w _ hs.m hs.ls hs.g hs.y ((r1.append oR).append r2)) ?_;rintro en w' ⟨v,γ',r',m',rfl,g1,g2,g3,g4,g5⟩;exact hn v w' γ' r' m' g5 g1 g2 g3 g4
  exact h.elim
 |nxt xo=>
  rw[eR]at h;obtain⟨x,rfl,rfl⟩:∃x:Operand,op=.next x false/\xo=aB x:=by simpa using amA eR
  simp only[Qcc]at h;obtain⟨u,w',av,m',g1,g2,g3,g4,g5,g6⟩:=RI (P:=P) hs.m (he x (by simp[Op.operands])) h ty;exact Zm (v:=u) (w':=w') (by simp[execOp,g1]) (hn u w' γ av m' g2 g3.cK g4 (hs.ls.mono' g3 g6) g5)
 |_=>rw[eR]at h;exact h.elim
def wL{ops:Array Oper}{Q:Exit->Act->World->Prop}{K:AS->Prop}{k:Nat}(ai:k<ops.size)(hs:fc N w0 r aq S P gl Y γ w s a)
  (h:Zy P gl orc Y ((ops.toList.drop k).map (Xm P ops)) s K):
  wpOpIn (FW r) 0 P ops Q k (fun a' w'=>∃γ' s',fc N w0 r aq S P gl Y γ' w' s' a'/\Zy P gl orc Y ((ops.toList.drop (k+1)).map (Xm P ops)) s' K) a w:=by
 have hd:ops.toList.drop k=ops[k]::ops.toList.drop (k+1):=by
  rw[zzaf (by simpa using ai)];simp
 rw[hd,zzay]at h;have ho:ops[k]?=some ops[k]:=zzaj ai;generalize ops[k]=o at ho h;simp only[wpOpIn,ho];cases hg:o.guard with
 |none=>
  have hw:Region.wanted o (yielded ops a.tmps)=true:=by simp[Region.wanted,hg]
  rw[if_pos hw];have e1:(Xm P ops o).guard=none:=by simp[Xm,hg]
  simp only[Zy,e1]at h;split at h
  ·exact Qdm (K:=fun av m=>Zy P gl orc Y ((ops.toList.drop (k+1)).map (Xm P ops)) ⟨Abs.put s.T o.dst av,m⟩ K) hs (fun x _=>hs.ev x) h fun v w' γ' av m' hK h1 h2 h3 h4=>⟨γ',_,hs.amz h1 h2 h3 h4,hK⟩
  exact Ba (K:=fun av m=>Zy P gl orc Y ((ops.toList.drop (k+1)).map (Xm P ops)) ⟨Abs.put s.T o.dst av,m⟩ K) hs.m hs.g (fun x _=>hs.ev x) h r _ Q fun v w' γ' av m' hK cW h1 h2 h3=>⟨γ',_,hs.put h1 h2 cW h3,hK⟩
 |some p=>
  obtain⟨j,want⟩:=p;have e1:(Xm P ops o).guard=some ((ops[j]?).bind (·.dst),want):=by simp[Xm,hg]
  simp only[Zy,e1]at h;cases hj:(ops[j]?).bind (·.dst)with
  |none=>rw[hj]at h;exact h.elim
  |some t=>
   rw[hj]at h;simp only at h;split at h
   case h_2=>exact h.elim
   rename_i gw pe;obtain⟨h1,h⟩:=h
   have XZ:Region.wanted o (yielded ops a.tmps)=gw:=by
    have hr:=hs.t.get t
    have ck:t<a.tmps.size:=by
     rcases zzaa t s.T.length with h|h
     ·have h5:=hs.t.1;rw[zzbk]at h5;rw[<- h5];exact h
     simp[List.getD,zzaw h,JH]at pe
    have cA:(a.tmps.toList.getD t undef)=a.tmps[t]:=by simp[List.getD,ck]
    rw[cA]at hr;have hyv:∀b,a.tmps[t]=.bool b->yielded ops a.tmps j=some b:=fun b hb=>by simp only[yielded,hj,zzbz,zzaj ck,hb]
    have hyu:a.tmps[t]=undef->yielded ops a.tmps j=none:=fun hb=>by simp only[yielded,hj,zzbz,zzaj ck,hb];rfl
    generalize s.T.getD t .junk=gv at pe hr
    have hf:∀{x:AV},aC w γ (.gd false x) a.tmps[t]->Region.wanted o (yielded ops a.tmps)=false:=fun hx=>by
     simp only[Region.wanted,hg,hyu hx.Oz];cases want<;>rfl
    cases gv with
    |bool g=>
     simp only[JH,Option.some.injEq]at pe;subst pe;simp only[Region.wanted,hg,hyv g hr.bB];cases g<;>cases want<;>rfl
    |gd d x=>
     cases d with
     |false=>
      rw[hf hr];cases x<;>simp[JH]at pe<;>exact pe.symm
     |true=>
      cases x<;>simp[JH]at pe;rename_i b;subst pe;simp only[Region.wanted,hg,hyv b (hr.CP rfl).bB];cases b<;>cases want<;>rfl
    |_=>simp[JH]at pe
   rw[XZ]
   have X0:gw=true->∀x∈o.op.operands,aC w γ (evG gl s.T (tr P o) (aB x)) (a.eval x):=fun TX x hx=>by
    unfold evG;cases iE:rawOp (tr P o)with
    |true=>exact hs.ev x
    |false=>
     refine Bb (hs.ev x) fun g' b hgb=>C4 h1 (aB x) ?_ g' b hgb TX;have c9:rawOp (Xm P ops o).op=false:=iE;simp only[gxs,c9,cond_false];simp[Xm,hg];exact⟨x,by simpa using hx,rfl⟩
   split at h
   ·obtain⟨h2,h3⟩:=h;cases TX:gw with
    |true=>
     simp only[if_true];exact Qdm (e:=evG gl s.T (tr P o)) (K:=fun av m=>Zy P gl orc Y ((ops.toList.drop (k+1)).map (Xm P ops)) ⟨Abs.put s.T o.dst (.gd true av),m⟩ K) hs (X0 TX) (h2 TX) fun v w' γ' av m' hK h1 h2 h3 h4=>⟨γ',_,hs.amz h1 h2 h3 (.gd (fun _=>h4) (fun h=>by cases h)),hK⟩
    |false=>
     simp only[zzbp,if_false];exact⟨fun _ _=>trivial,γ,_,hs.put (Ev.refl _ _) hs.m rfl (.gd (fun h=>by cases h) (fun _=>rfl)),h3 TX⟩
   obtain⟨h2,h3⟩:=h;cases TX:gw with
   |true=>
    rw[TX]at h2 h3;simp only[if_true];refine Qde (e:=evG gl s.T (tr P o)) hs.m (fun _ _ h=>h) hs.g (X0 TX) (h2 rfl) r _ Q fun v w' γ' q1 q2 q3=>?_;exact⟨γ',_,hs.put q1 q2 rfl (.gd (fun _=>q3) (fun h=>by cases h)),h3⟩
   |false=>
    rw[TX]at h3;simp only[zzbp,if_false];exact⟨fun _ _=>trivial,γ,_,hs.put (Ev.refl _ _) hs.m rfl (.gd (fun h=>by cases h) (fun _=>rfl)),h3⟩
def sH{ops:Array Oper}{Q:Exit->Act->World->Prop}{K:AS->Prop}(hQ:∀γ w s a,K s->fc N w0 r aq S P gl Y γ w s a->Q .normal a w):
  ∀(n k:Nat)(γ:G)(w:World)(s:AS)(a:Act),k+n=ops.size->Zy P gl orc Y ((ops.toList.drop k).map (Xm P ops)) s K->fc N w0 r aq S P gl Y γ w s a->wpOpsIn (FW r) 0 P ops Q (List.range' k n) a w
 |0,k,γ,w,s,a,hk,h,hs=>by
  have:ops.toList.drop k=[]:=zzan (by simp;omega);rw[this]at h;exact hQ γ w s a h hs
 |n+1,k,γ,w,s,a,hk,h,hs=>by
  rw[zzgx,wpOpsIn_cons];refine wpOpIn_mono ?_ (wL zE hs h);rintro a' w' ⟨γ',s',iQ,h'⟩;exact sH hQ n (k+1) γ' w' s' a' zE h' iQ
end
end Go.Abs
