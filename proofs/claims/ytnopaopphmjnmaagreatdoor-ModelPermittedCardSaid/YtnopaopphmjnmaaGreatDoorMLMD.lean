import Derived.Test.YtnopaopphmjnmaaGreatDoorMLMC
import Derived.RangeFuncSeq
set_option linter.all false
namespace Go.Abs
open Go Go.RowKit
def Kl(N:Nat)(w0:ir)(aq:Nat->Nat->Prop)(P:Program)(o:Oper)(a:Act)(γ:G)(w:World)(ph:(Nat->LS)×Nat)(K:AV->AM->Prop):Prop:=
 ∀(rd:Option Nat)(next:Act->World->Prop)(Q:Exit->Act->World->Prop),(∀v w' γ' av m',K av m'->(m'.st,m'.ln)=ph->Ev w γ w' γ'->au N w0 aq γ' w' m'.B m'.L->aB w' γ' av v->next (a.put o.dst v) w')->o.wpIn (FW rd) 0 P a w next Q
section
variable {N:Nat} {w0:ir} {aq:Nat->Nat->Prop} {γ:G} {w:World} {P:Program} {o:Oper} {a:Act} {K:AV->AM->Prop}
variable {dst:Option Tmp} {ty:TypeId} {pos:String} {after:Array Edge} {guard:Option (Nat×Bool)} {gl:Nat->AV} {orc:Nat->FuncId->List AV->AV} {e:bK->AV} {m:AM}
def qP(hm:au N w0 aq γ w m.B m.L)(lM:∀g,aB w γ.cT (gl g) (.pointer (some ⟨g,0,none⟩)))
  (he:∀x∈o.op.operands,aB w γ (e (aA x)) (a.eval x))(hc:(rop P gl orc e m o.dst (tr P o)).1/\K (rop P gl orc e m o.dst (tr P o)).2 m):Kl N w0 aq P o a γ w (m.st,m.ln) K:=
 fun rd next Q hk=>Qct hm (fun _ _ h=>h) lM he hc.1 rd next Q fun v w' γ' h1 h2 h3=>hk v w' γ' _ m hc.2 rfl h1 h2 h3
def WG(m:AM)(cells:List AV):({m with boxes:=m.boxes++[cells]}:AM).B=fun i=>if i=m.boxes.length then some cells else m.B i:=by
 funext i;simp only[AM.B];by_cases h:i=m.boxes.length
 ·simp[h]
 rw[if_neg h];rcases zzaa i m.boxes.length with h'|h'
 ·rw[zzag h']
 rw[zzay h',zzay (by simp;omega)]
def Cz(m:AM)(n:Nat):({m with lens:=m.lens++[n]}:AM).L=fun i=>if i=m.lens.length then some n else m.L i:=by
 funext i;simp only[AM.L];by_cases h:i=m.lens.length
 ·simp[h]
 rw[if_neg h];rcases zzaa i m.lens.length with h'|h'
 ·rw[zzag h']
 rw[zzay h',zzay (by simp;omega)]
def mA(m:AM)(id:Nat)(h:id<m.boxes.length)(cells:List AV):({m with boxes:=m.boxes.set id cells}:AM).B=fun i=>if i=id then some cells else m.B i:=by
 funext i;simp only[AM.B];by_cases hi:i=id
 ·subst hi;simp[h]
 rw[if_neg hi,zzbe (Ne.symm hi)]
def ajl(m:AM)(id:Nat)(h:id<m.lens.length)(n:Nat):({m with lens:=m.lens.set id n}:AM).L=fun i=>if i=id then some n else m.L i:=by
 funext i;simp only[AM.L];by_cases hi:i=id
 ·subst hi;simp[h]
 rw[if_neg hi,zzbe (Ne.symm hi)]
def Ud{cs:List AV}{vs:List Value}(h:ak w γ cs vs)(hc:cs.all Qv=true):∀v∈vs,v.oneCell'=true:=fun v hv=>by
 obtain⟨i,hi⟩:=zzby.1 hv;have ai:i<cs.length:=by rw[h.1];exact(zza.1 hi).1
 have:=zzac ai;exact uf (h.2 i _ v this hi) (zzbh.1 hc _ (zzdi ai))
def AI(hm:au N w0 aq γ w m.B m.L){cells:List AV}{arr:Array Value}{te:TypeId}(hr:ak w γ cells arr.toList)(hc:cells.all Qv=true)
  (aZ:(execOp a.eval o).run P w=.ok (.value (.pointer (some ⟨w.heap.size,0,none⟩))) (w.alloc (.cells arr te)))(hk:K (.ptr m.boxes.length 0) {m with boxes:=m.boxes++[cells]}):Kl N w0 aq P o a γ w (m.st,m.ln) K:=by
 intro rd next Q hn
 have aN:m.B m.boxes.length=none:=by simp[AM.B]
 refine Zn aZ (hn _ _ (γ.box m.boxes.length w.heap.size) _ _ hk rfl (hm.dm _ aN _) ?_ (.ptr (by simp[G.box])));rw[WG];exact hm.fk _ aN hr.toP (Ud hr hc)
def EX(hm:au N w0 aq γ w m.B m.L){t:TypeId}(h:((sop P gl orc e m dst (tr P ⟨dst,.alloc t,ty,pos,after,guard⟩)).1/\K (sop P gl orc e m dst (tr P ⟨dst,.alloc t,ty,pos,after,guard⟩)).2.1 (sop P gl orc e m dst (tr P ⟨dst,.alloc t,ty,pos,after,guard⟩)).2.2)):Kl N w0 aq P ⟨dst,.alloc t,ty,pos,after,guard⟩ a γ w (m.st,m.ln) K:=by
 simp only[tr]at h;split at h
 case h_2=>exact h.1.elim
 rename_i zs hz;obtain⟨i,z,hi,iZ,hr⟩:=qM (w:=w) (γ:=γ) hz;obtain⟨h1,h2⟩:=h;refine AI hm (te:=t) hr h1 ?_ h2;simp[execOp,Instr.alloc,zeroValue,typeInfo,hi,iZ,newVar,newRow]
def QF(hm:au N w0 aq γ w m.B m.L){t:TypeId}{x:Operand}(he:aB w γ (e (aA x)) (a.eval x))(h:((sop P gl orc e m dst (.box (aA x))).1/\K (sop P gl orc e m dst (.box (aA x))).2.1 (sop P gl orc e m dst (.box (aA x))).2.2)):Kl N w0 aq P ⟨dst,.box t x,ty,pos,after,guard⟩ a γ w (m.st,m.ln) K:=by
 have key:bare (e (aA x))=true->(cellsOf (e (aA x))).all Qv=true->K (.ptr m.boxes.length 0) {m with boxes:=m.boxes++[cellsOf (e (aA x))]}->Kl N w0 aq P ⟨dst,.box t x,ty,pos,after,guard⟩ a γ w (m.st,m.ln) K:=fun hb h1 h2=>
  AI hm (te:=t) (kM he hb) h1 (by simp[execOp,Instr.box,newVar,newRow]) h2
 exact key h.1.1 h.1.2 h.2
def EY(hm:au N w0 aq γ w m.B m.L){t:TypeId}{x y:Operand}(h1:aB w γ (e (aA x)) (a.eval x))(h2:aB w γ (e (aA y)) (a.eval y))(h:((sop P gl orc e m dst (tr P ⟨dst,.store t x y,ty,pos,after,guard⟩)).1/\K (sop P gl orc e m dst (tr P ⟨dst,.store t x y,ty,pos,after,guard⟩)).2.1 (sop P gl orc e m dst (tr P ⟨dst,.store t x y,ty,pos,after,guard⟩)).2.2)):
  Kl N w0 aq P ⟨dst,.store t x y,ty,pos,after,guard⟩ a γ w (m.st,m.ln) K:=by
 simp only[tr]at h;split at h
 case h_2=>exact h.1.elim
 rename_i i hi;simp only[sop]at h;split at h
 case h_2=>exact h.1.elim
 rename_i id o' e1;rw[e1]at h1;obtain⟨b,hb,hv⟩:=h1.dF;obtain⟨⟨g1,g2,g3,g4,g5⟩,g6⟩:=h;have qN:=kM h2 g1;have lP:=Ud qN g2;have hB:m.B id=some (m.boxes.getD id []):=by simp[AM.B,g5]
 obtain⟨arr,te,q2,q3,q4⟩:=hm.box id _ b hB hb;have hsz:(a.eval y).cells.size=i.size:=by have:=qN.1;simp at this;omega
 have aH:(m.boxes.getD id []).length<=arr.size:=by have:=q3.1;simpa using this
 have cc:=run_storeCells_cells (P:=P) b o' (a.eval y).cells.toList 0 w (fun j hj=>by
   simp at hj;rw[aM q2,zzcq,zzaj (by omega)];rfl) (fun j hj=>Zm q2) lP
 intro rd next Q hn
 simp only[zzcq]at cc
 have aZ:(execOp a.eval ⟨dst,.store t x y,ty,pos,after,guard⟩).run P w=.ok .skip (w.setCells b o' (a.eval y).cells.toList):=by
  simp[execOp,Instr.storeAt,hv,Instr.sureAddr,storeVar,sizeOf,typeInfo,hi,hsz,cc]
 refine oI aZ (hn undef _ γ _ _ g6 rfl (hm.cA hb o' _) ?_ (.junk _));rw[mA m id g5];by_cases qG:m.boxes.getD id []=[]
 ·have hz:(a.eval y).cells.toList=[]:=by
   rw[qG]at g4;apply zzav;simp at g4 |-
   have:i.size=0:=g4.2;rw[this]at hsz;simpa using hsz
  have hz2:cellsOf (e (aA y))=[]:=zzav (by rw[qN.1,hz];rfl);rw[hz,hz2,qG]
  have:(fun i=>if i=id then some (setA [] o' [])else m.B i)=m.B:=by
   funext i;by_cases hi:i=id
   ·subst hi;rw[if_pos rfl,hB,qG];rfl
   rw[if_neg hi]
  rw[this];exact hm
 exact hm.store hB hb q2 q3 q4 qN lP qG
def sj{sz:Nat}{c:AV}:∀{rows:List (List AV)}{k:Nat},(∀row∈rows,row.length=sz)->rows.flatten[k]?=some c->k<rows.length*sz/\Qt rows (k/sz) (k%sz)=some c
 |[],k,_,h=>by simp at h
 |row::rows,k,hs,h=>by
  have hr:=hs row (by simp);rw[zzcl]at h;rcases zzaa k sz with hk|hk
  ·rw[zzag (by omega)]at h;rw[zzet hk,zzgv hk];refine⟨?_,by simpa[Qt]using h⟩;simp[zzbp];omega
  rw[zzal (by omega),hr]at h;obtain⟨h1,h2⟩:=sj (rows:=rows) (fun row h=>hs row (by simp[h])) h
  have h0:0<sz:=by
   rcases zzcn sz with h0|h0
   ·subst h0;simp at h1
   exact h0
  have e1:k/sz=(k-sz)/sz+1:=by rw[Nat.div_eq_sub_div h0 hk]
  have e2:k%sz=(k-sz)%sz:=(Nat.mod_eq_sub_mod hk);rw[e1,e2];refine⟨?_,by simpa[Qt]using h2⟩;simp[zzbp];omega
def jc{sz:Nat}:∀{rows:List (List AV)},(∀row∈rows,row.length=sz)->rows.flatten.length=rows.length*sz
 |[],_=>by simp
 |row::rows,hs=>by
  have:=jc (rows:=rows) fun row h=>hs row (by simp[h]);have hr:=hs row (by simp);simp[this,hr,zzbp];omega
def vZ:∀(vs:List Value)(arr:Array Value)(o k:Nat),(tG arr o vs)[k]?=if o<=k/\k<o+vs.length/\k<arr.size then vs[k-o]? else arr[k]?
 |[],arr,o,k=>by
  rw[tG,if_neg];simp;omega
 |v::vs,arr,o,k=>by
  rw[tG,vZ vs _ (o+1) k];by_cases h1:o+1<=k/\k<o+1+vs.length/\k<(arr.setIfInBounds o v).size
  ·rw[if_pos h1];simp at h1;rw[if_pos (by simp;omega)];rw[show k-o=(k-(o+1))+1 by omega];simp
  rw[if_neg h1];simp at h1;by_cases h2:o<=k/\k<o+(v::vs).length/\k<arr.size
  ·simp at h2;obtain rfl:k=o:=by omega
   rw[if_pos (by simp;omega)];simp[zzeo];omega
  rw[if_neg h2];simp at h2;by_cases hk:o=k
  ·subst hk;have:arr.size<=o:=by omega
   simp[zzct,this]
  rw[zzdd hk]
def Qbq(hm:au N w0 aq γ w m.B m.L){y:AV}{v2:Value}{sz:Nat}(hr:aB w γ y v2)(hc:(cellsS m sz y).1):
  ∃(a2:Option Addr)(bZ:Nat)(vs:List Value),v2=.slice a2 (lenS y) bZ/\ak w γ (cellsS m sz y).2 vs/\(∀v∈vs,v.oneCell'=true)/\vs.length=lenS y*sz/\
   ∀n,n<=lenS y->∀w':World,(∀x,w'.cell? x=w.cell? x)->(Builtin.firstCells sz n v2).run P w'=.ok (vs.take (n*sz)).toArray w':=by
 have WH:∀(a2:Option Addr)(len bZ:Nat)(w':World),(Builtin.firstCells sz 0 (.slice a2 len bZ)).run P w'=.ok #[] w':=fun a2 len bZ w'=>by
  cases a2<;>simp[Builtin.firstCells,loadCells,loadCellsFrom]
 cases y with
 |sl rt rows=>
  obtain⟨a2,bZ,b2,gA,sz2,gF,rfl,s2,_⟩:=hr.bY;replace s2:=s2.fix (sz:=sz) hc;refine⟨a2,bZ,Vd rows.length sz gF,rfl,⟨by simp[cellsS,jc hc,Zd],fun k c v h1 h2=>?_⟩,s2.one,by simp[lenS,Zd],fun n hn w' hw=>?_⟩
  ·obtain⟨g1,g2⟩:=sj hc h1;obtain⟨_,rfl⟩:=qJ h2;exact(s2.rep _ _ c g2).gD
  by_cases eN:n=0
  ·subst eN;simpa using WH a2 _ bZ w'
  simp only[lenS]at hn;have aK:rows≠[]:=by rintro rfl;simp at hn;omega
  obtain⟨rfl,_⟩:=s2.at_ aK;refine run_firstCells_some w' sz n _ rows.length bZ _ ?_ fun j u hj=>?_
  ·rw[zzaq,Zd];have:n*sz<=rows.length*sz:=zzba _ hn;omega
  rw[hw];rw[zzbj]at hj;split at hj
  ·exact s2.cells j u hj
  cases hj
 |bs id off len gz=>
  obtain⟨rfl,ck,aN⟩:=hc;obtain⟨b,cap,arr,te,hβ,rfl,hl,hh,hs⟩:=hr.cI;have hsz:=Wg hm (m:=m) (fun _ _ h=>h) hβ hh;have aH:((arr.toList.drop off).take (len*gz)).length=len*gz:=by simp;omega
  refine⟨_,cap,(arr.toList.drop off).take (len*gz),rfl,⟨?_,fun k c v h1 h2=>?_⟩,fun v hv=>?_,aH,fun n hn w' hw=>?_⟩
  ·rw[aH];show(List.take _ (List.drop _ _)).length=_;rw[zzaq,zzcr];omega
  ·simp only[cellsS]at h1;rw[zzbj]at h1 h2;split at h1
   ·rename_i hk;simp only[hk,if_true]at h2;rw[zzbk]at h1 h2;obtain⟨u,g1,g2,_⟩:=vV hm (m:=m) (fun _ _ h=>h) hβ hh h1;rw[zzcd,g1]at h2;cases h2;exact g2
   cases h1
  ·have dH:=zzdm (zzca hv);obtain⟨bT,e',g2,_,g4⟩:=hm.box id _ b (by simp[AM.B,aN]:m.B id=some (m.boxes.getD id [])) hβ;rw[hh]at g2;cases g2;exact g4 v dH
  by_cases eN:n=0
  ·subst eN;simpa using WH _ _ cap w'
  refine run_firstCells_some w' gz n _ len cap _ ?_ fun j u hj=>?_
  ·rw[zzaq,aH];simp only[lenS]at hn;have:n*gz<=len*gz:=zzba _ hn;omega
  rw[hw,bw,aM hh];rw[zzbj]at hj;split at hj
  ·rw[zzbj]at hj;split at hj
   ·rw[zzbk,zzcd]at hj;exact hj
   cases hj
  cases hj
 |_=>exact hc.elim
section grow
variable {t te:TypeId} {i:TypeInfo} {z:Value} {a1 a2:Option Addr} {len cr cap bZ:Nat} {c1 c2:List Value}
def mB(ht:P.underlying t=some (.slice te))(hi:P.info? te=some i)(hz:i.zero=some z)(f1:(Builtin.firstCells i.size len (.slice a1 len cap)).run P w.drew=.ok c1.toArray w.drew)
  (f2:(Builtin.firstCells i.size cr (.slice a2 cr bZ)).run P w.drew=.ok c2.toArray w.drew)
  (hg:cap<len+cr)(cF:(3*(len+cr)+4000)*i.bytes<=562949953421312)(vO:len+cr<=9223372036854775807):
  ∃aX,len+cr<=aX/\(Builtin.append_ #[t,t] ty #[.slice a1 len cap,.slice a2 cr bZ]).run P w=
   .ok (.slice (some ⟨w.heap.size,0,none⟩) (len+cr) aX) (w.drew.alloc (.cells (c1.toArray++c2.toArray++Builtin.zeroCells z.cells (aX-(len+cr))) te)):=by
 have hn:¬(len+cr<=cap):=by omega
 have alz:¬(9223372036854775807<((len:Int)+(cr:Int))):=by omega
 have ck:=JQ hg
 have alA:¬(281474976710656<Builtin.nextslicecap (len+cr) cap*i.bytes):=by
  have:2*Builtin.nextslicecap (len+cr) cap*i.bytes<=(3*(len+cr)+4000)*i.bytes:=zzba _ (by omega);rw[Nat.mul_assoc]at this;omega
 refine⟨grownCap w (len+cr) cap te,grownCap_ge w _ _ _,?_⟩;simp[Builtin.append_,run_underlying ht,sizeOf,typeInfo,zeroValue,hi,hz,Builtin.lenOf,hn,alz,alA,Question.forced,f1,f2,newRow,grownCap];congr 2;apply Array.ext';simp[zzaw]
def zo{b off:Nat}(ht:P.underlying t=some (.slice te))(hi:P.info? te=some i)(f2:(Builtin.firstCells i.size cr (.slice a2 cr bZ)).run P w=.ok c2.toArray w)(h1:∀v∈c2,v.oneCell'=true)(hl:c2.length=cr*i.size)
  (cB:len+cr<=cap){arr:Array Value}{e':TypeId}(hh:w.heap[b]?=some (.cells arr e' (0,0)))(hsz:off+cap*i.size<=arr.size):
  (
   Builtin.append_ #[t,t] ty #[.slice (some ⟨b,off,none⟩) len cap,.slice a2 cr bZ]).run P w=
   .ok (.slice (some ⟨b,off,none⟩) (len+cr) cap) (w.setCells b (off+len*i.size) c2):=by
 have ck:(len+cr)*i.size<=cap*i.size:=zzba _ cB;rw[zzbp]at ck
 have cc:=run_storeCells_cells (P:=P) b (off+len*i.size) c2 0 w (fun j hj=>by
   rw[aM hh,zzcq,zzaj (by omega)];rfl)
  (fun j hj=>Zm hh) h1
 simp only[zzcq]at cc;simp[Builtin.append_,run_underlying ht,sizeOf,typeInfo,hi,Builtin.lenOf,cB,f2,bw,cc]
end grow
def AJ{as bs:List AV}{us vs rest:List Value}(h1:ak w γ as us)(h2:ak w γ bs vs):cD w γ (as++bs) (us++vs++rest):=by
 have h:=h1.append h2;refine⟨by have:=h.1;simp at this |-;omega,fun k c v g1 g2=>h.2 k c v g1 ?_⟩;have hk:=(zza.1 g1).1;rw[h.1]at hk;rwa [zzag hk]at g2
def Wi{cs:Array Value}(h:∀u∈cs,u.oneCell'=true)(n:Nat):∀v∈(Builtin.zeroCells cs n).toList,v.oneCell'=true:=fun v hv=>by
 simp[Builtin.zeroCells]at hv;obtain⟨k,hk,rfl⟩:=hv
 have h0:0<cs.size:=by
  rcases zzcn cs.size with h0|h0
  ·simp[h0]at hk
  exact h0
 have ai:k%cs.size<cs.size:=zze _ h0;rw[getElem!_pos cs _ ai];exact h _ (Array.getElem_mem ai)
def kQ{zs:List AV}:∀{n k:Nat}{c:AV},(bG n zs)[k]?=some c->k<n*zs.length/\zs[k%zs.length]?=some c
 |0,k,c,h=>by simp[bG]at h
 |n+1,k,c,h=>by
  rw[bG]at h;rcases zzaa k zs.length with hk|hk
  ·rw[zzag hk]at h;rw[zzgv hk];exact⟨by rw[zzbp];omega,h⟩
  rw[zzal hk]at h;obtain⟨h1,h2⟩:=kQ h;rw[Nat.mod_eq_sub_mod hk];exact⟨by rw[zzbp];omega,h2⟩
def Kj(zs:List AV):∀n,(bG n zs).length=n*zs.length
 |0=>by simp[bG]
 |n+1=>by rw[bG,zzah,Kj zs n,zzbp];omega
def qQ(hm:au N w0 aq γ w m.B m.L){id b off:Nat}(hβ:γ.β id=some b)(aN:id<m.boxes.length)(aK:m.boxes.getD id []≠[]){arr:Array Value}{te:TypeId}(hh:w.heap[b]?=some (.cells arr te (0,0)))
  {as:List AV}{vs:List Value}(hr:ak w γ as vs)(lP:∀v∈vs,v.oneCell'=true)(cF:off+as.length<=(m.boxes.getD id []).length):
  (storeCells ⟨b,off,none⟩ vs).run P w=.ok () (w.setCells b off vs)/\Ev w γ (w.setCells b off vs) γ/\au N w0 aq γ (w.setCells b off vs) ({m with boxes:=m.boxes.set id (setA (m.boxes.getD id []) off as)}:AM).B m.L:=by
 have hB:m.B id=some (m.boxes.getD id []):=by simp[AM.B,aN]
 obtain⟨bT,e',q2,q3,q4⟩:=hm.box id _ b hB hβ;rw[hh]at q2;cases q2;have hsz:=q3.1;simp only[zzbi]at hsz;have hl:=hr.1
 have cc:=run_storeCells_cells (P:=P) b off vs 0 w (fun j hj=>by
   rw[aM hh,zzcq,zzaj (by omega)];rfl) (fun j hj=>Zm hh) lP
 simp only[zzcq]at cc;refine⟨cc,hm.cA hβ off vs,?_⟩;rw[mA m id aN];exact hm.store hB hβ hh q3 q4 hr lP aK
def QG(hm:au N w0 aq γ w m.B m.L){x y:Operand}{t te:TypeId}{ts:Array TypeId}{i:TypeInfo}(ht:ts[0]?=some t)(hu:P.underlying t=some (.slice te))(hi:P.info? te=some i)(h1:aB w γ (e (aA x)) (a.eval x))(h2:aB w γ (e (aA y)) (a.eval y))
  (h:(sop P gl orc e m dst (.cpy i.size (aA x) (aA y))).1/\K (sop P gl orc e m dst (.cpy i.size (aA x) (aA y))).2.1 (sop P gl orc e m dst (.cpy i.size (aA x) (aA y))).2.2):
  Kl N w0 aq P ⟨dst,.call ⟨.builtin .copy,#[x,y],ts⟩,ty,pos,after,guard⟩ a γ w (m.st,m.ln) K:=by
 simp only[sop]at h;split at h
 case h_2=>exact h.1.elim
 rename_i id off len gz e1;rw[e1]at h1;obtain⟨b,cap,arr,JU,hβ,hv,hl,hh,hs⟩:=h1.cI;intro rd next Q hn
 split at h
 ·rename_i s e2;rw[e2]at h2;obtain⟨⟨⟨rfl,hi1⟩,aN,cF,aK⟩,hk⟩:=h
  have hr:ak w γ ((s.data.toList.take len).map fun b=>(.int .u8 b.toNat:AV)) ((s.data.toList.take len).map fun b=>(.int .u8 b.toNat:Value)):=by
   refine⟨by simp,fun k c v g1 g2=>?_⟩;simp only[zzbl]at g1 g2;cases hx:(s.data.toList.take len)[k]? with
   |none=>simp[hx]at g1
   |some u=>simp[hx]at g1 g2;subst g1;subst g2;exact .int _ _
  obtain⟨g1,g2,g3⟩:=qQ (P:=P) (off:=off) hm hβ aN aK hh hr (fun v hv=>by obtain⟨u,_,rfl⟩:=zzax.1 hv;rfl) (by rw[zzbg,zzaq];omega)
  have hfc:(Builtin.firstCells 1 (Nat.min s.size len) (.string s)).run P w=.ok ((s.data.toList.take len).map fun b=>(.int .u8 b.toNat:Value)).toArray w:=by
   simp only[Builtin.firstCells,Sem.run_pure];congr 1;apply Array.ext';simp only[ByteArray.data_extract,Array.toList_map,zzfs,List.extract_eq_take_drop,zzde,zzfg];congr 1;rcases zzhs s.size len with h'|h'
   ·have:Nat.min s.size len=s.size:=zzft h';rw[this,zzap (by simp),zzap (by simpa using h')]
   have:Nat.min s.size len=len:=zzgw h';rw[this]
  generalize((s.data.toList.take len).map fun b=>(.int .u8 b.toNat:Value))=cs at*
  refine Zn (v:=.int .i64 (min s.size len:Nat)) (w':=w.setCells b off cs) ?_ (hn _ _ γ _ _ hk rfl g2 g3 (.int _ _));simp[execOp,resolve,invoke,builtin,Builtin.copy_,ht,run_underlying hu,hv,h2.cq,Builtin.lenOf,sizeOf,typeInfo,hi,hi1,hfc,g1,goInt]
 rename_i hns;obtain⟨⟨rfl,WI,aN,cF,aK⟩,hk⟩:=h;obtain⟨a2,bZ,vs,se,iu,sk,eE,hf2⟩:=Qbq (P:=P) hm h2 WI;have hr:=iu.take (len*i.size);obtain⟨g1,g2,g3⟩:=qQ (P:=P) (off:=off) hm hβ aN aK hh hr (fun v hv=>sk v (zzca hv)) (by rw[zzaq];omega);have hfc:=hf2 (min (lenS (e (aA y))) len) (Nat.min_le_left _ _) w (fun _=>rfl);rw[se]at hfc
 have bB:vs.take (min (lenS (e (aA y))) len*i.size)=vs.take (len*i.size):=by
  rcases zzhs (lenS (e (aA y))) len with h'|h'
  ·rw[zzft h',<- eE,zzbs,zzap];rw[eE];exact zzba _ h'
  rw[zzgw h']
 rw[bB]at hfc;refine Zn (v:=.int .i64 (min (lenS (e (aA y))) len:Nat)) (w':=w.setCells b off (vs.take (len*i.size))) ?_ (hn _ _ γ _ _ hk rfl g2 g3 (.int _ _));simp[execOp,resolve,invoke,builtin,Builtin.copy_,ht,run_underlying hu,hv,se,Builtin.lenOf,sizeOf,typeInfo,hi,hfc,g1,goInt]
def QH(hm:au N w0 aq γ w m.B m.L){x:Operand}{t te:TypeId}{zs:List AV}(hu:P.underlying t=some (.slice te))(hz:zc P te=some zs)(h1:aB w γ (e (aA x)) (a.eval x))
  (h:(sop P gl orc e m dst (.clr zs (aA x))).1/\K (sop P gl orc e m dst (.clr zs (aA x))).2.1 (sop P gl orc e m dst (.clr zs (aA x))).2.2):
  Kl N w0 aq P ⟨dst,.call ⟨.builtin .clear,#[x],#[t]⟩,ty,pos,after,guard⟩ a γ w (m.st,m.ln) K:=by
 obtain⟨i,z,hi,iZ,JW⟩:=qM (w:=w) (γ:=γ) hz;simp only[sop]at h;split at h
 ·rename_i id off len gz e1;rw[e1]at h1;obtain⟨⟨⟨rfl,bL⟩,aN,cF,aK⟩,hk⟩:=h;obtain⟨b,cap,arr,JU,hβ,hv,hl,hh,hs⟩:=h1.cI;have lP:=Ud JW bL;intro rd next Q hn
  have EZ:z.cells.size=zs.length:=by have:=JW.1;simp at this;omega
  have hr:ak w γ (bG len zs) (Builtin.zeroCells z.cells len).toList:=by
   refine⟨by simp[Kj,size_zeroCells,EZ],fun k c v g1 g2=>?_⟩;obtain⟨j1,j2⟩:=kQ g1
   have h0:0<zs.length:=by
    rcases zzcn zs.length with h0|h0
    ·simp[h0]at j1
    exact h0
   have ai:k%zs.length<z.cells.size:=by rw[EZ];exact zze _ h0
   have Cy:v=z.cells[k%zs.length]:=by
    simp only[Builtin.zeroCells,zzcd,zzgg]at g2;rw[zzaj (by simp[EZ];exact j1)]at g2;simp[EZ]at g2;rw[<- g2,getElem!_pos z.cells _ ai]
   subst Cy;exact JW.2 _ c _ j2 (by simp[ai])
  obtain⟨g1,g2,g3⟩:=qQ (P:=P) (off:=off) hm hβ aN aK hh hr (Wi (fun u hu=>lP u (by simpa using hu)) len) (by rw[Kj];exact cF);by_cases oy:len=0
  ·subst oy;have e0:(Builtin.zeroCells z.cells 0).toList=[]:=by simp[Builtin.zeroCells]
   rw[e0]at g2 g3;refine Zn (v:=.tuple #[]) (w':=w) (by simp[execOp,resolve,invoke,builtin,Builtin.clear_,run_underlying hu,hv]) (hn _ _ γ _ _ hk rfl g2 g3 (ak.zm ak.nil))
  refine Zn (v:=.tuple #[]) (w':=w.setCells b off (Builtin.zeroCells z.cells len).toList) ?_ (hn _ _ γ _ _ hk rfl g2 g3 (ak.zm ak.nil));cases len with
  |zero=>exact absurd rfl oy
  |succ len=>simp[execOp,resolve,invoke,builtin,Builtin.clear_,run_underlying hu,hv,zeroValue,typeInfo,hi,iZ,g1]
 ·rename_i rt e1;rw[e1]at h1;obtain⟨a1,cap,b1,aqE,sz1,cv1,hv,s1,_⟩:=h1.bY;intro rd next Q hn
  refine Zn (v:=.tuple #[]) (w':=w) ?_ (hn _ _ γ _ _ h.2 rfl (Ev.refl w γ) hm (ak.zm ak.nil));simp only[zzch]at hv;cases a1<;>simp[execOp,resolve,invoke,builtin,Builtin.clear_,run_underlying hu,hv]
 exact h.1.elim
def WJ(hm:au N w0 aq γ w m.B m.L){id off len sz:Nat}{v2:Value}(hr:aB w γ (.bs id off len sz) v2)(ck:off+len*sz<=(m.boxes.getD id []).length)(aN:id<m.boxes.length)
  (bL:(m.boxes.getD id []).all Qv=true)(hp:(m.boxes.getD id []).any (Yj 6)=false):
  (aV sz len (((m.boxes.getD id []).map (bF m 6)).drop off)).length=len/\(∀row∈aV sz len (((m.boxes.getD id []).map (bF m 6)).drop off),row.length=sz)/\
  ∃(γ2:G)(a2:Option Addr)(bZ b2:Nat)(gF:Nat->Nat->Value),v2=.slice a2 len bZ/\qm w γ2 (aV sz len (((m.boxes.getD id []).map (bF m 6)).drop off)) a2 bZ b2 off sz gF/\
   ∀i j c,Qt (aV sz len (((m.boxes.getD id []).map (bF m 6)).drop off)) i j=some c->aB w γ.cT c (gF i j):=by
 obtain⟨b,cap,arr,JU,hβ,hv,hl,hh,hs⟩:=hr.cI;have hB:m.B id=some (m.boxes.getD id []):=by simp[AM.B,aN]
 obtain⟨bT,e',q2,q3,q4⟩:=hm.box id _ b hB hβ;rw[hh]at q2;cases q2;have aH:(aV sz len (((m.boxes.getD id []).map (bF m 6)).drop off)).length=len:=by rw[Qad];simp
 have hsz:∀row∈aV sz len (((m.boxes.getD id []).map (bF m 6)).drop off),row.length=sz:=fun row ah=>by
  rw[Qad]at ah;simp only[zzax,zzbf]at ah;obtain⟨k,hk,rfl⟩:=ah;have:(k+1)*sz<=len*sz:=zzba _ hk;rw[zzbp,zzdl]at this;simp only[zzaq,zzcr,zzbg];omega
 have ow:∀(k j:Nat)(c:AV),Qt (aV sz len (((m.boxes.getD id []).map (bF m 6)).drop off)) k j=some c->∃c' u,(m.boxes.getD id [])[off+k*sz+j]?=some c'/\c=bF m 6 c'/\arr[off+k*sz+j]?=some u/\arr.getD (off+k*sz+j) undef=u/\aB w γ c' u:=fun k j c h=>by
  rw[Qad]at h;unfold Qt at h;rcases zzaa k len with hk|hk
  ·rw[zzbl,zzef hk]at h;simp only[zzcv,zzcg]at h;rw[zzbj]at h;split at h
   ·rw[zzbk,zzbk,zzbl]at h;obtain⟨c',qn,rfl⟩:=zzce.1 h;rw[<- zzan]at qn
    have ai:off+k*sz+j<arr.size:=by
     have h1:=(zza.1 qn).1;have h2:=q3.1;simp at h2;simp only[List.getD]at h1;omega
    have hu':arr[off+k*sz+j]?=some arr[off+k*sz+j]:=zzaj ai;exact⟨c',_,qn,rfl,hu',by simp[ai],q3.2 _ _ _ qn (by simp[ai])⟩
   cases h
  rw[zzbl,zzay (by simpa using hk)]at h;cases h
 have zh:∀(k j:Nat)(c':AV),(m.boxes.getD id [])[off+k*sz+j]?=some c'->Yj 6 c'=true->False:=fun k j c' h WK=>by
  have:(m.boxes.getD id []).any (Yj 6)=true:=zzbz.2 ⟨c',zzad h,WK⟩;rw[hp]at this;cases this
 refine⟨aH,hsz,{γ with ro:=fun _ _=>True},some ⟨b,off,none⟩,cap,b,fun k j=>arr.getD (off+k*sz+j) undef,hv,⟨by rw[aH];exact hl,fun h=>(by cases h),fun _=>⟨rfl,aT hh⟩,hsz,fun k j c h=>?_,fun k j c h=>?_⟩,fun k j c h=>?_⟩
 ·obtain⟨c',u,g1,rfl,g3,g4,g5⟩:=ow k j c h;rw[aM hh,g3,g4];exact⟨rfl,trivial,uf g5 (zzbh.1 bL c' (zzad g1))⟩
 ·obtain⟨c',u,g1,rfl,g3,g4,g5⟩:=ow k j c h;rw[g4];exact kK hm (m:=m) (fun _ _ h=>h) (ro':=fun _ _=>True) (fun _ _ _=>trivial) 6 c' u g5 fun WK=>(zh k j c' g1 WK).elim
 obtain⟨c',u,g1,rfl,g3,g4,g5⟩:=ow k j c h;show aB w γ.cT (bF m 6 c') (arr.getD (off+k*sz+j) undef);rw[g4];exact kK hm (m:=m) (fun _ _ h=>h) (ro':=γ.ro) (fun _ _ h=>h) 6 c' u g5 fun WK=>(zh k j c' g1 WK).elim
def QI(hm:au N w0 aq γ w m.B m.L)(lM:∀g,aB w γ.cT (gl g) (.pointer (some ⟨g,0,none⟩))){c:Call}(he:∀x∈c.operands,aB w γ (e (aA x)) (a.eval x))(h:((sop P gl orc e m dst (Zr P c)).1/\K (sop P gl orc e m dst (Zr P c)).2.1 (sop P gl orc e m dst (Zr P c)).2.2)):
  Kl N w0 aq P ⟨dst,.call c,ty,pos,after,guard⟩ a γ w (m.st,m.ln) K:=by
 have D7:sop P gl orc e m dst (Zr P c)=((rop P gl orc e m dst (Zr P c)).1,(rop P gl orc e m dst (Zr P c)).2,m)->Kl N w0 aq P ⟨dst,.call c,ty,pos,after,guard⟩ a γ w (m.st,m.ln) K:=fun hg=>
  qP hm lM he (by rw[hg]at h;exact h)
 obtain⟨callee,args,ts⟩:=c;cases callee with
 |value f=>exact D7 rfl
 |invoke recv name=>exact D7 rfl
 |builtin b=>
  cases b<;>first|exact D7 rfl|skip
  case append=>
   simp only[Zr]at h;split at h
   case h_2=>exact h.1.elim
   rename_i s x t t' ha ht;split at h
   case h_2=>exact h.1.elim
   rename_i te JU hu hu';split at h
   case h_2=>exact h.1.elim
   rename_i i hi;split at h
   case isFalse=>exact h.1.elim
   rename_i bS;simp only[zzak,beq_iff_eq,bne_iff_ne]at bS;obtain⟨⟨⟨rfl,hz⟩,_⟩,dO⟩:=bS;obtain rfl:args=#[s,x]:=by cases args;simp_all
   obtain rfl:ts=#[t,t]:=by cases ts;simp_all
   have h1:=he s (by simp[Call.operands]);have h2:=he x (by simp[Call.operands]);cases iZ:i.zero with
   |none=>simp[iZ]at hz
   |some z=>
    simp[iZ]at hz;obtain⟨hz,hzo⟩:=hz;have ajm:∀(n:Nat),∀v∈(Builtin.zeroCells z.cells n).toList,v.oneCell'=true:=fun n v hv=>Wi (fun u hu=>by obtain⟨k,hk,rfl⟩:=zzhn.1 hu;exact hzo k hk) n v hv
    have grown:∀{c1 c2:List Value}{aX len:Nat},c1.length+c2.length=len*i.size->len<=aX->aX*i.size<=(c1.toArray++c2.toArray++Builtin.zeroCells z.cells (aX-len)).size:=fun{c1 c2 aX len}hl ck=>by
     simp only[zzel,zzek,size_zeroCells,hz];have:aX*i.size=len*i.size+(aX-len)*i.size:=by rw[<- zzbp];congr 1;omega
     omega
    simp only[sop]at h;split at h
    ·rename_i id gz rows JR aC e1 e2;rw[e1]at h1;rw[e2]at h2;obtain⟨⟨rfl,aH,hr,cF⟩,hk⟩:=h;obtain⟨v,w',γ',g1,g2,g3,g4⟩:=NP (ty:=ty) hm hu hi iZ hz (id:=id) (.inr ⟨h1,aH⟩) h2 hr cF (Jr dO cF);intro rd next Q hn
     refine Zn (v:=v) (w':=w') (by simp[execOp,resolve,invoke,builtin,g1]) (hn v w' γ' _ _ hk rfl g2 ?_ g4);rw[ajl m id (zza.1 aH).1];exact g3
    ·
     rename_i y' id off len gz e1;rw[e1]at h1;obtain⟨⟨⟨⟨rfl,rfl,aN,aK,ck⟩,cF⟩,WI⟩,hk⟩:=h;obtain⟨b,cap,arr,JU,hβ,hv,hl,hh,hs⟩:=h1.cI;obtain⟨a2,bZ,vs,se,iu,sk,eE,hf2⟩:=Qbq (P:=P) hm h2 WI;have hB:m.B id=some (m.boxes.getD id []):=by simp[AM.B,aN]
     obtain⟨bT,e',q2,q3,q4⟩:=hm.box id _ b hB hβ;rw[hh]at q2;cases q2;have hsz:=q3.1;simp only[zzbi]at hsz
     have fE:ak w γ ((m.boxes.getD id []).take (len*i.size)) (arr.toList.take (len*i.size)):=by
      refine⟨by simp only[zzaq,zzbi];omega,fun k c v g1 g2=>?_⟩;rw[zzbj]at g1 g2;split at g1
      ·rename_i zk;rw[if_pos zk]at g2;exact q3.2 k c v g1 g2
      cases g1
     have cE:m.B m.boxes.length=none:=by simp[AM.B]
     have hBB:∀cells:List AV,({m with boxes:=m.boxes.set id []++[cells]}:AM).B=fun i=>if i=m.boxes.length then some cells else if i=id then some []else m.B i:=fun cells=>by
      have e1:=WG {m with boxes:=m.boxes.set id []} cells;rw[mA m id aN]at e1;simpa using e1
     intro rd next Q hn
     by_cases cB:len+lenS (e (aA x))<=cap
     ·have aZ:=zo (P:=P) (ty:=ty) (w:=w) (len:=len) (b:=b) (off:=0) hu hi (by have:=hf2 _ (zzab _) w (fun _=>rfl);rw[se,<- eE,zzbs]at this;exact this) sk eE cB hh hs;simp only[zzbv]at aZ;have PT:(len+lenS (e (aA x)))*i.size<=cap*i.size:=zzba _ cB;rw[zzbp]at PT
      obtain⟨g1,g2⟩:=hm.share (id':=m.boxes.length) (new:=(m.boxes.getD id []).take (len*i.size)++(cellsS m i.size (e (aA x))).2) hβ hB aK cE hh (p:=len*i.size) (vs:=vs) (by
       refine⟨by simp only[zzah,zzaq,iu.1,zzbi,Vb];omega,fun k c v j1 j2=>?_⟩;rw[zzcd,vZ]at j2;rcases zzaa k (len*i.size)with zk|zk
       ·rw[if_neg (by omega)]at j2;rw[zzag (by rw[zzaq];omega)]at j1;refine fE.2 k c v j1 ?_;rw[zzbj,if_pos zk,zzcd];exact j2
       rw[zzal (by rw[zzaq];omega)]at j1;have e0:((m.boxes.getD id []).take (len*i.size)).length=len*i.size:=by rw[zzaq];omega
       rw[e0]at j1;have dw:=(zza.1 j1).1;rw[iu.1]at dw;rw[if_pos (by omega)]at j2;exact iu.2 _ c v j1 j2) q4 sk
      refine Zn (v:=.slice (some ⟨b,0,none⟩) (len+lenS (e (aA x))) cap) (w':=w.setCells b (len*i.size) vs) (by simp[execOp,resolve,invoke,builtin,hv,se,aZ]) (hn _ _ _ _ _ hk rfl g1 ?_ ?_)
      ·rw[hBB];exact g2
      exact .bs (by simp[G.box]) cB (Xa b vs _ w arr JU _ hh) (by rw[Vb];exact hs)
     have f1:(Builtin.firstCells i.size len (.slice (some ⟨b,0,none⟩) len cap)).run P w.drew=.ok (arr.toList.take (len*i.size)).toArray w.drew:=by
      refine run_firstCells_some w.drew i.size len _ len cap _ (by simp;omega) fun j u hj=>?_;rw[bw];show w.cell? _=_;rw[aM hh];rw[zzbj]at hj;split at hj
      ·simpa using hj
      cases hj
     have f2:(Builtin.firstCells i.size (lenS (e (aA x))) (.slice a2 (lenS (e (aA x))) bZ)).run P w.drew=.ok vs.toArray w.drew:=by
      have:=hf2 _ (zzab _) w.drew (fun _=>rfl);rw[se,<- eE,zzbs]at this;exact this
     obtain⟨aX,CA,aZ⟩:=mB (P:=P) (ty:=ty) (w:=w) hu hi iZ f1 f2 (by omega) cF (Jr dO cF);have J1:=(hm.kill hβ).drew
     have fQ:(fun i=>if i=id then some []else m.B i) m.boxes.length=none:=by
      have:m.boxes.length≠id:=by omega
      simp only[if_neg this];exact cE
     have hP:=AJ (rest:=(Builtin.zeroCells z.cells (aX-(len+lenS (e (aA x))))).toList) fE iu;have cw:=J1.dm _ fQ (.cells ((arr.toList.take (len*i.size)).toArray++vs.toArray++Builtin.zeroCells z.cells (aX-(len+lenS (e (aA x))))) te)
     have CB:=J1.fk _ fQ (e:=te) (arr:=(arr.toList.take (len*i.size)).toArray++vs.toArray++Builtin.zeroCells z.cells (aX-(len+lenS (e (aA x))))) (by
      have:=hP.mono (Ev.drew w γ)
      simpa using this) (fun v hv=>by
       simp only[Array.toList_append,zzao]at hv;obtain(hv|hv)|hv:=hv
       ·exact q4 v (zzca (by simpa using hv))
       ·exact sk v (by simpa using hv)
       exact ajm _ v hv)
     refine Zn (v:=.slice (some ⟨w.heap.size,0,none⟩) (len+lenS (e (aA x))) aX) (by simp[execOp,resolve,invoke,builtin,hv,se,aZ]) (hn _ _ _ _ _ hk rfl ((Ev.drew w γ).trans cw) ?_ ?_)
     ·rw[hBB];exact CB
     refine .bs (arr:=(arr.toList.take (len*i.size)).toArray++vs.toArray++Builtin.zeroCells z.cells (aX-(len+lenS (e (aA x))))) (e:=te) (by show(if _ then _ else _)=_;rw[if_pos rfl];rfl) CA (Yf w _) ?_;rw[zzbv];exact grown (by rw[eE,zzbp];simp;omega) CA
    ·
     rename_i id gz rows gO gA cr sz2 e1 e2;rw[e1]at h1;rw[e2]at h2;obtain⟨⟨⟨rfl,rfl⟩,aH,hr,cF,alE,fQ,J2,E3⟩,hk⟩:=h;obtain⟨l2,iu,γ2,a2,bZ,b2,gF,se,s2,WL⟩:=WJ hm h2 alE fQ J2 E3;generalize aV i.size cr (((m.boxes.getD gO []).map (bF m 6)).drop gA)=aC at*
     subst l2;obtain⟨v,w',γ',g1,g2,g3,g4⟩:=vP (ty:=ty) hm hu hi iZ hz (id:=id) (.inr ⟨h1,aH⟩) s2 WL (fun row h=>(zzao.1 h).elim (hr row) (iu row)) cF (Jr dO cF);intro rd next Q hn
     refine Zn (v:=v) (w':=w') (by simp[execOp,resolve,invoke,builtin,se,g1]) (hn v w' γ' _ _ hk rfl g2 ?_ g4);rw[ajl m id (zza.1 aH).1];exact g3
    ·rename_i y' rt rows e1 zh QJ;rw[e1]at h1;split at h
     ·split at h
      ·
       rename_i oy;obtain⟨WI,hk⟩:=h;obtain⟨a1,cap,b1,aqE,sz1,cv1,hv,s1,hcap⟩:=h1.bY;obtain⟨a2,bZ,vs,se,iu,sk,eE,hf2⟩:=Qbq (P:=P) hm h2 WI;rw[oy]at se;have aZ:=Qds (P:=P) (w:=w) (ty:=ty) (a:=a1) hu hi a2 bZ rows.length s1.hcap;intro rd next Q hn
       refine Zn (v:=.slice a1 rows.length cap) (w':=w) (by simp[execOp,resolve,invoke,builtin,hv,se,aZ]) (hn _ _ γ _ _ hk rfl (Ev.refl _ _) hm ?_);rw[<- hv];exact h1
      obtain⟨⟨⟨hfu,hny,hsz,cF⟩,WI⟩,hk⟩:=h;replace h1:=h1.ug hfu;obtain⟨a1,cap,b1,aqE,sz1,cv1,hv,s1,hcap⟩:=h1.bY;replace s1:=s1.fix (sz:=i.size) hsz;obtain⟨a2,bZ,vs,se,iu,sk,eE,hf2⟩:=Qbq (P:=P) hm h2 WI;obtain⟨a1',ax5,vs1,alF,y6,aqF,sr,hf1⟩:=Qbq (P:=P) (sz:=i.size) hm h1 hsz;rw[hv]at alF;simp only[lenS]at alF sr;cases alF;have cE:m.B m.boxes.length=none:=by simp[AM.B]
      have f1:(Builtin.firstCells i.size rows.length (.slice a1 rows.length cap)).run P w.drew=.ok vs1.toArray w.drew:=by
       have:=hf1 _ (zzab _) w.drew (fun _=>rfl);rw[hv]at this;simp only[lenS]at this;rw[<- sr,zzbs]at this;exact this
      have f2:(Builtin.firstCells i.size (lenS (e (aA x))) (.slice a2 (lenS (e (aA x))) bZ)).run P w.drew=.ok vs.toArray w.drew:=by
       have:=hf2 _ (zzab _) w.drew (fun _=>rfl);rw[se,<- eE,zzbs]at this;exact this
      have ax6:cap=rows.length:=hcap;obtain⟨aX,CA,aZ⟩:=mB (P:=P) (ty:=ty) (w:=w) hu hi iZ f1 f2 (by omega) cF (Jr dO cF);have hP:=AJ (rest:=(Builtin.zeroCells z.cells (aX-(rows.length+lenS (e (aA x))))).toList) y6 iu;have J1:=hm.drew;have cw:=J1.dm _ cE (.cells (vs1.toArray++vs.toArray++Builtin.zeroCells z.cells (aX-(rows.length+lenS (e (aA x))))) te)
      have CB:=J1.fk _ cE (e:=te) (arr:=vs1.toArray++vs.toArray++Builtin.zeroCells z.cells (aX-(rows.length+lenS (e (aA x))))) (by
       have:=hP.mono (Ev.drew w γ)
       simpa using this) (fun v hv=>by
        simp only[Array.toList_append,zzao]at hv;obtain(hv|hv)|hv:=hv
        ·exact aqF v (by simpa using hv)
        ·exact sk v (by simpa using hv)
        exact ajm _ v hv)
      intro rd next Q hn
      refine Zn (v:=.slice (some ⟨w.heap.size,0,none⟩) (rows.length+lenS (e (aA x))) aX) (by simp[execOp,resolve,invoke,builtin,hv,se,aZ]) (hn _ _ _ _ _ hk rfl ((Ev.drew w γ).trans cw) ?_ ?_)
      ·rw[WG];exact CB
      refine .bs (arr:=vs1.toArray++vs.toArray++Builtin.zeroCells z.cells (aX-(rows.length+lenS (e (aA x))))) (e:=te) (by show(if _ then _ else _)=_;rw[if_pos rfl];rfl) CA (Yf w _) ?_;rw[zzbv];exact grown (by rw[sr,eE,zzbp]) CA
     split at h
     case h_3=>exact h.1.elim
     case h_2=>
      rename_i gO gA cr sz2 e2;rw[e2]at h2;obtain⟨⟨⟨hfu,rfl⟩,hr,cF,alE,fQ,J2,E3⟩,hk⟩:=h;replace h1:=h1.ug hfu;obtain⟨l2,iu,γ2,a2,bZ,b2,gF,se,s2,WL⟩:=WJ hm h2 alE fQ J2 E3;generalize aV i.size cr (((m.boxes.getD gO []).map (bF m 6)).drop gA)=aC at*
      subst l2;obtain⟨v,w',γ',g1,g2,g3,g4⟩:=vP (ty:=ty) hm hu hi iZ hz (id:=m.lens.length) (.inl ⟨h1,by simp[AM.L]⟩) s2 WL (fun row h=>(zzao.1 h).elim (hr row) (iu row)) cF (Jr dO cF);intro rd next Q hn
      refine Zn (v:=v) (w':=w') (by simp[execOp,resolve,invoke,builtin,se,g1]) (hn v w' γ' _ _ hk rfl g2 ?_ g4);rw[Cz];exact g3
     rename_i JR aC e2;rw[e2]at h2;obtain⟨⟨hfu,hr,cF⟩,hk⟩:=h;replace h1:=h1.ug hfu;obtain⟨v,w',γ',g1,g2,g3,g4⟩:=NP (ty:=ty) hm hu hi iZ hz (id:=m.lens.length) (.inl ⟨h1,by simp[AM.L]⟩) h2 hr cF (Jr dO cF);intro rd next Q hn
     refine Zn (v:=v) (w':=w') (by simp[execOp,resolve,invoke,builtin,g1]) (hn v w' γ' _ _ hk rfl g2 ?_ g4);rw[Cz];exact g3
    exact h.1.elim
  case copy=>
   simp only[Zr]at h;split at h
   case h_2=>exact h.1.elim
   rename_i x y t ts' ha ht;split at h
   case h_2=>exact h.1.elim
   rename_i te hu;split at h
   case h_2=>exact h.1.elim
   rename_i i hi;obtain rfl:args=#[x,y]:=by cases args;simp_all
   have ht0:ts[0]?=some t:=by cases ts;simp_all
   exact QG hm ht0 hu hi (he x (by simp[Call.operands])) (he y (by simp[Call.operands])) h
  case clear=>
   simp only[Zr]at h;split at h
   case h_2=>exact h.1.elim
   rename_i x t ha ht;split at h
   case h_2=>exact h.1.elim
   rename_i te hu;split at h
   case h_2=>exact h.1.elim
   rename_i zs hz;obtain rfl:args=#[x]:=by cases args;simp_all
   obtain rfl:ts=#[t]:=by cases ts;simp_all
   exact QH hm hu hz (he x (by simp[Call.operands])) h
  case len=>
   refine D7 ?_;simp only[Zr];repeat' split
   all_goals rfl
  case max=>
   refine D7 ?_;simp only[Zr];repeat' split
   all_goals rfl
  case min=>
   refine D7 ?_;simp only[Zr];repeat' split
   all_goals rfl
def G.gH(γ:G)(id b:Nat):G:={γ with mm:=fun i=>if i=id then some b else γ.mm i}
def QK:Obj->Bool
 |.map _ _=>true
 |.mapIter _ _ _ _=>true
 |_=>false
def cG.QK{x:AV}{o:Obj}(h:cG w γ x o):QK o=true:=by
 unfold cG at h;split at h<;>first|rfl|exact h.elim
def NT{w:World}{b o':Nat}{o:Obj}(h:w.heap[b]?=some o)(hm:QK o=true):w.cell? ⟨b,o',none⟩=none:=by
 cases o<;>simp[QK]at hm<;>simp[World.cell?,h]
def au.J3{B:Nat->Option (List AV)}{L:Nat->Option Nat}(hm:au N w0 aq γ w B L)(id:Nat)(aN:B id=none){x:AV}{o:Obj}(hx:cG w γ x o):
  Ev w γ (w.alloc o) (γ.gH id w.heap.size)/\au N w0 aq (γ.gH id w.heap.size) (w.alloc o) (fun i=>if i=id then some [x]else B i) L:=by
 have aK:∀i b,γ.mm i=some b->i≠id:=fun i b h=>by
  rintro rfl;obtain⟨_,_,_,_,_,_,_,_,_,hx,_⟩:=hm.mm i b h;rw[aN]at hx;cases hx
 have WM:∀i b,γ.β i=some b->i≠id:=fun i b h=>by
  rintro rfl;obtain⟨_,_,_,_,c,hc⟩:=hm.β i b h;rw[aN]at hc;cases hc
 have hβ0:γ.β id=none:=by
  cases h:γ.β id with
  |none=>rfl
  |some b=>exact absurd rfl (WM id b h)
 have cw:Ev w γ (w.alloc o) (γ.gH id w.heap.size):=⟨by simp,fun b o' hb hr=>⟨hr,cell_of_heap (Below.heap_alloc w _ b hb)⟩,fun _ _ h=>h,fun _=>zzab _,fun i b h=>by simp[G.gH,aK i b h,h],rfl,
   fun i b _ ho=>⟨ho,fun arr e he=>⟨arr,by rw[Below.heap_alloc w _ b (hm.own i b ho).2.1];exact he,zzab _⟩,fun _ h=>h⟩,
   fun b hb=>⟨hb,Below.heap_alloc w _ b (hm.sp b hb).2.1⟩,Sz.of_same (Below.heap_alloc w _)⟩
 have alG:∀i i' b,γ.β i=some b->γ.β i'=some b->(if i=id then some [x]else B i)=some []\/(if i'=id then some [x]else B i')=some []\/i=i':=fun i i' b h h'=>by
  rw[if_neg (WM i b h),if_neg (WM i' b h')];exact hm.inj i i' b h h'
 refine⟨cw,⟨w0.st _ _ _ _ hm.bs ⟨rfl,rfl,rfl,by simp,fun b hb _=>Below.heap_alloc w _ b hb,cw.ro,fun b hb=>?_,fun _ _ h=>.inl h⟩,by have:=hm.hN;simp;omega,hm.aq,fun b o h=>by have:=hm.robd b o h;simp;omega,
  fun i cells b hb h1=>?_,fun i b hb=>?_,alG,fun i b hb=>?_,hm.oinj,fun b hb=>?_,fun i b hb=>?_,fun i i' b h h'=>?_,hm.len,hm.cur0⟩⟩
 ·obtain hb|hb|hb|⟨i,hb⟩:=hb
  ·exact .inl (.inl hb)
  ·exact .inl (.inr (.inl hb))
  ·exact .inl (.inr (.inr (.inl hb)))
  by_cases h:i=id
  ·simp[G.gH,h]at hb;exact .inr (by omega)
  simp[G.gH,h]at hb;exact .inl (.inr (.inr (.inr ⟨i,hb⟩)))
 ·have oO:γ.β i=some b:=h1;simp only[if_neg (WM i b oO)]at hb;obtain⟨arr,e,h2,h3,h4⟩:=hm.box i cells b hb oO;exact⟨arr,e,by rw[Below.heap_alloc w _ b (aT h2)];exact h2,h3.mono cw,h4⟩
 ·have cH:γ.β i=some b:=hb;obtain⟨h1,h2,h3,h4,c,h5⟩:=hm.β i b cH;exact⟨h1,by simp;omega,h3,h4,c,by simp only[if_neg (WM i b cH)];exact h5⟩
 ·obtain⟨h1,h2,h3⟩:=hm.own i b hb;exact⟨h1,by simp;omega,h3⟩
 ·obtain⟨h1,h2,h3⟩:=hm.sp b hb;exact⟨h1,by simp;omega,h3⟩
 ·by_cases h:i=id
  ·subst h;simp[G.gH]at hb;subst hb;refine⟨hm.hN,by simp,fun o' h=>?_,fun i h=>?_,fun i h=>?_,fun h=>?_,hβ0,x,o,by simp,by show(w.heap.push _)[w.heap.size]?=_;simp,hx.mono cw.dD.D4⟩
   ·have:=hm.robd _ _ h;omega
   ·have:=(hm.β i _ h).2.1;omega
   ·have:=(hm.own i _ h).2.1;omega
   have:=(hm.sp _ h).2.1;omega
  simp[G.gH,h]at hb;obtain⟨h1,h2,h3,h4,h5,h6,h8,h7⟩:=hm.mm i b hb;refine⟨h1,by simp;omega,h3,h4,h5,h6,h8,?_⟩;simp only[if_neg h];exact h7.mono cw.dD.D4 (Below.heap_alloc w _ b h2)
 by_cases hi:i=id<;>by_cases dV:i'=id
 ·rw[hi,dV]
 ·simp[G.gH,hi]at h;simp[G.gH,dV]at h';have:=(hm.mm i' b h').2.1;omega
 ·simp[G.gH,hi]at h;simp[G.gH,dV]at h';have:=(hm.mm i b h).2.1;omega
 simp[G.gH,hi]at h;simp[G.gH,dV]at h';exact hm.minj i i' b h h'
def E4(hm:au N w0 aq γ w m.B m.L){t:TypeId}{r:Option Operand}(h:((sop P gl orc e m dst (tr P ⟨dst,.makeMap t r,ty,pos,after,guard⟩)).1/\K (sop P gl orc e m dst (tr P ⟨dst,.makeMap t r,ty,pos,after,guard⟩)).2.1 (sop P gl orc e m dst (tr P ⟨dst,.makeMap t r,ty,pos,after,guard⟩)).2.2)):Kl N w0 aq P ⟨dst,.makeMap t r,ty,pos,after,guard⟩ a γ w (m.st,m.ln) K:=by
 cases r with
 |some r=>exact h.1.elim
 |none=>
  simp only[tr]at h;split at h
  case h_2=>exact h.1.elim
  rename_i kn z ht;intro rd next Q hn
  have aN:m.B m.boxes.length=none:=by simp[AM.B]
  obtain⟨g1,g2⟩:=hm.J3 _ aN (x:=.aJ kn []) (o:=.map #[] 0) ⟨rfl,rfl,fun i k a e q1=>by simp at q1⟩;refine Zn (v:=.map (some w.heap.size)) (w':=w.alloc (.map #[] 0)) (by simp[execOp,Instr.makeMap]) (hn _ _ (γ.gH m.boxes.length w.heap.size) _ _ h.2 rfl g1 ?_ (.mp (by simp[G.gH])));simp only[sop];rw[WG];exact g2
def au.qR{B:Nat->Option (List AV)}{L:Nat->Option Nat}(hm:au N w0 aq γ w B L){id b:Nat}(hb:γ.mm id=some b){x:AV}{o:Obj}(hx:cG w γ x o):
  Ev w γ (w.putObj b o) γ/\au N w0 aq γ (w.putObj b o) (fun i=>if i=id then some [x]else B i) L:=by
 obtain⟨n1,n2,n3,n4,n5,n6,n8,hmo⟩:=hm.mm id b hb;have hnc:=fun{arr:Array Value}{e:TypeId}{f:Nat×Nat}=>vJ.VO hmo (arr:=arr) (e:=e) (f:=f);obtain⟨x0,o0,n7,h0,QL⟩:=hmo;have cL:∀b',b'≠b->(w.putObj b o).heap[b']?=w.heap[b']?:=fun b' cH=>World.putObj_heap_other cH;have E5:(w.putObj b o).heap[b]?=some o:=by simp[World.putObj,n2]
 have bL:∀b' o',(w.putObj b o).cell? ⟨b',o',none⟩=w.cell? ⟨b',o',none⟩:=fun b' o'=>by
  by_cases D8:b'=b
  ·subst D8;rw[NT E5 hx.QK,NT h0 QL.QK]
  exact cell_of_heap (cL b' D8)
 have cw:Ev w γ (w.putObj b o) γ:=by
  refine⟨by simp,fun b' o' _ hr=>⟨hr,bL b' o'⟩,fun _ _ h=>h,fun _=>zzab _,fun _ _ h=>h,rfl,fun i b' _ ho=>⟨ho,fun arr e he=>⟨arr,?_,zzab _⟩,fun _ h=>h⟩,fun b' h=>⟨h,cL b' (by rintro rfl;exact n6 h)⟩,fun b' arr e f h=>⟨arr,by rw[cL b' (by rintro rfl;exact hnc h)];exact h,rfl⟩⟩;rw[cL b' (by rintro rfl;exact n5 i ho)];exact he
 have alG:∀i i' b',γ.β i=some b'->γ.β i'=some b'->(if i=id then some [x]else B i)=some []\/(if i'=id then some [x]else B i')=some []\/i=i':=fun i i' b' h h'=>by
  rw[if_neg (by rintro rfl;rw[n8]at h;cases h),if_neg (by rintro rfl;rw[n8]at h';cases h')];exact hm.inj i i' b' h h'
 refine⟨cw,⟨w0.st _ _ _ _ hm.bs ⟨rfl,rfl,rfl,by simp,fun b' _ zh=>cL b' (by rintro rfl;exact zh (.inr (.inr (.inr ⟨id,hb⟩)))),cw.ro,fun b' cH=>.inl cH,fun b' o' h=>.inl h⟩,by simpa using hm.hN,
  hm.aq,fun b' o' h=>by simpa using hm.robd b' o' h,fun i cells b' dA h1=>?_,fun i b' cH=>?_,alG,fun i b' cH=>?_,hm.oinj,fun b' cH=>?_,fun i b' cH=>?_,hm.minj,hm.len,hm.cur0⟩⟩
 ·have hi:i≠id:=by rintro rfl;rw[n8]at h1;cases h1
  simp only[if_neg hi]at dA;obtain⟨arr,e,h2,h3,h4⟩:=hm.box i cells b' dA h1;exact⟨arr,e,by rw[cL b' (by rintro rfl;exact n4 i h1)];exact h2,h3.mono cw,h4⟩
 ·have hi:i≠id:=by rintro rfl;rw[n8]at cH;cases cH
  obtain⟨h1,h2,h3,h4,c',h5⟩:=hm.β i b' cH;exact⟨h1,by simpa using h2,h3,h4,c',by simp only[if_neg hi];exact h5⟩
 ·obtain⟨h1,h2,h3⟩:=hm.own i b' cH;exact⟨h1,by simpa using h2,h3⟩
 ·obtain⟨h1,h2,h3⟩:=hm.sp b' cH;exact⟨h1,by simpa using h2,h3⟩
 by_cases hi:i=id
 ·subst hi;obtain rfl:b'=b:=Option.some.inj (cH.symm.trans hb);exact⟨n1,by simpa using n2,n3,n4,n5,n6,n8,x,o,by simp,E5,hx.mono cw.dD.D4⟩
 obtain⟨h1,h2,h3,h4,h5,h6,h8,h7⟩:=hm.mm i b' cH;refine⟨h1,by simpa using h2,h3,h4,h5,h6,h8,?_⟩;simp only[if_neg hi];exact h7.mono cw.dD.D4 (cL b' (by rintro rfl;exact hi (hm.minj _ _ _ cH hb)))
def nA{id:Nat}{x:AV}(h:m.boxes.getD id []=[x]):id<m.boxes.length/\m.B id=some [x]:=by
 have aN:id<m.boxes.length:=by
  rcases zzaa id m.boxes.length with h'|h'
  ·exact h'
  simp[List.getD,zzay h']at h
 refine⟨aN,?_⟩;simp[AM.B,aN];simpa[List.getD,aN]using h
def AK{kn:Nat}{kvs:List (List Int×AV)}{es:Array MapEntry}{n:List Int}{c:AV}{v:Value}(hn:Wx kn n)(hl:kvs.length=es.size)
  (hk:∀(i:Nat)(k:List Int)(a:AV)(e:MapEntry),kvs[i]?=some (k,a)->es[i]?=some e->Wx kn k/\e.key=Yo kn k/\e.born=i/\aB w γ a e.val)(hc:aB w γ c v):
  cG w γ (.aJ kn (kvs++[(n,c)])) (.map (es.push ⟨Yo kn n,v,es.size⟩) (es.size+1)):=by
 refine⟨by simp,by simp[hl],fun j k' c' x' s1 s2=>?_⟩;rcases zzaa j kvs.length with hj|hj
 ·rw[zzag hj]at s1;rw[Array.getElem?_push_lt (by omega)]at s2;exact hk j k' c' x' s1 (by rw[zzaj (by omega)];exact s2)
 have NO:j=kvs.length:=by
  have:=(zza.1 s1).1;simp at this;omega
 subst NO;simp at s1;obtain⟨rfl,rfl⟩:=s1;rw[hl]at s2;simp at s2;subst s2;exact⟨hn,rfl,hl.symm,hc⟩
def v7{kn:Nat}{kvs:List (List Int×AV)}{es:Array MapEntry}{n:List Int}{j:Nat}{c:AV}{f:MapEntry->MapEntry}(hn:Wx kn n)(hl:kvs.length=es.size)
  (hk:∀(i:Nat)(k:List Int)(a:AV)(e:MapEntry),kvs[i]?=some (k,a)->es[i]?=some e->Wx kn k/\e.key=Yo kn k/\e.born=i/\aB w γ a e.val)(hj:j<kvs.length)
  (hf:∀e,es[j]?=some e->(f e).key=Yo kn n/\(f e).born=e.born/\aB w γ c (f e).val):
  cG w γ (.aJ kn (kvs.set j (n,c))) (.map (es.modify j f) es.size):=by
 refine⟨by simp,by simp[hl],fun j' k' c' x' t1 t2=>?_⟩;rw[zzen]at t2;by_cases hjj:j=j'
 ·subst hjj;have uh:j<es.size:=by omega
  simp[uh]at t2;rw[zzb (by omega)]at t1;cases t1;subst t2;obtain⟨p1,p2,p3⟩:=hf es[j] (by simp[uh]);have:=hk j (kvs[j]'hj).1 (kvs[j]'hj).2 es[j] (by simp[hj]) (by simp[uh]);exact⟨hn,p1,by rw[p2];exact this.2.2.1,p3⟩
 rw[zzbe hjj]at t1;rw[if_neg hjj]at t2;exact hk j' k' c' x' t1 t2
def CD(b:Nat)(o:Obj){es:Array MapEntry}{c:Nat}(q2:w.heap[b]?=some (.map es c)):(setObj b o).run P w=.ok () (w.putObj b o):=by simp[setObj,Sem.run,q2,World.putObj]
def J4(hm:au N w0 aq γ w m.B m.L){t:TypeId}{x k y:Operand}(h1:aB w γ (e (aA x)) (a.eval x))(h2:aB w γ (e (aA k)) (a.eval k))(h3:aB w γ (e (aA y)) (a.eval y))
  (h:((sop P gl orc e m dst (tr P ⟨dst,.mapUpdate t x k y,ty,pos,after,guard⟩)).1/\K (sop P gl orc e m dst (tr P ⟨dst,.mapUpdate t x k y,ty,pos,after,guard⟩)).2.1 (sop P gl orc e m dst (tr P ⟨dst,.mapUpdate t x k y,ty,pos,after,guard⟩)).2.2)):Kl N w0 aq P ⟨dst,.mapUpdate t x k y,ty,pos,after,guard⟩ a γ w (m.st,m.ln) K:=by
 simp only[tr]at h;split at h
 case h_2=>exact h.1.elim
 rename_i kn z ht;simp only[sop]at h;split at h
 case h_2=>exact h.1.elim
 rename_i id n e1 e2;rw[e1]at h1;obtain⟨e3,eN⟩:=Cw e2;rw[e3]at h2;split at h
 case h_2=>exact h.1.elim
 rename_i Au kvs fq;obtain⟨⟨D5,hba⟩,hK⟩:=h;subst D5;obtain⟨kt,vt,i,zv,hu,hk,hi,hz,rfl⟩:=kN ht;obtain⟨aN,CE⟩:=nA fq;obtain⟨b,es,hb,hv,q2,q3,q4⟩:=hm.jb h1 CE
 obtain⟨f1,f2⟩:=Cx (w:=w) (γ:=γ) (P:=P) hk eN (kvs:=kvs) (es:=es.toList) (by simpa using q3) fun j k' c x' g1 g2=>by
  obtain⟨p1,p2,_,p3⟩:=q4 j k' c x' g1 (by simpa using g2);exact⟨p1,p2,p3⟩
 have cp:=MapKept.run_getObj_map (P:=P) q2;have bV:=fun o=>CD (P:=P) b o q2;have kP:(Instr.checkKey false 10000 kt (Yo Au n)).run P w=.ok () w:=run_checkKey hk eN;have hkv:=qO eN h2;intro rd next Q hn
 cases hf:Xj n kvs 0 with
 |none=>
  rw[hf]at hK;have QB:=f1 hf
  have aZ:(execOp a.eval ⟨dst,.mapUpdate t x k y,ty,pos,after,guard⟩).run P w=.ok .skip (w.putObj b (.map (es.push ⟨Yo Au n,a.eval y,es.size⟩) (es.size+1))):=by
   simp[execOp,Instr.mapUpdate,run_underlying hu,hv,hkv,cp,kP,QB,bV]
  obtain⟨g1,g2⟩:=hm.qR hb (AK eN q3 q4 h3);refine oI aZ (hn undef _ γ _ _ hK rfl g1 ?_ (.junk _));rw[mA m id aN];exact g2
 |some p=>
  obtain⟨j,c⟩:=p;rw[hf]at hK;obtain⟨vv,QB,s2,s3,s4⟩:=f2 j c hf;have uj:j<es.size:=by omega
  have oS:=(q4 j n c es[j] s4 (zzaj uj)).2.1;have Iv:=oR (P:=P) (w:=w) (new:=Yo Au n) eN oS rfl
  have aZ:(execOp a.eval ⟨dst,.mapUpdate t x k y,ty,pos,after,guard⟩).run P w=.ok .skip (w.putObj b (.map (es.modify j fun q=>{q with key:=Yo Au n,val:=a.eval y}) es.size)):=by
   simp[execOp,Instr.mapUpdate,run_underlying hu,hv,hkv,cp,kP,QB,uj,Iv,bV]
  obtain⟨g1,g2⟩:=hm.qR hb (v7 (j:=j) (c:=e (aA y)) (f:=fun q=>{q with key:=Yo Au n,val:=a.eval y}) eN q3 q4 s3 fun e he=>⟨rfl,rfl,h3⟩);refine oI aZ (hn undef _ γ _ _ hK rfl g1 ?_ (.junk _));rw[mA m id aN];exact g2
def J5(hm:au N w0 aq γ w m.B m.L){t:TypeId}{x k:Operand}(h1:aB w γ (e (aA x)) (a.eval x))(h2:aB w γ (e (aA k)) (a.eval k))
  (h:((sop P gl orc e m dst (tr P ⟨dst,.mapEntry t x k,ty,pos,after,guard⟩)).1/\K (sop P gl orc e m dst (tr P ⟨dst,.mapEntry t x k,ty,pos,after,guard⟩)).2.1 (sop P gl orc e m dst (tr P ⟨dst,.mapEntry t x k,ty,pos,after,guard⟩)).2.2)):Kl N w0 aq P ⟨dst,.mapEntry t x k,ty,pos,after,guard⟩ a γ w (m.st,m.ln) K:=by
 simp only[tr]at h;split at h
 case h_2=>exact h.1.elim
 rename_i kn z ht;simp only[sop]at h;split at h
 case h_2=>exact h.1.elim
 rename_i id n e1 e2;rw[e1]at h1;obtain⟨e3,eN⟩:=Cw e2;rw[e3]at h2;split at h
 case h_2=>exact h.1.elim
 rename_i Au kvs fq;obtain⟨D5,hK⟩:=h;simp only at D5;subst D5;obtain⟨kt,vt,i,zv,hu,hk,hi,hz,rfl⟩:=kN ht;obtain⟨aN,CE⟩:=nA fq;obtain⟨b,es,hb,hv,q2,q3,q4⟩:=hm.jb h1 CE
 obtain⟨f1,f2⟩:=Cx (w:=w) (γ:=γ) (P:=P) hk eN (kvs:=kvs) (es:=es.toList) (by simpa using q3) fun j k' c x' g1 g2=>by
  obtain⟨p1,p2,_,p3⟩:=q4 j k' c x' g1 (by simpa using g2);exact⟨p1,p2,p3⟩
 have cp:=MapKept.run_getObj_map (P:=P) q2;have bV:=fun o=>CD (P:=P) b o q2;have kP:(Instr.checkKey false 10000 kt (Yo Au n)).run P w=.ok () w:=run_checkKey hk eN;have hkv:=qO eN h2;intro rd next Q hn
 cases hf:Xj n kvs 0 with
 |none=>
  rw[hf]at hK;have QB:=f1 hf
  have aZ:(execOp a.eval ⟨dst,.mapEntry t x k,ty,pos,after,guard⟩).run P w=.ok (.value (.tuple #[zv,.int .i64 es.size])) (w.putObj b (.map (es.push ⟨Yo Au n,zv,es.size⟩) (es.size+1))):=by
   simp[execOp,Instr.mapEntry,run_underlying hu,hv,hkv,cp,kP,QB,bV,zeroValue,typeInfo,hi,hz,goInt]
  obtain⟨g1,g2⟩:=hm.qR hb (AK eN q3 q4 (Jw w γ zv));refine Zn aZ (hn _ _ γ _ _ hK rfl g1 ?_ ?_)
  ·rw[mA m id aN];exact g2
  rw[q3];exact(ak.cons (Jw _ γ zv) (ak.cons (.int .i64 _) ak.nil)).zm
 |some p=>
  obtain⟨j,c⟩:=p;rw[hf]at hK;obtain⟨vv,QB,s2,s3,s4⟩:=f2 j c hf;have uj:j<es.size:=by omega
  have oS:=q4 j n c es[j] s4 (zzaj uj);have Iv:=oR (P:=P) (w:=w) (new:=Yo Au n) eN oS.2.1 rfl
  have aZ:(execOp a.eval ⟨dst,.mapEntry t x k,ty,pos,after,guard⟩).run P w=.ok (.value (.tuple #[vv,.int .i64 j])) (w.putObj b (.map (es.modify j fun q=>{q with key:=Yo Au n}) es.size)):=by
   simp[execOp,Instr.mapEntry,run_underlying hu,hv,hkv,cp,kP,QB,uj,Iv,bV,goInt,oS.2.2.1]
  have WN:kvs.set j (n,c)=kvs:=by
   apply zzcm;intro i;by_cases eM:j=i
   ·subst eM;rw[zzb s3,s4]
   rw[zzbe eM]
  obtain⟨g1,g2⟩:=hm.qR hb (v7 (j:=j) (c:=c) (f:=fun q=>{q with key:=Yo Au n}) eN q3 q4 s3 fun e he=>⟨rfl,rfl,(q4 j n c e s4 he).2.2.2⟩);rw[WN]at g2;refine Zn aZ (hn _ _ γ _ _ hK rfl g1 ?_ ?_)
  ·rw[mA m id aN];exact g2
  exact((ak.cons s2 (ak.cons (.int .i64 _) ak.nil)).mono g1).zm
def J6(hm:au N w0 aq γ w m.B m.L){t:TypeId}{x k y:Operand}(h1:aB w γ (e (aA x)) (a.eval x))(h2:aB w γ (e (aA k)) (a.eval k))(h3:aB w γ (e (aA y)) (a.eval y))
  (h:((sop P gl orc e m dst (tr P ⟨dst,.entryStore t x k y,ty,pos,after,guard⟩)).1/\K (sop P gl orc e m dst (tr P ⟨dst,.entryStore t x k y,ty,pos,after,guard⟩)).2.1 (sop P gl orc e m dst (tr P ⟨dst,.entryStore t x k y,ty,pos,after,guard⟩)).2.2)):Kl N w0 aq P ⟨dst,.entryStore t x k y,ty,pos,after,guard⟩ a γ w (m.st,m.ln) K:=by
 simp only[tr,sop]at h;split at h
 case h_2=>exact h.1.elim
 rename_i id kk i e1 e2;rw[e1]at h1;rw[e2]at h2;split at h
 case h_2=>exact h.1.elim
 rename_i kn kvs fq;obtain⟨⟨⟨hi0,eS⟩,hba⟩,hK⟩:=h;obtain⟨aN,CE⟩:=nA fq;obtain⟨b,es,hb,hv,q2,q3,q4⟩:=hm.jb h1 CE;have cp:=MapKept.run_getObj_map (P:=P) q2;have bV:=fun o=>CD (P:=P) b o q2;obtain⟨j,rfl⟩:∃j:Nat,i=j:=⟨i.toNat,by omega⟩;have uj:j<es.size:=by omega
 have y7:j<kvs.length:=by omega
 have AD:es.findIdx? (fun e=>(e.born:Int)==(j:Int))=some j:=by
  rw[Array.findIdx?_eq_some_iff_getElem];refine⟨uj,by simp[Qee q3 q4 uj],fun l hl=>?_⟩;have:=Qee q3 q4 (i:=l) (by omega);simp[this];omega
 have aZ:(execOp a.eval ⟨dst,.entryStore t x k y,ty,pos,after,guard⟩).run P w=.ok .skip (w.putObj b (.map (es.modify j fun q=>{q with val:=a.eval y}) es.size)):=by
  simp[execOp,Instr.entryStore,hv,cp,h2.aG,asInt,asIntOf,AD,bV]
 have oS:=q4 j (kvs[j]'y7).1 (kvs[j]'y7).2 es[j] (by simp[y7]) (by simp[uj])
 obtain⟨g1,g2⟩:=hm.qR hb (v7 (j:=j) (n:=(kvs[j]'y7).1) (c:=e (aA y)) (f:=fun q=>{q with val:=a.eval y}) oS.1 q3 q4 y7 fun e he=>⟨by
  have:=q4 j (kvs[j]'y7).1 (kvs[j]'y7).2 e (by simp[y7]) he;exact this.2.1,rfl,h3⟩)
 intro rd next Q hn
 have Wc:(kvs.getD (Int.toNat (j:Int)) ([],.junk)).1=(kvs[j]'y7).1:=by simp[List.getD,y7]
 rw[Wc]at hK;refine oI aZ (hn undef _ γ _ _ hK rfl g1 ?_ (.junk _));rw[mA m id aN];exact g2
def QM(hm:au N w0 aq γ w m.B m.L){t:TypeId}{x:Operand}(h1:aB w γ (e (aA x)) (a.eval x))
  (h:((sop P gl orc e m dst (tr P ⟨dst,.range t x,ty,pos,after,guard⟩)).1/\K (sop P gl orc e m dst (tr P ⟨dst,.range t x,ty,pos,after,guard⟩)).2.1 (sop P gl orc e m dst (tr P ⟨dst,.range t x,ty,pos,after,guard⟩)).2.2)):Kl N w0 aq P ⟨dst,.range t x,ty,pos,after,guard⟩ a γ w (m.st,m.ln) K:=by
 simp only[tr]at h;split at h
 case h_2=>exact h.1.elim
 rename_i p ht;obtain⟨kn,z⟩:=p;simp only[sop]at h;split at h
 case h_2=>exact h.1.elim
 rename_i id e1;rw[e1]at h1;split at h
 case h_2=>exact h.1.elim
 rename_i Au kvs fq;obtain⟨kt,vt,i,zv,hu,hk,hi,hz,rfl⟩:=kN ht;obtain⟨aN,CE⟩:=nA fq;obtain⟨b,es,hb,hv,q2,q3,q4⟩:=hm.jb h1 CE;have cE:m.B m.boxes.length=none:=by simp[AM.B]
 obtain⟨g1,g2⟩:=hm.J3 _ cE (x:=.mitr id kvs.length []) (o:=.mapIter (some b) es.size #[] es.size) ⟨hb,q3.symm,q3.symm,rfl⟩
 have aZ:(execOp a.eval ⟨dst,.range t x,ty,pos,after,guard⟩).run P w=.ok (.value (.pointer (some ⟨w.heap.size,0,none⟩))) (w.alloc (.mapIter (some b) es.size #[] es.size)):=by
  simp[execOp,hv,run_range_map w t kt vt b es es.size hu q2]
 intro rd next Q hn
 refine Zn aZ (hn _ _ (γ.gH m.boxes.length w.heap.size) _ _ h.2 rfl g1 ?_ (.it (by simp[G.gH])));rw[WG];exact g2
def J7(hm:au N w0 aq γ w m.B m.L){t:TypeId}{l c:Operand}(h0:aB w γ (e (aA l)) (a.eval l))(h1:aB w γ (e (aA c)) (a.eval c))
  (h:((sop P gl orc e m dst (tr P ⟨dst,.makeSlice t l c,ty,pos,after,guard⟩)).1/\K (sop P gl orc e m dst (tr P ⟨dst,.makeSlice t l c,ty,pos,after,guard⟩)).2.1 (sop P gl orc e m dst (tr P ⟨dst,.makeSlice t l c,ty,pos,after,guard⟩)).2.2)):Kl N w0 aq P ⟨dst,.makeSlice t l c,ty,pos,after,guard⟩ a γ w (m.st,m.ln) K:=by
 simp only[tr]at h;split at h
 case h_2=>exact h.1.elim
 rename_i te hu;split at h
 case h_3=>exact h.1.elim
 case h_2=>
  rename_i i hi CF;split at h
  case h_2=>exact h.1.elim
  rename_i zs Cs;obtain⟨i',z,dV,hz,JW⟩:=qM (w:=w) (γ:=γ) Cs;rw[hi]at dV;cases dV;simp only[sop]at h;split at h
  case h_2=>exact h.1.elim
  rename_i k1 n1 k2 n2 e1 e2;rw[e1]at h0;rw[e2]at h1;obtain⟨⟨⟨g0,g1,g2,g3⟩,g4,g5⟩,g6⟩:=h;have aZ:=run_make (P:=P) w t te i z hu hi hz k1 k2 n1 n2 g0 (by omega) g2 g3;have aN:m.B m.boxes.length=none:=by simp[AM.B]
  have lP:=Ud JW g5;have EZ:z.cells.size=zs.length:=by have:=JW.1;simp at this;omega
  intro rd next Q hn
  refine Zn (v:=.slice (some ⟨w.heap.size,0,none⟩) n1.toNat n2.toNat) (w':=w.alloc (.cells (madeCells z.cells (n2.toNat*i.size)) te)) (by simp[execOp,h0.aG,h1.aG,aZ])
   (hn _ _ (γ.box m.boxes.length w.heap.size) _ _ g6 rfl (hm.dm _ aN _) ?_ ?_)
  ·rw[WG]
   have zl:∀v∈(madeCells z.cells (n2.toNat*i.size)).toList,v.oneCell'=true:=fun v hv=>by
    simp[madeCells]at hv;obtain⟨k,hk,rfl⟩:=hv
    have h0:0<z.cells.size:=by
     rcases zzcn z.cells.size with h0|h0
     ·rw[h0]at EZ;rw[<- g4,<- EZ]at hk;simp at hk
     exact h0
    have ai:k%z.cells.size<z.cells.size:=zze _ h0;rw[getElem!_pos z.cells _ ai];exact lP _ (by simp)
   refine hm.fk _ aN ⟨by simp[Kj,size_madeCells,g4],fun k c v j1 j2=>?_⟩ zl;obtain⟨q1,q2⟩:=kQ j1
   have h0:0<zs.length:=by
    rcases zzcn zs.length with h0|h0
    ·simp[h0]at q1
    exact h0
   have ai:k%zs.length<z.cells.size:=by rw[EZ];exact zze _ h0
   have Cy:v=z.cells[k%zs.length]:=by
    simp only[madeCells,zzcd,zzgg]at j2;rw[zzaj (by simp;rw[<- g4];exact q1)]at j2;simp[EZ]at j2;rw[<- j2,getElem!_pos z.cells _ ai]
   subst Cy;exact JW.2 _ c _ q2 (by simp[ai])
  exact .bs (arr:=madeCells z.cells (n2.toNat*i.size)) (e:=te) (by simp[G.box]) (by omega) (by show(w.heap.push _)[w.heap.size]?=_;simp) (by rw[zzbv,size_madeCells];exact zzab _)
 rename_i i hi;split at h
 case isFalse=>exact h.1.elim
 rename_i iZ;simp only[zzak,beq_iff_eq,bne_iff_ne]at iZ;obtain⟨iZ,hi0⟩:=iZ
 obtain⟨z,hz,Cs,hzo⟩:∃z,i.zero=some z/\z.cells.size=i.size/\∀v∈z.cells,v.oneCell'=true:=by
  cases hz:i.zero with
  |none=>simp[hz]at iZ
  |some z=>
   simp[hz]at iZ
   exact⟨z,rfl,iZ.1,fun v hv=>by
    obtain⟨k,hk,rfl⟩:=zzhn.1 hv;exact iZ.2 k hk⟩
 have WO:∀(n:Nat),z.cells.size≠0->∀v∈(madeCells z.cells n).toList,v.oneCell'=true:=fun n h0 v hv=>by
  simp[madeCells]at hv;obtain⟨k,hk,rfl⟩:=hv;have ai:k%z.cells.size<z.cells.size:=zze _ (by omega);rw[getElem!_pos z.cells _ ai];exact hzo _ (by simp)
 simp only[sop]at h;split at h
 case h_2=>exact h.1.elim
 rename_i kk n e1;rw[e1]at h1;have JX:a.eval (.const (.int .i64 0))=.int .i64 0:=rfl;split at h
 ·split at h
  ·rename_i hc0;obtain⟨⟨g1,g2,g3⟩,g4⟩:=h;have aZ:=run_make (P:=P) w t te i z hu hi hz .i64 kk 0 n (zzbu _) g1 g2 g3;intro rd next Q hn
   have aN:m.B m.boxes.length=none:=by simp[AM.B]
   refine Zn (v:=.slice (some ⟨w.heap.size,0,none⟩) 0 n.toNat) (w':=w.alloc (.cells (madeCells z.cells (n.toNat*i.size)) te)) (by simp[execOp,JX,h1.aG,aZ])
    (hn _ _ (γ.box m.boxes.length w.heap.size) _ _ g4 rfl (hm.dm _ aN _) ?_ ?_)
   ·rw[WG];exact hm.fk _ aN ⟨by simp,fun k c v j1 j2=>by simp at j1⟩ (by rw[hc0];simp[madeCells])
   exact .sl (rows:=[]) w.heap.size 0 i.size (fun _ _=>undef) (zzcc _) (fun h=>(by cases h)) (fun h=>absurd rfl h) (fun _ h=>by cases h) (fun i j c h=>by simp[Qt]at h) (fun i j c h=>by simp[Qt]at h) (by simpa[tF]using hc0)
  obtain⟨⟨g1,g2,g3⟩,g4⟩:=h;have aZ:=run_make (P:=P) w t te i z hu hi hz .i64 kk 0 n (zzbu _) g1 g2 g3;have aN:m.B m.boxes.length=none:=by simp[AM.B]
  intro rd next Q hn
  refine Zn (v:=.slice (some ⟨w.heap.size,0,none⟩) 0 n.toNat) (w':=w.alloc (.cells (madeCells z.cells (n.toNat*i.size)) te)) (by simp[execOp,JX,h1.aG,aZ])
   (hn _ _ (γ.box m.boxes.length w.heap.size) _ _ g4 rfl (hm.dm _ aN _) ?_ ?_)
  ·rw[WG];refine hm.fk _ aN ⟨by simp[size_madeCells],fun k c v j1 j2=>?_⟩ (WO _ (by omega));simp[zzcp]at j1;rw[<- j1.2];exact .junk _
  exact .bs (arr:=madeCells z.cells (n.toNat*i.size)) (e:=te) (by simp[G.box]) (by omega) (by show(w.heap.push _)[w.heap.size]?=_;simp) (by rw[zzbv,size_madeCells];exact zzab _)
 obtain⟨⟨g1,g2,g3⟩,g4⟩:=h;have aZ:=run_make (P:=P) w t te i z hu hi hz .i64 kk 0 n (zzbu _) g1 g2 g3;have hL:m.L m.lens.length=none:=by simp[AM.L]
 have dz:γ.cur m.lens.length=0:=hm.cur0 _ hL
 have eP:γ.own m.lens.length=none:=by
  cases h:γ.own m.lens.length with
  |none=>rfl
  |some b=>obtain⟨_,_,k,hk⟩:=hm.own _ _ h;rw[hL]at hk;cases hk
 intro rd next Q hn
 let o:Obj:=.cells (madeCells z.cells (n.toNat*i.size)) te
 refine Zn (v:=.slice (some ⟨w.heap.size,0,none⟩) 0 n.toNat) (w':=w.alloc o) (by simp[execOp,JX,h1.aG,aZ,o])
  (hn _ _ (γ.renew m.lens.length w.heap.size 0 0) _ _ g4 rfl (hm.fP (q:=0) (by omega) (fun _=>eP) o) ?_ ?_)
 ·rw[Cz];exact hm.renew (by omega) (fun _=>eP) o
 refine .sl (rows:=[]) w.heap.size 0 i.size (fun _ _=>undef) (zzcc _) (fun h=>(by cases h)) (fun h=>absurd rfl h) (fun _ h=>by cases h) (fun i j c h=>by simp[Qt]at h) (fun i j c h=>by simp[Qt]at h) ?_;refine⟨rfl,zzcc _,fun _=>.inr ⟨w.heap.size,0,madeCells z.cells (n.toNat*i.size),te,rfl,by simp[G.renew],by show(w.heap.push _)[w.heap.size]?=_;simp[o],by simp[size_madeCells],fun o' _ hr=>?_⟩⟩;obtain hr|⟨_,hr⟩:=hr
 ·have:=hm.robd _ _ hr;omega
 omega
def QN(hm:au N w0 aq γ w m.B m.L)(lM:∀g,aB w γ.cT (gl g) (.pointer (some ⟨g,0,none⟩))){t:TypeId}{len:Nat}{parts:Array (Nat×Operand)}(he:∀x∈(Op.buildSlice t len parts).operands,aB w γ (e (aA x)) (a.eval x))
  (h:((sop P gl orc e m dst (tr P ⟨dst,.buildSlice t len parts,ty,pos,after,guard⟩)).1/\K (sop P gl orc e m dst (tr P ⟨dst,.buildSlice t len parts,ty,pos,after,guard⟩)).2.1 (sop P gl orc e m dst (tr P ⟨dst,.buildSlice t len parts,ty,pos,after,guard⟩)).2.2)):
  Kl N w0 aq P ⟨dst,.buildSlice t len parts,ty,pos,after,guard⟩ a γ w (m.st,m.ln) K:=by
 by_cases hmut:mutO orc dst=true
 case neg=>
  refine qP (o:=⟨dst,.buildSlice t len parts,ty,pos,after,guard⟩) (orc:=orc) hm lM he ?_;simp only[tr]at h |-
  repeat' split at h
  all_goals first|exact h.1.elim|skip
  simp only[sop,if_neg hmut]at h;simp_all
 have h1:∀p∈parts,aB w γ (e (aA p.2)) (a.eval p.2):=fun p hp=>he p.2 (by simp[Op.operands];exact⟨p.1,hp⟩);simp only[tr]at h;split at h
 case h_2=>exact h.1.elim
 rename_i te hu;split at h
 case h_2=>exact h.1.elim
 rename_i i hi;split at h
 case isFalse=>exact h.1.elim
 rename_i bS;simp only[zzak,beq_iff_eq,bne_iff_ne,decide_eq_true_eq]at bS;obtain⟨⟨hz,NQ⟩,vO⟩:=bS;cases iZ:i.zero with
 |none=>simp[iZ]at hz
 |some z=>
  simp[iZ]at hz;simp only[sop,if_pos hmut]at h;obtain⟨⟨fE,Cu⟩,hk⟩:=h
  let dW:Array Value:=(Array.range (len*i.size)).map (z.cells[·%z.cells.size]!)
  have tI:ak w γ (List.replicate (len*i.size) .junk) dW.toList:=by
   refine⟨by simp[dW],fun j x v hj _=>?_⟩;simp[zzcp]at hj;rw[<- hj.2];exact .junk _
  obtain⟨cells,f1,f2,f3⟩:=Qbo (w:=w) (γ:=γ) (place:=fun j=>some (j*i.size,i.size)) (parts.toList.map fun p=>(p.1*i.size,i.size,e (aA p.2))) (parts.toList.map fun p=>(p.1,a.eval p.2)) _ dW (by simp) (fun j p q ek ql=>by
    simp at ek ql;obtain⟨x1,x2,PR,rfl⟩:=ek;obtain⟨y1,y2,hy1,rfl⟩:=ql;rw[PR]at hy1;cases hy1;exact⟨rfl,h1 (x1,x2) (zzda PR)⟩) tI (by simpa[Function.comp_def]using fE)
  have P3:(fillA (List.replicate (len*i.size) .junk) ((parts.toList.map fun p=>(p.1,aA p.2)).map fun p=>(p.1*i.size,i.size,e p.2))).2=(fillA (List.replicate (len*i.size) .junk) (parts.toList.map fun p=>(p.1*i.size,i.size,e (aA p.2)))).2:=by
   simp[Function.comp_def]
  rw[P3]at Cu hk;have qN:cells.size=len*i.size:=by rw[f3];simp[dW]
  have aZ:(execOp a.eval ⟨dst,.buildSlice t len parts,ty,pos,after,guard⟩).run P w=.ok (.value (.slice (some ⟨w.heap.size,0,none⟩) len len)) (w.alloc (.cells cells te)):=by
   have V6:¬(16777216<len*i.size):=by omega
   by_cases oy:len*i.size=0
   ·have fu:dW=(Array.range (len*i.size)).map ((#[]:Array Value)[·%(#[]:Array Value).size]!):=by
     simp[dW,oy]
    rw[fu]at f1
    have dZ:len=0:=by
     rcases Nat.mul_eq_zero.1 oy with h|h
     ·exact h
     exact absurd h NQ
    simp[oy]at f1;simp[execOp,Instr.buildSlice,run_underlying hu,sizeOf,typeInfo,hi,oy,f1,newRow]
   simp only[execOp,Instr.buildSlice];have f1':Instr.fill (fun j=>some (j*i.size,i.size)) ((Array.range (len*i.size)).map (z.cells[·%z.cells.size]!)) (parts.toList.map fun p=>(p.1,a.eval p.2))=some cells:=f1;simp[run_underlying hu,sizeOf,typeInfo,zeroValue,hi,iZ,oy,V6,f1',newRow]
  have aN:m.B m.boxes.length=none:=by simp[AM.B]
  intro rd next Q hn
  refine Zn aZ (hn _ _ (γ.box m.boxes.length w.heap.size) _ _ hk rfl (hm.dm _ aN _) ?_ ?_)
  ·rw[WG];exact hm.fk _ aN f2.toP (Ud f2 Cu)
  exact .bs (arr:=cells) (e:=te) (by simp[G.box]) (zzab _) (by show(w.heap.push _)[w.heap.size]?=_;simp) (by rw[zzbv,qN];exact zzab _)
def AL(hm:au N w0 aq γ w m.B m.L)(lM:∀g,aB w γ.cT (gl g) (.pointer (some ⟨g,0,none⟩)))
  (he:∀x∈o.op.operands,aB w γ (e (aA x)) (a.eval x))(h:((sop P gl orc e m o.dst (tr P o)).1/\K (sop P gl orc e m o.dst (tr P o)).2.1 (sop P gl orc e m o.dst (tr P o)).2.2)):Kl N w0 aq P o a γ w (m.st,m.ln) K:=by
 have D7:sop P gl orc e m o.dst (tr P o)=((rop P gl orc e m o.dst (tr P o)).1,(rop P gl orc e m o.dst (tr P o)).2,m)->Kl N w0 aq P o a γ w (m.st,m.ln) K:=fun hg=>
  qP hm lM he (by rw[hg]at h;exact h)
 obtain⟨dst,op,ty,pos,after,guard⟩:=o;cases op with
 |alloc t=>exact EX hm h
 |box t x=>exact QF hm (he x (by simp[Op.operands])) h
 |store t x y=>exact EY hm (he x (by simp[Op.operands])) (he y (by simp[Op.operands])) h
 |call c=>exact QI hm lM he h
 |makeMap t r=>exact E4 hm h
 |mapUpdate t x k y=>exact J4 hm (he x (by simp[Op.operands])) (he k (by simp[Op.operands])) (he y (by simp[Op.operands])) h
 |mapEntry t x k=>exact J5 hm (he x (by simp[Op.operands])) (he k (by simp[Op.operands])) h
 |entryStore t x k y=>exact J6 hm (he x (by simp[Op.operands])) (he k (by simp[Op.operands])) (he y (by simp[Op.operands])) h
 |range t x=>exact QM hm (he x (by simp[Op.operands])) h
 |next x s=>refine D7 ?_;cases s<;>rfl
 |makeSlice t l c=>exact J7 hm (he l (by simp[Op.operands])) (he c (by simp[Op.operands])) h
 |buildSlice t len parts=>exact QN hm lM he h
 |binOp op t x y t'=>
  refine D7 ?_;simp only[tr,mz,Qch,zi];repeat' split
  all_goals rfl
 |build t parts=>
  refine D7 ?_;simp only[tr,Wj];repeat' split
  all_goals rfl
 |slice t x lo hi mx=>refine D7 ?_;cases mx<;>simp only[tr]<;>(repeat' split)<;>rfl
 |makeFunc fn first cap=>refine D7 ?_;cases fn<;>rfl
 |_=>first|exact D7 rfl|(
  refine D7 ?_;simp only[tr];repeat' split
  all_goals rfl)
end
open Go Go.RowKit
structure SO where
 dst:Option Nat
 op:aD
 guard:Option (Option Nat×Bool)
 xs:List bK
def Xn(P:Program)(ops:Array Oper)(o:Oper):SO:=
 {dst:=o.dst,op:=tr P o,guard:=o.guard.map fun p=>((ops[p.1]?).bind (·.dst),p.2),xs:=if o.guard.isSome then o.op.operands.toList.map aA else[]}
structure AS where
 T:List AV
 m:AM
def put(T:List AV)(dst:Option Nat)(a:AV):List AV:=match dst with|some d=>T.set d a|none=>T
def strip:AV->AV
 |.gd _ a=>a
 |a=>a
def evS(gl:Nat->AV)(T:List AV)(x:bK):AV:=strip (ev gl T x)
def gok(gl:Nat->AV)(T:List AV)(g:Bool):List bK->Prop
 |[]=>True
 |x::r=>(match ev gl T x with|.gd g' _=>(g=true->g'=true)|_=>True)/\gok gl T g r
def rawOp:aD->Bool
 |.pick _ _ _=>true
 |_=>false
def evG(gl:Nat->AV)(T:List AV)(op:aD):bK->AV:=bif rawOp op then ev gl T else evS gl T
def gxs(op:aD)(xs:List bK):List bK:=bif rawOp op then[]else xs
def Iw(want:Bool):AV->Option Bool
 |.bool g=>some (g==want)
 |.gd d (.bool b)=>some (d&&(b==want))
 |.gd false _=>some false
 |_=>none
abbrev YT:=Nat->List AV->AM->(Bool->AM->Prop)->Prop
def qS:Exit->Option Code
 |.ret=>some .ret
 |.exit id=>some (.exit id)
 |_=>none
def J8:LS->Loop->Prop
 |.gone,_=>True
 |.ready,r=>r.state=.ready/\r.pending=none
 |.busy,r=>r.state=.busy
 |.done ex,r=>r.state=.done/\r.pending=qS ex/\(qS ex).isSome=true
def cO(γ:G)(w:World)(m:AM):Prop:=(∀i,m.st i=.gone\/∃l,γ.lp i=some l/\γ.sp l/\∃r,w.heap[l]?=some (.loop r)/\J8 (m.st i) r)/\
 (∀i,m.ln<=i->γ.lp i=none)/\(∀i j l,γ.lp i=some l->γ.lp j=some l->i=j)/\∀i l,γ.lp i=some l->γ.sp l/\∃r,w.heap[l]?=some (.loop r)
def cO.mono'{γ:G}{w:World}{m m':AM}(h:cO γ w m){γ':G}{w':World}(e:Ev w γ w' γ')(hm:(m'.st,m'.ln)=(m.st,m.ln)):cO γ' w' m':=by
 simp only[Prod.mk.injEq]at hm;unfold cO;rw[hm.1,hm.2,e.lp];exact⟨fun i=>(h.1 i).imp_right fun⟨l,h0,h1,r,h2,h3⟩=>⟨l,h0,(e.sp l h1).1,r,(e.sp l h1).2.trans h2,h3⟩,h.2.1,h.2.2.1,fun i l hl=>let⟨h1,r,h2⟩:=h.2.2.2 i l hl;⟨(e.sp l h1).1,r,(e.sp l h1).2.trans h2⟩⟩
def cO.mono{γ:G}{w:World}{m:AM}(h:cO γ w m){γ':G}{w':World}(e:Ev w γ w' γ'):cO γ' w' m:=h.mono' e rfl
def YOK(N:Nat)(w0:ir)(aq:Nat->Nat->Prop)(P:Program)(Y:YT)(γ:G)(w:World):Prop:=∀(γ':G)(w':World),eD w γ w' γ'->∀(i:Nat)(args:List AV)(m:AM)(K:Bool->AM->Prop)(vs:List Value),
 au N w0 aq γ' w' m.B m.L->cO γ' w' m->ak w' γ' args vs->Y i args m K->∀l,γ'.lp i=some l->
 YieldAt (FW none) 0 P l vs.toArray w' fun e zg=>∃b JO lQ,e=.returned (.bool b)/\eD w' γ' zg JO/\au N w0 aq JO zg lQ.B lQ.L/\cO JO zg lQ/\K b lQ
def YOK.mono{N:Nat}{w0:ir}{aq:Nat->Nat->Prop}{P:Program}{Y:YT}{γ:G}{w:World}(h:YOK N w0 aq P Y γ w){γ':G}{w':World}(e:eD w γ w' γ'):YOK N w0 aq P Y γ' w':=
 fun JO zg e'=>h JO zg (e.trans e')
def an(P:Program)(gl:Nat->AV)(Y:YT)(f:FuncId)(as:List AV)(m:AM)(K:AV->AM->Prop):Prop:=
 bC P f/\∀(N:Nat)(w0:ir)(aq:Nat->Nat->Prop)(γ:G)(w:World)(vs:List Value),au N w0 aq γ w m.B m.L->cO γ w m->(∀g,aB w γ.cT (gl g) (.pointer (some ⟨g,0,none⟩)))->
  YOK N w0 aq P Y γ w->ak w γ as vs->
  CallsIn (FW none) 0 P f vs.toArray w fun e w'=>∃v γ' r m',e=.returned v/\eD w γ w' γ'/\au N w0 aq γ' w' m'.B m'.L/\cO γ' w' m'/\aB w' γ' r v/\K r m'
section vc
variable (P:Program) (gl:Nat->AV) (orc:Nat->FuncId->List AV->AV) (Y:YT)
def effy(e:bK->AV)(m:AM)(dst:Option Nat):aD->Bool
 |.call f args=>(match e f with
  |.yld _=>true
  |.fn f first cap=>(match orc (dst.getD 0) f ((first++args.map e++cap).map (bF m 6))with|.gd false _=>true|_=>false)
  |_=>false)
 |.nxt _=>true
 |_=>false
def vcNxt(m:AM)(K:AV->AM->Prop):AV->Prop
 |.it id=>(match m.boxes.getD id []with
  |[.mitr mid n seen]=>(match m.boxes.getD mid []with
   |[.aJ kn kvs]=>kvs.length=n/\(∀i k c,kvs[i]?=some (k,c)->i ∉ seen->K (.aW [.bool true,keyAV kn k,c]) {m with boxes:=m.boxes.set id [.mitr mid n (seen++[i])]})/\
     ((∀i,i<n->i∈seen)->K (.aW [.bool false]) m)
   |_=>False)
  |_=>False)
 |_=>False
def Qbu(e:bK->AV)(m:AM)(K:AV->AM->Prop):aD->Prop
 |.call f args=>(match e f with
  |.yld l=>Y l (args.map e) m fun b m'=>K (.bool b) m'
  |.fn f first cap=>an P gl Y f (first++args.map e++cap) m K
  |_=>False)
 |.nxt x=>vcNxt m K (e x)
 |_=>False
def Zx:List SO->AS->(AS->Prop)->Prop
 |[],s,K=>K s
 |o::rest,s,K=>match o.guard with
  |none=>if effy orc (ev gl s.T) s.m o.dst o.op=true then Qbu P gl Y (ev gl s.T) s.m (fun av m'=>Zx rest ⟨put s.T o.dst av,m'⟩ K) o.op
   else(sop P gl orc (ev gl s.T) s.m o.dst o.op).1/\Zx rest ⟨put s.T o.dst (sop P gl orc (ev gl s.T) s.m o.dst o.op).2.1,(sop P gl orc (ev gl s.T) s.m o.dst o.op).2.2⟩ K
  |some (some t,want)=>match Iw want (s.T.getD t .junk)with
   |some gw=>gok gl s.T gw (gxs o.op o.xs)/\
     if effy orc (evG gl s.T o.op) s.m o.dst o.op=true then
      (gw=true->Qbu P gl Y (evG gl s.T o.op) s.m (fun av m'=>Zx rest ⟨put s.T o.dst (.gd true av),m'⟩ K) o.op)/\(gw=false->Zx rest ⟨put s.T o.dst (.gd false (.bool false)),s.m⟩ K)
     else(gw=true->(rop P gl orc (evG gl s.T o.op) s.m o.dst o.op).1)/\
      Zx rest ⟨put s.T o.dst (.gd gw (rop P gl orc (evG gl s.T o.op) s.m o.dst o.op).2),s.m⟩ K
   |none=>False
  |some (none,_)=>False
end vc
def Dfr(n0:Nat)(γ:G)(w:World)(ds:List Deferred):Prop:=
 n0<=w.heap.size/\(∀x∈ds,∃D,x.target=.collected D/\n0<=D/\γ.sp D/\w.heap[D]?=some (.deferred (some [])))/\ds.Pairwise fun x y=>∀D,x.target=.collected D->y.target≠.collected D
def Dfr.bq{n0:Nat}{γ:G}{w:World}{ds:List Deferred}(h:Dfr n0 γ w ds){γ':G}{w':World}(e:eD w γ w' γ'):Dfr n0 γ' w' ds:=
 ⟨zzbn h.1 e.size,fun x hx=>let⟨D,h1,h0,h2,h3⟩:=h.2.1 x hx;⟨D,h1,h0,(e.sp D h2).1,by
  rcases(e.sp D h2).2 with h|⟨r,_,_,h,_⟩
  ·exact h.trans h3
  rw[h3]at h;cases h⟩,h.2.2⟩
def Rdr(r:Option Nat)(γ:G)(w:World):Prop:=∀l,r=some l->γ.sp l/\∃rec,w.heap[l]?=some (.loop rec)
def Rdr.bq{r:Option Nat}{γ:G}{w:World}(h:Rdr r γ w){γ':G}{w':World}(e:eD w γ w' γ'):Rdr r γ' w':=
 fun l hl=>let⟨h1,rec,h2⟩:=h l hl;⟨(e.sp l h1).1,by
  rcases(e.sp l h1).2 with h|⟨r,s,p,_,h⟩
  ·exact⟨rec,h.trans h2⟩
  exact⟨_,h⟩⟩
structure eZ (N:Nat) (w0:ir) (r:Option Nat) (aq:Nat->Nat->Prop) (S:G×World) (P:Program) (gl:Nat->AV) (Y:YT) (γ:G) (w:World) (s:AS) (a:Act):Prop where
 m:au N w0 aq γ w s.m.B s.m.L
 ls:cO γ w s.m
 rd:Rdr r γ w
 t:ak w γ s.T a.tmps.toList
 d:Dfr S.2.heap.size γ w a.defers
 g:∀g,aB w γ.cT (gl g) (.pointer (some ⟨g,0,none⟩))
 y:YOK N w0 aq P Y γ w
 e:eD S.2 S.1 w γ
section
variable {N:Nat} {w0:ir} {r:Option Nat} {aq:Nat->Nat->Prop} {S:G×World} {Y:YT} {γ:G} {w:World} {P:Program} {gl:Nat->AV} {orc:Nat->FuncId->List AV->AV} {s:AS} {a:Act}
def eZ.ev(h:eZ N w0 r aq S P gl Y γ w s a)(x:Operand):aB w γ (ev gl s.T (aA x)) (a.eval x):=by
 cases x with
 |tmp t=>
  have:=h.t.get t;simpa[Abs.ev,aA,Act.eval,List.getD]using this
 |const v=>exact Jw w γ v
 |func f=>exact .fn rfl (fun i c v h=>by simp at h) rfl fun i c v h=>by simp at h
 |global g=>exact(h.g g).gD
def eZ.alH(h:eZ N w0 r aq S P gl Y γ w s a){dst:Option Nat}{av:AV}{v:Value}{w':World}{γ':G}{m':AM}(e:eD w γ w' γ')(hm:au N w0 aq γ' w' m'.B m'.L)(hl:cO γ' w' m')(hr:aB w' γ' av v):
  eZ N w0 r aq S P gl Y γ' w' ⟨Abs.put s.T dst av,m'⟩ (a.put dst v):=by
 refine⟨hm,hl,h.rd.bq e,?_,?_,fun g=>(h.g g).bq e.cT,h.y.mono e,h.e.trans e⟩
 ·cases dst with
  |none=>exact h.t.bq e
  |some d=>
   simp only[Abs.put,Act.put,zzdh];exact(h.t.bq e).set d hr
 cases dst<;>exact h.d.bq e
def eZ.put(h:eZ N w0 r aq S P gl Y γ w s a){dst:Option Nat}{av:AV}{v:Value}{w':World}{γ':G}{m':AM}(e:Ev w γ w' γ')(hm:au N w0 aq γ' w' m'.B m'.L)(ho:(m'.st,m'.ln)=(s.m.st,s.m.ln))(hr:aB w' γ' av v):
  eZ N w0 r aq S P gl Y γ' w' ⟨Abs.put s.T dst av,m'⟩ (a.put dst v):=h.alH e.dD hm (h.ls.mono' e ho) hr
def CG{T:List AV}{g:Bool}:∀{xs:List bK},gok gl T g xs->∀x∈xs,∀g' b,Abs.ev gl T x=.gd g' b->g=true->g'=true
 |[],_,x,hx,_,_,_,_=>by cases hx
 |y::ys,h,x,hx,g',b,he,hg=>by
  obtain⟨h1,h2⟩:=h;rcases zzat.1 hx with rfl|hx
  ·rw[he]at h1;exact h1 hg
  exact CG h2 x hx g' b he hg
def AN{x:AV}{v:Value}(h:aB w γ x v)(hg:∀g b,x=.gd g b->g=true):aB w γ (strip x) v:=by
 cases x<;>first|exact h|skip
 rename_i g b;exact h.Cp (hg g b rfl)
def E6{c:Call}{fo:bK}{xs:List bK}(h:Zr P c=.call fo xs):∃(f:Operand)(as:Array Operand)(ts:Array TypeId),c=⟨.value f,as,ts⟩/\fo=aA f/\xs=as.toList.map aA:=by
 obtain⟨callee,args,ts⟩:=c;cases callee with
 |value f=>cases h;exact⟨f,args,ts,rfl,rfl,rfl⟩
 |invoke r n=>cases h
 |builtin b=>cases b<;>simp only[Zr]at h<;>(repeat' split at h)<;>cases h
def aez{o:Oper}{fo:bK}{xs:List bK}(h:tr P o=.call fo xs):∃(f:Operand)(as:Array Operand)(ts:Array TypeId),o.op=.call ⟨.value f,as,ts⟩/\fo=aA f/\xs=as.toList.map aA:=by
 obtain⟨dst,op,ty,pos,after,guard⟩:=o;cases op
 case call c=>
  obtain⟨f,as,ts,rfl,h1,h2⟩:=E6 h;exact⟨f,as,ts,rfl,h1,h2⟩
 case next x s=>cases s<;>cases h
 case build t parts=>
  simp only[tr,Wj]at h;repeat' split at h
  all_goals cases h
 case slice t x lo hi mx=>cases mx<;>simp only[tr]at h<;>(repeat' split at h)<;>cases h
 case makeFunc fn a b=>cases fn<;>cases h
 case makeMap t r=>cases r<;>simp only[tr]at h<;>(try split at h)<;>cases h
 case binOp op t x y t'=>
  simp only[tr,mz,Qch,zi]at h;repeat' split at h
  all_goals cases h
 all_goals first|(cases h;done)|(
  simp only[tr]at h;repeat' split at h
  all_goals cases h)
def alI{o:Oper}{xo:bK}(h:tr P o=.nxt xo):∃x:Operand,o.op=.next x false/\xo=aA x:=by
 obtain⟨dst,op,ty,pos,after,guard⟩:=o;cases op
 case next x s=>cases s<;>cases h;exact⟨x,rfl,rfl⟩
 case build t parts=>
  simp only[tr,Wj]at h;repeat' split at h
  all_goals cases h
 case slice t x lo hi mx=>cases mx<;>simp only[tr]at h<;>(repeat' split at h)<;>cases h
 case makeFunc fn a b=>cases fn<;>cases h
 case makeMap t r=>cases r<;>simp only[tr]at h<;>(try split at h)<;>cases h
 case binOp op t x y t'=>
  simp only[tr,mz,Qch,zi]at h;repeat' split at h
  all_goals cases h
 case call c=>
  obtain⟨callee,args,ts⟩:=c;cases callee with
  |value f=>cases h
  |invoke r n=>cases h
  |builtin b=>cases b<;>simp only[tr,Zr]at h<;>(repeat' split at h)<;>cases h
 all_goals first|(cases h;done)|(
  simp only[tr]at h;repeat' split at h
  all_goals cases h)
def au.ajn{B:Nat->Option (List AV)}{L:Nat->Option Nat}(hm:au N w0 aq γ w B L):au N w0 aq γ w.drew B L/\Ev w γ w.drew γ:=by
 have cw:Ev w γ w.drew γ:=⟨zzab _,fun _ _ _ h=>⟨h,rfl⟩,fun _ _ h=>h,fun _=>zzab _,fun _ _ h=>h,rfl,fun _ _ _ ho=>⟨ho,fun arr _ he=>⟨arr,he,zzab _⟩,fun _ h=>h⟩,fun _ h=>⟨h,rfl⟩,Sz.of_same fun _ _=>rfl⟩;refine⟨⟨w0.st _ _ _ _ hm.bs ⟨rfl,rfl,rfl,zzab _,fun _ _ _=>rfl,cw.ro,fun _ h=>.inl h,fun _ _ h=>.inl h⟩,hm.hN,hm.aq,hm.robd,fun i cells b hb h1=>?_,hm.β,hm.inj,hm.own,hm.oinj,hm.sp,fun i b hb=>?_,hm.minj,hm.len,hm.cur0⟩,cw⟩
 ·obtain⟨arr,e,h2,h3,h4⟩:=hm.box i cells b hb h1;exact⟨arr,e,h2,h3.mono cw,h4⟩
 obtain⟨h1,h2,h3,h4,h5,h6,h8,h7⟩:=hm.mm i b hb;exact⟨h1,h2,h3,h4,h5,h6,h8,h7.mono cw.dD.D4 rfl⟩
def v8{es:Array MapEntry}{seen:Array Nat}{x:MapEntry}:x∈(leftOf es seen).toList<->x∈es.toList/\x.born ∉ seen.toList:=by
 simp[leftOf]
def QO{m:AM}(hm:au N w0 aq γ w m.B m.L){x:AV}{v:Value}{K:AV->AM->Prop}(h1:aB w γ x v)(h:vcNxt m K x)(ty:TypeId):
  ∃u w' av m',(Instr.next v false ty).run P w=.ok u w'/\K av m'/\Ev w γ w' γ/\au N w0 aq γ w' m'.B m'.L/\aB w' γ av u/\(m'.st,m'.ln)=(m.st,m.ln):=by
 unfold vcNxt at h;split at h
 case h_2=>exact h.elim
 rename_i id;split at h
 case h_2=>exact h.elim
 rename_i mid n seen fq;split at h
 case h_2=>exact h.elim
 rename_i kn kvs gE;obtain⟨hn,hK1,hK2⟩:=h;obtain⟨aN,CE⟩:=nA fq;obtain⟨WQ,aqG⟩:=nA gE;obtain⟨b,mb,hb,rfl,q1,q2⟩:=hm.NS h1 CE;obtain⟨b',es,cH,Cy,q3,q4,q5⟩:=hm.jb (v:=.map (some mb)) (.mp q2) aqG;cases Cy
 have WC:∀y∈es.toList,y.born<n:=fun y hy=>by
  obtain⟨j,hj,rfl⟩:=zzg hy;simp at hj;have:=Qee q4 q5 hj;simp only[Array.getElem_toList];omega
 rcases run_next_at (P:=P) w ty b mb n n seen.toArray es es.size q1 q3 WC (zzab _)with⟨g1,g2⟩|⟨y,g1,w1,g2,g3⟩
 ·refine⟨_,w,.aW [.bool false],m,g2,hK2 fun i hi=>?_,Ev.refl w γ,hm,(ak.cons (.bool false) ak.nil).zm,rfl⟩;have hie:i<es.size:=by omega
  have hnil:leftOf es seen.toArray=#[]:=zzei g1;have:es[i] ∉ (leftOf es seen.toArray).toList:=by rw[hnil];simp
  rw[v8]at this;simp only[not_and,Decidable.not_not]at this;have:=this (by simp);rw[Qee q4 q5 hie]at this;simpa using this
 obtain⟨g4,g5⟩:=v8.1 g1;obtain⟨i,hi,rfl⟩:=zzg g4;simp at hi;simp only[Array.getElem_toList]at g3 g5;have dA:=Qee q4 q5 hi;have qT:i<kvs.length:=by omega
 obtain⟨p1,p2,_,p3⟩:=q5 i (kvs[i]'qT).1 (kvs[i]'qT).2 es[i] (by simp[qT]) (by simp[hi])
 have qp:au N w0 aq γ w1 m.B m.L/\Ev w γ w1 γ:=by
  obtain rfl|rfl:=g2
  ·exact⟨hm,Ev.refl _ γ⟩
  exact hm.ajn
 obtain⟨qp,fA⟩:=qp;obtain⟨f1,f2⟩:=qp.qR hb (x:=.mitr mid n (seen++[i])) (o:=.mapIter (some mb) n (seen.toArray.push es[i].born) es.size) ⟨q2,rfl,by omega,by simp[dA]⟩;refine⟨_,_,_,_,g3,hK1 i (kvs[i]'qT).1 (kvs[i]'qT).2 (by simp[qT]) (by rw[dA]at g5;simpa using g5),fA.trans f1,?_,?_,rfl⟩
 ·rw[mA m id aN];exact f2
 rw[p2];exact((ak.cons (.bool true) (ak.cons (AE p1) (ak.cons p3 ak.nil))).mono (fA.trans f1)).zm
def Qdc{o:Oper}{e:bK->AV}{Q:Exit->Act->World->Prop}{K:AV->AM->Prop}(hs:eZ N w0 r aq S P gl Y γ w s a)(he:∀x∈o.op.operands,aB w γ (e (aA x)) (a.eval x))(h:Qbu P gl Y e s.m K (tr P o))
  {next:Act->World->Prop}(hn:∀v w' γ' av m',K av m'->eD w γ w' γ'->au N w0 aq γ' w' m'.B m'.L->cO γ' w' m'->aB w' γ' av v->next (a.put o.dst v) w'):o.wpIn (FW r) 0 P a w next Q:=by
 obtain⟨dst,op,ty,pos,after,guard⟩:=o;cases gi:tr P ⟨dst,op,ty,pos,after,guard⟩with
 |call fo args=>
  rw[gi]at h;obtain⟨f,as,ts,rfl,rfl,rfl⟩:∃(f:Operand)(as:Array Operand)(ts:Array TypeId),op=.call ⟨.value f,as,ts⟩/\fo=aA f/\args=as.toList.map aA:=by simpa using aez gi
  simp only[Qbu]at h;have h1:=he f (by simp[Op.operands,Call.operands]);have h2:∀x∈as,aB w γ (e (aA x)) (a.eval x):=fun x hx=>he x (by simp[Op.operands,Call.operands,hx]);have oJ:=AH h2;split at h
  ·rename_i i e1;rw[e1]at h1
   obtain⟨l,hl,hv⟩:∃l,γ.lp i=some l/\a.eval f=.func (.yield l) #[] #[]:=by
    generalize a.eval f=v at h1;cases h1 with
    |yld h=>exact⟨_,h,rfl⟩
   obtain⟨fn,tmps,assign,body,hy,hR⟩:=hs.y γ w (Ev.refl w γ).dD i _ s.m _ _ hs.m hs.ls oJ h l hl
   have aZ:(execOp a.eval ⟨dst,.call ⟨.value f,as,ts⟩,ty,pos,after,guard⟩).run P w=.ok (.round l fn tmps assign body) w:=by
    rw[Array.toArray_toList]at hy;simpa[execOp,resolve,hv,Deferred.ofValue,invoke]using hy
   refine wp_run aZ (fun _ h=>by cases h) ?_;rw[Oper.uponIn_round];refine⟨fun h=>by simp[FW,Fence.wide]at h,RoundIn.mono hR ?_⟩;rintro en w' ⟨b,γ',m',rfl,g1,g2,g3,g4⟩;exact hn _ _ _ _ _ g4 g1 g2 g3 (.bool b)
  ·rename_i g first cap e1
   rw[e1]at h1;obtain⟨fa,ca,hv,r1,r2⟩:=h1.qH
   have aZ:(execOp a.eval ⟨dst,.call ⟨.value f,as,ts⟩,ty,pos,after,guard⟩).run P w=.ok (.enter g ((fa.toList++(as.map a.eval).toList++ca.toList).toArray)) w:=by
    simp[execOp,resolve,hv,Deferred.ofValue,invoke,Qdr h.1]
   refine wp_run aZ (fun _ h=>by cases h) ⟨fun h=>by simp[FW,Fence.wide]at h,?_⟩;refine CallsIn.mono (h.2 N w0 aq γ w _ hs.m hs.ls hs.g hs.y ((r1.append oJ).append r2)) ?_;rintro en w' ⟨v,γ',r',m',rfl,g1,g2,g3,g4,g5⟩;exact hn v w' γ' r' m' g5 g1 g2 g3 g4
  exact h.elim
 |nxt xo=>
  rw[gi]at h;obtain⟨x,rfl,rfl⟩:∃x:Operand,op=.next x false/\xo=aA x:=by simpa using alI gi
  simp only[Qbu]at h;obtain⟨u,w',av,m',g1,g2,g3,g4,g5,g6⟩:=QO (P:=P) hs.m (he x (by simp[Op.operands])) h ty;exact Zn (v:=u) (w':=w') (by simp[execOp,g1]) (hn u w' γ av m' g2 g3.dD g4 (hs.ls.mono' g3 g6) g5)
 |_=>rw[gi]at h;exact h.elim
def we{ops:Array Oper}{Q:Exit->Act->World->Prop}{K:AS->Prop}{k:Nat}(ai:k<ops.size)(hs:eZ N w0 r aq S P gl Y γ w s a)
  (h:Zx P gl orc Y ((ops.toList.drop k).map (Xn P ops)) s K):
  wpOpIn (FW r) 0 P ops Q k (fun a' w'=>∃γ' s',eZ N w0 r aq S P gl Y γ' w' s' a'/\Zx P gl orc Y ((ops.toList.drop (k+1)).map (Xn P ops)) s' K) a w:=by
 have hd:ops.toList.drop k=ops[k]::ops.toList.drop (k+1):=by
  rw[zzaf (by simpa using ai)];simp
 rw[hd,zzaz]at h;have ho:ops[k]?=some ops[k]:=zzaj ai;generalize ops[k]=o at ho h;simp only[wpOpIn,ho];cases hg:o.guard with
 |none=>
  have hw:Region.wanted o (yielded ops a.tmps)=true:=by simp[Region.wanted,hg]
  rw[if_pos hw];have e1:(Xn P ops o).guard=none:=by simp[Xn,hg]
  simp only[Zx,e1]at h;split at h
  ·exact Qdc (K:=fun av m=>Zx P gl orc Y ((ops.toList.drop (k+1)).map (Xn P ops)) ⟨Abs.put s.T o.dst av,m⟩ K) hs (fun x _=>hs.ev x) h fun v w' γ' av m' hK h1 h2 h3 h4=>⟨γ',_,hs.alH h1 h2 h3 h4,hK⟩
  exact AL (K:=fun av m=>Zx P gl orc Y ((ops.toList.drop (k+1)).map (Xn P ops)) ⟨Abs.put s.T o.dst av,m⟩ K) hs.m hs.g (fun x _=>hs.ev x) h r _ Q fun v w' γ' av m' hK c9 h1 h2 h3=>⟨γ',_,hs.put h1 h2 c9 h3,hK⟩
 |some p=>
  obtain⟨j,want⟩:=p;have e1:(Xn P ops o).guard=some ((ops[j]?).bind (·.dst),want):=by simp[Xn,hg]
  simp only[Zx,e1]at h;cases hj:(ops[j]?).bind (·.dst)with
  |none=>rw[hj]at h;exact h.elim
  |some t=>
   rw[hj]at h;simp only at h;split at h
   case h_2=>exact h.elim
   rename_i gw tJ;obtain⟨h1,h⟩:=h
   have WR:Region.wanted o (yielded ops a.tmps)=gw:=by
    have hr:=hs.t.get t
    have cK:t<a.tmps.size:=by
     rcases zzaa t s.T.length with h|h
     ·have h5:=hs.t.1;rw[zzbi]at h5;rw[<- h5];exact h
     simp[List.getD,zzay h,Iw]at tJ
    have cp:(a.tmps.toList.getD t undef)=a.tmps[t]:=by simp[List.getD,cK]
    rw[cp]at hr;have hyv:∀b,a.tmps[t]=.bool b->yielded ops a.tmps j=some b:=fun b hb=>by simp only[yielded,hj,zzcg,zzaj cK,hb]
    have hyu:a.tmps[t]=undef->yielded ops a.tmps j=none:=fun hb=>by simp only[yielded,hj,zzcg,zzaj cK,hb];rfl
    generalize s.T.getD t .junk=gv at tJ hr
    have hf:∀{x:AV},aB w γ (.gd false x) a.tmps[t]->Region.wanted o (yielded ops a.tmps)=false:=fun hx=>by
     simp only[Region.wanted,hg,hyu hx.NN];cases want<;>rfl
    cases gv with
    |bool g=>
     simp only[Iw,Option.some.injEq]at tJ;subst tJ;simp only[Region.wanted,hg,hyv g hr.bA];cases g<;>cases want<;>rfl
    |gd d x=>
     cases d with
     |false=>
      rw[hf hr];cases x<;>simp[Iw]at tJ<;>exact tJ.symm
     |true=>
      cases x<;>simp[Iw]at tJ;rename_i b;subst tJ;simp only[Region.wanted,hg,hyv b (hr.Cp rfl).bA];cases b<;>cases want<;>rfl
    |_=>simp[Iw]at tJ
   rw[WR]
   have WS:gw=true->∀x∈o.op.operands,aB w γ (evG gl s.T (tr P o) (aA x)) (a.eval x):=fun Tg x hx=>by
    unfold evG;cases gI:rawOp (tr P o)with
    |true=>exact hs.ev x
    |false=>
     refine AN (hs.ev x) fun g' b hgb=>CG h1 (aA x) ?_ g' b hgb Tg;have dM:rawOp (Xn P ops o).op=false:=gI;simp only[gxs,dM,cond_false];simp[Xn,hg];exact⟨x,by simpa using hx,rfl⟩
   split at h
   ·obtain⟨h2,h3⟩:=h;cases Tg:gw with
    |true=>
     simp only[if_true];exact Qdc (e:=evG gl s.T (tr P o)) (K:=fun av m=>Zx P gl orc Y ((ops.toList.drop (k+1)).map (Xn P ops)) ⟨Abs.put s.T o.dst (.gd true av),m⟩ K) hs (WS Tg) (h2 Tg) fun v w' γ' av m' hK h1 h2 h3 h4=>⟨γ',_,hs.alH h1 h2 h3 (.gd (fun _=>h4) (fun h=>by cases h)),hK⟩
    |false=>
     simp only[zzbq,if_false];exact⟨fun _ _=>trivial,γ,_,hs.put (Ev.refl _ _) hs.m rfl (.gd (fun h=>by cases h) (fun _=>rfl)),h3 Tg⟩
   obtain⟨h2,h3⟩:=h;cases Tg:gw with
   |true=>
    rw[Tg]at h2 h3;simp only[if_true];refine Qct (e:=evG gl s.T (tr P o)) hs.m (fun _ _ h=>h) hs.g (WS Tg) (h2 rfl) r _ Q fun v w' γ' q1 q2 q3=>?_;exact⟨γ',_,hs.put q1 q2 rfl (.gd (fun _=>q3) (fun h=>by cases h)),h3⟩
   |false=>
    rw[Tg]at h3;simp only[zzbq,if_false];exact⟨fun _ _=>trivial,γ,_,hs.put (Ev.refl _ _) hs.m rfl (.gd (fun h=>by cases h) (fun _=>rfl)),h3⟩
def sv{ops:Array Oper}{Q:Exit->Act->World->Prop}{K:AS->Prop}(hQ:∀γ w s a,K s->eZ N w0 r aq S P gl Y γ w s a->Q .normal a w):
  ∀(n k:Nat)(γ:G)(w:World)(s:AS)(a:Act),k+n=ops.size->Zx P gl orc Y ((ops.toList.drop k).map (Xn P ops)) s K->eZ N w0 r aq S P gl Y γ w s a->wpOpsIn (FW r) 0 P ops Q (List.range' k n) a w
 |0,k,γ,w,s,a,hk,h,hs=>by
  have:ops.toList.drop k=[]:=zzam (by simp;omega);rw[this]at h;exact hQ γ w s a h hs
 |n+1,k,γ,w,s,a,hk,h,hs=>by
  rw[zzgx,wpOpsIn_cons];refine wpOpIn_mono ?_ (we (by omega) hs h);rintro a' w' ⟨γ',s',iH,h'⟩;exact sv hQ n (k+1) γ' w' s' a' (by omega) h' iH
end
end Go.Abs
