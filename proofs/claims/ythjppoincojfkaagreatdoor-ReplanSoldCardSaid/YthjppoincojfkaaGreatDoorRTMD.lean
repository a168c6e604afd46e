import Derived.Test.YthjppoincojfkaaGreatDoorRTMC
import Derived.RangeFuncSeq
set_option linter.all false
namespace Go.Abs
open Go Go.RowKit
def Ko(N:Nat)(w0:eO)(an:Nat->Nat->Prop)(P:Program)(o:Oper)(a:Act)(γ:G)(w:World)(ph:(Nat->LS)×Nat)(K:So):Prop:=
 ∀(rd:Option Nat)(next:Act->World->Prop)(Q:PP),(∀v w' γ' av m',K av m'->(m'.st,m'.ln)=ph->Ev w γ w' γ'->au N w0 an γ' w' m'.B m'.L->aA w' γ' av v->next (a.put o.dst v) w')->o.wpIn (FW rd) 0 P a w next Q
section
variable {N:Nat} {w0:eO} {an:Nat->Nat->Prop} {γ:G} {w:World} {P:Program} {o:Oper} {a:Act} {K:So}
variable {dst:Option Tmp} {ty:TypeId} {pos:String} {after:Array Edge} {guard:Option (Nat×Bool)} {gl:Nat->AV} {orc:UV} {e:bE->AV} {m:AM}
def qF(hm:au N w0 an γ w m.B m.L)(iN:∀g,aA w γ.cS (gl g) (.pointer (some ⟨g,0,none⟩)))
  (he:∀x∈o.op.operands,aA w γ (e (aC x)) (a.eval x))(hc:(rop P gl orc e m o.dst (tr P o)).1/\K (rop P gl orc e m o.dst (tr P o)).2 m):Ko N w0 an P o a γ w (m.st,m.ln) K:=
 fun rd next Q hk=>Qct hm (fun _ _ h=>h) iN he hc.1 rd next Q fun v w' γ' h1 h2 h3=>hk v w' γ' _ m hc.2 rfl h1 h2 h3
def Sx(m:AM)(cells:P2):({m with boxes:=m.boxes++[cells]}:AM).B=fun i=>if i=m.boxes.length then some cells else m.B i:=by
 funext i;simp only[AM.B];by_cases h:i=m.boxes.length
 ·simp[h]
 rw[ab h];rcases zzaa i m.boxes.length with h'|h'
 ·rw[zzak h']
 rw[zzav h',zzav (by simp;omega)]
def Cx(m:AM)(n:Nat):({m with lens:=m.lens++[n]}:AM).L=fun i=>if i=m.lens.length then some n else m.L i:=by
 funext i;simp only[AM.L];by_cases h:i=m.lens.length
 ·simp[h]
 rw[ab h];rcases zzaa i m.lens.length with h'|h'
 ·rw[zzak h']
 rw[zzav h',zzav (by simp;omega)]
def lK(m:AM)(id:Nat)(h:id<m.boxes.length)(cells:P2):({m with boxes:=m.boxes.set id cells}:AM).B=fun i=>if i=id then some cells else m.B i:=by
 funext i;simp only[AM.B];by_cases hi:i=id
 ·subst hi;simp[h]
 rw[ab hi,zzbo (Ne.symm hi)]
def aiD(m:AM)(id:Nat)(h:id<m.lens.length)(n:Nat):({m with lens:=m.lens.set id n}:AM).L=fun i=>if i=id then some n else m.L i:=by
 funext i;simp only[AM.L];by_cases hi:i=id
 ·subst hi;simp[h]
 rw[ab hi,zzbo (Ne.symm hi)]
def Yo{cs:P2}{vs:PQ}(h:ak w γ cs vs)(hc:cs.all Qx=true):∀v∈vs,v.oneCell'=true:=fun v hv=>by
 obtain⟨i,hi⟩:=zzcp.1 hv;have ah:i<cs.length:=by rw[h.1];exact(zza.1 hi).1
 have:=zzaf ah;exact uf (h.2 i _ v this hi) (zzax.1 hc _ (zzdi ah))
def AI(hm:au N w0 an γ w m.B m.L){cells:P2}{arr:P1}{te:TypeId}(hr:ak w γ cells arr.toList)(hc:cells.all Qx=true)
  (bh:(execOp a.eval o).run P w=.ok (.value (.pointer (some ⟨w.heap.size,0,none⟩))) (w.alloc (.cells arr te)))(hk:K (.ptr m.boxes.length 0) {m with boxes:=m.boxes++[cells]}):Ko N w0 an P o a γ w (m.st,m.ln) K:=by
 intro rd next Q hn
 have aK:m.B m.boxes.length=none:=by simp[AM.B]
 refine Zj bh (hn _ _ (γ.box m.boxes.length w.heap.size) _ _ hk rfl (hm.dn _ aK _) ?_ (.ptr (by simp[G.box])));rw[Sx];exact hm.eW _ aK hr.toP (Yo hr hc)
def EZ(hm:au N w0 an γ w m.B m.L){t:TypeId}(h:((sop P gl orc e m dst (tr P ⟨dst,.alloc t,ty,pos,after,guard⟩)).1/\K (sop P gl orc e m dst (tr P ⟨dst,.alloc t,ty,pos,after,guard⟩)).2.1 (sop P gl orc e m dst (tr P ⟨dst,.alloc t,ty,pos,after,guard⟩)).2.2)):Ko N w0 an P ⟨dst,.alloc t,ty,pos,after,guard⟩ a γ w (m.st,m.ln) K:=by
 simp only[tr]at h;split at h
 case h_2=>exact h.1.elim
 rename_i zs hz;obtain⟨i,z,hi,iQ,hr⟩:=iP (w:=w) (γ:=γ) hz;obtain⟨h1,h2⟩:=h;refine AI hm (te:=t) hr h1 ?_ h2;simp[execOp,Instr.alloc,zeroValue,typeInfo,hi,iQ,newVar,newRow]
def PW(hm:au N w0 an γ w m.B m.L){t:TypeId}{x:Operand}(he:aA w γ (e (aC x)) (a.eval x))(h:((sop P gl orc e m dst (.box (aC x))).1/\K (sop P gl orc e m dst (.box (aC x))).2.1 (sop P gl orc e m dst (.box (aC x))).2.2)):Ko N w0 an P ⟨dst,.box t x,ty,pos,after,guard⟩ a γ w (m.st,m.ln) K:=by
 have key:bare (e (aC x))=true->(cellsOf (e (aC x))).all Qx=true->K (.ptr m.boxes.length 0) {m with boxes:=m.boxes++[cellsOf (e (aC x))]}->Ko N w0 an P ⟨dst,.box t x,ty,pos,after,guard⟩ a γ w (m.st,m.ln) K:=fun hb h1 h2=>
  AI hm (te:=t) (jZ he hb) h1 (by simp[execOp,Instr.box,newVar,newRow]) h2
 exact key h.1.1 h.1.2 h.2
def E3(hm:au N w0 an γ w m.B m.L){t:TypeId}{x y:Operand}(h1:aA w γ (e (aC x)) (a.eval x))(h2:aA w γ (e (aC y)) (a.eval y))(h:((sop P gl orc e m dst (tr P ⟨dst,.store t x y,ty,pos,after,guard⟩)).1/\K (sop P gl orc e m dst (tr P ⟨dst,.store t x y,ty,pos,after,guard⟩)).2.1 (sop P gl orc e m dst (tr P ⟨dst,.store t x y,ty,pos,after,guard⟩)).2.2)):
  Ko N w0 an P ⟨dst,.store t x y,ty,pos,after,guard⟩ a γ w (m.st,m.ln) K:=by
 simp only[tr]at h;split at h
 case h_2=>exact h.1.elim
 rename_i i hi;simp only[sop]at h;split at h
 case h_2=>exact h.1.elim
 rename_i id o' e1;rw[e1]at h1;obtain⟨b,hb,hv⟩:=h1.dG;obtain⟨⟨g1,g2,g3,g4,g5⟩,g6⟩:=h;have j4:=jZ h2 g1;have gr:=Yo j4 g2;have hB:m.B id=some (m.boxes.getD id []):=by simp[AM.B,g5]
 obtain⟨arr,te,q2,q3,q4⟩:=hm.box id _ b hB hb;have hsz:(a.eval y).cells.size=i.size:=by have:=j4.1;simp at this;omega
 have aH:(m.boxes.getD id []).length<=arr.size:=by have:=q3.1;simpa using this
 have bM:=run_storeCells_cells (P:=P) b o' (a.eval y).cells.toList 0 w (fun j hj=>by
   simp at hj;rw[aN q2,zzcm,zzah zE];rfl) (fun j hj=>Zp q2) gr
 intro rd next Q hn
 simp only[zzcm]at bM
 have bh:(execOp a.eval ⟨dst,.store t x y,ty,pos,after,guard⟩).run P w=.ok .skip (w.setCells b o' (a.eval y).cells.toList):=by
  simp[execOp,Instr.storeAt,hv,Instr.sureAddr,storeVar,sizeOf,typeInfo,hi,hsz,bM]
 refine om bh (hn undef _ γ _ _ g6 rfl (hm.cz hb o' _) ?_ (.junk _));rw[lK m id g5];by_cases kV:m.boxes.getD id []=[]
 ·have hz:(a.eval y).cells.toList=[]:=by
   rw[kV]at g4;apply zzbe;simp at g4 |-
   have:i.size=0:=g4.2;rw[this]at hsz;simpa using hsz
  have hz2:cellsOf (e (aC y))=[]:=zzbe (by rw[j4.1,hz];rfl);rw[hz,hz2,kV]
  have:(fun i=>if i=id then some (setA [] o' [])else m.B i)=m.B:=by
   funext i;by_cases hi:i=id
   ·subst hi;rw[ac rfl,hB,kV];rfl
   rw[ab hi]
  rw[this];exact hm
 exact hm.store hB hb q2 q3 q4 j4 gr kV
def sj{sz:Nat}{c:AV}:∀{rows:T5}{k:Nat},(∀row∈rows,row.length=sz)->rows.flatten[k]?=some c->k<rows.length*sz/\Qu rows (k/sz) (k%sz)=some c
 |[],k,_,h=>by simp at h
 |row::rows,k,hs,h=>by
  have hr:=hs row zd;rw[zzch]at h;rcases zzaa k sz with hk|hk
  ·rw[zzak zE]at h;rw[zzgv hk,zzgw hk];refine⟨?_,by simpa[Qu]using h⟩;simp[zzbr];omega
  rw[zzaq zE,hr]at h;obtain⟨h1,h2⟩:=sj (rows:=rows) (fun row h=>hs row (by simp[h])) h
  have h0:0<sz:=by
   rcases zzci sz with h0|h0
   ·subst h0;simp at h1
   exact h0
  have e1:k/sz=(k-sz)/sz+1:=by rw[Nat.div_eq_sub_div h0 hk]
  have e2:k%sz=(k-sz)%sz:=(Nat.mod_eq_sub_mod hk);rw[e1,e2];refine⟨?_,by simpa[Qu]using h2⟩;simp[zzbr];omega
def iS{sz:Nat}:∀{rows:T5},(∀row∈rows,row.length=sz)->rows.flatten.length=rows.length*sz
 |[],_=>zd
 |row::rows,hs=>by
  have:=iS (rows:=rows) fun row h=>hs row (by simp[h]);have hr:=hs row zd;simp[this,hr,zzbr];omega
def vV:∀(vs:PQ)(arr:P1)(o k:Nat),(tF arr o vs)[k]?=if o<=k/\k<o+vs.length/\k<arr.size then vs[k-o]? else arr[k]?
 |[],arr,o,k=>by
  rw[tF,ab];simp;omega
 |v::vs,arr,o,k=>by
  rw[tF,vV vs _ (o+1) k];by_cases h1:o+1<=k/\k<o+1+vs.length/\k<(arr.setIfInBounds o v).size
  ·rw[ac h1];simp at h1;rw[ac (by simp;omega)];rw[show k-o=(k-(o+1))+1 by omega];simp
  rw[ab h1];simp at h1;by_cases h2:o<=k/\k<o+(v::vs).length/\k<arr.size
  ·simp at h2;obtain rfl:k=o:=zE
   rw[ac (by simp;omega)];simp[zzex];omega
  rw[ab h2];simp at h2;by_cases hk:o=k
  ·subst hk;have:arr.size<=o:=zE
   simp[zzbq,this]
  rw[zzco hk]
def Qbm(hm:au N w0 an γ w m.B m.L){y:AV}{v2:Value}{sz:Nat}(hr:aA w γ y v2)(hc:(cellsS m sz y).1):
  ∃(a2:Option Addr)(b9:Nat)(vs:PQ),v2=.slice a2 (lenS y) b9/\ak w γ (cellsS m sz y).2 vs/\(∀v∈vs,v.oneCell'=true)/\vs.length=lenS y*sz/\
   ∀n,n<=lenS y->∀w':World,(∀x,w'.cell? x=w.cell? x)->(Builtin.firstCells sz n v2).run P w'=.ok (vs.take (n*sz)).toArray w':=by
 have VQ:∀(a2:Option Addr)(len b9:Nat)(w':World),(Builtin.firstCells sz 0 (.slice a2 len b9)).run P w'=.ok #[] w':=fun a2 len b9 w'=>by
  cases a2<;>simp[Builtin.firstCells,loadCells,loadCellsFrom]
 cases y with
 |sl rt rows=>
  obtain⟨a2,b9,b2,gi,sz2,gp,rfl,s2,_⟩:=hr.bZ;replace s2:=s2.fix (sz:=sz) hc;refine⟨a2,b9,Vf rows.length sz gp,rfl,⟨by simp[cellsS,iS hc,Ze],fun k c v h1 h2=>?_⟩,s2.one,by simp[lenS,Ze],fun n hn w' hw=>?_⟩
  ·obtain⟨g1,g2⟩:=sj hc h1;obtain⟨_,rfl⟩:=qC h2;exact(s2.rep _ _ c g2).gm
  by_cases gq:n=0
  ·subst gq;simpa using VQ a2 _ b9 w'
  simp only[lenS]at hn;have aO:rows≠[]:=by rintro rfl;simp at hn;omega
  obtain⟨rfl,_⟩:=s2.at_ aO;refine run_firstCells_some w' sz n _ rows.length b9 _ ?_ fun j u hj=>?_
  ·rw[zzas,Ze];have:n*sz<=rows.length*sz:=zzbc _ hn;omega
  rw[hw];rw[zzbk]at hj;split at hj
  ·exact s2.cells j u hj
  cases hj
 |bs id off len dy=>
  obtain⟨rfl,cw,aK⟩:=hc;obtain⟨b,cap,arr,te,hβ,rfl,hl,hh,hs⟩:=hr.cL;have hsz:=VI hm (m:=m) (fun _ _ h=>h) hβ hh;have aH:((arr.toList.drop off).take (len*dy)).length=len*dy:=by simp;omega
  refine⟨_,cap,(arr.toList.drop off).take (len*dy),rfl,⟨?_,fun k c v h1 h2=>?_⟩,fun v hv=>?_,aH,fun n hn w' hw=>?_⟩
  ·rw[aH];show(List.take _ (List.drop _ _)).length=_;rw[zzas,zzcy];omega
  ·simp only[cellsS]at h1;rw[zzbk]at h1 h2;split at h1
   ·rename_i hk;simp only[hk,if_true]at h2;rw[zzbl]at h1 h2;obtain⟨u,g1,g2,_⟩:=vR hm (m:=m) (fun _ _ h=>h) hβ hh h1;rw[zzce,g1]at h2;cases h2;exact g2
   cases h1
  ·have dJ:=zzdk (zzcc hv);obtain⟨bN,e',g2,_,g4⟩:=hm.box id _ b (by simp[AM.B,aK]:m.B id=some (m.boxes.getD id [])) hβ;rw[hh]at g2;cases g2;exact g4 v dJ
  by_cases gq:n=0
  ·subst gq;simpa using VQ _ _ cap w'
  refine run_firstCells_some w' dy n _ len cap _ ?_ fun j u hj=>?_
  ·rw[zzas,aH];simp only[lenS]at hn;have:n*dy<=len*dy:=zzbc _ hn;omega
  rw[hw,bq,aN hh];rw[zzbk]at hj;split at hj
  ·rw[zzbk]at hj;split at hj
   ·rw[zzbl,zzce]at hj;exact hj
   cases hj
  cases hj
 |_=>exact hc.elim
section grow
variable {t te:TypeId} {i:TypeInfo} {z:Value} {a1 a2:Option Addr} {len ct cap b9:Nat} {c1 c2:PQ}
def lM(ht:P.underlying t=some (.slice te))(hi:P.info? te=some i)(hz:i.zero=some z)(f1:(Builtin.firstCells i.size len (.slice a1 len cap)).run P w.drew=.ok c1.toArray w.drew)
  (f2:(Builtin.firstCells i.size ct (.slice a2 ct b9)).run P w.drew=.ok c2.toArray w.drew)
  (hg:cap<len+ct)(cH:(3*(len+ct)+4000)*i.bytes<=562949953421312)(vJ:len+ct<=9223372036854775807):
  ∃bn,len+ct<=bn/\(Builtin.append_ #[t,t] ty #[.slice a1 len cap,.slice a2 ct b9]).run P w=
   .ok (.slice (some ⟨w.heap.size,0,none⟩) (len+ct) bn) (w.drew.alloc (.cells (c1.toArray++c2.toArray++Builtin.zeroCells z.cells (bn-(len+ct))) te)):=by
 have hn:¬(len+ct<=cap):=zE
 have ald:¬(9223372036854775807<((len:Int)+(ct:Int))):=zE
 have cw:=JE hg
 have ale:¬(281474976710656<Builtin.nextslicecap (len+ct) cap*i.bytes):=by
  have:2*Builtin.nextslicecap (len+ct) cap*i.bytes<=(3*(len+ct)+4000)*i.bytes:=zzbc _ zE;rw[Nat.mul_assoc]at this;omega
 refine⟨grownCap w (len+ct) cap te,grownCap_ge w _ _ _,?_⟩;simp[Builtin.append_,run_underlying ht,sizeOf,typeInfo,zeroValue,hi,hz,Builtin.lenOf,hn,ald,ale,Question.forced,f1,f2,newRow,grownCap];congr 2;apply Array.ext';simp[zzbg]
def zB{b off:Nat}(ht:P.underlying t=some (.slice te))(hi:P.info? te=some i)(f2:(Builtin.firstCells i.size ct (.slice a2 ct b9)).run P w=.ok c2.toArray w)(h1:∀v∈c2,v.oneCell'=true)(hl:c2.length=ct*i.size)
  (cA:len+ct<=cap){arr:P1}{e':TypeId}(hh:w.heap[b]?=some (.cells arr e' (0,0)))(hsz:off+cap*i.size<=arr.size):
  (
   Builtin.append_ #[t,t] ty #[.slice (some ⟨b,off,none⟩) len cap,.slice a2 ct b9]).run P w=
   .ok (.slice (some ⟨b,off,none⟩) (len+ct) cap) (w.setCells b (off+len*i.size) c2):=by
 have cw:(len+ct)*i.size<=cap*i.size:=zzbc _ cA;rw[zzbr]at cw
 have bM:=run_storeCells_cells (P:=P) b (off+len*i.size) c2 0 w (fun j hj=>by
   rw[aN hh,zzcm,zzah zE];rfl)
  (fun j hj=>Zp hh) h1
 simp only[zzcm]at bM;simp[Builtin.append_,run_underlying ht,sizeOf,typeInfo,hi,Builtin.lenOf,cA,f2,bq,bM]
end grow
def AJ{as' bs:P2}{us vs rest:PQ}(h1:ak w γ as' us)(h2:ak w γ bs vs):cq w γ (as'++bs) (us++vs++rest):=by
 have h:=h1.append h2;refine⟨by have:=h.1;simp at this |-;omega,fun k c v g1 g2=>h.2 k c v g1 ?_⟩;have hk:=(zza.1 g1).1;rw[h.1]at hk;rwa [zzak hk]at g2
def Wm{cs:P1}(h:∀u∈cs,u.oneCell'=true)(n:Nat):∀v∈(Builtin.zeroCells cs n).toList,v.oneCell'=true:=fun v hv=>by
 simp[Builtin.zeroCells]at hv;obtain⟨k,hk,rfl⟩:=hv
 have h0:0<cs.size:=by
  rcases zzci cs.size with h0|h0
  ·simp[h0]at hk
  exact h0
 have ah:k%cs.size<cs.size:=zzei _ h0;rw[getElem!_pos cs _ ah];exact h _ (Array.getElem_mem ah)
def j7{zs:P2}:∀{n k:Nat}{c:AV},(bF n zs)[k]?=some c->k<n*zs.length/\zs[k%zs.length]?=some c
 |0,k,c,h=>by simp[bF]at h
 |n+1,k,c,h=>by
  rw[bF]at h;rcases zzaa k zs.length with hk|hk
  ·rw[zzak hk]at h;rw[zzgw hk];exact⟨by rw[zzbr];omega,h⟩
  rw[zzaq hk]at h;obtain⟨h1,h2⟩:=j7 h;rw[Nat.mod_eq_sub_mod hk];exact⟨by rw[zzbr];omega,h2⟩
def Km(zs:P2):∀n,(bF n zs).length=n*zs.length
 |0=>by simp[bF]
 |n+1=>by rw[bF,zzal,Km zs n,zzbr];omega
def qG(hm:au N w0 an γ w m.B m.L){id b off:Nat}(hβ:γ.β id=some b)(aK:id<m.boxes.length)(aO:m.boxes.getD id []≠[]){arr:P1}{te:TypeId}(hh:w.heap[b]?=some (.cells arr te (0,0)))
  {as':P2}{vs:PQ}(hr:ak w γ as' vs)(gr:∀v∈vs,v.oneCell'=true)(cH:off+as'.length<=(m.boxes.getD id []).length):
  (storeCells ⟨b,off,none⟩ vs).run P w=.ok () (w.setCells b off vs)/\Ev w γ (w.setCells b off vs) γ/\au N w0 an γ (w.setCells b off vs) ({m with boxes:=m.boxes.set id (setA (m.boxes.getD id []) off as')}:AM).B m.L:=by
 have hB:m.B id=some (m.boxes.getD id []):=by simp[AM.B,aK]
 obtain⟨bN,e',q2,q3,q4⟩:=hm.box id _ b hB hβ;rw[hh]at q2;cases q2;have hsz:=q3.1;simp only[zzbj]at hsz;have hl:=hr.1
 have bM:=run_storeCells_cells (P:=P) b off vs 0 w (fun j hj=>by
   rw[aN hh,zzcm,zzah zE];rfl) (fun j hj=>Zp hh) gr
 simp only[zzcm]at bM;refine⟨bM,hm.cz hβ off vs,?_⟩;rw[lK m id aK];exact hm.store hB hβ hh q3 q4 hr gr aO
def PX(hm:au N w0 an γ w m.B m.L){x y:Operand}{t te:TypeId}{ts:Array TypeId}{i:TypeInfo}(ht:ts[0]?=some t)(hu:P.underlying t=some (.slice te))(hi:P.info? te=some i)(h1:aA w γ (e (aC x)) (a.eval x))(h2:aA w γ (e (aC y)) (a.eval y))
  (h:(sop P gl orc e m dst (.cpy i.size (aC x) (aC y))).1/\K (sop P gl orc e m dst (.cpy i.size (aC x) (aC y))).2.1 (sop P gl orc e m dst (.cpy i.size (aC x) (aC y))).2.2):
  Ko N w0 an P ⟨dst,.call ⟨.builtin .copy,#[x,y],ts⟩,ty,pos,after,guard⟩ a γ w (m.st,m.ln) K:=by
 simp only[sop]at h;split at h
 case h_2=>exact h.1.elim
 rename_i id off len dy e1;rw[e1]at h1;obtain⟨b,cap,arr,y7,hβ,hv,hl,hh,hs⟩:=h1.cL;intro rd next Q hn
 split at h
 ·rename_i s e2;rw[e2]at h2;obtain⟨⟨⟨rfl,hi1⟩,aK,cH,aO⟩,hk⟩:=h
  have hr:ak w γ ((s.data.toList.take len).map fun b=>(.int .u8 b.toNat:AV)) ((s.data.toList.take len).map fun b=>(.int .u8 b.toNat:Value)):=by
   refine⟨zd,fun k c v g1 g2=>?_⟩;simp only[zzbn]at g1 g2;cases hx:(s.data.toList.take len)[k]? with
   |none=>simp[hx]at g1
   |some u=>simp[hx]at g1 g2;subst g1;subst g2;exact .int _ _
  obtain⟨g1,g2,g3⟩:=qG (P:=P) (off:=off) hm hβ aK aO hh hr (fun v hv=>by obtain⟨u,_,rfl⟩:=zzan.1 hv;rfl) (by rw[zzbw,zzas];omega)
  have hfc:(Builtin.firstCells 1 (Nat.min s.size len) (.string s)).run P w=.ok ((s.data.toList.take len).map fun b=>(.int .u8 b.toNat:Value)).toArray w:=by
   simp only[Builtin.firstCells,Sem.run_pure];congr 1;apply Array.ext';simp only[ByteArray.data_extract,Array.toList_map,zzfu,List.extract_eq_take_drop,zzdd,zzel];congr 1;rcases zzhm s.size len with h'|h'
   ·have:Nat.min s.size len=s.size:=zzha h';rw[this,zzau zd,zzau (Nm h')]
   have:Nat.min s.size len=len:=Nat.min_eq_right h';rw[this]
  generalize((s.data.toList.take len).map fun b=>(.int .u8 b.toNat:Value))=cs at*
  refine Zj (v:=.int .i64 (min s.size len:Nat)) (w':=w.setCells b off cs) ?_ (hn _ _ γ _ _ hk rfl g2 g3 (.int _ _));simp[execOp,resolve,invoke,builtin,Builtin.copy_,ht,run_underlying hu,hv,h2.cp,Builtin.lenOf,sizeOf,typeInfo,hi,hi1,hfc,g1,goInt]
 rename_i Sy;obtain⟨⟨rfl,hcy,aK,cH,aO⟩,hk⟩:=h;obtain⟨a2,b9,vs,y8,ou,sk,ez,hf2⟩:=Qbm (P:=P) hm h2 hcy;have hr:=ou.take (len*i.size);obtain⟨g1,g2,g3⟩:=qG (P:=P) (off:=off) hm hβ aK aO hh hr (fun v hv=>sk v (zzcc hv)) (by rw[zzas];omega);have hfc:=hf2 (min (lenS (e (aC y))) len) (Nat.min_le_left _ _) w (fun _=>rfl);rw[y8]at hfc
 have bz:vs.take (min (lenS (e (aC y))) len*i.size)=vs.take (len*i.size):=by
  rcases zzhm (lenS (e (aC y))) len with h'|h'
  ·rw[zzha h',<- ez,zzbu,zzau];rw[ez];exact zzbc _ h'
  rw[Nat.min_eq_right h']
 rw[bz]at hfc;refine Zj (v:=.int .i64 (min (lenS (e (aC y))) len:Nat)) (w':=w.setCells b off (vs.take (len*i.size))) ?_ (hn _ _ γ _ _ hk rfl g2 g3 (.int _ _));simp[execOp,resolve,invoke,builtin,Builtin.copy_,ht,run_underlying hu,hv,y8,Builtin.lenOf,sizeOf,typeInfo,hi,hfc,g1,goInt]
def PY(hm:au N w0 an γ w m.B m.L){x:Operand}{t te:TypeId}{zs:P2}(hu:P.underlying t=some (.slice te))(hz:zc P te=some zs)(h1:aA w γ (e (aC x)) (a.eval x))
  (h:(sop P gl orc e m dst (.clr zs (aC x))).1/\K (sop P gl orc e m dst (.clr zs (aC x))).2.1 (sop P gl orc e m dst (.clr zs (aC x))).2.2):
  Ko N w0 an P ⟨dst,.call ⟨.builtin .clear,#[x],#[t]⟩,ty,pos,after,guard⟩ a γ w (m.st,m.ln) K:=by
 obtain⟨i,z,hi,iQ,JJ⟩:=iP (w:=w) (γ:=γ) hz;simp only[sop]at h;split at h
 ·rename_i id off len dy e1;rw[e1]at h1;obtain⟨⟨⟨rfl,bK⟩,aK,cH,aO⟩,hk⟩:=h;obtain⟨b,cap,arr,y7,hβ,hv,hl,hh,hs⟩:=h1.cL;have gr:=Yo JJ bK;intro rd next Q hn
  have E4:z.cells.size=zs.length:=by have:=JJ.1;simp at this;omega
  have hr:ak w γ (bF len zs) (Builtin.zeroCells z.cells len).toList:=by
   refine⟨by simp[Km,size_zeroCells,E4],fun k c v g1 g2=>?_⟩;obtain⟨j1,j2⟩:=j7 g1
   have h0:0<zs.length:=by
    rcases zzci zs.length with h0|h0
    ·simp[h0]at j1
    exact h0
   have ah:k%zs.length<z.cells.size:=by rw[E4];exact zzei _ h0
   have EX:v=z.cells[k%zs.length]:=by
    simp only[Builtin.zeroCells,zzce,zzgj]at g2;rw[zzah (by simp[E4];exact j1)]at g2;simp[E4]at g2;rw[<- g2,getElem!_pos z.cells _ ah]
   subst EX;exact JJ.2 _ c _ j2 (by simp[ah])
  obtain⟨g1,g2,g3⟩:=qG (P:=P) (off:=off) hm hβ aK aO hh hr (Wm (fun u hu=>gr u (Nm hu)) len) (by rw[Km];exact cH);by_cases qf:len=0
  ·subst qf;have e0:(Builtin.zeroCells z.cells 0).toList=[]:=by simp[Builtin.zeroCells]
   rw[e0]at g2 g3;refine Zj (v:=.tuple #[]) (w':=w) (by simp[execOp,resolve,invoke,builtin,Builtin.clear_,run_underlying hu,hv]) (hn _ _ γ _ _ hk rfl g2 g3 (ak.zz ak.nil))
  refine Zj (v:=.tuple #[]) (w':=w.setCells b off (Builtin.zeroCells z.cells len).toList) ?_ (hn _ _ γ _ _ hk rfl g2 g3 (ak.zz ak.nil));cases len with
  |zero=>exact absurd rfl qf
  |succ len=>simp[execOp,resolve,invoke,builtin,Builtin.clear_,run_underlying hu,hv,zeroValue,typeInfo,hi,iQ,g1]
 ·rename_i rt e1;rw[e1]at h1;obtain⟨a1,cap,b1,are,sz1,cv1,hv,s1,_⟩:=h1.bZ;intro rd next Q hn
  refine Zj (v:=.tuple #[]) (w':=w) ?_ (hn _ _ γ _ _ h.2 rfl (Ev.refl w γ) hm (ak.zz ak.nil));simp only[zzcn]at hv;cases a1<;>simp[execOp,resolve,invoke,builtin,Builtin.clear_,run_underlying hu,hv]
 exact h.1.elim
def VR(hm:au N w0 an γ w m.B m.L){id off len sz:Nat}{v2:Value}(hr:aA w γ (.bs id off len sz) v2)(cw:off+len*sz<=(m.boxes.getD id []).length)(aK:id<m.boxes.length)
  (bK:(m.boxes.getD id []).all Qx=true)(hp:(m.boxes.getD id []).any (Vi 6)=false):
  (aZ sz len (((m.boxes.getD id []).map (bB m 6)).drop off)).length=len/\(∀row∈aZ sz len (((m.boxes.getD id []).map (bB m 6)).drop off),row.length=sz)/\
  ∃(γ2:G)(a2:Option Addr)(b9 b2:Nat)(gp:Nat->Nat->Value),v2=.slice a2 len b9/\qd w γ2 (aZ sz len (((m.boxes.getD id []).map (bB m 6)).drop off)) a2 b9 b2 off sz gp/\
   ∀i j c,Qu (aZ sz len (((m.boxes.getD id []).map (bB m 6)).drop off)) i j=some c->aA w γ.cS c (gp i j):=by
 obtain⟨b,cap,arr,y7,hβ,hv,hl,hh,hs⟩:=hr.cL;have hB:m.B id=some (m.boxes.getD id []):=by simp[AM.B,aK]
 obtain⟨bN,e',q2,q3,q4⟩:=hm.box id _ b hB hβ;rw[hh]at q2;cases q2;have aH:(aZ sz len (((m.boxes.getD id []).map (bB m 6)).drop off)).length=len:=by rw[Qaa];simp
 have hsz:∀row∈aZ sz len (((m.boxes.getD id []).map (bB m 6)).drop off),row.length=sz:=fun row ai=>by
  rw[Qaa]at ai;simp only[zzan,zzb]at ai;obtain⟨k,hk,rfl⟩:=ai;have:(k+1)*sz<=len*sz:=zzbc _ hk;rw[zzbr,zzdv]at this;simp only[zzas,zzcy,zzbw];omega
 have nW:∀(k j:Nat)(c:AV),Qu (aZ sz len (((m.boxes.getD id []).map (bB m 6)).drop off)) k j=some c->∃c' u,(m.boxes.getD id [])[off+k*sz+j]?=some c'/\c=bB m 6 c'/\arr[off+k*sz+j]?=some u/\arr.getD (off+k*sz+j) undef=u/\aA w γ c' u:=fun k j c h=>by
  rw[Qaa]at h;unfold Qu at h;rcases zzaa k len with hk|hk
  ·rw[zzbn,zzeq hk]at h;simp only[zzcv,zzcx]at h;rw[zzbk]at h;split at h
   ·rw[zzbl,zzbl,zzbn]at h;obtain⟨c',uh,rfl⟩:=zzca.1 h;rw[<- zzap]at uh
    have ah:off+k*sz+j<arr.size:=by
     have h1:=(zza.1 uh).1;have h2:=q3.1;simp at h2;simp only[List.getD]at h1;omega
    have hu':arr[off+k*sz+j]?=some arr[off+k*sz+j]:=zzah ah;exact⟨c',_,uh,rfl,hu',by simp[ah],q3.2 _ _ _ uh (by simp[ah])⟩
   cases h
  rw[zzbn,zzav (Nm hk)]at h;cases h
 have eX:∀(k j:Nat)(c':AV),(m.boxes.getD id [])[off+k*sz+j]?=some c'->Vi 6 c'=true->False:=fun k j c' h VT=>by
  have:(m.boxes.getD id []).any (Vi 6)=true:=zzbt.2 ⟨c',zzad h,VT⟩;rw[hp]at this;cases this
 refine⟨aH,hsz,{γ with ro:=fun _ _=>True},some ⟨b,off,none⟩,cap,b,fun k j=>arr.getD (off+k*sz+j) undef,hv,⟨by rw[aH];exact hl,fun h=>(by cases h),fun _=>⟨rfl,aR hh⟩,hsz,fun k j c h=>?_,fun k j c h=>?_⟩,fun k j c h=>?_⟩
 ·obtain⟨c',u,g1,rfl,g3,g4,g5⟩:=nW k j c h;rw[aN hh,g3,g4];exact⟨rfl,trivial,uf g5 (zzax.1 bK c' (zzad g1))⟩
 ·obtain⟨c',u,g1,rfl,g3,g4,g5⟩:=nW k j c h;rw[g4];exact jW hm (m:=m) (fun _ _ h=>h) (ro':=fun _ _=>True) (fun _ _ _=>trivial) 6 c' u g5 fun VT=>(eX k j c' g1 VT).elim
 obtain⟨c',u,g1,rfl,g3,g4,g5⟩:=nW k j c h;show aA w γ.cS (bB m 6 c') (arr.getD (off+k*sz+j) undef);rw[g4];exact jW hm (m:=m) (fun _ _ h=>h) (ro':=γ.ro) (fun _ _ h=>h) 6 c' u g5 fun VT=>(eX k j c' g1 VT).elim
def PZ(hm:au N w0 an γ w m.B m.L)(iN:∀g,aA w γ.cS (gl g) (.pointer (some ⟨g,0,none⟩))){c:Call}(he:∀x∈c.operands,aA w γ (e (aC x)) (a.eval x))(h:((sop P gl orc e m dst (Zu P c)).1/\K (sop P gl orc e m dst (Zu P c)).2.1 (sop P gl orc e m dst (Zu P c)).2.2)):
  Ko N w0 an P ⟨dst,.call c,ty,pos,after,guard⟩ a γ w (m.st,m.ln) K:=by
 have uk:sop P gl orc e m dst (Zu P c)=((rop P gl orc e m dst (Zu P c)).1,(rop P gl orc e m dst (Zu P c)).2,m)->Ko N w0 an P ⟨dst,.call c,ty,pos,after,guard⟩ a γ w (m.st,m.ln) K:=fun hg=>
  qF hm iN he (by rw[hg]at h;exact h)
 obtain⟨callee,args,ts⟩:=c;cases callee with
 |value f=>exact uk rfl
 |invoke recv name=>exact uk rfl
 |builtin b=>
  cases b<;>first|exact uk rfl|skip
  case append=>
   simp only[Zu]at h;split at h
   case h_2=>exact h.1.elim
   rename_i s x t t' ha ht;split at h
   case h_2=>exact h.1.elim
   rename_i te y7 hu hu';split at h
   case h_2=>exact h.1.elim
   rename_i i hi;split at h
   case isFalse=>exact h.1.elim
   rename_i bQ;simp only[zzac,beq_iff_eq,bne_iff_ne]at bQ;obtain⟨⟨⟨rfl,hz⟩,_⟩,dZ⟩:=bQ;obtain rfl:args=#[s,x]:=by cases args;simp_all
   obtain rfl:ts=#[t,t]:=by cases ts;simp_all
   have h1:=he s (by simp[Call.operands]);have h2:=he x (by simp[Call.operands]);cases iQ:i.zero with
   |none=>simp[iQ]at hz
   |some z=>
    simp[iQ]at hz;obtain⟨hz,hzo⟩:=hz;have aiE:∀(n:Nat),∀v∈(Builtin.zeroCells z.cells n).toList,v.oneCell'=true:=fun n v hv=>Wm (fun u hu=>by obtain⟨k,hk,rfl⟩:=zzhf.1 hu;exact hzo k hk) n v hv
    have grown:∀{c1 c2:PQ}{bn len:Nat},c1.length+c2.length=len*i.size->len<=bn->bn*i.size<=(c1.toArray++c2.toArray++Builtin.zeroCells z.cells (bn-len)).size:=fun{c1 c2 bn len}hl cw=>by
     simp only[zzew,zzev,size_zeroCells,hz];have:bn*i.size=len*i.size+(bn-len)*i.size:=by rw[<- zzbr];congr 1;omega
     omega
    simp only[sop]at h;split at h
    ·rename_i id dy rows Su aq e1 e2;rw[e1]at h1;rw[e2]at h2;obtain⟨⟨rfl,aH,hr,cH⟩,hk⟩:=h;obtain⟨v,w',γ',g1,g2,g3,g4⟩:=Nu (ty:=ty) hm hu hi iQ hz (id:=id) (.inr ⟨h1,aH⟩) h2 hr cH (Jv dZ cH);intro rd next Q hn
     refine Zj (v:=v) (w':=w') (by simp[execOp,resolve,invoke,builtin,g1]) (hn v w' γ' _ _ hk rfl g2 ?_ g4);rw[aiD m id (zza.1 aH).1];exact g3
    ·
     rename_i y' id off len dy e1;rw[e1]at h1;obtain⟨⟨⟨⟨rfl,rfl,aK,aO,cw⟩,cH⟩,hcy⟩,hk⟩:=h;obtain⟨b,cap,arr,y7,hβ,hv,hl,hh,hs⟩:=h1.cL;obtain⟨a2,b9,vs,y8,ou,sk,ez,hf2⟩:=Qbm (P:=P) hm h2 hcy;have hB:m.B id=some (m.boxes.getD id []):=by simp[AM.B,aK]
     obtain⟨bN,e',q2,q3,q4⟩:=hm.box id _ b hB hβ;rw[hh]at q2;cases q2;have hsz:=q3.1;simp only[zzbj]at hsz
     have fA:ak w γ ((m.boxes.getD id []).take (len*i.size)) (arr.toList.take (len*i.size)):=by
      refine⟨by simp only[zzas,zzbj];omega,fun k c v g1 g2=>?_⟩;rw[zzbk]at g1 g2;split at g1
      ·rename_i Cp;rw[ac Cp]at g2;exact q3.2 k c v g1 g2
      cases g1
     have cG:m.B m.boxes.length=none:=by simp[AM.B]
     have hBB:∀cells:P2,({m with boxes:=m.boxes.set id []++[cells]}:AM).B=fun i=>if i=m.boxes.length then some cells else if i=id then some []else m.B i:=fun cells=>by
      have e1:=Sx {m with boxes:=m.boxes.set id []} cells;rw[lK m id aK]at e1;simpa using e1
     intro rd next Q hn
     by_cases cA:len+lenS (e (aC x))<=cap
     ·have bh:=zB (P:=P) (ty:=ty) (w:=w) (len:=len) (b:=b) (off:=0) hu hi (by have:=hf2 _ (zzab _) w (fun _=>rfl);rw[y8,<- ez,zzbu]at this;exact this) sk ez cA hh hs;simp only[zzbs]at bh;have PA:(len+lenS (e (aC x)))*i.size<=cap*i.size:=zzbc _ cA;rw[zzbr]at PA
      obtain⟨g1,g2⟩:=hm.share (id':=m.boxes.length) (new:=(m.boxes.getD id []).take (len*i.size)++(cellsS m i.size (e (aC x))).2) hβ hB aO cG hh (p:=len*i.size) (vs:=vs) (by
       refine⟨by simp only[zzal,zzas,ou.1,zzbj,Vd];omega,fun k c v j1 j2=>?_⟩;rw[zzce,vV]at j2;rcases zzaa k (len*i.size)with Cp|Cp
       ·rw[ab zE]at j2;rw[zzak (by rw[zzas];omega)]at j1;refine fA.2 k c v j1 ?_;rw[zzbk,ac Cp,zzce];exact j2
       rw[zzaq (by rw[zzas];omega)]at j1;have e0:((m.boxes.getD id []).take (len*i.size)).length=len*i.size:=by rw[zzas];omega
       rw[e0]at j1;have eE:=(zza.1 j1).1;rw[ou.1]at eE;rw[ac zE]at j2;exact ou.2 _ c v j1 j2) q4 sk
      refine Zj (v:=.slice (some ⟨b,0,none⟩) (len+lenS (e (aC x))) cap) (w':=w.setCells b (len*i.size) vs) (by simp[execOp,resolve,invoke,builtin,hv,y8,bh]) (hn _ _ _ _ _ hk rfl g1 ?_ ?_)
      ·rw[hBB];exact g2
      exact .bs (by simp[G.box]) cA (Xb b vs _ w arr y7 _ hh) (by rw[Vd];exact hs)
     have f1:(Builtin.firstCells i.size len (.slice (some ⟨b,0,none⟩) len cap)).run P w.drew=.ok (arr.toList.take (len*i.size)).toArray w.drew:=by
      refine run_firstCells_some w.drew i.size len _ len cap _ (by simp;omega) fun j u hj=>?_;rw[bq];show w.cell? _=_;rw[aN hh];rw[zzbk]at hj;split at hj
      ·simpa using hj
      cases hj
     have f2:(Builtin.firstCells i.size (lenS (e (aC x))) (.slice a2 (lenS (e (aC x))) b9)).run P w.drew=.ok vs.toArray w.drew:=by
      have:=hf2 _ (zzab _) w.drew (fun _=>rfl);rw[y8,<- ez,zzbu]at this;exact this
     obtain⟨bn,VU,bh⟩:=lM (P:=P) (ty:=ty) (w:=w) hu hi iQ f1 f2 zE cH (Jv dZ cH);have hmk:=(hm.kill hβ).drew
     have fJ:(fun i=>if i=id then some []else m.B i) m.boxes.length=none:=by
      have:m.boxes.length≠id:=zE
      simp only[ab this];exact cG
     have hP:=AJ (rest:=(Builtin.zeroCells z.cells (bn-(len+lenS (e (aC x))))).toList) fA ou;have bU:=hmk.dn _ fJ (.cells ((arr.toList.take (len*i.size)).toArray++vs.toArray++Builtin.zeroCells z.cells (bn-(len+lenS (e (aC x))))) te)
     have y9:=hmk.eW _ fJ (e:=te) (arr:=(arr.toList.take (len*i.size)).toArray++vs.toArray++Builtin.zeroCells z.cells (bn-(len+lenS (e (aC x))))) (by
      have:=hP.mono (Ev.drew w γ)
      simpa using this) (fun v hv=>by
       simp only[Array.toList_append,zzaj]at hv;obtain(hv|hv)|hv:=hv
       ·exact q4 v (zzcc (Nm hv))
       ·exact sk v (Nm hv)
       exact aiE _ v hv)
     refine Zj (v:=.slice (some ⟨w.heap.size,0,none⟩) (len+lenS (e (aC x))) bn) (by simp[execOp,resolve,invoke,builtin,hv,y8,bh]) (hn _ _ _ _ _ hk rfl ((Ev.drew w γ).trans bU) ?_ ?_)
     ·rw[hBB];exact y9
     refine .bs (arr:=(arr.toList.take (len*i.size)).toArray++vs.toArray++Builtin.zeroCells z.cells (bn-(len+lenS (e (aC x))))) (e:=te) (by show(if _ then _ else _)=_;rw[ac rfl];rfl) VU (Yk w _) ?_;rw[zzbs];exact grown (by rw[ez,zzbr];simp;omega) VU
    ·
     rename_i id dy rows gI gi ct sz2 e1 e2;rw[e1]at h1;rw[e2]at h2;obtain⟨⟨⟨rfl,rfl⟩,aH,hr,cH,ali,fJ,JO,hp2⟩,hk⟩:=h;obtain⟨l2,ou,γ2,a2,b9,b2,gp,y8,s2,VV⟩:=VR hm h2 ali fJ JO hp2;generalize aZ i.size ct (((m.boxes.getD gI []).map (bB m 6)).drop gi)=aq at*
     subst l2;obtain⟨v,w',γ',g1,g2,g3,g4⟩:=vK (ty:=ty) hm hu hi iQ hz (id:=id) (.inr ⟨h1,aH⟩) s2 VV (fun row h=>(zzaj.1 h).elim (hr row) (ou row)) cH (Jv dZ cH);intro rd next Q hn
     refine Zj (v:=v) (w':=w') (by simp[execOp,resolve,invoke,builtin,y8,g1]) (hn v w' γ' _ _ hk rfl g2 ?_ g4);rw[aiD m id (zza.1 aH).1];exact g3
    ·rename_i y' rt rows e1 eX P0;rw[e1]at h1;split at h
     ·split at h
      ·
       rename_i qf;obtain⟨hcy,hk⟩:=h;obtain⟨a1,cap,b1,are,sz1,cv1,hv,s1,hcap⟩:=h1.bZ;obtain⟨a2,b9,vs,y8,ou,sk,ez,hf2⟩:=Qbm (P:=P) hm h2 hcy;rw[qf]at y8;have bh:=Qdw (P:=P) (w:=w) (ty:=ty) (a:=a1) hu hi a2 b9 rows.length s1.hcap;intro rd next Q hn
       refine Zj (v:=.slice a1 rows.length cap) (w':=w) (by simp[execOp,resolve,invoke,builtin,hv,y8,bh]) (hn _ _ γ _ _ hk rfl (Ev.refl _ _) hm ?_);rw[<- hv];exact h1
      obtain⟨⟨⟨hfu,hny,hsz,cH⟩,hcy⟩,hk⟩:=h;replace h1:=h1.uj hfu;obtain⟨a1,cap,b1,are,sz1,cv1,hv,s1,hcap⟩:=h1.bZ;replace s1:=s1.fix (sz:=i.size) hsz;obtain⟨a2,b9,vs,y8,ou,sk,ez,hf2⟩:=Qbm (P:=P) hm h2 hcy;obtain⟨a1',ay2,vs1,alj,SA,arf,vW,hf1⟩:=Qbm (P:=P) (sz:=i.size) hm h1 hsz;rw[hv]at alj;simp only[lenS]at alj vW;cases alj;have cG:m.B m.boxes.length=none:=by simp[AM.B]
      have f1:(Builtin.firstCells i.size rows.length (.slice a1 rows.length cap)).run P w.drew=.ok vs1.toArray w.drew:=by
       have:=hf1 _ (zzab _) w.drew (fun _=>rfl);rw[hv]at this;simp only[lenS]at this;rw[<- vW,zzbu]at this;exact this
      have f2:(Builtin.firstCells i.size (lenS (e (aC x))) (.slice a2 (lenS (e (aC x))) b9)).run P w.drew=.ok vs.toArray w.drew:=by
       have:=hf2 _ (zzab _) w.drew (fun _=>rfl);rw[y8,<- ez,zzbu]at this;exact this
      have ay3:cap=rows.length:=hcap;obtain⟨bn,VU,bh⟩:=lM (P:=P) (ty:=ty) (w:=w) hu hi iQ f1 f2 zE cH (Jv dZ cH);have hP:=AJ (rest:=(Builtin.zeroCells z.cells (bn-(rows.length+lenS (e (aC x))))).toList) SA ou;have hmk:=hm.drew;have bU:=hmk.dn _ cG (.cells (vs1.toArray++vs.toArray++Builtin.zeroCells z.cells (bn-(rows.length+lenS (e (aC x))))) te)
      have y9:=hmk.eW _ cG (e:=te) (arr:=vs1.toArray++vs.toArray++Builtin.zeroCells z.cells (bn-(rows.length+lenS (e (aC x))))) (by
       have:=hP.mono (Ev.drew w γ)
       simpa using this) (fun v hv=>by
        simp only[Array.toList_append,zzaj]at hv;obtain(hv|hv)|hv:=hv
        ·exact arf v (Nm hv)
        ·exact sk v (Nm hv)
        exact aiE _ v hv)
      intro rd next Q hn
      refine Zj (v:=.slice (some ⟨w.heap.size,0,none⟩) (rows.length+lenS (e (aC x))) bn) (by simp[execOp,resolve,invoke,builtin,hv,y8,bh]) (hn _ _ _ _ _ hk rfl ((Ev.drew w γ).trans bU) ?_ ?_)
      ·rw[Sx];exact y9
      refine .bs (arr:=vs1.toArray++vs.toArray++Builtin.zeroCells z.cells (bn-(rows.length+lenS (e (aC x))))) (e:=te) (by show(if _ then _ else _)=_;rw[ac rfl];rfl) VU (Yk w _) ?_;rw[zzbs];exact grown (by rw[vW,ez,zzbr]) VU
     split at h
     case h_3=>exact h.1.elim
     case h_2=>
      rename_i gI gi ct sz2 e2;rw[e2]at h2;obtain⟨⟨⟨hfu,rfl⟩,hr,cH,ali,fJ,JO,hp2⟩,hk⟩:=h;replace h1:=h1.uj hfu;obtain⟨l2,ou,γ2,a2,b9,b2,gp,y8,s2,VV⟩:=VR hm h2 ali fJ JO hp2;generalize aZ i.size ct (((m.boxes.getD gI []).map (bB m 6)).drop gi)=aq at*
      subst l2;obtain⟨v,w',γ',g1,g2,g3,g4⟩:=vK (ty:=ty) hm hu hi iQ hz (id:=m.lens.length) (.inl ⟨h1,by simp[AM.L]⟩) s2 VV (fun row h=>(zzaj.1 h).elim (hr row) (ou row)) cH (Jv dZ cH);intro rd next Q hn
      refine Zj (v:=v) (w':=w') (by simp[execOp,resolve,invoke,builtin,y8,g1]) (hn v w' γ' _ _ hk rfl g2 ?_ g4);rw[Cx];exact g3
     rename_i Su aq e2;rw[e2]at h2;obtain⟨⟨hfu,hr,cH⟩,hk⟩:=h;replace h1:=h1.uj hfu;obtain⟨v,w',γ',g1,g2,g3,g4⟩:=Nu (ty:=ty) hm hu hi iQ hz (id:=m.lens.length) (.inl ⟨h1,by simp[AM.L]⟩) h2 hr cH (Jv dZ cH);intro rd next Q hn
     refine Zj (v:=v) (w':=w') (by simp[execOp,resolve,invoke,builtin,g1]) (hn v w' γ' _ _ hk rfl g2 ?_ g4);rw[Cx];exact g3
    exact h.1.elim
  case copy=>
   simp only[Zu]at h;split at h
   case h_2=>exact h.1.elim
   rename_i x y t ts' ha ht;split at h
   case h_2=>exact h.1.elim
   rename_i te hu;split at h
   case h_2=>exact h.1.elim
   rename_i i hi;obtain rfl:args=#[x,y]:=by cases args;simp_all
   have ht0:ts[0]?=some t:=by cases ts;simp_all
   exact PX hm ht0 hu hi (he x (by simp[Call.operands])) (he y (by simp[Call.operands])) h
  case clear=>
   simp only[Zu]at h;split at h
   case h_2=>exact h.1.elim
   rename_i x t ha ht;split at h
   case h_2=>exact h.1.elim
   rename_i te hu;split at h
   case h_2=>exact h.1.elim
   rename_i zs hz;obtain rfl:args=#[x]:=by cases args;simp_all
   obtain rfl:ts=#[t]:=by cases ts;simp_all
   exact PY hm hu hz (he x (by simp[Call.operands])) h
  case len=>
   refine uk ?_;simp only[Zu];repeat' split
   all_goals rfl
  case max=>
   refine uk ?_;simp only[Zu];repeat' split
   all_goals rfl
  case min=>
   refine uk ?_;simp only[Zu];repeat' split
   all_goals rfl
def G.gz(γ:G)(id b:Nat):G:={γ with mm:=fun i=>if i=id then some b else γ.mm i}
def P3:Obj->Bool
 |.map _ _=>true
 |.mapIter _ _ _ _=>true
 |_=>false
def cI.P3{x:AV}{o:Obj}(h:cI w γ x o):P3 o=true:=by
 unfold cI at h;split at h<;>first|rfl|exact h.elim
def Nx{w:World}{b o':Nat}{o:Obj}(h:w.heap[b]?=some o)(hm:P3 o=true):w.cell? ⟨b,o',none⟩=none:=by
 cases o<;>simp[P3]at hm<;>simp[World.cell?,h]
def au.JP{B:Nat->PH}{L:Nat->Option Nat}(hm:au N w0 an γ w B L)(id:Nat)(aK:B id=none){x:AV}{o:Obj}(hx:cI w γ x o):
  Ev w γ (w.alloc o) (γ.gz id w.heap.size)/\au N w0 an (γ.gz id w.heap.size) (w.alloc o) (fun i=>if i=id then some [x]else B i) L:=by
 have aO:∀i b,γ.mm i=some b->i≠id:=fun i b h=>by
  rintro rfl;obtain⟨_,_,_,_,_,_,_,_,_,hx,_⟩:=hm.mm i b h;rw[aK]at hx;cases hx
 have VW:∀i b,γ.β i=some b->i≠id:=fun i b h=>by
  rintro rfl;obtain⟨_,_,_,_,c,hc⟩:=hm.β i b h;rw[aK]at hc;cases hc
 have hβ0:γ.β id=none:=by
  cases h:γ.β id with
  |none=>rfl
  |some b=>exact absurd rfl (VW id b h)
 have bU:Ev w γ (w.alloc o) (γ.gz id w.heap.size):=⟨zd,fun b o' hb hr=>⟨hr,cell_of_heap (Below.heap_alloc w _ b hb)⟩,fun _ _ h=>h,fun _=>zzab _,fun i b h=>by simp[G.gz,aO i b h,h],rfl,
   fun i b _ ho=>⟨ho,fun arr e he=>⟨arr,by rw[Below.heap_alloc w _ b (hm.own i b ho).2.1];exact he,zzab _⟩,fun _ h=>h⟩,
   fun b hb=>⟨hb,Below.heap_alloc w _ b (hm.sp b hb).2.1⟩,Sz.of_same (Below.heap_alloc w _)⟩
 have alk:∀i i' b,γ.β i=some b->γ.β i'=some b->(if i=id then some [x]else B i)=some []\/(if i'=id then some [x]else B i')=some []\/i=i':=fun i i' b h h'=>by
  rw[ab (VW i b h),ab (VW i' b h')];exact hm.inj i i' b h h'
 refine⟨bU,⟨w0.st _ _ _ _ hm.bs ⟨rfl,rfl,rfl,zd,fun b hb _=>Below.heap_alloc w _ b hb,bU.ro,fun b hb=>?_,fun _ _ h=>.inl h⟩,by have:=hm.hN;simp;omega,hm.an,fun b o h=>by have:=hm.robd b o h;simp;omega,
  fun i cells b hb h1=>?_,fun i b hb=>?_,alk,fun i b hb=>?_,hm.oinj,fun b hb=>?_,fun i b hb=>?_,fun i i' b h h'=>?_,hm.len,hm.cur0⟩⟩
 ·obtain hb|hb|hb|⟨i,hb⟩:=hb
  ·exact .inl (.inl hb)
  ·exact .inl (.inr (.inl hb))
  ·exact .inl (.inr (.inr (.inl hb)))
  by_cases h:i=id
  ·simp[G.gz,h]at hb;exact .inr zE
  simp[G.gz,h]at hb;exact .inl (.inr (.inr (.inr ⟨i,hb⟩)))
 ·have mJ:γ.β i=some b:=h1;simp only[ab (VW i b mJ)]at hb;obtain⟨arr,e,h2,h3,h4⟩:=hm.box i cells b hb mJ;exact⟨arr,e,by rw[Below.heap_alloc w _ b (aR h2)];exact h2,h3.mono bU,h4⟩
 ·have cK:γ.β i=some b:=hb;obtain⟨h1,h2,h3,h4,c,h5⟩:=hm.β i b cK;exact⟨h1,by simp;omega,h3,h4,c,by simp only[ab (VW i b cK)];exact h5⟩
 ·obtain⟨h1,h2,h3⟩:=hm.own i b hb;exact⟨h1,by simp;omega,h3⟩
 ·obtain⟨h1,h2,h3⟩:=hm.sp b hb;exact⟨h1,by simp;omega,h3⟩
 ·by_cases h:i=id
  ·subst h;simp[G.gz]at hb;subst hb;refine⟨hm.hN,zd,fun o' h=>?_,fun i h=>?_,fun i h=>?_,fun h=>?_,hβ0,x,o,zd,by show(w.heap.push _)[w.heap.size]?=_;simp,hx.mono bU.cF.Av⟩
   ·have:=hm.robd _ _ h;omega
   ·have:=(hm.β i _ h).2.1;omega
   ·have:=(hm.own i _ h).2.1;omega
   have:=(hm.sp _ h).2.1;omega
  simp[G.gz,h]at hb;obtain⟨h1,h2,h3,h4,h5,h6,h8,h7⟩:=hm.mm i b hb;refine⟨h1,by simp;omega,h3,h4,h5,h6,h8,?_⟩;simp only[ab h];exact h7.mono bU.cF.Av (Below.heap_alloc w _ b h2)
 by_cases hi:i=id<;>by_cases c9:i'=id
 ·rw[hi,c9]
 ·simp[G.gz,hi]at h;simp[G.gz,c9]at h';have:=(hm.mm i' b h').2.1;omega
 ·simp[G.gz,hi]at h;simp[G.gz,c9]at h';have:=(hm.mm i b h).2.1;omega
 simp[G.gz,hi]at h;simp[G.gz,c9]at h';exact hm.minj i i' b h h'
def E5(hm:au N w0 an γ w m.B m.L){t:TypeId}{r:Option Operand}(h:((sop P gl orc e m dst (tr P ⟨dst,.makeMap t r,ty,pos,after,guard⟩)).1/\K (sop P gl orc e m dst (tr P ⟨dst,.makeMap t r,ty,pos,after,guard⟩)).2.1 (sop P gl orc e m dst (tr P ⟨dst,.makeMap t r,ty,pos,after,guard⟩)).2.2)):Ko N w0 an P ⟨dst,.makeMap t r,ty,pos,after,guard⟩ a γ w (m.st,m.ln) K:=by
 cases r with
 |some r=>exact h.1.elim
 |none=>
  simp only[tr]at h;split at h
  case h_2=>exact h.1.elim
  rename_i kn z ht;intro rd next Q hn
  have aK:m.B m.boxes.length=none:=by simp[AM.B]
  obtain⟨g1,g2⟩:=hm.JP _ aK (x:=.aJ kn []) (o:=.map #[] 0) ⟨rfl,rfl,fun i k a e q1=>by simp at q1⟩;refine Zj (v:=.map (some w.heap.size)) (w':=w.alloc (.map #[] 0)) (by simp[execOp,Instr.makeMap]) (hn _ _ (γ.gz m.boxes.length w.heap.size) _ _ h.2 rfl g1 ?_ (.mp (by simp[G.gz])));simp only[sop];rw[Sx];exact g2
def au.qH{B:Nat->PH}{L:Nat->Option Nat}(hm:au N w0 an γ w B L){id b:Nat}(hb:γ.mm id=some b){x:AV}{o:Obj}(hx:cI w γ x o):
  Ev w γ (w.putObj b o) γ/\au N w0 an γ (w.putObj b o) (fun i=>if i=id then some [x]else B i) L:=by
 obtain⟨n1,n2,n3,n4,n5,n6,n8,hmo⟩:=hm.mm id b hb;have hnc:=fun{arr:P1}{e:TypeId}{f:Nat×Nat}=>vE.U0 hmo (arr:=arr) (e:=e) (f:=f);obtain⟨x0,o0,n7,h0,Ny⟩:=hmo;have cN:∀b',b'≠b->(w.putObj b o).heap[b']?=w.heap[b']?:=fun b' cK=>World.putObj_heap_other cK;have E6:(w.putObj b o).heap[b]?=some o:=by simp[World.putObj,n2]
 have bK:∀b' o',(w.putObj b o).cell? ⟨b',o',none⟩=w.cell? ⟨b',o',none⟩:=fun b' o'=>by
  by_cases hbb:b'=b
  ·subst hbb;rw[Nx E6 hx.P3,Nx h0 Ny.P3]
  exact cell_of_heap (cN b' hbb)
 have bU:Ev w γ (w.putObj b o) γ:=by
  refine⟨zd,fun b' o' _ hr=>⟨hr,bK b' o'⟩,fun _ _ h=>h,fun _=>zzab _,fun _ _ h=>h,rfl,fun i b' _ ho=>⟨ho,fun arr e he=>⟨arr,?_,zzab _⟩,fun _ h=>h⟩,fun b' h=>⟨h,cN b' (by rintro rfl;exact n6 h)⟩,fun b' arr e f h=>⟨arr,by rw[cN b' (by rintro rfl;exact hnc h)];exact h,rfl⟩⟩;rw[cN b' (by rintro rfl;exact n5 i ho)];exact he
 have alk:∀i i' b',γ.β i=some b'->γ.β i'=some b'->(if i=id then some [x]else B i)=some []\/(if i'=id then some [x]else B i')=some []\/i=i':=fun i i' b' h h'=>by
  rw[ab (by rintro rfl;rw[n8]at h;cases h),ab (by rintro rfl;rw[n8]at h';cases h')];exact hm.inj i i' b' h h'
 refine⟨bU,⟨w0.st _ _ _ _ hm.bs ⟨rfl,rfl,rfl,zd,fun b' _ eX=>cN b' (by rintro rfl;exact eX (.inr (.inr (.inr ⟨id,hb⟩)))),bU.ro,fun b' cK=>.inl cK,fun b' o' h=>.inl h⟩,Nm hm.hN,
  hm.an,fun b' o' h=>by simpa using hm.robd b' o' h,fun i cells b' dw h1=>?_,fun i b' cK=>?_,alk,fun i b' cK=>?_,hm.oinj,fun b' cK=>?_,fun i b' cK=>?_,hm.minj,hm.len,hm.cur0⟩⟩
 ·have hi:i≠id:=by rintro rfl;rw[n8]at h1;cases h1
  simp only[ab hi]at dw;obtain⟨arr,e,h2,h3,h4⟩:=hm.box i cells b' dw h1;exact⟨arr,e,by rw[cN b' (by rintro rfl;exact n4 i h1)];exact h2,h3.mono bU,h4⟩
 ·have hi:i≠id:=by rintro rfl;rw[n8]at cK;cases cK
  obtain⟨h1,h2,h3,h4,c',h5⟩:=hm.β i b' cK;exact⟨h1,Nm h2,h3,h4,c',by simp only[ab hi];exact h5⟩
 ·obtain⟨h1,h2,h3⟩:=hm.own i b' cK;exact⟨h1,Nm h2,h3⟩
 ·obtain⟨h1,h2,h3⟩:=hm.sp b' cK;exact⟨h1,Nm h2,h3⟩
 by_cases hi:i=id
 ·subst hi;obtain rfl:b'=b:=ap (cK.symm.trans hb);exact⟨n1,Nm n2,n3,n4,n5,n6,n8,x,o,zd,E6,hx.mono bU.cF.Av⟩
 obtain⟨h1,h2,h3,h4,h5,h6,h8,h7⟩:=hm.mm i b' cK;refine⟨h1,Nm h2,h3,h4,h5,h6,h8,?_⟩;simp only[ab hi];exact h7.mono bU.cF.Av (cN b' (by rintro rfl;exact hi (hm.minj _ _ _ cK hb)))
def mP{id:Nat}{x:AV}(h:m.boxes.getD id []=[x]):id<m.boxes.length/\m.B id=some [x]:=by
 have aK:id<m.boxes.length:=by
  rcases zzaa id m.boxes.length with h'|h'
  ·exact h'
  simp[List.getD,zzav h']at h
 refine⟨aK,?_⟩;simp[AM.B,aK];simpa[List.getD,aK]using h
def AK{kn:Nat}{kvs:List (Pi×AV)}{es:Array MapEntry}{n:Pi}{c:AV}{v:Value}(hn:Wx kn n)(hl:kvs.length=es.size)
  (hk:∀(i:Nat)(k:Pi)(a:AV)(e:MapEntry),kvs[i]?=some (k,a)->es[i]?=some e->Wx kn k/\e.key=Yp kn k/\e.born=i/\aA w γ a e.val)(hc:aA w γ c v):
  cI w γ (.aJ kn (kvs++[(n,c)])) (.map (es.push ⟨Yp kn n,v,es.size⟩) (es.size+1)):=by
 refine⟨zd,by simp[hl],fun j k' c' x' s1 s2=>?_⟩;rcases zzaa j kvs.length with hj|hj
 ·rw[zzak hj]at s1;rw[Array.getElem?_push_lt zE]at s2;exact hk j k' c' x' s1 (by rw[zzah zE];exact s2)
 have Nt:j=kvs.length:=by
  have:=(zza.1 s1).1;simp at this;omega
 subst Nt;simp at s1;obtain⟨rfl,rfl⟩:=s1;rw[hl]at s2;simp at s2;subst s2;exact⟨hn,rfl,hl.symm,hc⟩
def vX{kn:Nat}{kvs:List (Pi×AV)}{es:Array MapEntry}{n:Pi}{j:Nat}{c:AV}{f:MapEntry->MapEntry}(hn:Wx kn n)(hl:kvs.length=es.size)
  (hk:∀(i:Nat)(k:Pi)(a:AV)(e:MapEntry),kvs[i]?=some (k,a)->es[i]?=some e->Wx kn k/\e.key=Yp kn k/\e.born=i/\aA w γ a e.val)(hj:j<kvs.length)
  (hf:∀e,es[j]?=some e->(f e).key=Yp kn n/\(f e).born=e.born/\aA w γ c (f e).val):
  cI w γ (.aJ kn (kvs.set j (n,c))) (.map (es.modify j f) es.size):=by
 refine⟨zd,by simp[hl],fun j' k' c' x' t1 t2=>?_⟩;rw[zzdq]at t2;by_cases hjj:j=j'
 ·subst hjj;have lN:j<es.size:=zE
  simp[lN]at t2;rw[zzbh zE]at t1;cases t1;subst t2;obtain⟨p1,p2,p3⟩:=hf es[j] (by simp[lN]);have:=hk j (kvs[j]'hj).1 (kvs[j]'hj).2 es[j] (by simp[hj]) (by simp[lN]);exact⟨hn,p1,by rw[p2];exact this.2.2.1,p3⟩
 rw[zzbo hjj]at t1;rw[ab hjj]at t2;exact hk j' k' c' x' t1 t2
def Cy(b:Nat)(o:Obj){es:Array MapEntry}{c:Nat}(q2:w.heap[b]?=some (.map es c)):(setObj b o).run P w=.ok () (w.putObj b o):=by simp[setObj,Sem.run,q2,World.putObj]
def JQ(hm:au N w0 an γ w m.B m.L){t:TypeId}{x k y:Operand}(h1:aA w γ (e (aC x)) (a.eval x))(h2:aA w γ (e (aC k)) (a.eval k))(h3:aA w γ (e (aC y)) (a.eval y))
  (h:((sop P gl orc e m dst (tr P ⟨dst,.mapUpdate t x k y,ty,pos,after,guard⟩)).1/\K (sop P gl orc e m dst (tr P ⟨dst,.mapUpdate t x k y,ty,pos,after,guard⟩)).2.1 (sop P gl orc e m dst (tr P ⟨dst,.mapUpdate t x k y,ty,pos,after,guard⟩)).2.2)):Ko N w0 an P ⟨dst,.mapUpdate t x k y,ty,pos,after,guard⟩ a γ w (m.st,m.ln) K:=by
 simp only[tr]at h;split at h
 case h_2=>exact h.1.elim
 rename_i kn z ht;simp only[sop]at h;split at h
 case h_2=>exact h.1.elim
 rename_i id n e1 e2;rw[e1]at h1;obtain⟨e3,gq⟩:=Cv e2;rw[e3]at h2;split at h
 case h_2=>exact h.1.elim
 rename_i sg kvs eY;obtain⟨⟨Eg,hba⟩,hK⟩:=h;subst Eg;obtain⟨kt,vt,i,zv,hu,hk,hi,hz,rfl⟩:=j5 ht;obtain⟨aK,Cz⟩:=mP eY;obtain⟨b,es,hb,hv,q2,q3,q4⟩:=hm.iR h1 Cz
 obtain⟨f1,f2⟩:=Cw (w:=w) (γ:=γ) (P:=P) hk gq (kvs:=kvs) (es:=es.toList) (Nm q3) fun j k' c x' g1 g2=>by
  obtain⟨p1,p2,_,p3⟩:=q4 j k' c x' g1 (Nm g2);exact⟨p1,p2,p3⟩
 have cm:=MapKept.run_getObj_map (P:=P) q2;have bR:=fun o=>Cy (P:=P) b o q2;have j6:(Instr.checkKey false 10000 kt (Yp sg n)).run P w=.ok () w:=run_checkKey hk gq;have Sw:=qE gq h2;intro rd next Q hn
 cases hf:Xh n kvs 0 with
 |none=>
  rw[hf]at hK;have PS:=f1 hf
  have bh:(execOp a.eval ⟨dst,.mapUpdate t x k y,ty,pos,after,guard⟩).run P w=.ok .skip (w.putObj b (.map (es.push ⟨Yp sg n,a.eval y,es.size⟩) (es.size+1))):=by
   simp[execOp,Instr.mapUpdate,run_underlying hu,hv,Sw,cm,j6,PS,bR]
  obtain⟨g1,g2⟩:=hm.qH hb (AK gq q3 q4 h3);refine om bh (hn undef _ γ _ _ hK rfl g1 ?_ (.junk _));rw[lK m id aK];exact g2
 |some p=>
  obtain⟨j,c⟩:=p;rw[hf]at hK;obtain⟨vv,PS,s2,s3,s4⟩:=f2 j c hf;have um:j<es.size:=zE
  have eC:=(q4 j n c es[j] s4 (zzah um)).2.1;have Iw:=oB (P:=P) (w:=w) (new:=Yp sg n) gq eC rfl
  have bh:(execOp a.eval ⟨dst,.mapUpdate t x k y,ty,pos,after,guard⟩).run P w=.ok .skip (w.putObj b (.map (es.modify j fun q=>{q with key:=Yp sg n,val:=a.eval y}) es.size)):=by
   simp[execOp,Instr.mapUpdate,run_underlying hu,hv,Sw,cm,j6,PS,um,Iw,bR]
  obtain⟨g1,g2⟩:=hm.qH hb (vX (j:=j) (c:=e (aC y)) (f:=fun q=>{q with key:=Yp sg n,val:=a.eval y}) gq q3 q4 s3 fun e he=>⟨rfl,rfl,h3⟩);refine om bh (hn undef _ γ _ _ hK rfl g1 ?_ (.junk _));rw[lK m id aK];exact g2
def JR(hm:au N w0 an γ w m.B m.L){t:TypeId}{x k:Operand}(h1:aA w γ (e (aC x)) (a.eval x))(h2:aA w γ (e (aC k)) (a.eval k))
  (h:((sop P gl orc e m dst (tr P ⟨dst,.mapEntry t x k,ty,pos,after,guard⟩)).1/\K (sop P gl orc e m dst (tr P ⟨dst,.mapEntry t x k,ty,pos,after,guard⟩)).2.1 (sop P gl orc e m dst (tr P ⟨dst,.mapEntry t x k,ty,pos,after,guard⟩)).2.2)):Ko N w0 an P ⟨dst,.mapEntry t x k,ty,pos,after,guard⟩ a γ w (m.st,m.ln) K:=by
 simp only[tr]at h;split at h
 case h_2=>exact h.1.elim
 rename_i kn z ht;simp only[sop]at h;split at h
 case h_2=>exact h.1.elim
 rename_i id n e1 e2;rw[e1]at h1;obtain⟨e3,gq⟩:=Cv e2;rw[e3]at h2;split at h
 case h_2=>exact h.1.elim
 rename_i sg kvs eY;obtain⟨Eg,hK⟩:=h;simp only at Eg;subst Eg;obtain⟨kt,vt,i,zv,hu,hk,hi,hz,rfl⟩:=j5 ht;obtain⟨aK,Cz⟩:=mP eY;obtain⟨b,es,hb,hv,q2,q3,q4⟩:=hm.iR h1 Cz
 obtain⟨f1,f2⟩:=Cw (w:=w) (γ:=γ) (P:=P) hk gq (kvs:=kvs) (es:=es.toList) (Nm q3) fun j k' c x' g1 g2=>by
  obtain⟨p1,p2,_,p3⟩:=q4 j k' c x' g1 (Nm g2);exact⟨p1,p2,p3⟩
 have cm:=MapKept.run_getObj_map (P:=P) q2;have bR:=fun o=>Cy (P:=P) b o q2;have j6:(Instr.checkKey false 10000 kt (Yp sg n)).run P w=.ok () w:=run_checkKey hk gq;have Sw:=qE gq h2;intro rd next Q hn
 cases hf:Xh n kvs 0 with
 |none=>
  rw[hf]at hK;have PS:=f1 hf
  have bh:(execOp a.eval ⟨dst,.mapEntry t x k,ty,pos,after,guard⟩).run P w=.ok (.value (.tuple #[zv,.int .i64 es.size])) (w.putObj b (.map (es.push ⟨Yp sg n,zv,es.size⟩) (es.size+1))):=by
   simp[execOp,Instr.mapEntry,run_underlying hu,hv,Sw,cm,j6,PS,bR,zeroValue,typeInfo,hi,hz,goInt]
  obtain⟨g1,g2⟩:=hm.qH hb (AK gq q3 q4 (Kb w γ zv));refine Zj bh (hn _ _ γ _ _ hK rfl g1 ?_ ?_)
  ·rw[lK m id aK];exact g2
  rw[q3];exact(ak.cons (Kb _ γ zv) (ak.cons (.int .i64 _) ak.nil)).zz
 |some p=>
  obtain⟨j,c⟩:=p;rw[hf]at hK;obtain⟨vv,PS,s2,s3,s4⟩:=f2 j c hf;have um:j<es.size:=zE
  have eC:=q4 j n c es[j] s4 (zzah um);have Iw:=oB (P:=P) (w:=w) (new:=Yp sg n) gq eC.2.1 rfl
  have bh:(execOp a.eval ⟨dst,.mapEntry t x k,ty,pos,after,guard⟩).run P w=.ok (.value (.tuple #[vv,.int .i64 j])) (w.putObj b (.map (es.modify j fun q=>{q with key:=Yp sg n}) es.size)):=by
   simp[execOp,Instr.mapEntry,run_underlying hu,hv,Sw,cm,j6,PS,um,Iw,bR,goInt,eC.2.2.1]
  have VX:kvs.set j (n,c)=kvs:=by
   apply zzdc;intro i;by_cases fu:j=i
   ·subst fu;rw[zzbh s3,s4]
   rw[zzbo fu]
  obtain⟨g1,g2⟩:=hm.qH hb (vX (j:=j) (c:=c) (f:=fun q=>{q with key:=Yp sg n}) gq q3 q4 s3 fun e he=>⟨rfl,rfl,(q4 j n c e s4 he).2.2.2⟩);rw[VX]at g2;refine Zj bh (hn _ _ γ _ _ hK rfl g1 ?_ ?_)
  ·rw[lK m id aK];exact g2
  exact((ak.cons s2 (ak.cons (.int .i64 _) ak.nil)).mono g1).zz
def JS(hm:au N w0 an γ w m.B m.L){t:TypeId}{x k y:Operand}(h1:aA w γ (e (aC x)) (a.eval x))(h2:aA w γ (e (aC k)) (a.eval k))(h3:aA w γ (e (aC y)) (a.eval y))
  (h:((sop P gl orc e m dst (tr P ⟨dst,.entryStore t x k y,ty,pos,after,guard⟩)).1/\K (sop P gl orc e m dst (tr P ⟨dst,.entryStore t x k y,ty,pos,after,guard⟩)).2.1 (sop P gl orc e m dst (tr P ⟨dst,.entryStore t x k y,ty,pos,after,guard⟩)).2.2)):Ko N w0 an P ⟨dst,.entryStore t x k y,ty,pos,after,guard⟩ a γ w (m.st,m.ln) K:=by
 simp only[tr,sop]at h;split at h
 case h_2=>exact h.1.elim
 rename_i id kk i e1 e2;rw[e1]at h1;rw[e2]at h2;split at h
 case h_2=>exact h.1.elim
 rename_i kn kvs eY;obtain⟨⟨⟨hi0,iT⟩,hba⟩,hK⟩:=h;obtain⟨aK,Cz⟩:=mP eY;obtain⟨b,es,hb,hv,q2,q3,q4⟩:=hm.iR h1 Cz;have cm:=MapKept.run_getObj_map (P:=P) q2;have bR:=fun o=>Cy (P:=P) b o q2;obtain⟨j,rfl⟩:∃j:Nat,i=j:=⟨i.toNat,zE⟩;have um:j<es.size:=zE
 have za:j<kvs.length:=zE
 have hfi:es.findIdx? (fun e=>(e.born:Int)==(j:Int))=some j:=by
  rw[Array.findIdx?_eq_some_iff_getElem];refine⟨um,by simp[Qek q3 q4 um],fun l hl=>?_⟩;have:=Qek q3 q4 (i:=l) zE;simp[this];omega
 have bh:(execOp a.eval ⟨dst,.entryStore t x k y,ty,pos,after,guard⟩).run P w=.ok .skip (w.putObj b (.map (es.modify j fun q=>{q with val:=a.eval y}) es.size)):=by
  simp[execOp,Instr.entryStore,hv,cm,h2.aI,asInt,asIntOf,hfi,bR]
 have eC:=q4 j (kvs[j]'za).1 (kvs[j]'za).2 es[j] (by simp[za]) (by simp[um])
 obtain⟨g1,g2⟩:=hm.qH hb (vX (j:=j) (n:=(kvs[j]'za).1) (c:=e (aC y)) (f:=fun q=>{q with val:=a.eval y}) eC.1 q3 q4 za fun e he=>⟨by
  have:=q4 j (kvs[j]'za).1 (kvs[j]'za).2 e (by simp[za]) he;exact this.2.1,rfl,h3⟩)
 intro rd next Q hn
 have JN:(kvs.getD (Int.toNat (j:Int)) ([],.junk)).1=(kvs[j]'za).1:=by simp[List.getD,za]
 rw[JN]at hK;refine om bh (hn undef _ γ _ _ hK rfl g1 ?_ (.junk _));rw[lK m id aK];exact g2
def P4(hm:au N w0 an γ w m.B m.L){t:TypeId}{x:Operand}(h1:aA w γ (e (aC x)) (a.eval x))
  (h:((sop P gl orc e m dst (tr P ⟨dst,.range t x,ty,pos,after,guard⟩)).1/\K (sop P gl orc e m dst (tr P ⟨dst,.range t x,ty,pos,after,guard⟩)).2.1 (sop P gl orc e m dst (tr P ⟨dst,.range t x,ty,pos,after,guard⟩)).2.2)):Ko N w0 an P ⟨dst,.range t x,ty,pos,after,guard⟩ a γ w (m.st,m.ln) K:=by
 simp only[tr]at h;split at h
 case h_2=>exact h.1.elim
 rename_i p ht;obtain⟨kn,z⟩:=p;simp only[sop]at h;split at h
 case h_2=>exact h.1.elim
 rename_i id e1;rw[e1]at h1;split at h
 case h_2=>exact h.1.elim
 rename_i sg kvs eY;obtain⟨kt,vt,i,zv,hu,hk,hi,hz,rfl⟩:=j5 ht;obtain⟨aK,Cz⟩:=mP eY;obtain⟨b,es,hb,hv,q2,q3,q4⟩:=hm.iR h1 Cz;have cG:m.B m.boxes.length=none:=by simp[AM.B]
 obtain⟨g1,g2⟩:=hm.JP _ cG (x:=.mitr id kvs.length []) (o:=.mapIter (some b) es.size #[] es.size) ⟨hb,q3.symm,q3.symm,rfl⟩
 have bh:(execOp a.eval ⟨dst,.range t x,ty,pos,after,guard⟩).run P w=.ok (.value (.pointer (some ⟨w.heap.size,0,none⟩))) (w.alloc (.mapIter (some b) es.size #[] es.size)):=by
  simp[execOp,hv,run_range_map w t kt vt b es es.size hu q2]
 intro rd next Q hn
 refine Zj bh (hn _ _ (γ.gz m.boxes.length w.heap.size) _ _ h.2 rfl g1 ?_ (.it (by simp[G.gz])));rw[Sx];exact g2
def JT(hm:au N w0 an γ w m.B m.L){t:TypeId}{l c:Operand}(h0:aA w γ (e (aC l)) (a.eval l))(h1:aA w γ (e (aC c)) (a.eval c))
  (h:((sop P gl orc e m dst (tr P ⟨dst,.makeSlice t l c,ty,pos,after,guard⟩)).1/\K (sop P gl orc e m dst (tr P ⟨dst,.makeSlice t l c,ty,pos,after,guard⟩)).2.1 (sop P gl orc e m dst (tr P ⟨dst,.makeSlice t l c,ty,pos,after,guard⟩)).2.2)):Ko N w0 an P ⟨dst,.makeSlice t l c,ty,pos,after,guard⟩ a γ w (m.st,m.ln) K:=by
 simp only[tr]at h;split at h
 case h_2=>exact h.1.elim
 rename_i te hu;split at h
 case h_3=>exact h.1.elim
 case h_2=>
  rename_i i hi CA;split at h
  case h_2=>exact h.1.elim
  rename_i zs Cr;obtain⟨i',z,c9,hz,JJ⟩:=iP (w:=w) (γ:=γ) Cr;rw[hi]at c9;cases c9;simp only[sop]at h;split at h
  case h_2=>exact h.1.elim
  rename_i k1 n1 k2 n2 e1 e2;rw[e1]at h0;rw[e2]at h1;obtain⟨⟨⟨g0,g1,g2,g3⟩,g4,g5⟩,g6⟩:=h;have bh:=run_make (P:=P) w t te i z hu hi hz k1 k2 n1 n2 g0 zE g2 g3;have aK:m.B m.boxes.length=none:=by simp[AM.B]
  have gr:=Yo JJ g5;have E4:z.cells.size=zs.length:=by have:=JJ.1;simp at this;omega
  intro rd next Q hn
  refine Zj (v:=.slice (some ⟨w.heap.size,0,none⟩) n1.toNat n2.toNat) (w':=w.alloc (.cells (madeCells z.cells (n2.toNat*i.size)) te)) (by simp[execOp,h0.aI,h1.aI,bh])
   (hn _ _ (γ.box m.boxes.length w.heap.size) _ _ g6 rfl (hm.dn _ aK _) ?_ ?_)
  ·rw[Sx]
   have zx:∀v∈(madeCells z.cells (n2.toNat*i.size)).toList,v.oneCell'=true:=fun v hv=>by
    simp[madeCells]at hv;obtain⟨k,hk,rfl⟩:=hv
    have h0:0<z.cells.size:=by
     rcases zzci z.cells.size with h0|h0
     ·rw[h0]at E4;rw[<- g4,<- E4]at hk;simp at hk
     exact h0
    have ah:k%z.cells.size<z.cells.size:=zzei _ h0;rw[getElem!_pos z.cells _ ah];exact gr _ zd
   refine hm.eW _ aK ⟨by simp[Km,size_madeCells,g4],fun k c v j1 j2=>?_⟩ zx;obtain⟨q1,q2⟩:=j7 j1
   have h0:0<zs.length:=by
    rcases zzci zs.length with h0|h0
    ·simp[h0]at q1
    exact h0
   have ah:k%zs.length<z.cells.size:=by rw[E4];exact zzei _ h0
   have EX:v=z.cells[k%zs.length]:=by
    simp only[madeCells,zzce,zzgj]at j2;rw[zzah (by simp;rw[<- g4];exact q1)]at j2;simp[E4]at j2;rw[<- j2,getElem!_pos z.cells _ ah]
   subst EX;exact JJ.2 _ c _ q2 (by simp[ah])
  exact .bs (arr:=madeCells z.cells (n2.toNat*i.size)) (e:=te) (by simp[G.box]) zE (by show(w.heap.push _)[w.heap.size]?=_;simp) (by rw[zzbs,size_madeCells];exact zzab _)
 rename_i i hi;split at h
 case isFalse=>exact h.1.elim
 rename_i iQ;simp only[zzac,beq_iff_eq,bne_iff_ne]at iQ;obtain⟨iQ,hi0⟩:=iQ
 obtain⟨z,hz,Cr,hzo⟩:∃z,i.zero=some z/\z.cells.size=i.size/\∀v∈z.cells,v.oneCell'=true:=by
  cases hz:i.zero with
  |none=>simp[hz]at iQ
  |some z=>
   simp[hz]at iQ
   exact⟨z,rfl,iQ.1,fun v hv=>by
    obtain⟨k,hk,rfl⟩:=zzhf.1 hv;exact iQ.2 k hk⟩
 have VY:∀(n:Nat),z.cells.size≠0->∀v∈(madeCells z.cells n).toList,v.oneCell'=true:=fun n h0 v hv=>by
  simp[madeCells]at hv;obtain⟨k,hk,rfl⟩:=hv;have ah:k%z.cells.size<z.cells.size:=zzei _ zE;rw[getElem!_pos z.cells _ ah];exact hzo _ zd
 simp only[sop]at h;split at h
 case h_2=>exact h.1.elim
 rename_i kk n e1;rw[e1]at h1;have JK:a.eval (.const (.int .i64 0))=.int .i64 0:=rfl;split at h
 ·split at h
  ·rename_i hc0;obtain⟨⟨g1,g2,g3⟩,g4⟩:=h;have bh:=run_make (P:=P) w t te i z hu hi hz .i64 kk 0 n (zzbd _) g1 g2 g3;intro rd next Q hn
   have aK:m.B m.boxes.length=none:=by simp[AM.B]
   refine Zj (v:=.slice (some ⟨w.heap.size,0,none⟩) 0 n.toNat) (w':=w.alloc (.cells (madeCells z.cells (n.toNat*i.size)) te)) (by simp[execOp,JK,h1.aI,bh])
    (hn _ _ (γ.box m.boxes.length w.heap.size) _ _ g4 rfl (hm.dn _ aK _) ?_ ?_)
   ·rw[Sx];exact hm.eW _ aK ⟨zd,fun k c v j1 j2=>by simp at j1⟩ (by rw[hc0];simp[madeCells])
   exact .sl (rows:=[]) w.heap.size 0 i.size (fun _ _=>undef) (zzbv _) (fun h=>(by cases h)) (fun h=>absurd rfl h) (fun _ h=>by cases h) (fun i j c h=>by simp[Qu]at h) (fun i j c h=>by simp[Qu]at h) (by simpa[qx]using hc0)
  obtain⟨⟨g1,g2,g3⟩,g4⟩:=h;have bh:=run_make (P:=P) w t te i z hu hi hz .i64 kk 0 n (zzbd _) g1 g2 g3;have aK:m.B m.boxes.length=none:=by simp[AM.B]
  intro rd next Q hn
  refine Zj (v:=.slice (some ⟨w.heap.size,0,none⟩) 0 n.toNat) (w':=w.alloc (.cells (madeCells z.cells (n.toNat*i.size)) te)) (by simp[execOp,JK,h1.aI,bh])
   (hn _ _ (γ.box m.boxes.length w.heap.size) _ _ g4 rfl (hm.dn _ aK _) ?_ ?_)
  ·rw[Sx];refine hm.eW _ aK ⟨by simp[size_madeCells],fun k c v j1 j2=>?_⟩ (VY _ zE);simp[zzck]at j1;rw[<- j1.2];exact .junk _
  exact .bs (arr:=madeCells z.cells (n.toNat*i.size)) (e:=te) (by simp[G.box]) zE (by show(w.heap.push _)[w.heap.size]?=_;simp) (by rw[zzbs,size_madeCells];exact zzab _)
 obtain⟨⟨g1,g2,g3⟩,g4⟩:=h;have bh:=run_make (P:=P) w t te i z hu hi hz .i64 kk 0 n (zzbd _) g1 g2 g3;have hL:m.L m.lens.length=none:=by simp[AM.L]
 have cU:γ.cur m.lens.length=0:=hm.cur0 _ hL
 have cr:γ.own m.lens.length=none:=by
  cases h:γ.own m.lens.length with
  |none=>rfl
  |some b=>obtain⟨_,_,k,hk⟩:=hm.own _ _ h;rw[hL]at hk;cases hk
 intro rd next Q hn
 let o:Obj:=.cells (madeCells z.cells (n.toNat*i.size)) te
 refine Zj (v:=.slice (some ⟨w.heap.size,0,none⟩) 0 n.toNat) (w':=w.alloc o) (by simp[execOp,JK,h1.aI,bh,o])
  (hn _ _ (γ.renew m.lens.length w.heap.size 0 0) _ _ g4 rfl (hm.fH (q:=0) zE (fun _=>cr) o) ?_ ?_)
 ·rw[Cx];exact hm.renew zE (fun _=>cr) o
 refine .sl (rows:=[]) w.heap.size 0 i.size (fun _ _=>undef) (zzbv _) (fun h=>(by cases h)) (fun h=>absurd rfl h) (fun _ h=>by cases h) (fun i j c h=>by simp[Qu]at h) (fun i j c h=>by simp[Qu]at h) ?_;refine⟨rfl,zzbv _,fun _=>.inr ⟨w.heap.size,0,madeCells z.cells (n.toNat*i.size),te,rfl,by simp[G.renew],by show(w.heap.push _)[w.heap.size]?=_;simp[o],by simp[size_madeCells],fun o' _ hr=>?_⟩⟩;obtain hr|⟨_,hr⟩:=hr
 ·have:=hm.robd _ _ hr;omega
 omega
def P5(hm:au N w0 an γ w m.B m.L)(iN:∀g,aA w γ.cS (gl g) (.pointer (some ⟨g,0,none⟩))){t:TypeId}{len:Nat}{parts:Array (Nat×Operand)}(he:∀x∈(Op.buildSlice t len parts).operands,aA w γ (e (aC x)) (a.eval x))
  (h:((sop P gl orc e m dst (tr P ⟨dst,.buildSlice t len parts,ty,pos,after,guard⟩)).1/\K (sop P gl orc e m dst (tr P ⟨dst,.buildSlice t len parts,ty,pos,after,guard⟩)).2.1 (sop P gl orc e m dst (tr P ⟨dst,.buildSlice t len parts,ty,pos,after,guard⟩)).2.2)):
  Ko N w0 an P ⟨dst,.buildSlice t len parts,ty,pos,after,guard⟩ a γ w (m.st,m.ln) K:=by
 by_cases hmut:mutO orc dst=true
 case neg=>
  refine qF (o:=⟨dst,.buildSlice t len parts,ty,pos,after,guard⟩) (orc:=orc) hm iN he ?_;simp only[tr]at h |-
  repeat' split at h
  all_goals first|exact h.1.elim|skip
  simp only[sop,ab hmut]at h;simp_all
 have h1:∀p∈parts,aA w γ (e (aC p.2)) (a.eval p.2):=fun p hp=>he p.2 (by simp[Op.operands];exact⟨p.1,hp⟩);simp only[tr]at h;split at h
 case h_2=>exact h.1.elim
 rename_i te hu;split at h
 case h_2=>exact h.1.elim
 rename_i i hi;split at h
 case isFalse=>exact h.1.elim
 rename_i bQ;simp only[zzac,beq_iff_eq,bne_iff_ne,am]at bQ;obtain⟨⟨hz,Ee⟩,vJ⟩:=bQ;cases iQ:i.zero with
 |none=>simp[iQ]at hz
 |some z=>
  simp[iQ]at hz;simp only[sop,ac hmut]at h;obtain⟨⟨fA,Ct⟩,hk⟩:=h
  let dY:P1:=(Array.range (len*i.size)).map (z.cells[·%z.cells.size]!)
  have Cu:ak w γ (List.replicate (len*i.size) .junk) dY.toList:=by
   refine⟨by simp[dY],fun j x v hj _=>?_⟩;simp[zzck]at hj;rw[<- hj.2];exact .junk _
  obtain⟨cells,f1,f2,f3⟩:=Qbk (w:=w) (γ:=γ) (place:=fun j=>some (j*i.size,i.size)) (parts.toList.map fun p=>(p.1*i.size,i.size,e (aC p.2))) (parts.toList.map fun p=>(p.1,a.eval p.2)) _ dY zd (fun j p q dX nV=>by
    simp at dX nV;obtain⟨x1,x2,JF,rfl⟩:=dX;obtain⟨y1,y2,hy1,rfl⟩:=nV;rw[JF]at hy1;cases hy1;exact⟨rfl,h1 (x1,x2) (zzde JF)⟩) Cu (by simpa[Function.comp_def]using fA)
  have hq':(Qda (List.replicate (len*i.size) .junk) ((parts.toList.map fun p=>(p.1,aC p.2)).map fun p=>(p.1*i.size,i.size,e p.2))).2=(Qda (List.replicate (len*i.size) .junk) (parts.toList.map fun p=>(p.1*i.size,i.size,e (aC p.2)))).2:=by
   simp[Function.comp_def]
  rw[hq']at Ct hk;have j4:cells.size=len*i.size:=by rw[f3];simp[dY]
  have bh:(execOp a.eval ⟨dst,.buildSlice t len parts,ty,pos,after,guard⟩).run P w=.ok (.value (.slice (some ⟨w.heap.size,0,none⟩) len len)) (w.alloc (.cells cells te)):=by
   have VC:¬(16777216<len*i.size):=zE
   by_cases qf:len*i.size=0
   ·have fc:dY=(Array.range (len*i.size)).map ((#[]:P1)[·%(#[]:P1).size]!):=by
     simp[dY,qf]
    rw[fc]at f1
    have gK:len=0:=by
     rcases Nat.mul_eq_zero.1 qf with h|h
     ·exact h
     exact absurd h Ee
    simp[qf]at f1;simp[execOp,Instr.buildSlice,run_underlying hu,sizeOf,typeInfo,hi,qf,f1,newRow]
   simp only[execOp,Instr.buildSlice];have f1':Instr.fill (fun j=>some (j*i.size,i.size)) ((Array.range (len*i.size)).map (z.cells[·%z.cells.size]!)) (parts.toList.map fun p=>(p.1,a.eval p.2))=some cells:=f1;simp[run_underlying hu,sizeOf,typeInfo,zeroValue,hi,iQ,qf,VC,f1',newRow]
  have aK:m.B m.boxes.length=none:=by simp[AM.B]
  intro rd next Q hn
  refine Zj bh (hn _ _ (γ.box m.boxes.length w.heap.size) _ _ hk rfl (hm.dn _ aK _) ?_ ?_)
  ·rw[Sx];exact hm.eW _ aK f2.toP (Yo f2 Ct)
  exact .bs (arr:=cells) (e:=te) (by simp[G.box]) (zzab _) (by show(w.heap.push _)[w.heap.size]?=_;simp) (by rw[zzbs,j4];exact zzab _)
def AL(hm:au N w0 an γ w m.B m.L)(iN:∀g,aA w γ.cS (gl g) (.pointer (some ⟨g,0,none⟩)))
  (he:∀x∈o.op.operands,aA w γ (e (aC x)) (a.eval x))(h:((sop P gl orc e m o.dst (tr P o)).1/\K (sop P gl orc e m o.dst (tr P o)).2.1 (sop P gl orc e m o.dst (tr P o)).2.2)):Ko N w0 an P o a γ w (m.st,m.ln) K:=by
 have uk:sop P gl orc e m o.dst (tr P o)=((rop P gl orc e m o.dst (tr P o)).1,(rop P gl orc e m o.dst (tr P o)).2,m)->Ko N w0 an P o a γ w (m.st,m.ln) K:=fun hg=>
  qF hm iN he (by rw[hg]at h;exact h)
 obtain⟨dst,op,ty,pos,after,guard⟩:=o;cases op with
 |alloc t=>exact EZ hm h
 |box t x=>exact PW hm (he x (by simp[Op.operands])) h
 |store t x y=>exact E3 hm (he x (by simp[Op.operands])) (he y (by simp[Op.operands])) h
 |call c=>exact PZ hm iN he h
 |makeMap t r=>exact E5 hm h
 |mapUpdate t x k y=>exact JQ hm (he x (by simp[Op.operands])) (he k (by simp[Op.operands])) (he y (by simp[Op.operands])) h
 |mapEntry t x k=>exact JR hm (he x (by simp[Op.operands])) (he k (by simp[Op.operands])) h
 |entryStore t x k y=>exact JS hm (he x (by simp[Op.operands])) (he k (by simp[Op.operands])) (he y (by simp[Op.operands])) h
 |range t x=>exact P4 hm (he x (by simp[Op.operands])) h
 |next x s=>refine uk ?_;cases s<;>rfl
 |makeSlice t l c=>exact JT hm (he l (by simp[Op.operands])) (he c (by simp[Op.operands])) h
 |buildSlice t len parts=>exact P5 hm iN he h
 |binOp op t x y t'=>
  refine uk ?_;simp only[tr,lI,Qci,zq];repeat' split
  all_goals rfl
 |build t parts=>
  refine uk ?_;simp only[tr,Wn];repeat' split
  all_goals rfl
 |slice t x lo hi mx=>refine uk ?_;cases mx<;>simp only[tr]<;>(repeat' split)<;>rfl
 |makeFunc fn first cap=>refine uk ?_;cases fn<;>rfl
 |_=>first|exact uk rfl|(
  refine uk ?_;simp only[tr];repeat' split
  all_goals rfl)
end
structure SO where
 dst:Option Nat
 op:aF
 guard:Option (Option Nat×Bool)
 xs:List bE
def Xl(P:Program)(ops:Array Oper)(o:Oper):SO:=
 {dst:=o.dst,op:=tr P o,guard:=o.guard.map fun p=>((ops[p.1]?).bind (·.dst),p.2),xs:=if o.guard.isSome then o.op.operands.toList.map aC else[]}
structure AS where
 T:P2
 m:AM
abbrev R0:=Exit->AS->Prop
def put(T:P2)(dst:Option Nat)(a:AV):P2:=match dst with|some d=>T.set d a|none=>T
def strip:AV->AV
 |.gd _ a=>a
 |a=>a
def evS(gl:Nat->AV)(T:P2)(x:bE):AV:=strip (ev gl T x)
def gok(gl:Nat->AV)(T:P2)(g:Bool):List bE->Prop
 |[]=>True
 |x::r=>(match ev gl T x with|.gd g' _=>(g=true->g'=true)|_=>True)/\gok gl T g r
def rawOp:aF->Bool
 |.pick _ _ _=>true
 |_=>false
def evG(gl:Nat->AV)(T:P2)(op:aF):bE->AV:=bif rawOp op then ev gl T else evS gl T
def gxs(op:aF)(xs:List bE):List bE:=bif rawOp op then[]else xs
def Eh(want:Bool):AV->Option Bool
 |.bool g=>some (g==want)
 |.gd d (.bool b)=>some (d&&(b==want))
 |.gd false _=>some false
 |_=>none
abbrev YT:=Nat->P2->AM->(Bool->AM->Prop)->Prop
def qI:Exit->Option Code
 |.ret=>some .ret
 |.exit id=>some (.exit id)
 |_=>none
def JU:LS->Loop->Prop
 |.gone,_=>True
 |.ready,r=>r.state=.ready/\r.pending=none
 |.busy,r=>r.state=.busy
 |.done ex,r=>r.state=.done/\r.pending=qI ex/\(qI ex).isSome=true
def cQ(γ:G)(w:World)(m:AM):Prop:=(∀i,m.st i=.gone\/∃l,γ.lp i=some l/\γ.sp l/\∃r,w.heap[l]?=some (.loop r)/\JU (m.st i) r)/\
 (∀i,m.ln<=i->γ.lp i=none)/\(∀i j l,γ.lp i=some l->γ.lp j=some l->i=j)/\∀i l,γ.lp i=some l->γ.sp l/\∃r,w.heap[l]?=some (.loop r)
def cQ.mono'{γ:G}{w:World}{m m':AM}(h:cQ γ w m){γ':G}{w':World}(e:Ev w γ w' γ')(hm:(m'.st,m'.ln)=(m.st,m.ln)):cQ γ' w' m':=by
 simp only[Prod.mk.injEq]at hm;unfold cQ;rw[hm.1,hm.2,e.lp];exact⟨fun i=>(h.1 i).imp_right fun⟨l,h0,h1,r,h2,h3⟩=>⟨l,h0,(e.sp l h1).1,r,(e.sp l h1).2.trans h2,h3⟩,h.2.1,h.2.2.1,fun i l hl=>let⟨h1,r,h2⟩:=h.2.2.2 i l hl;⟨(e.sp l h1).1,r,(e.sp l h1).2.trans h2⟩⟩
def cQ.mono{γ:G}{w:World}{m:AM}(h:cQ γ w m){γ':G}{w':World}(e:Ev w γ w' γ'):cQ γ' w' m:=h.mono' e rfl
def YOK(N:Nat)(w0:eO)(an:Nat->Nat->Prop)(P:Program)(Y:YT)(γ:G)(w:World):Prop:=∀(γ':G)(w':World),ey w γ w' γ'->∀(i:Nat)(args:P2)(m:AM)(K:Bool->AM->Prop)(vs:PQ),
 au N w0 an γ' w' m.B m.L->cQ γ' w' m->ak w' γ' args vs->Y i args m K->∀l,γ'.lp i=some l->
 YieldAt (FW none) 0 P l vs.toArray w' fun e qz=>∃b Ec kX,e=.returned (.bool b)/\ey w' γ' qz Ec/\au N w0 an Ec qz kX.B kX.L/\cQ Ec qz kX/\K b kX
def YOK.mono{N:Nat}{w0:eO}{an:Nat->Nat->Prop}{P:Program}{Y:YT}{γ:G}{w:World}(h:YOK N w0 an P Y γ w){γ':G}{w':World}(e:ey w γ w' γ'):YOK N w0 an P Y γ' w':=
 fun Ec qz e'=>h Ec qz (e.trans e')
def aB(P:Program)(gl:Nat->AV)(Y:YT)(f:FuncId)(as':P2)(m:AM)(K:So):Prop:=
 bA P f/\∀(N:Nat)(w0:eO)(an:Nat->Nat->Prop)(γ:G)(w:World)(vs:PQ),au N w0 an γ w m.B m.L->cQ γ w m->(∀g,aA w γ.cS (gl g) (.pointer (some ⟨g,0,none⟩)))->
  YOK N w0 an P Y γ w->ak w γ as' vs->
  CallsIn (FW none) 0 P f vs.toArray w fun e w'=>∃v γ' r m',e=.returned v/\ey w γ w' γ'/\au N w0 an γ' w' m'.B m'.L/\cQ γ' w' m'/\aA w' γ' r v/\K r m'
section vc
variable (P:Program) (gl:Nat->AV) (orc:UV) (Y:YT)
def effy(e:bE->AV)(m:AM)(dst:Option Nat):aF->Bool
 |.call f args=>(match e f with
  |.yld _=>true
  |.fn f first cap=>(match orc (dst.getD 0) f ((first++args.map e++cap).map (bB m 6))with|.gd false _=>true|_=>false)
  |_=>false)
 |.nxt _=>true
 |_=>false
def vcNxt(m:AM)(K:So):AV->Prop
 |.it id=>(match m.boxes.getD id []with
  |[.mitr mid n seen]=>(match m.boxes.getD mid []with
   |[.aJ kn kvs]=>kvs.length=n/\(∀i k c,kvs[i]?=some (k,c)->i ∉ seen->K (.aS [.bool true,keyAV kn k,c]) {m with boxes:=m.boxes.set id [.mitr mid n (seen++[i])]})/\
     ((∀i,i<n->i∈seen)->K (.aS [.bool false]) m)
   |_=>False)
  |_=>False)
 |_=>False
def Qah(e:bE->AV)(m:AM)(K:So):aF->Prop
 |.call f args=>(match e f with
  |.yld l=>Y l (args.map e) m fun b m'=>K (.bool b) m'
  |.fn f first cap=>aB P gl Y f (first++args.map e++cap) m K
  |_=>False)
 |.nxt x=>vcNxt m K (e x)
 |_=>False
def Zo:List SO->AS->(AS->Prop)->Prop
 |[],s,K=>K s
 |o::rest,s,K=>match o.guard with
  |none=>if effy orc (ev gl s.T) s.m o.dst o.op=true then Qah P gl Y (ev gl s.T) s.m (fun av m'=>Zo rest ⟨put s.T o.dst av,m'⟩ K) o.op
   else(sop P gl orc (ev gl s.T) s.m o.dst o.op).1/\Zo rest ⟨put s.T o.dst (sop P gl orc (ev gl s.T) s.m o.dst o.op).2.1,(sop P gl orc (ev gl s.T) s.m o.dst o.op).2.2⟩ K
  |some (some t,want)=>match Eh want (s.T.getD t .junk)with
   |some gw=>gok gl s.T gw (gxs o.op o.xs)/\
     if effy orc (evG gl s.T o.op) s.m o.dst o.op=true then
      (gw=true->Qah P gl Y (evG gl s.T o.op) s.m (fun av m'=>Zo rest ⟨put s.T o.dst (.gd true av),m'⟩ K) o.op)/\(gw=false->Zo rest ⟨put s.T o.dst (.gd false (.bool false)),s.m⟩ K)
     else(gw=true->(rop P gl orc (evG gl s.T o.op) s.m o.dst o.op).1)/\
      Zo rest ⟨put s.T o.dst (.gd gw (rop P gl orc (evG gl s.T o.op) s.m o.dst o.op).2),s.m⟩ K
   |none=>False
  |some (none,_)=>False
end vc
def Dfr(n0:Nat)(γ:G)(w:World)(ds:List Deferred):Prop:=
 n0<=w.heap.size/\(∀x∈ds,∃D,x.target=.collected D/\n0<=D/\γ.sp D/\w.heap[D]?=some (.deferred (some [])))/\ds.Pairwise fun x y=>∀D,x.target=.collected D->y.target≠.collected D
def Dfr.aU{n0:Nat}{γ:G}{w:World}{ds:List Deferred}(h:Dfr n0 γ w ds){γ':G}{w':World}(e:ey w γ w' γ'):Dfr n0 γ' w' ds:=
 ⟨zzbb h.1 e.size,fun x hx=>let⟨D,h1,h0,h2,h3⟩:=h.2.1 x hx;⟨D,h1,h0,(e.sp D h2).1,by
  rcases(e.sp D h2).2 with h|⟨r,_,_,h,_⟩
  ·exact h.trans h3
  rw[h3]at h;cases h⟩,h.2.2⟩
def Rdr(r:Option Nat)(γ:G)(w:World):Prop:=∀l,r=some l->γ.sp l/\∃rec,w.heap[l]?=some (.loop rec)
def Rdr.aU{r:Option Nat}{γ:G}{w:World}(h:Rdr r γ w){γ':G}{w':World}(e:ey w γ w' γ'):Rdr r γ' w':=
 fun l hl=>let⟨h1,rec,h2⟩:=h l hl;⟨(e.sp l h1).1,by
  rcases(e.sp l h1).2 with h|⟨r,s,p,_,h⟩
  ·exact⟨rec,h.trans h2⟩
  exact⟨_,h⟩⟩
structure eF (N:Nat) (w0:eO) (r:Option Nat) (an:Nat->Nat->Prop) (S:G×World) (P:Program) (gl:Nat->AV) (Y:YT) (γ:G) (w:World) (s:AS) (a:Act):Prop where
 m:au N w0 an γ w s.m.B s.m.L
 ls:cQ γ w s.m
 rd:Rdr r γ w
 t:ak w γ s.T a.tmps.toList
 d:Dfr S.2.heap.size γ w a.defers
 g:∀g,aA w γ.cS (gl g) (.pointer (some ⟨g,0,none⟩))
 y:YOK N w0 an P Y γ w
 e:ey S.2 S.1 w γ
section
variable {N:Nat} {w0:eO} {r:Option Nat} {an:Nat->Nat->Prop} {S:G×World} {Y:YT} {γ:G} {w:World} {P:Program} {gl:Nat->AV} {orc:UV} {s:AS} {a:Act}
def eF.ev(h:eF N w0 r an S P gl Y γ w s a)(x:Operand):aA w γ (ev gl s.T (aC x)) (a.eval x):=by
 cases x with
 |tmp t=>
  have:=h.t.get t;simpa[Abs.ev,aC,Act.eval,List.getD]using this
 |const v=>exact Kb w γ v
 |func f=>exact .fn rfl (fun i c v h=>by simp at h) rfl fun i c v h=>by simp at h
 |global g=>exact(h.g g).gm
def eF.alm(h:eF N w0 r an S P gl Y γ w s a){dst:Option Nat}{av:AV}{v:Value}{w':World}{γ':G}{m':AM}(e:ey w γ w' γ')(hm:au N w0 an γ' w' m'.B m'.L)(hl:cQ γ' w' m')(hr:aA w' γ' av v):
  eF N w0 r an S P gl Y γ' w' ⟨Abs.put s.T dst av,m'⟩ (a.put dst v):=by
 refine⟨hm,hl,h.rd.aU e,?_,?_,fun g=>(h.g g).aU e.cS,h.y.mono e,h.e.trans e⟩
 ·cases dst with
  |none=>exact h.t.aU e
  |some d=>
   simp only[Abs.put,Act.put,zzdm];exact(h.t.aU e).set d hr
 cases dst<;>exact h.d.aU e
def eF.put(h:eF N w0 r an S P gl Y γ w s a){dst:Option Nat}{av:AV}{v:Value}{w':World}{γ':G}{m':AM}(e:Ev w γ w' γ')(hm:au N w0 an γ' w' m'.B m'.L)(ho:(m'.st,m'.ln)=(s.m.st,s.m.ln))(hr:aA w' γ' av v):
  eF N w0 r an S P gl Y γ' w' ⟨Abs.put s.T dst av,m'⟩ (a.put dst v):=h.alm e.cF hm (h.ls.mono' e ho) hr
def CB{T:P2}{g:Bool}:∀{xs:List bE},gok gl T g xs->∀x∈xs,∀g' b,Abs.ev gl T x=.gd g' b->g=true->g'=true
 |[],_,x,hx,_,_,_,_=>by cases hx
 |y::ys,h,x,hx,g',b,he,hg=>by
  obtain⟨h1,h2⟩:=h;rcases zzao.1 hx with rfl|hx
  ·rw[he]at h1;exact h1 hg
  exact CB h2 x hx g' b he hg
def AN{x:AV}{v:Value}(h:aA w γ x v)(hg:∀g b,x=.gd g b->g=true):aA w γ (strip x) v:=by
 cases x<;>first|exact h|skip
 rename_i g b;exact h.Cn (hg g b rfl)
def E7{c:Call}{fo:bE}{xs:List bE}(h:Zu P c=.call fo xs):∃(f:Operand)(as':Array Operand)(ts:Array TypeId),c=⟨.value f,as',ts⟩/\fo=aC f/\xs=as'.toList.map aC:=by
 obtain⟨callee,args,ts⟩:=c;cases callee with
 |value f=>cases h;exact⟨f,args,ts,rfl,rfl,rfl⟩
 |invoke r n=>cases h
 |builtin b=>cases b<;>simp only[Zu]at h<;>(repeat' split at h)<;>cases h
def ad7{o:Oper}{fo:bE}{xs:List bE}(h:tr P o=.call fo xs):∃(f:Operand)(as':Array Operand)(ts:Array TypeId),o.op=.call ⟨.value f,as',ts⟩/\fo=aC f/\xs=as'.toList.map aC:=by
 obtain⟨dst,op,ty,pos,after,guard⟩:=o;cases op
 case call c=>
  obtain⟨f,as',ts,rfl,h1,h2⟩:=E7 h;exact⟨f,as',ts,rfl,h1,h2⟩
 case next x s=>cases s<;>cases h
 case build t parts=>
  simp only[tr,Wn]at h;repeat' split at h
  all_goals cases h
 case slice t x lo hi mx=>cases mx<;>simp only[tr]at h<;>(repeat' split at h)<;>cases h
 case makeFunc fn a b=>cases fn<;>cases h
 case makeMap t r=>cases r<;>simp only[tr]at h<;>(try split at h)<;>cases h
 case binOp op t x y t'=>
  simp only[tr,lI,Qci,zq]at h;repeat' split at h
  all_goals cases h
 all_goals first|(cases h;done)|(
  simp only[tr]at h;repeat' split at h
  all_goals cases h)
def aln{o:Oper}{xo:bE}(h:tr P o=.nxt xo):∃x:Operand,o.op=.next x false/\xo=aC x:=by
 obtain⟨dst,op,ty,pos,after,guard⟩:=o;cases op
 case next x s=>cases s<;>cases h;exact⟨x,rfl,rfl⟩
 case build t parts=>
  simp only[tr,Wn]at h;repeat' split at h
  all_goals cases h
 case slice t x lo hi mx=>cases mx<;>simp only[tr]at h<;>(repeat' split at h)<;>cases h
 case makeFunc fn a b=>cases fn<;>cases h
 case makeMap t r=>cases r<;>simp only[tr]at h<;>(try split at h)<;>cases h
 case binOp op t x y t'=>
  simp only[tr,lI,Qci,zq]at h;repeat' split at h
  all_goals cases h
 case call c=>
  obtain⟨callee,args,ts⟩:=c;cases callee with
  |value f=>cases h
  |invoke r n=>cases h
  |builtin b=>cases b<;>simp only[tr,Zu]at h<;>(repeat' split at h)<;>cases h
 all_goals first|(cases h;done)|(
  simp only[tr]at h;repeat' split at h
  all_goals cases h)
def au.aiF{B:Nat->PH}{L:Nat->Option Nat}(hm:au N w0 an γ w B L):au N w0 an γ w.drew B L/\Ev w γ w.drew γ:=by
 have bU:Ev w γ w.drew γ:=⟨zzab _,fun _ _ _ h=>⟨h,rfl⟩,fun _ _ h=>h,fun _=>zzab _,fun _ _ h=>h,rfl,fun _ _ _ ho=>⟨ho,fun arr _ he=>⟨arr,he,zzab _⟩,fun _ h=>h⟩,fun _ h=>⟨h,rfl⟩,Sz.of_same fun _ _=>rfl⟩;refine⟨⟨w0.st _ _ _ _ hm.bs ⟨rfl,rfl,rfl,zzab _,fun _ _ _=>rfl,bU.ro,fun _ h=>.inl h,fun _ _ h=>.inl h⟩,hm.hN,hm.an,hm.robd,fun i cells b hb h1=>?_,hm.β,hm.inj,hm.own,hm.oinj,hm.sp,fun i b hb=>?_,hm.minj,hm.len,hm.cur0⟩,bU⟩
 ·obtain⟨arr,e,h2,h3,h4⟩:=hm.box i cells b hb h1;exact⟨arr,e,h2,h3.mono bU,h4⟩
 obtain⟨h1,h2,h3,h4,h5,h6,h8,h7⟩:=hm.mm i b hb;exact⟨h1,h2,h3,h4,h5,h6,h8,h7.mono bU.cF.Av rfl⟩
def vY{es:Array MapEntry}{seen:Array Nat}{x:MapEntry}:x∈(leftOf es seen).toList<->x∈es.toList/\x.born ∉ seen.toList:=by
 simp[leftOf]
def P6{m:AM}(hm:au N w0 an γ w m.B m.L){x:AV}{v:Value}{K:So}(h1:aA w γ x v)(h:vcNxt m K x)(ty:TypeId):
  ∃u w' av m',(Instr.next v false ty).run P w=.ok u w'/\K av m'/\Ev w γ w' γ/\au N w0 an γ w' m'.B m'.L/\aA w' γ av u/\(m'.st,m'.ln)=(m.st,m.ln):=by
 unfold vcNxt at h;split at h
 case h_2=>exact h.elim
 rename_i id;split at h
 case h_2=>exact h.elim
 rename_i mid n seen eY;split at h
 case h_2=>exact h.elim
 rename_i kn kvs gJ;obtain⟨hn,VZ,hK2⟩:=h;obtain⟨aK,Cz⟩:=mP eY;obtain⟨V0,arh⟩:=mP gJ;obtain⟨b,mb,hb,rfl,q1,q2⟩:=hm.Nv h1 Cz;obtain⟨b',es,cK,EX,q3,q4,q5⟩:=hm.iR (v:=.map (some mb)) (.mp q2) arh;cases EX
 have VM:∀y∈es.toList,y.born<n:=fun y hy=>by
  obtain⟨j,hj,rfl⟩:=zzgc hy;simp at hj;have:=Qek q4 q5 hj;simp only[Array.getElem_toList];omega
 rcases run_next_at (P:=P) w ty b mb n n seen.toArray es es.size q1 q3 VM (zzab _)with⟨g1,g2⟩|⟨y,g1,w1,g2,g3⟩
 ·refine⟨_,w,.aS [.bool false],m,g2,hK2 fun i hi=>?_,Ev.refl w γ,hm,(ak.cons (.bool false) ak.nil).zz,rfl⟩;have hie:i<es.size:=zE
  have hnil:leftOf es seen.toArray=#[]:=zzet g1;have:es[i] ∉ (leftOf es seen.toArray).toList:=by rw[hnil];simp
  rw[vY]at this;simp only[not_and,Decidable.not_not]at this;have:=this zd;rw[Qek q4 q5 hie]at this;simpa using this
 obtain⟨g4,g5⟩:=vY.1 g1;obtain⟨i,hi,rfl⟩:=zzgc g4;simp at hi;simp only[Array.getElem_toList]at g3 g5;have dw:=Qek q4 q5 hi;have qJ:i<kvs.length:=zE
 obtain⟨p1,p2,_,p3⟩:=q5 i (kvs[i]'qJ).1 (kvs[i]'qJ).2 es[i] (by simp[qJ]) (by simp[hi])
 have sv:au N w0 an γ w1 m.B m.L/\Ev w γ w1 γ:=by
  obtain rfl|rfl:=g2
  ·exact⟨hm,Ev.refl _ γ⟩
  exact hm.aiF
 obtain⟨sv,fe⟩:=sv;obtain⟨f1,f2⟩:=sv.qH hb (x:=.mitr mid n (seen++[i])) (o:=.mapIter (some mb) n (seen.toArray.push es[i].born) es.size) ⟨q2,rfl,zE,by simp[dw]⟩;refine⟨_,_,_,_,g3,VZ i (kvs[i]'qJ).1 (kvs[i]'qJ).2 (by simp[qJ]) (by rw[dw]at g5;simpa using g5),fe.trans f1,?_,?_,rfl⟩
 ·rw[lK m id aK];exact f2
 rw[p2];exact((ak.cons (.bool true) (ak.cons (AF p1) (ak.cons p3 ak.nil))).mono (fe.trans f1)).zz
def Qde{o:Oper}{e:bE->AV}{Q:PP}{K:So}(hs:eF N w0 r an S P gl Y γ w s a)(he:∀x∈o.op.operands,aA w γ (e (aC x)) (a.eval x))(h:Qah P gl Y e s.m K (tr P o))
  {next:Act->World->Prop}(hn:∀v w' γ' av m',K av m'->ey w γ w' γ'->au N w0 an γ' w' m'.B m'.L->cQ γ' w' m'->aA w' γ' av v->next (a.put o.dst v) w'):o.wpIn (FW r) 0 P a w next Q:=by
 obtain⟨dst,op,ty,pos,after,guard⟩:=o;cases dh:tr P ⟨dst,op,ty,pos,after,guard⟩with
 |call fo args=>
  rw[dh]at h;obtain⟨f,as',ts,rfl,rfl,rfl⟩:∃(f:Operand)(as':Array Operand)(ts:Array TypeId),op=.call ⟨.value f,as',ts⟩/\fo=aC f/\args=as'.toList.map aC:=by simpa using ad7 dh
  simp only[Qah]at h;have h1:=he f (by simp[Op.operands,Call.operands]);have h2:∀x∈as',aA w γ (e (aC x)) (a.eval x):=fun x hx=>he x (by simp[Op.operands,Call.operands,hx]);have oq:=AH h2;split at h
  ·rename_i i e1;rw[e1]at h1
   obtain⟨l,hl,hv⟩:∃l,γ.lp i=some l/\a.eval f=.func (.yield l) #[] #[]:=by
    generalize a.eval f=v at h1;cases h1 with
    |yld h=>exact⟨_,h,rfl⟩
   obtain⟨fn,tmps,assign,body,hy,hR⟩:=hs.y γ w (Ev.refl w γ).cF i _ s.m _ _ hs.m hs.ls oq h l hl
   have bh:(execOp a.eval ⟨dst,.call ⟨.value f,as',ts⟩,ty,pos,after,guard⟩).run P w=.ok (.round l fn tmps assign body) w:=by
    rw[Array.toArray_toList]at hy;simpa[execOp,resolve,hv,Deferred.ofValue,invoke]using hy
   refine wp_run bh (fun _ h=>by cases h) ?_;rw[Oper.uponIn_round];refine⟨fun h=>by simp[FW,Fence.wide]at h,RoundIn.mono hR ?_⟩;rintro en w' ⟨b,γ',m',rfl,g1,g2,g3,g4⟩;exact hn _ _ _ _ _ g4 g1 g2 g3 (.bool b)
  ·rename_i g first cap e1
   rw[e1]at h1;obtain⟨fa,ca,hv,r1,r2⟩:=h1.qA
   have bh:(execOp a.eval ⟨dst,.call ⟨.value f,as',ts⟩,ty,pos,after,guard⟩).run P w=.ok (.enter g ((fa.toList++(as'.map a.eval).toList++ca.toList).toArray)) w:=by
    simp[execOp,resolve,hv,Deferred.ofValue,invoke,Qdv h.1]
   refine wp_run bh (fun _ h=>by cases h) ⟨fun h=>by simp[FW,Fence.wide]at h,?_⟩;refine CallsIn.mono (h.2 N w0 an γ w _ hs.m hs.ls hs.g hs.y ((r1.append oq).append r2)) ?_;rintro en w' ⟨v,γ',r',m',rfl,g1,g2,g3,g4,g5⟩;exact hn v w' γ' r' m' g5 g1 g2 g3 g4
  exact h.elim
 |nxt xo=>
  rw[dh]at h;obtain⟨x,rfl,rfl⟩:∃x:Operand,op=.next x false/\xo=aC x:=by simpa using aln dh
  simp only[Qah]at h;obtain⟨u,w',av,m',g1,g2,g3,g4,g5,g6⟩:=P6 (P:=P) hs.m (he x (by simp[Op.operands])) h ty;exact Zj (v:=u) (w':=w') (by simp[execOp,g1]) (hn u w' γ av m' g2 g3.cF g4 (hs.ls.mono' g3 g6) g5)
 |_=>rw[dh]at h;exact h.elim
def vZ{ops:Array Oper}{Q:PP}{K:AS->Prop}{k:Nat}(ah:k<ops.size)(hs:eF N w0 r an S P gl Y γ w s a)
  (h:Zo P gl orc Y ((ops.toList.drop k).map (Xl P ops)) s K):
  wpOpIn (FW r) 0 P ops Q k (fun a' w'=>∃γ' s',eF N w0 r an S P gl Y γ' w' s' a'/\Zo P gl orc Y ((ops.toList.drop (k+1)).map (Xl P ops)) s' K) a w:=by
 have hd:ops.toList.drop k=ops[k]::ops.toList.drop (k+1):=by
  rw[zzai (Nm ah)];simp
 rw[hd,zzar]at h;have ho:ops[k]?=some ops[k]:=zzah ah;generalize ops[k]=o at ho h;simp only[wpOpIn,ho];cases hg:o.guard with
 |none=>
  have hw:Region.wanted o (yielded ops a.tmps)=true:=by simp[Region.wanted,hg]
  rw[ac hw];have e1:(Xl P ops o).guard=none:=by simp[Xl,hg]
  simp only[Zo,e1]at h;split at h
  ·exact Qde (K:=fun av m=>Zo P gl orc Y ((ops.toList.drop (k+1)).map (Xl P ops)) ⟨Abs.put s.T o.dst av,m⟩ K) hs (fun x _=>hs.ev x) h fun v w' γ' av m' hK h1 h2 h3 h4=>⟨γ',_,hs.alm h1 h2 h3 h4,hK⟩
  exact AL (K:=fun av m=>Zo P gl orc Y ((ops.toList.drop (k+1)).map (Xl P ops)) ⟨Abs.put s.T o.dst av,m⟩ K) hs.m hs.g (fun x _=>hs.ev x) h r _ Q fun v w' γ' av m' hK cM h1 h2 h3=>⟨γ',_,hs.put h1 h2 cM h3,hK⟩
 |some p=>
  obtain⟨j,want⟩:=p;have e1:(Xl P ops o).guard=some ((ops[j]?).bind (·.dst),want):=by simp[Xl,hg]
  simp only[Zo,e1]at h;cases hj:(ops[j]?).bind (·.dst)with
  |none=>rw[hj]at h;exact h.elim
  |some t=>
   rw[hj]at h;simp only at h;split at h
   case h_2=>exact h.elim
   rename_i gw kY;obtain⟨h1,h⟩:=h
   have V1:Region.wanted o (yielded ops a.tmps)=gw:=by
    have hr:=hs.t.get t
    have cn:t<a.tmps.size:=by
     rcases zzaa t s.T.length with h|h
     ·have h5:=hs.t.1;rw[zzbj]at h5;rw[<- h5];exact h
     simp[List.getD,zzav h,Eh]at kY
    have cm:(a.tmps.toList.getD t undef)=a.tmps[t]:=by simp[List.getD,cn]
    rw[cm]at hr;have hyv:∀b,a.tmps[t]=.bool b->yielded ops a.tmps j=some b:=fun b hb=>by simp only[yielded,hj,zzcx,zzah cn,hb]
    have hyu:a.tmps[t]=undef->yielded ops a.tmps j=none:=fun hb=>by simp only[yielded,hj,zzcx,zzah cn,hb];rfl
    generalize s.T.getD t .junk=gv at kY hr
    have hf:∀{x:AV},aA w γ (.gd false x) a.tmps[t]->Region.wanted o (yielded ops a.tmps)=false:=fun hx=>by
     simp only[Region.wanted,hg,hyu hx.Ns];cases want<;>rfl
    cases gv with
    |bool g=>
     simp only[Eh,Option.some.injEq]at kY;subst kY;simp only[Region.wanted,hg,hyv g hr.bw];cases g<;>cases want<;>rfl
    |gd d x=>
     cases d with
     |false=>
      rw[hf hr];cases x<;>simp[Eh]at kY<;>exact kY.symm
     |true=>
      cases x<;>simp[Eh]at kY;rename_i b;subst kY;simp only[Region.wanted,hg,hyv b (hr.Cn rfl).bw];cases b<;>cases want<;>rfl
    |_=>simp[Eh]at kY
   rw[V1]
   have V2:gw=true->∀x∈o.op.operands,aA w γ (evG gl s.T (tr P o) (aC x)) (a.eval x):=fun AO x hx=>by
    unfold evG;cases gX:rawOp (tr P o)with
    |true=>exact hs.ev x
    |false=>
     refine AN (hs.ev x) fun g' b hgb=>CB h1 (aC x) ?_ g' b hgb AO;have gh:rawOp (Xl P ops o).op=false:=gX;simp only[gxs,gh,cond_false];simp[Xl,hg];exact⟨x,Nm hx,rfl⟩
   split at h
   ·obtain⟨h2,h3⟩:=h;cases AO:gw with
    |true=>
     simp only[if_true];exact Qde (e:=evG gl s.T (tr P o)) (K:=fun av m=>Zo P gl orc Y ((ops.toList.drop (k+1)).map (Xl P ops)) ⟨Abs.put s.T o.dst (.gd true av),m⟩ K) hs (V2 AO) (h2 AO) fun v w' γ' av m' hK h1 h2 h3 h4=>⟨γ',_,hs.alm h1 h2 h3 (.gd (fun _=>h4) (fun h=>by cases h)),hK⟩
    |false=>
     simp only[zzbi,if_false];exact⟨fun _ _=>trivial,γ,_,hs.put (Ev.refl _ _) hs.m rfl (.gd (fun h=>by cases h) (fun _=>rfl)),h3 AO⟩
   obtain⟨h2,h3⟩:=h;cases AO:gw with
   |true=>
    rw[AO]at h2 h3;simp only[if_true];refine Qct (e:=evG gl s.T (tr P o)) hs.m (fun _ _ h=>h) hs.g (V2 AO) (h2 rfl) r _ Q fun v w' γ' q1 q2 q3=>?_;exact⟨γ',_,hs.put q1 q2 rfl (.gd (fun _=>q3) (fun h=>by cases h)),h3⟩
   |false=>
    rw[AO]at h3;simp only[zzbi,if_false];exact⟨fun _ _=>trivial,γ,_,hs.put (Ev.refl _ _) hs.m rfl (.gd (fun h=>by cases h) (fun _=>rfl)),h3⟩
def sw{ops:Array Oper}{Q:PP}{K:AS->Prop}(hQ:∀γ w s a,K s->eF N w0 r an S P gl Y γ w s a->Q .normal a w):
  ∀(n k:Nat)(γ:G)(w:World)(s:AS)(a:Act),k+n=ops.size->Zo P gl orc Y ((ops.toList.drop k).map (Xl P ops)) s K->eF N w0 r an S P gl Y γ w s a->wpOpsIn (FW r) 0 P ops Q (List.range' k n) a w
 |0,k,γ,w,s,a,hk,h,hs=>by
  have:ops.toList.drop k=[]:=zzam (by simp;omega);rw[this]at h;exact hQ γ w s a h hs
 |n+1,k,γ,w,s,a,hk,h,hs=>by
  rw[zzgx,wpOpsIn_cons];refine wpOpIn_mono ?_ (vZ zE hs h);rintro a' w' ⟨γ',s',dz,h'⟩;exact sw hQ n (k+1) γ' w' s' a' zE h' dz
end
end Go.Abs
