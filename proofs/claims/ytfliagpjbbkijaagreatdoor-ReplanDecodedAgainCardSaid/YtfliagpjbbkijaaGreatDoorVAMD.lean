import Derived.Test.YtfliagpjbbkijaaGreatDoorVAMC
import Derived.RangeFuncSeq
set_option linter.all false
namespace Go.Abs
open Go Go.RowKit
def Kh(N:Nat)(w0:fc)(an:Nat->Nat->Prop)(P:Program)(o:Oper)(a:Act)(γ:G)(w:World)(ph:(Nat->LS)×Nat)(K:UV):Prop:=
 ∀(rd:Option Nat)(next:Act->World->Prop)(Q:QR),(∀v w' γ' av m',K av m'->(m'.st,m'.ln)=ph->Ev w γ w' γ'->aq N w0 an γ' w' m'.B m'.L->au w' γ' av v->next (a.put o.dst v) w')->o.wpIn (FW rd) 0 P a w next Q
section
variable {N:Nat} {w0:fc} {an:Nat->Nat->Prop} {γ:G} {w:World} {P:Program} {o:Oper} {a:Act} {K:UV}
variable {dst:Option Tmp} {ty:TypeId} {pos:String} {after:Array Edge} {guard:Option (Nat×Bool)} {gl:Nat->AV} {orc:X1} {e:bM->AV} {m:AM}
def qS(hm:aq N w0 an γ w m.B m.L)(eG:∀g,au w γ.cW (gl g) (.pointer (some ⟨g,0,none⟩)))
  (he:∀x∈o.op.operands,au w γ (e (aB x)) (a.eval x))(hc:(rop P gl orc e m o.dst (tr P o)).1/\K (rop P gl orc e m o.dst (tr P o)).2 m):Kh N w0 an P o a γ w (m.st,m.ln) K:=
 fun rd next Q hk=>Qcs hm (fun _ _ h=>h) eG he hc.1 rd next Q fun v w' γ' h1 h2 h3=>hk v w' γ' _ m hc.2 rfl h1 h2 h3
def SR(m:AM)(cells:PQ):({m with boxes:=m.boxes++[cells]}:AM).B=fun i=>if i=m.boxes.length then some cells else m.B i:=by
 funext i;simp only[AM.B];by_cases h:i=m.boxes.length
 ·simp[h]
 rw[if_neg h];rcases zzab i m.boxes.length with h'|h'
 ·rw[zzak h']
 rw[zzau h',zzau (by simp;omega)]
def C0(m:AM)(n:Nat):({m with lens:=m.lens++[n]}:AM).L=fun i=>if i=m.lens.length then some n else m.L i:=by
 funext i;simp only[AM.L];by_cases h:i=m.lens.length
 ·simp[h]
 rw[if_neg h];rcases zzab i m.lens.length with h'|h'
 ·rw[zzak h']
 rw[zzau h',zzau (by simp;omega)]
def lX(m:AM)(id:Nat)(h:id<m.boxes.length)(cells:PQ):({m with boxes:=m.boxes.set id cells}:AM).B=fun i=>if i=id then some cells else m.B i:=by
 funext i;simp only[AM.B];by_cases hi:i=id
 ·subst hi;simp[h]
 rw[if_neg hi,zzbq (Ne.symm hi)]
def aiY(m:AM)(id:Nat)(h:id<m.lens.length)(n:Nat):({m with lens:=m.lens.set id n}:AM).L=fun i=>if i=id then some n else m.L i:=by
 funext i;simp only[AM.L];by_cases hi:i=id
 ·subst hi;simp[h]
 rw[if_neg hi,zzbq (Ne.symm hi)]
def Yl{cs:PQ}{vs:PH}(h:ak w γ cs vs)(hc:cs.all Qw=true):∀v∈vs,v.oneCell'=true:=fun v hv=>by
 obtain⟨i,hi⟩:=zzcq.1 hv;have aa:i<cs.length:=by rw[h.1];exact(zza.1 hi).1
 have:=zzad aa;exact uv (h.2 i _ v this hi) (zzbe.1 hc _ (zzdg aa))
def A8(hm:aq N w0 an γ w m.B m.L){cells:PQ}{arr:PP}{te:TypeId}(hr:ak w γ cells arr.toList)(hc:cells.all Qw=true)
  (aX:(execOp a.eval o).run P w=.ok (.value (.pointer (some ⟨w.heap.size,0,none⟩))) (w.alloc (.cells arr te)))(hk:K (.ptr m.boxes.length 0) {m with boxes:=m.boxes++[cells]}):Kh N w0 an P o a γ w (m.st,m.ln) K:=by
 intro rd next Q hn
 have aM:m.B m.boxes.length=none:=by simp[AM.B]
 refine Zj aX (hn _ _ (γ.box m.boxes.length w.heap.size) _ _ hk rfl (hm.dB _ aM _) ?_ (.ptr (by simp[G.box])));rw[SR];exact hm.fH _ aM hr.toP (Yl hr hc)
def Fp(hm:aq N w0 an γ w m.B m.L){t:TypeId}(h:((sop P gl orc e m dst (tr P ⟨dst,.alloc t,ty,pos,after,guard⟩)).1/\K (sop P gl orc e m dst (tr P ⟨dst,.alloc t,ty,pos,after,guard⟩)).2.1 (sop P gl orc e m dst (tr P ⟨dst,.alloc t,ty,pos,after,guard⟩)).2.2)):Kh N w0 an P ⟨dst,.alloc t,ty,pos,after,guard⟩ a γ w (m.st,m.ln) K:=by
 simp only[tr]at h;split at h
 case h_2=>exact h.1.elim
 rename_i zs hz;obtain⟨i,z,hi,fV,hr⟩:=iY (w:=w) (γ:=γ) hz;obtain⟨h1,h2⟩:=h;refine A8 hm (te:=t) hr h1 ?_ h2;simp[execOp,Instr.alloc,zeroValue,typeInfo,hi,fV,newVar,newRow]
def P8(hm:aq N w0 an γ w m.B m.L){t:TypeId}{x:Operand}(he:au w γ (e (aB x)) (a.eval x))(h:((sop P gl orc e m dst (.box (aB x))).1/\K (sop P gl orc e m dst (.box (aB x))).2.1 (sop P gl orc e m dst (.box (aB x))).2.2)):Kh N w0 an P ⟨dst,.box t x,ty,pos,after,guard⟩ a γ w (m.st,m.ln) K:=by
 have key:bare (e (aB x))=true->(cellsOf (e (aB x))).all Qw=true->K (.ptr m.boxes.length 0) {m with boxes:=m.boxes++[cellsOf (e (aB x))]}->Kh N w0 an P ⟨dst,.box t x,ty,pos,after,guard⟩ a γ w (m.st,m.ln) K:=fun hb h1 h2=>
  A8 hm (te:=t) (kJ he hb) h1 (by simp[execOp,Instr.box,newVar,newRow]) h2
 exact key h.1.1 h.1.2 h.2
def Fq(hm:aq N w0 an γ w m.B m.L){t:TypeId}{x y:Operand}(h1:au w γ (e (aB x)) (a.eval x))(h2:au w γ (e (aB y)) (a.eval y))(h:((sop P gl orc e m dst (tr P ⟨dst,.store t x y,ty,pos,after,guard⟩)).1/\K (sop P gl orc e m dst (tr P ⟨dst,.store t x y,ty,pos,after,guard⟩)).2.1 (sop P gl orc e m dst (tr P ⟨dst,.store t x y,ty,pos,after,guard⟩)).2.2)):
  Kh N w0 an P ⟨dst,.store t x y,ty,pos,after,guard⟩ a γ w (m.st,m.ln) K:=by
 simp only[tr]at h;split at h
 case h_2=>exact h.1.elim
 rename_i i hi;simp only[sop]at h;split at h
 case h_2=>exact h.1.elim
 rename_i id o' e1;rw[e1]at h1;obtain⟨b,hb,hv⟩:=h1.dN;obtain⟨⟨g1,g2,g3,g4,g5⟩,g6⟩:=h;have qC:=kJ h2 g1;have gI:=Yl qC g2;have hB:m.B id=some (m.boxes.getD id []):=by simp[AM.B,g5]
 obtain⟨arr,te,q2,q3,q4⟩:=hm.box id _ b hB hb;have hsz:(a.eval y).cells.size=i.size:=by have:=qC.1;simp at this;omega
 have aH:(m.boxes.getD id []).length<=arr.size:=by have:=q3.1;simpa using this
 have cc:=run_storeCells_cells (P:=P) b o' (a.eval y).cells.toList 0 w (fun j hj=>by
   simp at hj;rw[aN q2,zzcl,zzag zE];rfl) (fun j hj=>Zo q2) gI
 intro rd next Q hn
 simp only[zzcl]at cc
 have aX:(execOp a.eval ⟨dst,.store t x y,ty,pos,after,guard⟩).run P w=.ok .skip (w.setCells b o' (a.eval y).cells.toList):=by
  simp[execOp,Instr.storeAt,hv,Instr.sureAddr,storeVar,sizeOf,typeInfo,hi,hsz,cc]
 refine oM aX (hn undef _ γ _ _ g6 rfl (hm.cH hb o' _) ?_ (.junk _));rw[lX m id g5];by_cases lF:m.boxes.getD id []=[]
 ·have hz:(a.eval y).cells.toList=[]:=by
   rw[lF]at g4;apply zzbc;simp at g4 |-
   have:i.size=0:=g4.2;rw[this]at hsz;simpa using hsz
  have hz2:cellsOf (e (aB y))=[]:=zzbc (by rw[qC.1,hz];rfl);rw[hz,hz2,lF]
  have:(fun i=>if i=id then some (setA [] o' [])else m.B i)=m.B:=by
   funext i;by_cases hi:i=id
   ·subst hi;rw[if_pos rfl,hB,lF];rfl
   rw[if_neg hi]
  rw[this];exact hm
 exact hm.store hB hb q2 q3 q4 qC gI lF
def sJ{sz:Nat}{c:AV}:∀{rows:X2}{k:Nat},(∀row∈rows,row.length=sz)->rows.flatten[k]?=some c->k<rows.length*sz/\Qs rows (k/sz) (k%sz)=some c
 |[],k,_,h=>by simp at h
 |row::rows,k,hs,h=>by
  have hr:=hs row zd;rw[zzci]at h;rcases zzab k sz with hk|hk
  ·rw[zzak zE]at h;rw[zzgt hk,zzdx hk];refine⟨?_,by simpa[Qs]using h⟩;simp[zzbl];omega
  rw[zzat zE,hr]at h;obtain⟨h1,h2⟩:=sJ (rows:=rows) (fun row h=>hs row (by simp[h])) h
  have h0:0<sz:=by
   rcases zzcc sz with h0|h0
   ·subst h0;simp at h1
   exact h0
  have e1:k/sz=(k-sz)/sz+1:=by rw[Nat.div_eq_sub_div h0 hk]
  have e2:k%sz=(k-sz)%sz:=(Nat.mod_eq_sub_mod hk);rw[e1,e2];refine⟨?_,by simpa[Qs]using h2⟩;simp[zzbl];omega
def jb{sz:Nat}:∀{rows:X2},(∀row∈rows,row.length=sz)->rows.flatten.length=rows.length*sz
 |[],_=>zd
 |row::rows,hs=>by
  have:=jb (rows:=rows) fun row h=>hs row (by simp[h]);have hr:=hs row zd;simp[this,hr,zzbl];omega
def wj:∀(vs:PH)(arr:PP)(o k:Nat),(Ww arr o vs)[k]?=if o<=k/\k<o+vs.length/\k<arr.size then vs[k-o]? else arr[k]?
 |[],arr,o,k=>by
  rw[Ww,if_neg];simp;omega
 |v::vs,arr,o,k=>by
  rw[Ww,wj vs _ (o+1) k];by_cases h1:o+1<=k/\k<o+1+vs.length/\k<(arr.setIfInBounds o v).size
  ·rw[if_pos h1];simp at h1;rw[if_pos (by simp;omega)];rw[show k-o=(k-(o+1))+1 by omega];simp
  rw[if_neg h1];simp at h1;by_cases h2:o<=k/\k<o+(v::vs).length/\k<arr.size
  ·simp at h2;obtain rfl:k=o:=zE
   rw[if_pos (by simp;omega)];simp[zzes];omega
  rw[if_neg h2];simp at h2;by_cases hk:o=k
  ·subst hk;have:arr.size<=o:=zE
   simp[zzbt,this]
  rw[zzco hk]
def Qbm(hm:aq N w0 an γ w m.B m.L){y:AV}{v2:Value}{sz:Nat}(hr:au w γ y v2)(hc:(cellsS m sz y).1):
  ∃(a2:Option Addr)(ct:Nat)(vs:PH),v2=.slice a2 (lenS y) ct/\ak w γ (cellsS m sz y).2 vs/\(∀v∈vs,v.oneCell'=true)/\vs.length=lenS y*sz/\
   ∀n,n<=lenS y->∀w':World,(∀x,w'.cell? x=w.cell? x)->(Builtin.firstCells sz n v2).run P w'=.ok (vs.take (n*sz)).toArray w':=by
 have VR:∀(a2:Option Addr)(len ct:Nat)(w':World),(Builtin.firstCells sz 0 (.slice a2 len ct)).run P w'=.ok #[] w':=fun a2 len ct w'=>by
  cases a2<;>simp[Builtin.firstCells,loadCells,loadCellsFrom]
 cases y with
 |sl rt rows=>
  obtain⟨a2,ct,b2,gD,sz2,gH,rfl,s2,_⟩:=hr.cr;replace s2:=s2.fix (sz:=sz) hc;refine⟨a2,ct,Ve rows.length sz gH,rfl,⟨by simp[cellsS,jb hc,Zd],fun k c v h1 h2=>?_⟩,s2.one,by simp[lenS,Zd],fun n hn w' hw=>?_⟩
  ·obtain⟨g1,g2⟩:=sJ hc h1;obtain⟨_,rfl⟩:=qN h2;exact(s2.rep _ _ c g2).gF
  by_cases eO:n=0
  ·subst eO;simpa using VR a2 _ ct w'
  simp only[lenS]at hn;have aJ:rows≠[]:=by rintro rfl;simp at hn;omega
  obtain⟨rfl,_⟩:=s2.at_ aJ;refine run_firstCells_some w' sz n _ rows.length ct _ ?_ fun j u hj=>?_
  ·rw[zzaq,Zd];have:n*sz<=rows.length*sz:=zzbb _ hn;omega
  rw[hw];rw[zzbk]at hj;split at hj
  ·exact s2.cells j u hj
  cases hj
 |bs id off len gA=>
  obtain⟨rfl,cR,aM⟩:=hc;obtain⟨b,cap,arr,te,hβ,rfl,hl,hh,hs⟩:=hr.dg;have hsz:=VJ hm (m:=m) (fun _ _ h=>h) hβ hh;have aH:((arr.toList.drop off).take (len*gA)).length=len*gA:=by simp;omega
  refine⟨_,cap,(arr.toList.drop off).take (len*gA),rfl,⟨?_,fun k c v h1 h2=>?_⟩,fun v hv=>?_,aH,fun n hn w' hw=>?_⟩
  ·rw[aH];show(List.take _ (List.drop _ _)).length=_;rw[zzaq,zzcb];omega
  ·simp only[cellsS]at h1;rw[zzbk]at h1 h2;split at h1
   ·rename_i hk;simp only[hk,if_true]at h2;rw[zzbo]at h1 h2;obtain⟨u,g1,g2,_⟩:=v7 hm (m:=m) (fun _ _ h=>h) hβ hh h1;rw[zzbw,g1]at h2;cases h2;exact g2
   cases h1
  ·have iB:=zzdd (zzce hv);obtain⟨bN,e',g2,_,g4⟩:=hm.box id _ b (by simp[AM.B,aM]:m.B id=some (m.boxes.getD id [])) hβ;rw[hh]at g2;cases g2;exact g4 v iB
  by_cases eO:n=0
  ·subst eO;simpa using VR _ _ cap w'
  refine run_firstCells_some w' gA n _ len cap _ ?_ fun j u hj=>?_
  ·rw[zzaq,aH];simp only[lenS]at hn;have:n*gA<=len*gA:=zzbb _ hn;omega
  rw[hw,bq,aN hh];rw[zzbk]at hj;split at hj
  ·rw[zzbk]at hj;split at hj
   ·rw[zzbo,zzbw]at hj;exact hj
   cases hj
  cases hj
 |_=>exact hc.elim
section grow
variable {t te:TypeId} {i:TypeInfo} {z:Value} {a1 a2:Option Addr} {len cF cap ct:Nat} {c1 c2:PH}
def lY(ht:P.underlying t=some (.slice te))(hi:P.info? te=some i)(hz:i.zero=some z)(f1:(Builtin.firstCells i.size len (.slice a1 len cap)).run P w.drew=.ok c1.toArray w.drew)
  (f2:(Builtin.firstCells i.size cF (.slice a2 cF ct)).run P w.drew=.ok c2.toArray w.drew)
  (hg:cap<len+cF)(cS:(3*(len+cF)+4000)*i.bytes<=562949953421312)(vT:len+cF<=9223372036854775807):
  ∃bn,len+cF<=bn/\(Builtin.append_ #[t,t] ty #[.slice a1 len cap,.slice a2 cF ct]).run P w=
   .ok (.slice (some ⟨w.heap.size,0,none⟩) (len+cF) bn) (w.drew.alloc (.cells (c1.toArray++c2.toArray++Builtin.zeroCells z.cells (bn-(len+cF))) te)):=by
 have hn:¬(len+cF<=cap):=zE
 have alo:¬(9223372036854775807<((len:Int)+(cF:Int))):=zE
 have cR:=J1 hg
 have alp:¬(281474976710656<Builtin.nextslicecap (len+cF) cap*i.bytes):=by
  have:2*Builtin.nextslicecap (len+cF) cap*i.bytes<=(3*(len+cF)+4000)*i.bytes:=zzbb _ zE;rw[zzgi]at this;omega
 refine⟨grownCap w (len+cF) cap te,grownCap_ge w _ _ _,?_⟩;simp[Builtin.append_,run_underlying ht,sizeOf,typeInfo,zeroValue,hi,hz,Builtin.lenOf,hn,alo,alp,Question.forced,f1,f2,newRow,grownCap];congr 2;apply Array.ext';simp[zzaz]
def zM{b off:Nat}(ht:P.underlying t=some (.slice te))(hi:P.info? te=some i)(f2:(Builtin.firstCells i.size cF (.slice a2 cF ct)).run P w=.ok c2.toArray w)(h1:∀v∈c2,v.oneCell'=true)(hl:c2.length=cF*i.size)
  (cI:len+cF<=cap){arr:PP}{e':TypeId}(hh:w.heap[b]?=some (.cells arr e' (0,0)))(hsz:off+cap*i.size<=arr.size):
  (
   Builtin.append_ #[t,t] ty #[.slice (some ⟨b,off,none⟩) len cap,.slice a2 cF ct]).run P w=
   .ok (.slice (some ⟨b,off,none⟩) (len+cF) cap) (w.setCells b (off+len*i.size) c2):=by
 have cR:(len+cF)*i.size<=cap*i.size:=zzbb _ cI;rw[zzbl]at cR
 have cc:=run_storeCells_cells (P:=P) b (off+len*i.size) c2 0 w (fun j hj=>by
   rw[aN hh,zzcl,zzag zE];rfl)
  (fun j hj=>Zo hh) h1
 simp only[zzcl]at cc;simp[Builtin.append_,run_underlying ht,sizeOf,typeInfo,hi,Builtin.lenOf,cI,f2,bq,cc]
end grow
def A9{as' bs:PQ}{us vs rest:PH}(h1:ak w γ as' us)(h2:ak w γ bs vs):cp w γ (as'++bs) (us++vs++rest):=by
 have h:=h1.append h2;refine⟨by have:=h.1;simp at this |-;omega,fun k c v g1 g2=>h.2 k c v g1 ?_⟩;have hk:=(zza.1 g1).1;rw[h.1]at hk;rwa [zzak hk]at g2
def Wh{cs:PP}(h:∀u∈cs,u.oneCell'=true)(n:Nat):∀v∈(Builtin.zeroCells cs n).toList,v.oneCell'=true:=fun v hv=>by
 simp[Builtin.zeroCells]at hv;obtain⟨k,hk,rfl⟩:=hv
 have h0:0<cs.size:=by
  rcases zzcc cs.size with h0|h0
  ·simp[h0]at hk
  exact h0
 have aa:k%cs.size<cs.size:=zzds _ h0;rw[getElem!_pos cs _ aa];exact h _ (Array.getElem_mem aa)
def kN{zs:PQ}:∀{n k:Nat}{c:AV},(bG n zs)[k]?=some c->k<n*zs.length/\zs[k%zs.length]?=some c
 |0,k,c,h=>by simp[bG]at h
 |n+1,k,c,h=>by
  rw[bG]at h;rcases zzab k zs.length with hk|hk
  ·rw[zzak hk]at h;rw[zzdx hk];exact⟨by rw[zzbl];omega,h⟩
  rw[zzat hk]at h;obtain⟨h1,h2⟩:=kN h;rw[Nat.mod_eq_sub_mod hk];exact⟨by rw[zzbl];omega,h2⟩
def Ke(zs:PQ):∀n,(bG n zs).length=n*zs.length
 |0=>by simp[bG]
 |n+1=>by rw[bG,zzah,Ke zs n,zzbl];omega
def qT(hm:aq N w0 an γ w m.B m.L){id b off:Nat}(hβ:γ.β id=some b)(aM:id<m.boxes.length)(aJ:m.boxes.getD id []≠[]){arr:PP}{te:TypeId}(hh:w.heap[b]?=some (.cells arr te (0,0)))
  {as':PQ}{vs:PH}(hr:ak w γ as' vs)(gI:∀v∈vs,v.oneCell'=true)(cS:off+as'.length<=(m.boxes.getD id []).length):
  (storeCells ⟨b,off,none⟩ vs).run P w=.ok () (w.setCells b off vs)/\Ev w γ (w.setCells b off vs) γ/\aq N w0 an γ (w.setCells b off vs) ({m with boxes:=m.boxes.set id (setA (m.boxes.getD id []) off as')}:AM).B m.L:=by
 have hB:m.B id=some (m.boxes.getD id []):=by simp[AM.B,aM]
 obtain⟨bN,e',q2,q3,q4⟩:=hm.box id _ b hB hβ;rw[hh]at q2;cases q2;have hsz:=q3.1;simp only[zzbj]at hsz;have hl:=hr.1
 have cc:=run_storeCells_cells (P:=P) b off vs 0 w (fun j hj=>by
   rw[aN hh,zzcl,zzag zE];rfl) (fun j hj=>Zo hh) gI
 simp only[zzcl]at cc;refine⟨cc,hm.cH hβ off vs,?_⟩;rw[lX m id aM];exact hm.store hB hβ hh q3 q4 hr gI aJ
def P9(hm:aq N w0 an γ w m.B m.L){x y:Operand}{t te:TypeId}{ts:Array TypeId}{i:TypeInfo}(ht:ts[0]?=some t)(hu:P.underlying t=some (.slice te))(hi:P.info? te=some i)(h1:au w γ (e (aB x)) (a.eval x))(h2:au w γ (e (aB y)) (a.eval y))
  (h:(sop P gl orc e m dst (.cpy i.size (aB x) (aB y))).1/\K (sop P gl orc e m dst (.cpy i.size (aB x) (aB y))).2.1 (sop P gl orc e m dst (.cpy i.size (aB x) (aB y))).2.2):
  Kh N w0 an P ⟨dst,.call ⟨.builtin .copy,#[x,y],ts⟩,ty,pos,after,guard⟩ a γ w (m.st,m.ln) K:=by
 simp only[sop]at h;split at h
 case h_2=>exact h.1.elim
 rename_i id off len gA e1;rw[e1]at h1;obtain⟨b,cap,arr,zm,hβ,hv,hl,hh,hs⟩:=h1.dg;intro rd next Q hn
 split at h
 ·rename_i s e2;rw[e2]at h2;obtain⟨⟨⟨rfl,hi1⟩,aM,cS,aJ⟩,hk⟩:=h
  have hr:ak w γ ((s.data.toList.take len).map fun b=>(.int .u8 b.toNat:AV)) ((s.data.toList.take len).map fun b=>(.int .u8 b.toNat:Value)):=by
   refine⟨zd,fun k c v g1 g2=>?_⟩;simp only[zzbf]at g1 g2;cases hx:(s.data.toList.take len)[k]? with
   |none=>simp[hx]at g1
   |some u=>simp[hx]at g1 g2;subst g1;subst g2;exact .int _ _
  obtain⟨g1,g2,g3⟩:=qT (P:=P) (off:=off) hm hβ aM aJ hh hr (fun v hv=>by obtain⟨u,_,rfl⟩:=zzbh.1 hv;rfl) (by rw[zzbu,zzaq];omega)
  have hfc:(Builtin.firstCells 1 (Nat.min s.size len) (.string s)).run P w=.ok ((s.data.toList.take len).map fun b=>(.int .u8 b.toNat:Value)).toArray w:=by
   simp only[Builtin.firstCells,Sem.run_pure];congr 1;apply Array.ext';simp only[ByteArray.data_extract,Array.toList_map,zzfs,zzgq,zzd,zzet];congr 1;rcases zzhp s.size len with h'|h'
   ·have:Nat.min s.size len=s.size:=zzgy h';rw[this,zzal zd,zzal (Pi h')]
   have:Nat.min s.size len=len:=Nat.min_eq_right h';rw[this]
  generalize((s.data.toList.take len).map fun b=>(.int .u8 b.toNat:Value))=cs at*
  refine Zj (v:=.int .i64 (min s.size len:Nat)) (w':=w.setCells b off cs) ?_ (hn _ _ γ _ _ hk rfl g2 g3 (.int _ _));simp[execOp,resolve,invoke,builtin,Builtin.copy_,ht,run_underlying hu,hv,h2.cE,Builtin.lenOf,sizeOf,typeInfo,hi,hi1,hfc,g1,goInt]
 rename_i hns;obtain⟨⟨rfl,hcy,aM,cS,aJ⟩,hk⟩:=h;obtain⟨a2,ct,vs,zn,gX,sK,eR,hf2⟩:=Qbm (P:=P) hm h2 hcy;have hr:=gX.take (len*i.size);obtain⟨g1,g2,g3⟩:=qT (P:=P) (off:=off) hm hβ aM aJ hh hr (fun v hv=>sK v (zzce hv)) (by rw[zzaq];omega);have hfc:=hf2 (min (lenS (e (aB y))) len) (Nat.min_le_left _ _) w (fun _=>rfl);rw[zn]at hfc
 have bB:vs.take (min (lenS (e (aB y))) len*i.size)=vs.take (len*i.size):=by
  rcases zzhp (lenS (e (aB y))) len with h'|h'
  ·rw[zzgy h',<- eR,zzbs,zzal];rw[eR];exact zzbb _ h'
  rw[Nat.min_eq_right h']
 rw[bB]at hfc;refine Zj (v:=.int .i64 (min (lenS (e (aB y))) len:Nat)) (w':=w.setCells b off (vs.take (len*i.size))) ?_ (hn _ _ γ _ _ hk rfl g2 g3 (.int _ _));simp[execOp,resolve,invoke,builtin,Builtin.copy_,ht,run_underlying hu,hv,zn,Builtin.lenOf,sizeOf,typeInfo,hi,hfc,g1,goInt]
def QA(hm:aq N w0 an γ w m.B m.L){x:Operand}{t te:TypeId}{zs:PQ}(hu:P.underlying t=some (.slice te))(hz:zc P te=some zs)(h1:au w γ (e (aB x)) (a.eval x))
  (h:(sop P gl orc e m dst (.clr zs (aB x))).1/\K (sop P gl orc e m dst (.clr zs (aB x))).2.1 (sop P gl orc e m dst (.clr zs (aB x))).2.2):
  Kh N w0 an P ⟨dst,.call ⟨.builtin .clear,#[x],#[t]⟩,ty,pos,after,guard⟩ a γ w (m.st,m.ln) K:=by
 obtain⟨i,z,hi,fV,J5⟩:=iY (w:=w) (γ:=γ) hz;simp only[sop]at h;split at h
 ·rename_i id off len gA e1;rw[e1]at h1;obtain⟨⟨⟨rfl,bO⟩,aM,cS,aJ⟩,hk⟩:=h;obtain⟨b,cap,arr,zm,hβ,hv,hl,hh,hs⟩:=h1.dg;have gI:=Yl J5 bO;intro rd next Q hn
  have Ba:z.cells.size=zs.length:=by have:=J5.1;simp at this;omega
  have hr:ak w γ (bG len zs) (Builtin.zeroCells z.cells len).toList:=by
   refine⟨by simp[Ke,size_zeroCells,Ba],fun k c v g1 g2=>?_⟩;obtain⟨j1,j2⟩:=kN g1
   have h0:0<zs.length:=by
    rcases zzcc zs.length with h0|h0
    ·simp[h0]at j1
    exact h0
   have aa:k%zs.length<z.cells.size:=by rw[Ba];exact zzds _ h0
   have A7:v=z.cells[k%zs.length]:=by
    simp only[Builtin.zeroCells,zzbw,zzge]at g2;rw[zzag (by simp[Ba];exact j1)]at g2;simp[Ba]at g2;rw[<- g2,getElem!_pos z.cells _ aa]
   subst A7;exact J5.2 _ c _ j2 (by simp[aa])
  obtain⟨g1,g2,g3⟩:=qT (P:=P) (off:=off) hm hβ aM aJ hh hr (Wh (fun u hu=>gI u (Pi hu)) len) (by rw[Ke];exact cS);by_cases ov:len=0
  ·subst ov;have e0:(Builtin.zeroCells z.cells 0).toList=[]:=by simp[Builtin.zeroCells]
   rw[e0]at g2 g3;refine Zj (v:=.tuple #[]) (w':=w) (by simp[execOp,resolve,invoke,builtin,Builtin.clear_,run_underlying hu,hv]) (hn _ _ γ _ _ hk rfl g2 g3 (ak.zK ak.nil))
  refine Zj (v:=.tuple #[]) (w':=w.setCells b off (Builtin.zeroCells z.cells len).toList) ?_ (hn _ _ γ _ _ hk rfl g2 g3 (ak.zK ak.nil));cases len with
  |zero=>exact absurd rfl ov
  |succ len=>simp[execOp,resolve,invoke,builtin,Builtin.clear_,run_underlying hu,hv,zeroValue,typeInfo,hi,fV,g1]
 ·rename_i rt e1;rw[e1]at h1;obtain⟨a1,cap,b1,arb,sz1,cv1,hv,s1,_⟩:=h1.cr;intro rd next Q hn
  refine Zj (v:=.tuple #[]) (w':=w) ?_ (hn _ _ γ _ _ h.2 rfl (Ev.refl w γ) hm (ak.zK ak.nil));simp only[zzcd]at hv;cases a1<;>simp[execOp,resolve,invoke,builtin,Builtin.clear_,run_underlying hu,hv]
 exact h.1.elim
def VT(hm:aq N w0 an γ w m.B m.L){id off len sz:Nat}{v2:Value}(hr:au w γ (.bs id off len sz) v2)(cR:off+len*sz<=(m.boxes.getD id []).length)(aM:id<m.boxes.length)
  (bO:(m.boxes.getD id []).all Qw=true)(hp:(m.boxes.getD id []).any (Yf 6)=false):
  (aW sz len (((m.boxes.getD id []).map (bE m 6)).drop off)).length=len/\(∀row∈aW sz len (((m.boxes.getD id []).map (bE m 6)).drop off),row.length=sz)/\
  ∃(γ2:G)(a2:Option Addr)(ct b2:Nat)(gH:Nat->Nat->Value),v2=.slice a2 len ct/\qB w γ2 (aW sz len (((m.boxes.getD id []).map (bE m 6)).drop off)) a2 ct b2 off sz gH/\
   ∀i j c,Qs (aW sz len (((m.boxes.getD id []).map (bE m 6)).drop off)) i j=some c->au w γ.cW c (gH i j):=by
 obtain⟨b,cap,arr,zm,hβ,hv,hl,hh,hs⟩:=hr.dg;have hB:m.B id=some (m.boxes.getD id []):=by simp[AM.B,aM]
 obtain⟨bN,e',q2,q3,q4⟩:=hm.box id _ b hB hβ;rw[hh]at q2;cases q2;have aH:(aW sz len (((m.boxes.getD id []).map (bE m 6)).drop off)).length=len:=by rw[Wv];simp
 have hsz:∀row∈aW sz len (((m.boxes.getD id []).map (bE m 6)).drop off),row.length=sz:=fun row ai=>by
  rw[Wv]at ai;simp only[zzbh,zzba]at ai;obtain⟨k,hk,rfl⟩:=ai;have:(k+1)*sz<=len*sz:=zzbb _ hk;rw[zzbl,zzdl]at this;simp only[zzaq,zzcb,zzbu];omega
 have ou:∀(k j:Nat)(c:AV),Qs (aW sz len (((m.boxes.getD id []).map (bE m 6)).drop off)) k j=some c->∃c' u,(m.boxes.getD id [])[off+k*sz+j]?=some c'/\c=bE m 6 c'/\arr[off+k*sz+j]?=some u/\arr.getD (off+k*sz+j) undef=u/\au w γ c' u:=fun k j c h=>by
  rw[Wv]at h;unfold Qs at h;rcases zzab k len with hk|hk
  ·rw[zzbf,zzel hk]at h;simp only[zzcf,zzcw]at h;rw[zzbk]at h;split at h
   ·rw[zzbo,zzbo,zzbf]at h;obtain⟨c',uw,rfl⟩:=zzbd.1 h;rw[<- zzan]at uw
    have aa:off+k*sz+j<arr.size:=by
     have h1:=(zza.1 uw).1;have h2:=q3.1;simp at h2;simp only[List.getD]at h1;omega
    have hu':arr[off+k*sz+j]?=some arr[off+k*sz+j]:=zzag aa;exact⟨c',_,uw,rfl,hu',by simp[aa],q3.2 _ _ _ uw (by simp[aa])⟩
   cases h
  rw[zzbf,zzau (Pi hk)]at h;cases h
 have tM:∀(k j:Nat)(c':AV),(m.boxes.getD id [])[off+k*sz+j]?=some c'->Yf 6 c'=true->False:=fun k j c' h VU=>by
  have:(m.boxes.getD id []).any (Yf 6)=true:=zzbv.2 ⟨c',zzac h,VU⟩;rw[hp]at this;cases this
 refine⟨aH,hsz,{γ with ro:=fun _ _=>True},some ⟨b,off,none⟩,cap,b,fun k j=>arr.getD (off+k*sz+j) undef,hv,⟨by rw[aH];exact hl,fun h=>(by cases h),fun _=>⟨rfl,aS hh⟩,hsz,fun k j c h=>?_,fun k j c h=>?_⟩,fun k j c h=>?_⟩
 ·obtain⟨c',u,g1,rfl,g3,g4,g5⟩:=ou k j c h;rw[aN hh,g3,g4];exact⟨rfl,trivial,uv g5 (zzbe.1 bO c' (zzac g1))⟩
 ·obtain⟨c',u,g1,rfl,g3,g4,g5⟩:=ou k j c h;rw[g4];exact Qeb hm (m:=m) (fun _ _ h=>h) (ro':=fun _ _=>True) (fun _ _ _=>trivial) 6 c' u g5 fun VU=>(tM k j c' g1 VU).elim
 obtain⟨c',u,g1,rfl,g3,g4,g5⟩:=ou k j c h;show au w γ.cW (bE m 6 c') (arr.getD (off+k*sz+j) undef);rw[g4];exact Qeb hm (m:=m) (fun _ _ h=>h) (ro':=γ.ro) (fun _ _ h=>h) 6 c' u g5 fun VU=>(tM k j c' g1 VU).elim
def QB(hm:aq N w0 an γ w m.B m.L)(eG:∀g,au w γ.cW (gl g) (.pointer (some ⟨g,0,none⟩))){c:Call}(he:∀x∈c.operands,au w γ (e (aB x)) (a.eval x))(h:((sop P gl orc e m dst (Zp P c)).1/\K (sop P gl orc e m dst (Zp P c)).2.1 (sop P gl orc e m dst (Zp P c)).2.2)):
  Kh N w0 an P ⟨dst,.call c,ty,pos,after,guard⟩ a γ w (m.st,m.ln) K:=by
 have EA:sop P gl orc e m dst (Zp P c)=((rop P gl orc e m dst (Zp P c)).1,(rop P gl orc e m dst (Zp P c)).2,m)->Kh N w0 an P ⟨dst,.call c,ty,pos,after,guard⟩ a γ w (m.st,m.ln) K:=fun hg=>
  qS hm eG he (by rw[hg]at h;exact h)
 obtain⟨callee,args,ts⟩:=c;cases callee with
 |value f=>exact EA rfl
 |invoke recv name=>exact EA rfl
 |builtin b=>
  cases b<;>first|exact EA rfl|skip
  case append=>
   simp only[Zp]at h;split at h
   case h_2=>exact h.1.elim
   rename_i s x t t' ha ht;split at h
   case h_2=>exact h.1.elim
   rename_i te zm hu hu';split at h
   case h_2=>exact h.1.elim
   rename_i i hi;split at h
   case isFalse=>exact h.1.elim
   rename_i bV;simp only[zzai,beq_iff_eq,bne_iff_ne]at bV;obtain⟨⟨⟨rfl,hz⟩,_⟩,dG⟩:=bV;obtain rfl:args=#[s,x]:=by cases args;simp_all
   obtain rfl:ts=#[t,t]:=by cases ts;simp_all
   have h1:=he s (by simp[Call.operands]);have h2:=he x (by simp[Call.operands]);cases fV:i.zero with
   |none=>simp[fV]at hz
   |some z=>
    simp[fV]at hz;obtain⟨hz,hzo⟩:=hz;have aiZ:∀(n:Nat),∀v∈(Builtin.zeroCells z.cells n).toList,v.oneCell'=true:=fun n v hv=>Wh (fun u hu=>by obtain⟨k,hk,rfl⟩:=zzhf.1 hu;exact hzo k hk) n v hv
    have grown:∀{c1 c2:PH}{bn len:Nat},c1.length+c2.length=len*i.size->len<=bn->bn*i.size<=(c1.toArray++c2.toArray++Builtin.zeroCells z.cells (bn-len)).size:=fun{c1 c2 bn len}hl cR=>by
     simp only[zzep,zzeo,size_zeroCells,hz];have:bn*i.size=len*i.size+(bn-len)*i.size:=by rw[<- zzbl];congr 1;omega
     omega
    simp only[sop]at h;split at h
    ·rename_i id gA rows U5 aC e1 e2;rw[e1]at h1;rw[e2]at h2;obtain⟨⟨rfl,aH,hr,cS⟩,hk⟩:=h;obtain⟨v,w',γ',g1,g2,g3,g4⟩:=NQ (ty:=ty) hm hu hi fV hz (id:=id) (.inr ⟨h1,aH⟩) h2 hr cS (Jo dG cS);intro rd next Q hn
     refine Zj (v:=v) (w':=w') (by simp[execOp,resolve,invoke,builtin,g1]) (hn v w' γ' _ _ hk rfl g2 ?_ g4);rw[aiY m id (zza.1 aH).1];exact g3
    ·
     rename_i y' id off len gA e1;rw[e1]at h1;obtain⟨⟨⟨⟨rfl,rfl,aM,aJ,cR⟩,cS⟩,hcy⟩,hk⟩:=h;obtain⟨b,cap,arr,zm,hβ,hv,hl,hh,hs⟩:=h1.dg;obtain⟨a2,ct,vs,zn,gX,sK,eR,hf2⟩:=Qbm (P:=P) hm h2 hcy;have hB:m.B id=some (m.boxes.getD id []):=by simp[AM.B,aM]
     obtain⟨bN,e',q2,q3,q4⟩:=hm.box id _ b hB hβ;rw[hh]at q2;cases q2;have hsz:=q3.1;simp only[zzbj]at hsz
     have fe:ak w γ ((m.boxes.getD id []).take (len*i.size)) (arr.toList.take (len*i.size)):=by
      refine⟨by simp only[zzaq,zzbj];omega,fun k c v g1 g2=>?_⟩;rw[zzbk]at g1 g2;split at g1
      ·rename_i zk;rw[if_pos zk]at g2;exact q3.2 k c v g1 g2
      cases g1
     have cQ:m.B m.boxes.length=none:=by simp[AM.B]
     have hBB:∀cells:PQ,({m with boxes:=m.boxes.set id []++[cells]}:AM).B=fun i=>if i=m.boxes.length then some cells else if i=id then some []else m.B i:=fun cells=>by
      have e1:=SR {m with boxes:=m.boxes.set id []} cells;rw[lX m id aM]at e1;simpa using e1
     intro rd next Q hn
     by_cases cI:len+lenS (e (aB x))<=cap
     ·have aX:=zM (P:=P) (ty:=ty) (w:=w) (len:=len) (b:=b) (off:=0) hu hi (by have:=hf2 _ (zzaa _) w (fun _=>rfl);rw[zn,<- eR,zzbs]at this;exact this) sK eR cI hh hs;simp only[zzbm]at aX;have PL:(len+lenS (e (aB x)))*i.size<=cap*i.size:=zzbb _ cI;rw[zzbl]at PL
      obtain⟨g1,g2⟩:=hm.share (id':=m.boxes.length) (new:=(m.boxes.getD id []).take (len*i.size)++(cellsS m i.size (e (aB x))).2) hβ hB aJ cQ hh (p:=len*i.size) (vs:=vs) (by
       refine⟨by simp only[zzah,zzaq,gX.1,zzbj,Vb];omega,fun k c v j1 j2=>?_⟩;rw[zzbw,wj]at j2;rcases zzab k (len*i.size)with zk|zk
       ·rw[if_neg zE]at j2;rw[zzak (by rw[zzaq];omega)]at j1;refine fe.2 k c v j1 ?_;rw[zzbk,if_pos zk,zzbw];exact j2
       rw[zzat (by rw[zzaq];omega)]at j1;have e0:((m.boxes.getD id []).take (len*i.size)).length=len*i.size:=by rw[zzaq];omega
       rw[e0]at j1;have ey:=(zza.1 j1).1;rw[gX.1]at ey;rw[if_pos zE]at j2;exact gX.2 _ c v j1 j2) q4 sK
      refine Zj (v:=.slice (some ⟨b,0,none⟩) (len+lenS (e (aB x))) cap) (w':=w.setCells b (len*i.size) vs) (by simp[execOp,resolve,invoke,builtin,hv,zn,aX]) (hn _ _ _ _ _ hk rfl g1 ?_ ?_)
      ·rw[hBB];exact g2
      exact .bs (by simp[G.box]) cI (Qz b vs _ w arr zm _ hh) (by rw[Vb];exact hs)
     have f1:(Builtin.firstCells i.size len (.slice (some ⟨b,0,none⟩) len cap)).run P w.drew=.ok (arr.toList.take (len*i.size)).toArray w.drew:=by
      refine run_firstCells_some w.drew i.size len _ len cap _ (by simp;omega) fun j u hj=>?_;rw[bq];show w.cell? _=_;rw[aN hh];rw[zzbk]at hj;split at hj
      ·simpa using hj
      cases hj
     have f2:(Builtin.firstCells i.size (lenS (e (aB x))) (.slice a2 (lenS (e (aB x))) ct)).run P w.drew=.ok vs.toArray w.drew:=by
      have:=hf2 _ (zzaa _) w.drew (fun _=>rfl);rw[zn,<- eR,zzbs]at this;exact this
     obtain⟨bn,VV,aX⟩:=lY (P:=P) (ty:=ty) (w:=w) hu hi fV f1 f2 zE cS (Jo dG cS);have hmk:=(hm.kill hβ).drew
     have fW:(fun i=>if i=id then some []else m.B i) m.boxes.length=none:=by
      have:m.boxes.length≠id:=zE
      simp only[if_neg this];exact cQ
     have hP:=A9 (rest:=(Builtin.zeroCells z.cells (bn-(len+lenS (e (aB x))))).toList) fe gX;have bZ:=hmk.dB _ fW (.cells ((arr.toList.take (len*i.size)).toArray++vs.toArray++Builtin.zeroCells z.cells (bn-(len+lenS (e (aB x))))) te)
     have oy:=hmk.fH _ fW (e:=te) (arr:=(arr.toList.take (len*i.size)).toArray++vs.toArray++Builtin.zeroCells z.cells (bn-(len+lenS (e (aB x))))) (by
      have:=hP.mono (Ev.drew w γ)
      simpa using this) (fun v hv=>by
       simp only[Array.toList_append,zzap]at hv;obtain(hv|hv)|hv:=hv
       ·exact q4 v (zzce (Pi hv))
       ·exact sK v (Pi hv)
       exact aiZ _ v hv)
     refine Zj (v:=.slice (some ⟨w.heap.size,0,none⟩) (len+lenS (e (aB x))) bn) (by simp[execOp,resolve,invoke,builtin,hv,zn,aX]) (hn _ _ _ _ _ hk rfl ((Ev.drew w γ).trans bZ) ?_ ?_)
     ·rw[hBB];exact oy
     refine .bs (arr:=(arr.toList.take (len*i.size)).toArray++vs.toArray++Builtin.zeroCells z.cells (bn-(len+lenS (e (aB x))))) (e:=te) (by show(if _ then _ else _)=_;rw[if_pos rfl];rfl) VV (Ye w _) ?_;rw[zzbm];exact grown (by rw[eR,zzbl];simp;omega) VV
    ·
     rename_i id gA rows gU gD cF sz2 e1 e2;rw[e1]at h1;rw[e2]at h2;obtain⟨⟨⟨rfl,rfl⟩,aH,hr,cS,alv,fW,Kf,hp2⟩,hk⟩:=h;obtain⟨l2,gX,γ2,a2,ct,b2,gH,zn,s2,Fs⟩:=VT hm h2 alv fW Kf hp2;generalize aW i.size cF (((m.boxes.getD gU []).map (bE m 6)).drop gD)=aC at*
     subst l2;obtain⟨v,w',γ',g1,g2,g3,g4⟩:=vU (ty:=ty) hm hu hi fV hz (id:=id) (.inr ⟨h1,aH⟩) s2 Fs (fun row h=>(zzap.1 h).elim (hr row) (gX row)) cS (Jo dG cS);intro rd next Q hn
     refine Zj (v:=v) (w':=w') (by simp[execOp,resolve,invoke,builtin,zn,g1]) (hn v w' γ' _ _ hk rfl g2 ?_ g4);rw[aiY m id (zza.1 aH).1];exact g3
    ·rename_i y' rt rows e1 tM QC;rw[e1]at h1;split at h
     ·split at h
      ·
       rename_i ov;obtain⟨hcy,hk⟩:=h;obtain⟨a1,cap,b1,arb,sz1,cv1,hv,s1,hcap⟩:=h1.cr;obtain⟨a2,ct,vs,zn,gX,sK,eR,hf2⟩:=Qbm (P:=P) hm h2 hcy;rw[ov]at zn;have aX:=Qdp (P:=P) (w:=w) (ty:=ty) (a:=a1) hu hi a2 ct rows.length s1.hcap;intro rd next Q hn
       refine Zj (v:=.slice a1 rows.length cap) (w':=w) (by simp[execOp,resolve,invoke,builtin,hv,zn,aX]) (hn _ _ γ _ _ hk rfl (Ev.refl _ _) hm ?_);rw[<- hv];exact h1
      obtain⟨⟨⟨hfu,hny,hsz,cS⟩,hcy⟩,hk⟩:=h;replace h1:=h1.ux hfu;obtain⟨a1,cap,b1,arb,sz1,cv1,hv,s1,hcap⟩:=h1.cr;replace s1:=s1.fix (sz:=i.size) hsz;obtain⟨a2,ct,vs,zn,gX,sK,eR,hf2⟩:=Qbm (P:=P) hm h2 hcy;obtain⟨a1',ayZ,vs1,alw,lG,arc,wk,hf1⟩:=Qbm (P:=P) (sz:=i.size) hm h1 hsz;rw[hv]at alw;simp only[lenS]at alw wk;cases alw;have cQ:m.B m.boxes.length=none:=by simp[AM.B]
      have f1:(Builtin.firstCells i.size rows.length (.slice a1 rows.length cap)).run P w.drew=.ok vs1.toArray w.drew:=by
       have:=hf1 _ (zzaa _) w.drew (fun _=>rfl);rw[hv]at this;simp only[lenS]at this;rw[<- wk,zzbs]at this;exact this
      have f2:(Builtin.firstCells i.size (lenS (e (aB x))) (.slice a2 (lenS (e (aB x))) ct)).run P w.drew=.ok vs.toArray w.drew:=by
       have:=hf2 _ (zzaa _) w.drew (fun _=>rfl);rw[zn,<- eR,zzbs]at this;exact this
      have ay0:cap=rows.length:=hcap;obtain⟨bn,VV,aX⟩:=lY (P:=P) (ty:=ty) (w:=w) hu hi fV f1 f2 zE cS (Jo dG cS);have hP:=A9 (rest:=(Builtin.zeroCells z.cells (bn-(rows.length+lenS (e (aB x))))).toList) lG gX;have hmk:=hm.drew;have bZ:=hmk.dB _ cQ (.cells (vs1.toArray++vs.toArray++Builtin.zeroCells z.cells (bn-(rows.length+lenS (e (aB x))))) te)
      have oy:=hmk.fH _ cQ (e:=te) (arr:=vs1.toArray++vs.toArray++Builtin.zeroCells z.cells (bn-(rows.length+lenS (e (aB x))))) (by
       have:=hP.mono (Ev.drew w γ)
       simpa using this) (fun v hv=>by
        simp only[Array.toList_append,zzap]at hv;obtain(hv|hv)|hv:=hv
        ·exact arc v (Pi hv)
        ·exact sK v (Pi hv)
        exact aiZ _ v hv)
      intro rd next Q hn
      refine Zj (v:=.slice (some ⟨w.heap.size,0,none⟩) (rows.length+lenS (e (aB x))) bn) (by simp[execOp,resolve,invoke,builtin,hv,zn,aX]) (hn _ _ _ _ _ hk rfl ((Ev.drew w γ).trans bZ) ?_ ?_)
      ·rw[SR];exact oy
      refine .bs (arr:=vs1.toArray++vs.toArray++Builtin.zeroCells z.cells (bn-(rows.length+lenS (e (aB x))))) (e:=te) (by show(if _ then _ else _)=_;rw[if_pos rfl];rfl) VV (Ye w _) ?_;rw[zzbm];exact grown (by rw[wk,eR,zzbl]) VV
     split at h
     case h_3=>exact h.1.elim
     case h_2=>
      rename_i gU gD cF sz2 e2;rw[e2]at h2;obtain⟨⟨⟨hfu,rfl⟩,hr,cS,alv,fW,Kf,hp2⟩,hk⟩:=h;replace h1:=h1.ux hfu;obtain⟨l2,gX,γ2,a2,ct,b2,gH,zn,s2,Fs⟩:=VT hm h2 alv fW Kf hp2;generalize aW i.size cF (((m.boxes.getD gU []).map (bE m 6)).drop gD)=aC at*
      subst l2;obtain⟨v,w',γ',g1,g2,g3,g4⟩:=vU (ty:=ty) hm hu hi fV hz (id:=m.lens.length) (.inl ⟨h1,by simp[AM.L]⟩) s2 Fs (fun row h=>(zzap.1 h).elim (hr row) (gX row)) cS (Jo dG cS);intro rd next Q hn
      refine Zj (v:=v) (w':=w') (by simp[execOp,resolve,invoke,builtin,zn,g1]) (hn v w' γ' _ _ hk rfl g2 ?_ g4);rw[C0];exact g3
     rename_i U5 aC e2;rw[e2]at h2;obtain⟨⟨hfu,hr,cS⟩,hk⟩:=h;replace h1:=h1.ux hfu;obtain⟨v,w',γ',g1,g2,g3,g4⟩:=NQ (ty:=ty) hm hu hi fV hz (id:=m.lens.length) (.inl ⟨h1,by simp[AM.L]⟩) h2 hr cS (Jo dG cS);intro rd next Q hn
     refine Zj (v:=v) (w':=w') (by simp[execOp,resolve,invoke,builtin,g1]) (hn v w' γ' _ _ hk rfl g2 ?_ g4);rw[C0];exact g3
    exact h.1.elim
  case copy=>
   simp only[Zp]at h;split at h
   case h_2=>exact h.1.elim
   rename_i x y t ts' ha ht;split at h
   case h_2=>exact h.1.elim
   rename_i te hu;split at h
   case h_2=>exact h.1.elim
   rename_i i hi;obtain rfl:args=#[x,y]:=by cases args;simp_all
   have ht0:ts[0]?=some t:=by cases ts;simp_all
   exact P9 hm ht0 hu hi (he x (by simp[Call.operands])) (he y (by simp[Call.operands])) h
  case clear=>
   simp only[Zp]at h;split at h
   case h_2=>exact h.1.elim
   rename_i x t ha ht;split at h
   case h_2=>exact h.1.elim
   rename_i te hu;split at h
   case h_2=>exact h.1.elim
   rename_i zs hz;obtain rfl:args=#[x]:=by cases args;simp_all
   obtain rfl:ts=#[t]:=by cases ts;simp_all
   exact QA hm hu hz (he x (by simp[Call.operands])) h
  case len=>
   refine EA ?_;simp only[Zp];repeat' split
   all_goals rfl
  case max=>
   refine EA ?_;simp only[Zp];repeat' split
   all_goals rfl
  case min=>
   refine EA ?_;simp only[Zp];repeat' split
   all_goals rfl
def G.gJ(γ:G)(id b:Nat):G:={γ with mm:=fun i=>if i=id then some b else γ.mm i}
def QD:Obj->Bool
 |.map _ _=>true
 |.mapIter _ _ _ _=>true
 |_=>false
def cZ.QD{x:AV}{o:Obj}(h:cZ w γ x o):QD o=true:=by
 unfold cZ at h;split at h<;>first|rfl|exact h.elim
def NS{w:World}{b o':Nat}{o:Obj}(h:w.heap[b]?=some o)(hm:QD o=true):w.cell? ⟨b,o',none⟩=none:=by
 cases o<;>simp[QD]at hm<;>simp[World.cell?,h]
def aq.Ks{B:Nat->QQ}{L:Nat->Option Nat}(hm:aq N w0 an γ w B L)(id:Nat)(aM:B id=none){x:AV}{o:Obj}(hx:cZ w γ x o):
  Ev w γ (w.alloc o) (γ.gJ id w.heap.size)/\aq N w0 an (γ.gJ id w.heap.size) (w.alloc o) (fun i=>if i=id then some [x]else B i) L:=by
 have aJ:∀i b,γ.mm i=some b->i≠id:=fun i b h=>by
  rintro rfl;obtain⟨_,_,_,_,_,_,_,_,_,hx,_⟩:=hm.mm i b h;rw[aM]at hx;cases hx
 have VW:∀i b,γ.β i=some b->i≠id:=fun i b h=>by
  rintro rfl;obtain⟨_,_,_,_,c,hc⟩:=hm.β i b h;rw[aM]at hc;cases hc
 have hβ0:γ.β id=none:=by
  cases h:γ.β id with
  |none=>rfl
  |some b=>exact absurd rfl (VW id b h)
 have bZ:Ev w γ (w.alloc o) (γ.gJ id w.heap.size):=⟨zd,fun b o' hb hr=>⟨hr,cell_of_heap (Below.heap_alloc w _ b hb)⟩,fun _ _ h=>h,fun _=>zzaa _,fun i b h=>by simp[G.gJ,aJ i b h,h],rfl,
   fun i b _ ho=>⟨ho,fun arr e he=>⟨arr,by rw[Below.heap_alloc w _ b (hm.own i b ho).2.1];exact he,zzaa _⟩,fun _ h=>h⟩,
   fun b hb=>⟨hb,Below.heap_alloc w _ b (hm.sp b hb).2.1⟩,Sz.of_same (Below.heap_alloc w _)⟩
 have alx:∀i i' b,γ.β i=some b->γ.β i'=some b->(if i=id then some [x]else B i)=some []\/(if i'=id then some [x]else B i')=some []\/i=i':=fun i i' b h h'=>by
  rw[if_neg (VW i b h),if_neg (VW i' b h')];exact hm.inj i i' b h h'
 refine⟨bZ,⟨w0.st _ _ _ _ hm.bs ⟨rfl,rfl,rfl,zd,fun b hb _=>Below.heap_alloc w _ b hb,bZ.ro,fun b hb=>?_,fun _ _ h=>.inl h⟩,by have:=hm.hN;simp;omega,hm.an,fun b o h=>by have:=hm.robd b o h;simp;omega,
  fun i cells b hb h1=>?_,fun i b hb=>?_,alx,fun i b hb=>?_,hm.oinj,fun b hb=>?_,fun i b hb=>?_,fun i i' b h h'=>?_,hm.len,hm.cur0⟩⟩
 ·obtain hb|hb|hb|⟨i,hb⟩:=hb
  ·exact .inl (.inl hb)
  ·exact .inl (.inr (.inl hb))
  ·exact .inl (.inr (.inr (.inl hb)))
  by_cases h:i=id
  ·simp[G.gJ,h]at hb;exact .inr zE
  simp[G.gJ,h]at hb;exact .inl (.inr (.inr (.inr ⟨i,hb⟩)))
 ·have qP:γ.β i=some b:=h1;simp only[if_neg (VW i b qP)]at hb;obtain⟨arr,e,h2,h3,h4⟩:=hm.box i cells b hb qP;exact⟨arr,e,by rw[Below.heap_alloc w _ b (aS h2)];exact h2,h3.mono bZ,h4⟩
 ·have cA:γ.β i=some b:=hb;obtain⟨h1,h2,h3,h4,c,h5⟩:=hm.β i b cA;exact⟨h1,by simp;omega,h3,h4,c,by simp only[if_neg (VW i b cA)];exact h5⟩
 ·obtain⟨h1,h2,h3⟩:=hm.own i b hb;exact⟨h1,by simp;omega,h3⟩
 ·obtain⟨h1,h2,h3⟩:=hm.sp b hb;exact⟨h1,by simp;omega,h3⟩
 ·by_cases h:i=id
  ·subst h;simp[G.gJ]at hb;subst hb;refine⟨hm.hN,zd,fun o' h=>?_,fun i h=>?_,fun i h=>?_,fun h=>?_,hβ0,x,o,zd,by show(w.heap.push _)[w.heap.size]?=_;simp,hx.mono bZ.cL.AR⟩
   ·have:=hm.robd _ _ h;omega
   ·have:=(hm.β i _ h).2.1;omega
   ·have:=(hm.own i _ h).2.1;omega
   have:=(hm.sp _ h).2.1;omega
  simp[G.gJ,h]at hb;obtain⟨h1,h2,h3,h4,h5,h6,h8,h7⟩:=hm.mm i b hb;refine⟨h1,by simp;omega,h3,h4,h5,h6,h8,?_⟩;simp only[if_neg h];exact h7.mono bZ.cL.AR (Below.heap_alloc w _ b h2)
 by_cases hi:i=id<;>by_cases dn:i'=id
 ·rw[hi,dn]
 ·simp[G.gJ,hi]at h;simp[G.gJ,dn]at h';have:=(hm.mm i' b h').2.1;omega
 ·simp[G.gJ,hi]at h;simp[G.gJ,dn]at h';have:=(hm.mm i b h).2.1;omega
 simp[G.gJ,hi]at h;simp[G.gJ,dn]at h';exact hm.minj i i' b h h'
def Ft(hm:aq N w0 an γ w m.B m.L){t:TypeId}{r:Option Operand}(h:((sop P gl orc e m dst (tr P ⟨dst,.makeMap t r,ty,pos,after,guard⟩)).1/\K (sop P gl orc e m dst (tr P ⟨dst,.makeMap t r,ty,pos,after,guard⟩)).2.1 (sop P gl orc e m dst (tr P ⟨dst,.makeMap t r,ty,pos,after,guard⟩)).2.2)):Kh N w0 an P ⟨dst,.makeMap t r,ty,pos,after,guard⟩ a γ w (m.st,m.ln) K:=by
 cases r with
 |some r=>exact h.1.elim
 |none=>
  simp only[tr]at h;split at h
  case h_2=>exact h.1.elim
  rename_i kn z ht;intro rd next Q hn
  have aM:m.B m.boxes.length=none:=by simp[AM.B]
  obtain⟨g1,g2⟩:=hm.Ks _ aM (x:=.aL kn []) (o:=.map #[] 0) ⟨rfl,rfl,fun i k a e q1=>by simp at q1⟩;refine Zj (v:=.map (some w.heap.size)) (w':=w.alloc (.map #[] 0)) (by simp[execOp,Instr.makeMap]) (hn _ _ (γ.gJ m.boxes.length w.heap.size) _ _ h.2 rfl g1 ?_ (.mp (by simp[G.gJ])));simp only[sop];rw[SR];exact g2
def aq.qU{B:Nat->QQ}{L:Nat->Option Nat}(hm:aq N w0 an γ w B L){id b:Nat}(hb:γ.mm id=some b){x:AV}{o:Obj}(hx:cZ w γ x o):
  Ev w γ (w.putObj b o) γ/\aq N w0 an γ (w.putObj b o) (fun i=>if i=id then some [x]else B i) L:=by
 obtain⟨n1,n2,n3,n4,n5,n6,n8,hmo⟩:=hm.mm id b hb;have hnc:=fun{arr:PP}{e:TypeId}{f:Nat×Nat}=>vN.UX hmo (arr:=arr) (e:=e) (f:=f);obtain⟨x0,o0,n7,h0,Kx⟩:=hmo;have dh:∀b',b'≠b->(w.putObj b o).heap[b']?=w.heap[b']?:=fun b' cA=>World.putObj_heap_other cA;have Fu:(w.putObj b o).heap[b]?=some o:=by simp[World.putObj,n2]
 have bO:∀b' o',(w.putObj b o).cell? ⟨b',o',none⟩=w.cell? ⟨b',o',none⟩:=fun b' o'=>by
  by_cases VX:b'=b
  ·subst VX;rw[NS Fu hx.QD,NS h0 Kx.QD]
  exact cell_of_heap (dh b' VX)
 have bZ:Ev w γ (w.putObj b o) γ:=by
  refine⟨zd,fun b' o' _ hr=>⟨hr,bO b' o'⟩,fun _ _ h=>h,fun _=>zzaa _,fun _ _ h=>h,rfl,fun i b' _ ho=>⟨ho,fun arr e he=>⟨arr,?_,zzaa _⟩,fun _ h=>h⟩,fun b' h=>⟨h,dh b' (by rintro rfl;exact n6 h)⟩,fun b' arr e f h=>⟨arr,by rw[dh b' (by rintro rfl;exact hnc h)];exact h,rfl⟩⟩;rw[dh b' (by rintro rfl;exact n5 i ho)];exact he
 have alx:∀i i' b',γ.β i=some b'->γ.β i'=some b'->(if i=id then some [x]else B i)=some []\/(if i'=id then some [x]else B i')=some []\/i=i':=fun i i' b' h h'=>by
  rw[if_neg (by rintro rfl;rw[n8]at h;cases h),if_neg (by rintro rfl;rw[n8]at h';cases h')];exact hm.inj i i' b' h h'
 refine⟨bZ,⟨w0.st _ _ _ _ hm.bs ⟨rfl,rfl,rfl,zd,fun b' _ tM=>dh b' (by rintro rfl;exact tM (.inr (.inr (.inr ⟨id,hb⟩)))),bZ.ro,fun b' cA=>.inl cA,fun b' o' h=>.inl h⟩,Pi hm.hN,
  hm.an,fun b' o' h=>by simpa using hm.robd b' o' h,fun i cells b' dK h1=>?_,fun i b' cA=>?_,alx,fun i b' cA=>?_,hm.oinj,fun b' cA=>?_,fun i b' cA=>?_,hm.minj,hm.len,hm.cur0⟩⟩
 ·have hi:i≠id:=by rintro rfl;rw[n8]at h1;cases h1
  simp only[if_neg hi]at dK;obtain⟨arr,e,h2,h3,h4⟩:=hm.box i cells b' dK h1;exact⟨arr,e,by rw[dh b' (by rintro rfl;exact n4 i h1)];exact h2,h3.mono bZ,h4⟩
 ·have hi:i≠id:=by rintro rfl;rw[n8]at cA;cases cA
  obtain⟨h1,h2,h3,h4,c',h5⟩:=hm.β i b' cA;exact⟨h1,Pi h2,h3,h4,c',by simp only[if_neg hi];exact h5⟩
 ·obtain⟨h1,h2,h3⟩:=hm.own i b' cA;exact⟨h1,Pi h2,h3⟩
 ·obtain⟨h1,h2,h3⟩:=hm.sp b' cA;exact⟨h1,Pi h2,h3⟩
 by_cases hi:i=id
 ·subst hi;obtain rfl:b'=b:=Option.some.inj (cA.symm.trans hb);exact⟨n1,Pi n2,n3,n4,n5,n6,n8,x,o,zd,Fu,hx.mono bZ.cL.AR⟩
 obtain⟨h1,h2,h3,h4,h5,h6,h8,h7⟩:=hm.mm i b' cA;refine⟨h1,Pi h2,h3,h4,h5,h6,h8,?_⟩;simp only[if_neg hi];exact h7.mono bZ.cL.AR (dh b' (by rintro rfl;exact hi (hm.minj _ _ _ cA hb)))
def nj{id:Nat}{x:AV}(h:m.boxes.getD id []=[x]):id<m.boxes.length/\m.B id=some [x]:=by
 have aM:id<m.boxes.length:=by
  rcases zzab id m.boxes.length with h'|h'
  ·exact h'
  simp[List.getD,zzau h']at h
 refine⟨aM,?_⟩;simp[AM.B,aM];simpa[List.getD,aM]using h
def Bb{kn:Nat}{kvs:List (P2×AV)}{es:Array MapEntry}{n:P2}{c:AV}{v:Value}(hn:Wq kn n)(hl:kvs.length=es.size)
  (hk:∀(i:Nat)(k:P2)(a:AV)(e:MapEntry),kvs[i]?=some (k,a)->es[i]?=some e->Wq kn k/\e.key=Ym kn k/\e.born=i/\au w γ a e.val)(hc:au w γ c v):
  cZ w γ (.aL kn (kvs++[(n,c)])) (.map (es.push ⟨Ym kn n,v,es.size⟩) (es.size+1)):=by
 refine⟨zd,by simp[hl],fun j k' c' x' s1 s2=>?_⟩;rcases zzab j kvs.length with hj|hj
 ·rw[zzak hj]at s1;rw[Array.getElem?_push_lt zE]at s2;exact hk j k' c' x' s1 (by rw[zzag zE];exact s2)
 have NP:j=kvs.length:=by
  have:=(zza.1 s1).1;simp at this;omega
 subst NP;simp at s1;obtain⟨rfl,rfl⟩:=s1;rw[hl]at s2;simp at s2;subst s2;exact⟨hn,rfl,hl.symm,hc⟩
def wm{kn:Nat}{kvs:List (P2×AV)}{es:Array MapEntry}{n:P2}{j:Nat}{c:AV}{f:MapEntry->MapEntry}(hn:Wq kn n)(hl:kvs.length=es.size)
  (hk:∀(i:Nat)(k:P2)(a:AV)(e:MapEntry),kvs[i]?=some (k,a)->es[i]?=some e->Wq kn k/\e.key=Ym kn k/\e.born=i/\au w γ a e.val)(hj:j<kvs.length)
  (hf:∀e,es[j]?=some e->(f e).key=Ym kn n/\(f e).born=e.born/\au w γ c (f e).val):
  cZ w γ (.aL kn (kvs.set j (n,c))) (.map (es.modify j f) es.size):=by
 refine⟨zd,by simp[hl],fun j' k' c' x' t1 t2=>?_⟩;rw[zzdp]at t2;by_cases hjj:j=j'
 ·subst hjj;have jc:j<es.size:=zE
  simp[jc]at t2;rw[zzbg zE]at t1;cases t1;subst t2;obtain⟨p1,p2,p3⟩:=hf es[j] (by simp[jc]);have:=hk j (kvs[j]'hj).1 (kvs[j]'hj).2 es[j] (by simp[hj]) (by simp[jc]);exact⟨hn,p1,by rw[p2];exact this.2.2.1,p3⟩
 rw[zzbq hjj]at t1;rw[if_neg hjj]at t2;exact hk j' k' c' x' t1 t2
def C1(b:Nat)(o:Obj){es:Array MapEntry}{c:Nat}(q2:w.heap[b]?=some (.map es c)):(setObj b o).run P w=.ok () (w.putObj b o):=by simp[setObj,Sem.run,q2,World.putObj]
def KA(hm:aq N w0 an γ w m.B m.L){t:TypeId}{x k y:Operand}(h1:au w γ (e (aB x)) (a.eval x))(h2:au w γ (e (aB k)) (a.eval k))(h3:au w γ (e (aB y)) (a.eval y))
  (h:((sop P gl orc e m dst (tr P ⟨dst,.mapUpdate t x k y,ty,pos,after,guard⟩)).1/\K (sop P gl orc e m dst (tr P ⟨dst,.mapUpdate t x k y,ty,pos,after,guard⟩)).2.1 (sop P gl orc e m dst (tr P ⟨dst,.mapUpdate t x k y,ty,pos,after,guard⟩)).2.2)):Kh N w0 an P ⟨dst,.mapUpdate t x k y,ty,pos,after,guard⟩ a γ w (m.st,m.ln) K:=by
 simp only[tr]at h;split at h
 case h_2=>exact h.1.elim
 rename_i kn z ht;simp only[sop]at h;split at h
 case h_2=>exact h.1.elim
 rename_i id n e1 e2;rw[e1]at h1;obtain⟨e3,eO⟩:=CY e2;rw[e3]at h2;split at h
 case h_2=>exact h.1.elim
 rename_i AX kvs fI;obtain⟨⟨Ez,hba⟩,hK⟩:=h;subst Ez;obtain⟨kt,vt,i,zv,hu,hk,hi,hz,rfl⟩:=kL ht;obtain⟨aM,C2⟩:=nj fI;obtain⟨b,es,hb,hv,q2,q3,q4⟩:=hm.ja h1 C2
 obtain⟨f1,f2⟩:=CZ (w:=w) (γ:=γ) (P:=P) hk eO (kvs:=kvs) (es:=es.toList) (Pi q3) fun j k' c x' g1 g2=>by
  obtain⟨p1,p2,_,p3⟩:=q4 j k' c x' g1 (Pi g2);exact⟨p1,p2,p3⟩
 have cB:=MapKept.run_getObj_map (P:=P) q2;have bW:=fun o=>C1 (P:=P) b o q2;have kM:(Instr.checkKey false 10000 kt (Ym AX n)).run P w=.ok () w:=run_checkKey hk eO;have SQ:=qQ eO h2;intro rd next Q hn
 cases hf:Xi n kvs 0 with
 |none=>
  rw[hf]at hK;have P4:=f1 hf
  have aX:(execOp a.eval ⟨dst,.mapUpdate t x k y,ty,pos,after,guard⟩).run P w=.ok .skip (w.putObj b (.map (es.push ⟨Ym AX n,a.eval y,es.size⟩) (es.size+1))):=by
   simp[execOp,Instr.mapUpdate,run_underlying hu,hv,SQ,cB,kM,P4,bW]
  obtain⟨g1,g2⟩:=hm.qU hb (Bb eO q3 q4 h3);refine oM aX (hn undef _ γ _ _ hK rfl g1 ?_ (.junk _));rw[lX m id aM];exact g2
 |some p=>
  obtain⟨j,c⟩:=p;rw[hf]at hK;obtain⟨vv,P4,s2,s3,s4⟩:=f2 j c hf;have uy:j<es.size:=zE
  have oV:=(q4 j n c es[j] s4 (zzag uy)).2.1;have IK:=oT (P:=P) (w:=w) (new:=Ym AX n) eO oV rfl
  have aX:(execOp a.eval ⟨dst,.mapUpdate t x k y,ty,pos,after,guard⟩).run P w=.ok .skip (w.putObj b (.map (es.modify j fun q=>{q with key:=Ym AX n,val:=a.eval y}) es.size)):=by
   simp[execOp,Instr.mapUpdate,run_underlying hu,hv,SQ,cB,kM,P4,uy,IK,bW]
  obtain⟨g1,g2⟩:=hm.qU hb (wm (j:=j) (c:=e (aB y)) (f:=fun q=>{q with key:=Ym AX n,val:=a.eval y}) eO q3 q4 s3 fun e he=>⟨rfl,rfl,h3⟩);refine oM aX (hn undef _ γ _ _ hK rfl g1 ?_ (.junk _));rw[lX m id aM];exact g2
def KB(hm:aq N w0 an γ w m.B m.L){t:TypeId}{x k:Operand}(h1:au w γ (e (aB x)) (a.eval x))(h2:au w γ (e (aB k)) (a.eval k))
  (h:((sop P gl orc e m dst (tr P ⟨dst,.mapEntry t x k,ty,pos,after,guard⟩)).1/\K (sop P gl orc e m dst (tr P ⟨dst,.mapEntry t x k,ty,pos,after,guard⟩)).2.1 (sop P gl orc e m dst (tr P ⟨dst,.mapEntry t x k,ty,pos,after,guard⟩)).2.2)):Kh N w0 an P ⟨dst,.mapEntry t x k,ty,pos,after,guard⟩ a γ w (m.st,m.ln) K:=by
 simp only[tr]at h;split at h
 case h_2=>exact h.1.elim
 rename_i kn z ht;simp only[sop]at h;split at h
 case h_2=>exact h.1.elim
 rename_i id n e1 e2;rw[e1]at h1;obtain⟨e3,eO⟩:=CY e2;rw[e3]at h2;split at h
 case h_2=>exact h.1.elim
 rename_i AX kvs fI;obtain⟨Ez,hK⟩:=h;simp only at Ez;subst Ez;obtain⟨kt,vt,i,zv,hu,hk,hi,hz,rfl⟩:=kL ht;obtain⟨aM,C2⟩:=nj fI;obtain⟨b,es,hb,hv,q2,q3,q4⟩:=hm.ja h1 C2
 obtain⟨f1,f2⟩:=CZ (w:=w) (γ:=γ) (P:=P) hk eO (kvs:=kvs) (es:=es.toList) (Pi q3) fun j k' c x' g1 g2=>by
  obtain⟨p1,p2,_,p3⟩:=q4 j k' c x' g1 (Pi g2);exact⟨p1,p2,p3⟩
 have cB:=MapKept.run_getObj_map (P:=P) q2;have bW:=fun o=>C1 (P:=P) b o q2;have kM:(Instr.checkKey false 10000 kt (Ym AX n)).run P w=.ok () w:=run_checkKey hk eO;have SQ:=qQ eO h2;intro rd next Q hn
 cases hf:Xi n kvs 0 with
 |none=>
  rw[hf]at hK;have P4:=f1 hf
  have aX:(execOp a.eval ⟨dst,.mapEntry t x k,ty,pos,after,guard⟩).run P w=.ok (.value (.tuple #[zv,.int .i64 es.size])) (w.putObj b (.map (es.push ⟨Ym AX n,zv,es.size⟩) (es.size+1))):=by
   simp[execOp,Instr.mapEntry,run_underlying hu,hv,SQ,cB,kM,P4,bW,zeroValue,typeInfo,hi,hz,goInt]
  obtain⟨g1,g2⟩:=hm.qU hb (Bb eO q3 q4 (Js w γ zv));refine Zj aX (hn _ _ γ _ _ hK rfl g1 ?_ ?_)
  ·rw[lX m id aM];exact g2
  rw[q3];exact(ak.cons (Js _ γ zv) (ak.cons (.int .i64 _) ak.nil)).zK
 |some p=>
  obtain⟨j,c⟩:=p;rw[hf]at hK;obtain⟨vv,P4,s2,s3,s4⟩:=f2 j c hf;have uy:j<es.size:=zE
  have oV:=q4 j n c es[j] s4 (zzag uy);have IK:=oT (P:=P) (w:=w) (new:=Ym AX n) eO oV.2.1 rfl
  have aX:(execOp a.eval ⟨dst,.mapEntry t x k,ty,pos,after,guard⟩).run P w=.ok (.value (.tuple #[vv,.int .i64 j])) (w.putObj b (.map (es.modify j fun q=>{q with key:=Ym AX n}) es.size)):=by
   simp[execOp,Instr.mapEntry,run_underlying hu,hv,SQ,cB,kM,P4,uy,IK,bW,goInt,oV.2.2.1]
  have VY:kvs.set j (n,c)=kvs:=by
   apply zzcz;intro i;by_cases fL:j=i
   ·subst fL;rw[zzbg s3,s4]
   rw[zzbq fL]
  obtain⟨g1,g2⟩:=hm.qU hb (wm (j:=j) (c:=c) (f:=fun q=>{q with key:=Ym AX n}) eO q3 q4 s3 fun e he=>⟨rfl,rfl,(q4 j n c e s4 he).2.2.2⟩);rw[VY]at g2;refine Zj aX (hn _ _ γ _ _ hK rfl g1 ?_ ?_)
  ·rw[lX m id aM];exact g2
  exact((ak.cons s2 (ak.cons (.int .i64 _) ak.nil)).mono g1).zK
def KC(hm:aq N w0 an γ w m.B m.L){t:TypeId}{x k y:Operand}(h1:au w γ (e (aB x)) (a.eval x))(h2:au w γ (e (aB k)) (a.eval k))(h3:au w γ (e (aB y)) (a.eval y))
  (h:((sop P gl orc e m dst (tr P ⟨dst,.entryStore t x k y,ty,pos,after,guard⟩)).1/\K (sop P gl orc e m dst (tr P ⟨dst,.entryStore t x k y,ty,pos,after,guard⟩)).2.1 (sop P gl orc e m dst (tr P ⟨dst,.entryStore t x k y,ty,pos,after,guard⟩)).2.2)):Kh N w0 an P ⟨dst,.entryStore t x k y,ty,pos,after,guard⟩ a γ w (m.st,m.ln) K:=by
 simp only[tr,sop]at h;split at h
 case h_2=>exact h.1.elim
 rename_i id kk i e1 e2;rw[e1]at h1;rw[e2]at h2;split at h
 case h_2=>exact h.1.elim
 rename_i kn kvs fI;obtain⟨⟨⟨hi0,iI⟩,hba⟩,hK⟩:=h;obtain⟨aM,C2⟩:=nj fI;obtain⟨b,es,hb,hv,q2,q3,q4⟩:=hm.ja h1 C2;have cB:=MapKept.run_getObj_map (P:=P) q2;have bW:=fun o=>C1 (P:=P) b o q2;obtain⟨j,rfl⟩:∃j:Nat,i=j:=⟨i.toNat,zE⟩;have uy:j<es.size:=zE
 have zo:j<kvs.length:=zE
 have hfi:es.findIdx? (fun e=>(e.born:Int)==(j:Int))=some j:=by
  rw[Array.findIdx?_eq_some_iff_getElem];refine⟨uy,by simp[Qec q3 q4 uy],fun l hl=>?_⟩;have:=Qec q3 q4 (i:=l) zE;simp[this];omega
 have aX:(execOp a.eval ⟨dst,.entryStore t x k y,ty,pos,after,guard⟩).run P w=.ok .skip (w.putObj b (.map (es.modify j fun q=>{q with val:=a.eval y}) es.size)):=by
  simp[execOp,Instr.entryStore,hv,cB,h2.aI,asInt,asIntOf,hfi,bW]
 have oV:=q4 j (kvs[j]'zo).1 (kvs[j]'zo).2 es[j] (by simp[zo]) (by simp[uy])
 obtain⟨g1,g2⟩:=hm.qU hb (wm (j:=j) (n:=(kvs[j]'zo).1) (c:=e (aB y)) (f:=fun q=>{q with val:=a.eval y}) oV.1 q3 q4 zo fun e he=>⟨by
  have:=q4 j (kvs[j]'zo).1 (kvs[j]'zo).2 e (by simp[zo]) he;exact this.2.1,rfl,h3⟩)
 intro rd next Q hn
 have VH:(kvs.getD (Int.toNat (j:Int)) ([],.junk)).1=(kvs[j]'zo).1:=by simp[List.getD,zo]
 rw[VH]at hK;refine oM aX (hn undef _ γ _ _ hK rfl g1 ?_ (.junk _));rw[lX m id aM];exact g2
def QE(hm:aq N w0 an γ w m.B m.L){t:TypeId}{x:Operand}(h1:au w γ (e (aB x)) (a.eval x))
  (h:((sop P gl orc e m dst (tr P ⟨dst,.range t x,ty,pos,after,guard⟩)).1/\K (sop P gl orc e m dst (tr P ⟨dst,.range t x,ty,pos,after,guard⟩)).2.1 (sop P gl orc e m dst (tr P ⟨dst,.range t x,ty,pos,after,guard⟩)).2.2)):Kh N w0 an P ⟨dst,.range t x,ty,pos,after,guard⟩ a γ w (m.st,m.ln) K:=by
 simp only[tr]at h;split at h
 case h_2=>exact h.1.elim
 rename_i p ht;obtain⟨kn,z⟩:=p;simp only[sop]at h;split at h
 case h_2=>exact h.1.elim
 rename_i id e1;rw[e1]at h1;split at h
 case h_2=>exact h.1.elim
 rename_i AX kvs fI;obtain⟨kt,vt,i,zv,hu,hk,hi,hz,rfl⟩:=kL ht;obtain⟨aM,C2⟩:=nj fI;obtain⟨b,es,hb,hv,q2,q3,q4⟩:=hm.ja h1 C2;have cQ:m.B m.boxes.length=none:=by simp[AM.B]
 obtain⟨g1,g2⟩:=hm.Ks _ cQ (x:=.mitr id kvs.length []) (o:=.mapIter (some b) es.size #[] es.size) ⟨hb,q3.symm,q3.symm,rfl⟩
 have aX:(execOp a.eval ⟨dst,.range t x,ty,pos,after,guard⟩).run P w=.ok (.value (.pointer (some ⟨w.heap.size,0,none⟩))) (w.alloc (.mapIter (some b) es.size #[] es.size)):=by
  simp[execOp,hv,run_range_map w t kt vt b es es.size hu q2]
 intro rd next Q hn
 refine Zj aX (hn _ _ (γ.gJ m.boxes.length w.heap.size) _ _ h.2 rfl g1 ?_ (.it (by simp[G.gJ])));rw[SR];exact g2
def KD(hm:aq N w0 an γ w m.B m.L){t:TypeId}{l c:Operand}(h0:au w γ (e (aB l)) (a.eval l))(h1:au w γ (e (aB c)) (a.eval c))
  (h:((sop P gl orc e m dst (tr P ⟨dst,.makeSlice t l c,ty,pos,after,guard⟩)).1/\K (sop P gl orc e m dst (tr P ⟨dst,.makeSlice t l c,ty,pos,after,guard⟩)).2.1 (sop P gl orc e m dst (tr P ⟨dst,.makeSlice t l c,ty,pos,after,guard⟩)).2.2)):Kh N w0 an P ⟨dst,.makeSlice t l c,ty,pos,after,guard⟩ a γ w (m.st,m.ln) K:=by
 simp only[tr]at h;split at h
 case h_2=>exact h.1.elim
 rename_i te hu;split at h
 case h_3=>exact h.1.elim
 case h_2=>
  rename_i i hi oW;split at h
  case h_2=>exact h.1.elim
  rename_i zs CV;obtain⟨i',z,dn,hz,J5⟩:=iY (w:=w) (γ:=γ) CV;rw[hi]at dn;cases dn;simp only[sop]at h;split at h
  case h_2=>exact h.1.elim
  rename_i k1 n1 k2 n2 e1 e2;rw[e1]at h0;rw[e2]at h1;obtain⟨⟨⟨g0,g1,g2,g3⟩,g4,g5⟩,g6⟩:=h;have aX:=run_make (P:=P) w t te i z hu hi hz k1 k2 n1 n2 g0 zE g2 g3;have aM:m.B m.boxes.length=none:=by simp[AM.B]
  have gI:=Yl J5 g5;have Ba:z.cells.size=zs.length:=by have:=J5.1;simp at this;omega
  intro rd next Q hn
  refine Zj (v:=.slice (some ⟨w.heap.size,0,none⟩) n1.toNat n2.toNat) (w':=w.alloc (.cells (madeCells z.cells (n2.toNat*i.size)) te)) (by simp[execOp,h0.aI,h1.aI,aX])
   (hn _ _ (γ.box m.boxes.length w.heap.size) _ _ g6 rfl (hm.dB _ aM _) ?_ ?_)
  ·rw[SR]
   have zJ:∀v∈(madeCells z.cells (n2.toNat*i.size)).toList,v.oneCell'=true:=fun v hv=>by
    simp[madeCells]at hv;obtain⟨k,hk,rfl⟩:=hv
    have h0:0<z.cells.size:=by
     rcases zzcc z.cells.size with h0|h0
     ·rw[h0]at Ba;rw[<- g4,<- Ba]at hk;simp at hk
     exact h0
    have aa:k%z.cells.size<z.cells.size:=zzds _ h0;rw[getElem!_pos z.cells _ aa];exact gI _ zd
   refine hm.fH _ aM ⟨by simp[Ke,size_madeCells,g4],fun k c v j1 j2=>?_⟩ zJ;obtain⟨q1,q2⟩:=kN j1
   have h0:0<zs.length:=by
    rcases zzcc zs.length with h0|h0
    ·simp[h0]at q1
    exact h0
   have aa:k%zs.length<z.cells.size:=by rw[Ba];exact zzds _ h0
   have A7:v=z.cells[k%zs.length]:=by
    simp only[madeCells,zzbw,zzge]at j2;rw[zzag (by simp;rw[<- g4];exact q1)]at j2;simp[Ba]at j2;rw[<- j2,getElem!_pos z.cells _ aa]
   subst A7;exact J5.2 _ c _ q2 (by simp[aa])
  exact .bs (arr:=madeCells z.cells (n2.toNat*i.size)) (e:=te) (by simp[G.box]) zE (by show(w.heap.push _)[w.heap.size]?=_;simp) (by rw[zzbm,size_madeCells];exact zzaa _)
 rename_i i hi;split at h
 case isFalse=>exact h.1.elim
 rename_i fV;simp only[zzai,beq_iff_eq,bne_iff_ne]at fV;obtain⟨fV,hi0⟩:=fV
 obtain⟨z,hz,CV,hzo⟩:∃z,i.zero=some z/\z.cells.size=i.size/\∀v∈z.cells,v.oneCell'=true:=by
  cases hz:i.zero with
  |none=>simp[hz]at fV
  |some z=>
   simp[hz]at fV
   exact⟨z,rfl,fV.1,fun v hv=>by
    obtain⟨k,hk,rfl⟩:=zzhf.1 hv;exact fV.2 k hk⟩
 have VZ:∀(n:Nat),z.cells.size≠0->∀v∈(madeCells z.cells n).toList,v.oneCell'=true:=fun n h0 v hv=>by
  simp[madeCells]at hv;obtain⟨k,hk,rfl⟩:=hv;have aa:k%z.cells.size<z.cells.size:=zzds _ zE;rw[getElem!_pos z.cells _ aa];exact hzo _ zd
 simp only[sop]at h;split at h
 case h_2=>exact h.1.elim
 rename_i kk n e1;rw[e1]at h1;have J7:a.eval (.const (.int .i64 0))=.int .i64 0:=rfl;split at h
 ·split at h
  ·rename_i hc0;obtain⟨⟨g1,g2,g3⟩,g4⟩:=h;have aX:=run_make (P:=P) w t te i z hu hi hz .i64 kk 0 n (zzby _) g1 g2 g3;intro rd next Q hn
   have aM:m.B m.boxes.length=none:=by simp[AM.B]
   refine Zj (v:=.slice (some ⟨w.heap.size,0,none⟩) 0 n.toNat) (w':=w.alloc (.cells (madeCells z.cells (n.toNat*i.size)) te)) (by simp[execOp,J7,h1.aI,aX])
    (hn _ _ (γ.box m.boxes.length w.heap.size) _ _ g4 rfl (hm.dB _ aM _) ?_ ?_)
   ·rw[SR];exact hm.fH _ aM ⟨zd,fun k c v j1 j2=>by simp at j1⟩ (by rw[hc0];simp[madeCells])
   exact .sl (rows:=[]) w.heap.size 0 i.size (fun _ _=>undef) (zzbi _) (fun h=>(by cases h)) (fun h=>absurd rfl h) (fun _ h=>by cases h) (fun i j c h=>by simp[Qs]at h) (fun i j c h=>by simp[Qs]at h) (by simpa[tL]using hc0)
  obtain⟨⟨g1,g2,g3⟩,g4⟩:=h;have aX:=run_make (P:=P) w t te i z hu hi hz .i64 kk 0 n (zzby _) g1 g2 g3;have aM:m.B m.boxes.length=none:=by simp[AM.B]
  intro rd next Q hn
  refine Zj (v:=.slice (some ⟨w.heap.size,0,none⟩) 0 n.toNat) (w':=w.alloc (.cells (madeCells z.cells (n.toNat*i.size)) te)) (by simp[execOp,J7,h1.aI,aX])
   (hn _ _ (γ.box m.boxes.length w.heap.size) _ _ g4 rfl (hm.dB _ aM _) ?_ ?_)
  ·rw[SR];refine hm.fH _ aM ⟨by simp[size_madeCells],fun k c v j1 j2=>?_⟩ (VZ _ zE);simp[zzck]at j1;rw[<- j1.2];exact .junk _
  exact .bs (arr:=madeCells z.cells (n.toNat*i.size)) (e:=te) (by simp[G.box]) zE (by show(w.heap.push _)[w.heap.size]?=_;simp) (by rw[zzbm,size_madeCells];exact zzaa _)
 obtain⟨⟨g1,g2,g3⟩,g4⟩:=h;have aX:=run_make (P:=P) w t te i z hu hi hz .i64 kk 0 n (zzby _) g1 g2 g3;have hL:m.L m.lens.length=none:=by simp[AM.L]
 have dw:γ.cur m.lens.length=0:=hm.cur0 _ hL
 have cq:γ.own m.lens.length=none:=by
  cases h:γ.own m.lens.length with
  |none=>rfl
  |some b=>obtain⟨_,_,k,hk⟩:=hm.own _ _ h;rw[hL]at hk;cases hk
 intro rd next Q hn
 let o:Obj:=.cells (madeCells z.cells (n.toNat*i.size)) te
 refine Zj (v:=.slice (some ⟨w.heap.size,0,none⟩) 0 n.toNat) (w':=w.alloc o) (by simp[execOp,J7,h1.aI,aX,o])
  (hn _ _ (γ.renew m.lens.length w.heap.size 0 0) _ _ g4 rfl (hm.fT (q:=0) zE (fun _=>cq) o) ?_ ?_)
 ·rw[C0];exact hm.renew zE (fun _=>cq) o
 refine .sl (rows:=[]) w.heap.size 0 i.size (fun _ _=>undef) (zzbi _) (fun h=>(by cases h)) (fun h=>absurd rfl h) (fun _ h=>by cases h) (fun i j c h=>by simp[Qs]at h) (fun i j c h=>by simp[Qs]at h) ?_;refine⟨rfl,zzbi _,fun _=>.inr ⟨w.heap.size,0,madeCells z.cells (n.toNat*i.size),te,rfl,by simp[G.renew],by show(w.heap.push _)[w.heap.size]?=_;simp[o],by simp[size_madeCells],fun o' _ hr=>?_⟩⟩;obtain hr|⟨_,hr⟩:=hr
 ·have:=hm.robd _ _ hr;omega
 omega
def QF(hm:aq N w0 an γ w m.B m.L)(eG:∀g,au w γ.cW (gl g) (.pointer (some ⟨g,0,none⟩))){t:TypeId}{len:Nat}{parts:Array (Nat×Operand)}(he:∀x∈(Op.buildSlice t len parts).operands,au w γ (e (aB x)) (a.eval x))
  (h:((sop P gl orc e m dst (tr P ⟨dst,.buildSlice t len parts,ty,pos,after,guard⟩)).1/\K (sop P gl orc e m dst (tr P ⟨dst,.buildSlice t len parts,ty,pos,after,guard⟩)).2.1 (sop P gl orc e m dst (tr P ⟨dst,.buildSlice t len parts,ty,pos,after,guard⟩)).2.2)):
  Kh N w0 an P ⟨dst,.buildSlice t len parts,ty,pos,after,guard⟩ a γ w (m.st,m.ln) K:=by
 by_cases hmut:mutO orc dst=true
 case neg=>
  refine qS (o:=⟨dst,.buildSlice t len parts,ty,pos,after,guard⟩) (orc:=orc) hm eG he ?_;simp only[tr]at h |-
  repeat' split at h
  all_goals first|exact h.1.elim|skip
  simp only[sop,if_neg hmut]at h;simp_all
 have h1:∀p∈parts,au w γ (e (aB p.2)) (a.eval p.2):=fun p hp=>he p.2 (by simp[Op.operands];exact⟨p.1,hp⟩);simp only[tr]at h;split at h
 case h_2=>exact h.1.elim
 rename_i te hu;split at h
 case h_2=>exact h.1.elim
 rename_i i hi;split at h
 case isFalse=>exact h.1.elim
 rename_i bV;simp only[zzai,beq_iff_eq,bne_iff_ne,decide_eq_true_eq]at bV;obtain⟨⟨hz,J6⟩,vT⟩:=bV;cases fV:i.zero with
 |none=>simp[fV]at hz
 |some z=>
  simp[fV]at hz;simp only[sop,if_pos hmut]at h;obtain⟨⟨fe,zH⟩,hk⟩:=h
  let ee:PP:=(Array.range (len*i.size)).map (z.cells[·%z.cells.size]!)
  have CX:ak w γ (List.replicate (len*i.size) .junk) ee.toList:=by
   refine⟨by simp[ee],fun j x v hj _=>?_⟩;simp[zzck]at hj;rw[<- hj.2];exact .junk _
  obtain⟨cells,f1,f2,f3⟩:=Qbk (w:=w) (γ:=γ) (place:=fun j=>some (j*i.size,i.size)) (parts.toList.map fun p=>(p.1*i.size,i.size,e (aB p.2))) (parts.toList.map fun p=>(p.1,a.eval p.2)) _ ee zd (fun j p q dL ot=>by
    simp at dL ot;obtain⟨x1,x2,PK,rfl⟩:=dL;obtain⟨y1,y2,hy1,rfl⟩:=ot;rw[PK]at hy1;cases hy1;exact⟨rfl,h1 (x1,x2) (zzcx PK)⟩) CX (by simpa[Function.comp_def]using fe)
  have hq':(fillA (List.replicate (len*i.size) .junk) ((parts.toList.map fun p=>(p.1,aB p.2)).map fun p=>(p.1*i.size,i.size,e p.2))).2=(fillA (List.replicate (len*i.size) .junk) (parts.toList.map fun p=>(p.1*i.size,i.size,e (aB p.2)))).2:=by
   simp[Function.comp_def]
  rw[hq']at zH hk;have qC:cells.size=len*i.size:=by rw[f3];simp[ee]
  have aX:(execOp a.eval ⟨dst,.buildSlice t len parts,ty,pos,after,guard⟩).run P w=.ok (.value (.slice (some ⟨w.heap.size,0,none⟩) len len)) (w.alloc (.cells cells te)):=by
   have VC:¬(16777216<len*i.size):=zE
   by_cases ov:len*i.size=0
   ·have dD:ee=(Array.range (len*i.size)).map ((#[]:PP)[·%(#[]:PP).size]!):=by
     simp[ee,ov]
    rw[dD]at f1
    have gr:len=0:=by
     rcases Nat.mul_eq_zero.1 ov with h|h
     ·exact h
     exact absurd h J6
    simp[ov]at f1;simp[execOp,Instr.buildSlice,run_underlying hu,sizeOf,typeInfo,hi,ov,f1,newRow]
   simp only[execOp,Instr.buildSlice];have f1':Instr.fill (fun j=>some (j*i.size,i.size)) ((Array.range (len*i.size)).map (z.cells[·%z.cells.size]!)) (parts.toList.map fun p=>(p.1,a.eval p.2))=some cells:=f1;simp[run_underlying hu,sizeOf,typeInfo,zeroValue,hi,fV,ov,VC,f1',newRow]
  have aM:m.B m.boxes.length=none:=by simp[AM.B]
  intro rd next Q hn
  refine Zj aX (hn _ _ (γ.box m.boxes.length w.heap.size) _ _ hk rfl (hm.dB _ aM _) ?_ ?_)
  ·rw[SR];exact hm.fH _ aM f2.toP (Yl f2 zH)
  exact .bs (arr:=cells) (e:=te) (by simp[G.box]) (zzaa _) (by show(w.heap.push _)[w.heap.size]?=_;simp) (by rw[zzbm,qC];exact zzaa _)
def Bc(hm:aq N w0 an γ w m.B m.L)(eG:∀g,au w γ.cW (gl g) (.pointer (some ⟨g,0,none⟩)))
  (he:∀x∈o.op.operands,au w γ (e (aB x)) (a.eval x))(h:((sop P gl orc e m o.dst (tr P o)).1/\K (sop P gl orc e m o.dst (tr P o)).2.1 (sop P gl orc e m o.dst (tr P o)).2.2)):Kh N w0 an P o a γ w (m.st,m.ln) K:=by
 have EA:sop P gl orc e m o.dst (tr P o)=((rop P gl orc e m o.dst (tr P o)).1,(rop P gl orc e m o.dst (tr P o)).2,m)->Kh N w0 an P o a γ w (m.st,m.ln) K:=fun hg=>
  qS hm eG he (by rw[hg]at h;exact h)
 obtain⟨dst,op,ty,pos,after,guard⟩:=o;cases op with
 |alloc t=>exact Fp hm h
 |box t x=>exact P8 hm (he x (by simp[Op.operands])) h
 |store t x y=>exact Fq hm (he x (by simp[Op.operands])) (he y (by simp[Op.operands])) h
 |call c=>exact QB hm eG he h
 |makeMap t r=>exact Ft hm h
 |mapUpdate t x k y=>exact KA hm (he x (by simp[Op.operands])) (he k (by simp[Op.operands])) (he y (by simp[Op.operands])) h
 |mapEntry t x k=>exact KB hm (he x (by simp[Op.operands])) (he k (by simp[Op.operands])) h
 |entryStore t x k y=>exact KC hm (he x (by simp[Op.operands])) (he k (by simp[Op.operands])) (he y (by simp[Op.operands])) h
 |range t x=>exact QE hm (he x (by simp[Op.operands])) h
 |next x s=>refine EA ?_;cases s<;>rfl
 |makeSlice t l c=>exact KD hm (he l (by simp[Op.operands])) (he c (by simp[Op.operands])) h
 |buildSlice t len parts=>exact QF hm eG he h
 |binOp op t x y t'=>
  refine EA ?_;simp only[tr,iT,U0,vP];repeat' split
  all_goals rfl
 |build t parts=>
  refine EA ?_;simp only[tr,Jy];repeat' split
  all_goals rfl
 |slice t x lo hi mx=>refine EA ?_;cases mx<;>simp only[tr]<;>(repeat' split)<;>rfl
 |makeFunc fn first cap=>refine EA ?_;cases fn<;>rfl
 |_=>first|exact EA rfl|(
  refine EA ?_;simp only[tr];repeat' split
  all_goals rfl)
end
structure SO where
 dst:Option Nat
 op:aF
 guard:Option (Option Nat×Bool)
 xs:List bM
def Xf(P:Program)(ops:Array Oper)(o:Oper):SO:=
 {dst:=o.dst,op:=tr P o,guard:=o.guard.map fun p=>((ops[p.1]?).bind (·.dst),p.2),xs:=if o.guard.isSome then o.op.operands.toList.map aB else[]}
structure AS where
 T:PQ
 m:AM
abbrev T5:=Exit->AS->Prop
def put(T:PQ)(dst:Option Nat)(a:AV):PQ:=match dst with|some d=>T.set d a|none=>T
def strip:AV->AV
 |.gd _ a=>a
 |a=>a
def evS(gl:Nat->AV)(T:PQ)(x:bM):AV:=strip (ev gl T x)
def gok(gl:Nat->AV)(T:PQ)(g:Bool):List bM->Prop
 |[]=>True
 |x::r=>(match ev gl T x with|.gd g' _=>(g=true->g'=true)|_=>True)/\gok gl T g r
def rawOp:aF->Bool
 |.pick _ _ _=>true
 |_=>false
def evG(gl:Nat->AV)(T:PQ)(op:aF):bM->AV:=bif rawOp op then ev gl T else evS gl T
def gxs(op:aF)(xs:List bM):List bM:=bif rawOp op then[]else xs
def IL(want:Bool):AV->Option Bool
 |.bool g=>some (g==want)
 |.gd d (.bool b)=>some (d&&(b==want))
 |.gd false _=>some false
 |_=>none
abbrev YT:=Nat->PQ->AM->(Bool->AM->Prop)->Prop
def qV:Exit->Option Code
 |.ret=>some .ret
 |.exit id=>some (.exit id)
 |_=>none
def KE:LS->Loop->Prop
 |.gone,_=>True
 |.ready,r=>r.state=.ready/\r.pending=none
 |.busy,r=>r.state=.busy
 |.done ex,r=>r.state=.done/\r.pending=qV ex/\(qV ex).isSome=true
def cD(γ:G)(w:World)(m:AM):Prop:=(∀i,m.st i=.gone\/∃l,γ.lp i=some l/\γ.sp l/\∃r,w.heap[l]?=some (.loop r)/\KE (m.st i) r)/\
 (∀i,m.ln<=i->γ.lp i=none)/\(∀i j l,γ.lp i=some l->γ.lp j=some l->i=j)/\∀i l,γ.lp i=some l->γ.sp l/\∃r,w.heap[l]?=some (.loop r)
def cD.mono'{γ:G}{w:World}{m m':AM}(h:cD γ w m){γ':G}{w':World}(e:Ev w γ w' γ')(hm:(m'.st,m'.ln)=(m.st,m.ln)):cD γ' w' m':=by
 simp only[Prod.mk.injEq]at hm;unfold cD;rw[hm.1,hm.2,e.lp];exact⟨fun i=>(h.1 i).imp_right fun⟨l,h0,h1,r,h2,h3⟩=>⟨l,h0,(e.sp l h1).1,r,(e.sp l h1).2.trans h2,h3⟩,h.2.1,h.2.2.1,fun i l hl=>let⟨h1,r,h2⟩:=h.2.2.2 i l hl;⟨(e.sp l h1).1,r,(e.sp l h1).2.trans h2⟩⟩
def cD.mono{γ:G}{w:World}{m:AM}(h:cD γ w m){γ':G}{w':World}(e:Ev w γ w' γ'):cD γ' w' m:=h.mono' e rfl
def V2(N:Nat)(w0:fc)(an:Nat->Nat->Prop)(P:Program)(Y:YT)(γ:G)(w:World):Prop:=∀(γ':G)(w':World),ek w γ w' γ'->∀(i:Nat)(args:PQ)(m:AM)(K:Bool->AM->Prop)(vs:PH),
 aq N w0 an γ' w' m.B m.L->cD γ' w' m->ak w' γ' args vs->Y i args m K->∀l,γ'.lp i=some l->
 YieldAt (FW none) 0 P l vs.toArray w' fun e iy=>∃b AT lH,e=.returned (.bool b)/\ek w' γ' iy AT/\aq N w0 an AT iy lH.B lH.L/\cD AT iy lH/\K b lH
def V2.mono{N:Nat}{w0:fc}{an:Nat->Nat->Prop}{P:Program}{Y:YT}{γ:G}{w:World}(h:V2 N w0 an P Y γ w){γ':G}{w':World}(e:ek w γ w' γ'):V2 N w0 an P Y γ' w':=
 fun AT iy e'=>h AT iy (e.trans e')
def aA(P:Program)(gl:Nat->AV)(Y:YT)(f:FuncId)(as':PQ)(m:AM)(K:UV):Prop:=
 bw P f/\∀(N:Nat)(w0:fc)(an:Nat->Nat->Prop)(γ:G)(w:World)(vs:PH),aq N w0 an γ w m.B m.L->cD γ w m->(∀g,au w γ.cW (gl g) (.pointer (some ⟨g,0,none⟩)))->
  V2 N w0 an P Y γ w->ak w γ as' vs->
  CallsIn (FW none) 0 P f vs.toArray w fun e w'=>∃v γ' r m',e=.returned v/\ek w γ w' γ'/\aq N w0 an γ' w' m'.B m'.L/\cD γ' w' m'/\au w' γ' r v/\K r m'
def Fv(P:Program)(gl:Nat->AV)(Y:YT)(f:FuncId)(as':PQ)(m:AM)(K:List PanicEntry->AM->Prop):Prop:=
 bw P f/\∀(N:Nat)(w0:fc)(an:Nat->Nat->Prop)(γ:G)(w:World)(vs:PH),aq N w0 an γ w m.B m.L->cD γ w m->(∀g,au w γ.cW (gl g) (.pointer (some ⟨g,0,none⟩)))->
  V2 N w0 an P Y γ w->ak w γ as' vs->
  CallsIn (FW none) 0 P f vs.toArray w fun e w'=>∃ch γ' m',e=.panicked ch/\ek w γ w' γ'/\aq N w0 an γ' w' m'.B m'.L/\cD γ' w' m'/\K ch m'
section vc
variable (P:Program) (gl:Nat->AV) (orc:X1) (Y:YT)
def effy(e:bM->AV)(m:AM)(dst:Option Nat):aF->Bool
 |.call f args=>(match e f with
  |.yld _=>true
  |.fn f first cap=>(match orc (dst.getD 0) f ((first++args.map e++cap).map (bE m 6))with|.gd false _=>true|_=>false)
  |_=>false)
 |.nxt _=>true
 |_=>false
def vcNxt(m:AM)(K:UV):AV->Prop
 |.it id=>(match m.boxes.getD id []with
  |[.mitr mid n seen]=>(match m.boxes.getD mid []with
   |[.aL kn kvs]=>kvs.length=n/\(∀i k c,kvs[i]?=some (k,c)->i ∉ seen->K (.aQ [.bool true,keyAV kn k,c]) {m with boxes:=m.boxes.set id [.mitr mid n (seen++[i])]})/\
     ((∀i,i<n->i∈seen)->K (.aQ [.bool false]) m)
   |_=>False)
  |_=>False)
 |_=>False
def Qbr(e:bM->AV)(m:AM)(K:UV):aF->Prop
 |.call f args=>(match e f with
  |.yld l=>Y l (args.map e) m fun b m'=>K (.bool b) m'
  |.fn f first cap=>aA P gl Y f (first++args.map e++cap) m K
  |_=>False)
 |.nxt x=>vcNxt m K (e x)
 |_=>False
def Ze:List SO->AS->(AS->Prop)->Prop
 |[],s,K=>K s
 |o::rest,s,K=>match o.guard with
  |none=>if effy orc (ev gl s.T) s.m o.dst o.op=true then Qbr P gl Y (ev gl s.T) s.m (fun av m'=>Ze rest ⟨put s.T o.dst av,m'⟩ K) o.op
   else(sop P gl orc (ev gl s.T) s.m o.dst o.op).1/\Ze rest ⟨put s.T o.dst (sop P gl orc (ev gl s.T) s.m o.dst o.op).2.1,(sop P gl orc (ev gl s.T) s.m o.dst o.op).2.2⟩ K
  |some (some t,want)=>match IL want (s.T.getD t .junk)with
   |some gw=>gok gl s.T gw (gxs o.op o.xs)/\
     if effy orc (evG gl s.T o.op) s.m o.dst o.op=true then
      (gw=true->Qbr P gl Y (evG gl s.T o.op) s.m (fun av m'=>Ze rest ⟨put s.T o.dst (.gd true av),m'⟩ K) o.op)/\(gw=false->Ze rest ⟨put s.T o.dst (.gd false (.bool false)),s.m⟩ K)
     else(gw=true->(rop P gl orc (evG gl s.T o.op) s.m o.dst o.op).1)/\
      Ze rest ⟨put s.T o.dst (.gd gw (rop P gl orc (evG gl s.T o.op) s.m o.dst o.op).2),s.m⟩ K
   |none=>False
  |some (none,_)=>False
def IM(e:bM->AV)(m:AM)(K:List PanicEntry->AM->Prop):aF->Prop
 |.call f args=>(match e f with
  |.fn f first cap=>Fv P gl Y f (first++args.map e++cap) m K
  |_=>False)
 |.pan x=>(match e x with
  |.er t a=>K [{v:=.iface t (.pointer (some a)),recovered:=false}] m
  |_=>False)
 |_=>False
def IN(k:Nat)(l:List SO)(s:AS)(Q:T5):Prop:=∃o,l[k]?=some o/\o.guard=none/\
 Ze P gl orc Y (l.take k) s fun s'=>IM P gl Y (ev gl s'.T) s'.m (fun ch m'=>Q (.panic ch) ⟨s'.T,m'⟩) o.op
end vc
def Dfr(n0:Nat)(γ:G)(w:World)(ds:List Deferred):Prop:=
 n0<=w.heap.size/\(∀x∈ds,∃D,x.target=.collected D/\n0<=D/\γ.sp D/\w.heap[D]?=some (.deferred (some [])))/\ds.Pairwise fun x y=>∀D,x.target=.collected D->y.target≠.collected D
def Dfr.aV{n0:Nat}{γ:G}{w:World}{ds:List Deferred}(h:Dfr n0 γ w ds){γ':G}{w':World}(e:ek w γ w' γ'):Dfr n0 γ' w' ds:=
 ⟨zzb h.1 e.size,fun x hx=>let⟨D,h1,h0,h2,h3⟩:=h.2.1 x hx;⟨D,h1,h0,(e.sp D h2).1,by
  rcases(e.sp D h2).2 with h|⟨r,_,_,h,_⟩
  ·exact h.trans h3
  rw[h3]at h;cases h⟩,h.2.2⟩
def Rdr(r:Option Nat)(γ:G)(w:World):Prop:=∀l,r=some l->γ.sp l/\∃rec,w.heap[l]?=some (.loop rec)
def Rdr.aV{r:Option Nat}{γ:G}{w:World}(h:Rdr r γ w){γ':G}{w':World}(e:ek w γ w' γ'):Rdr r γ' w':=
 fun l hl=>let⟨h1,rec,h2⟩:=h l hl;⟨(e.sp l h1).1,by
  rcases(e.sp l h1).2 with h|⟨r,s,p,_,h⟩
  ·exact⟨rec,h.trans h2⟩
  exact⟨_,h⟩⟩
structure dP (N:Nat) (w0:fc) (r:Option Nat) (an:Nat->Nat->Prop) (S:G×World) (P:Program) (gl:Nat->AV) (Y:YT) (γ:G) (w:World) (s:AS) (a:Act):Prop where
 m:aq N w0 an γ w s.m.B s.m.L
 ls:cD γ w s.m
 rd:Rdr r γ w
 t:ak w γ s.T a.tmps.toList
 d:Dfr S.2.heap.size γ w a.defers
 g:∀g,au w γ.cW (gl g) (.pointer (some ⟨g,0,none⟩))
 y:V2 N w0 an P Y γ w
 e:ek S.2 S.1 w γ
section
variable {N:Nat} {w0:fc} {r:Option Nat} {an:Nat->Nat->Prop} {S:G×World} {Y:YT} {γ:G} {w:World} {P:Program} {gl:Nat->AV} {orc:X1} {s:AS} {a:Act}
def dP.ev(h:dP N w0 r an S P gl Y γ w s a)(x:Operand):au w γ (ev gl s.T (aB x)) (a.eval x):=by
 cases x with
 |tmp t=>
  have:=h.t.get t;simpa[Abs.ev,aB,Act.eval,List.getD]using this
 |const v=>exact Js w γ v
 |func f=>exact .fn rfl (fun i c v h=>by simp at h) rfl fun i c v h=>by simp at h
 |global g=>exact(h.g g).gF
def dP.aei(h:dP N w0 r an S P gl Y γ w s a){dst:Option Nat}{av:AV}{v:Value}{w':World}{γ':G}{m':AM}(e:ek w γ w' γ')(hm:aq N w0 an γ' w' m'.B m'.L)(hl:cD γ' w' m')(hr:au w' γ' av v):
  dP N w0 r an S P gl Y γ' w' ⟨Abs.put s.T dst av,m'⟩ (a.put dst v):=by
 refine⟨hm,hl,h.rd.aV e,?_,?_,fun g=>(h.g g).aV e.cW,h.y.mono e,h.e.trans e⟩
 ·cases dst with
  |none=>exact h.t.aV e
  |some d=>
   simp only[Abs.put,Act.put,zzdn];exact(h.t.aV e).set d hr
 cases dst<;>exact h.d.aV e
def dP.put(h:dP N w0 r an S P gl Y γ w s a){dst:Option Nat}{av:AV}{v:Value}{w':World}{γ':G}{m':AM}(e:Ev w γ w' γ')(hm:aq N w0 an γ' w' m'.B m'.L)(ho:(m'.st,m'.ln)=(s.m.st,s.m.ln))(hr:au w' γ' av v):
  dP N w0 r an S P gl Y γ' w' ⟨Abs.put s.T dst av,m'⟩ (a.put dst v):=h.aei e.cL hm (h.ls.mono' e ho) hr
def C3{T:PQ}{g:Bool}:∀{xs:List bM},gok gl T g xs->∀x∈xs,∀g' b,Abs.ev gl T x=.gd g' b->g=true->g'=true
 |[],_,x,hx,_,_,_,_=>by cases hx
 |y::ys,h,x,hx,g',b,he,hg=>by
  obtain⟨h1,h2⟩:=h;rcases zzao.1 hx with rfl|hx
  ·rw[he]at h1;exact h1 hg
  exact C3 h2 x hx g' b he hg
def Be{x:AV}{v:Value}(h:au w γ x v)(hg:∀g b,x=.gd g b->g=true):au w γ (strip x) v:=by
 cases x<;>first|exact h|skip
 rename_i g b;exact h.CS (hg g b rfl)
def Fw{c:Call}{fo:bM}{xs:List bM}(h:Zp P c=.call fo xs):∃(f:Operand)(as':Array Operand)(ts:Array TypeId),c=⟨.value f,as',ts⟩/\fo=aB f/\xs=as'.toList.map aB:=by
 obtain⟨callee,args,ts⟩:=c;cases callee with
 |value f=>cases h;exact⟨f,args,ts,rfl,rfl,rfl⟩
 |invoke r n=>cases h
 |builtin b=>cases b<;>simp only[Zp]at h<;>(repeat' split at h)<;>cases h
def NT{o:Oper}{fo:bM}{xs:List bM}(h:tr P o=.call fo xs):∃(f:Operand)(as':Array Operand)(ts:Array TypeId),o.op=.call ⟨.value f,as',ts⟩/\fo=aB f/\xs=as'.toList.map aB:=by
 obtain⟨dst,op,ty,pos,after,guard⟩:=o;cases op
 case call c=>
  obtain⟨f,as',ts,rfl,h1,h2⟩:=Fw h;exact⟨f,as',ts,rfl,h1,h2⟩
 case next x s=>cases s<;>cases h
 case build t parts=>
  simp only[tr,Jy]at h;repeat' split at h
  all_goals cases h
 case slice t x lo hi mx=>cases mx<;>simp only[tr]at h<;>(repeat' split at h)<;>cases h
 case makeFunc fn a b=>cases fn<;>cases h
 case makeMap t r=>cases r<;>simp only[tr]at h<;>(try split at h)<;>cases h
 case binOp op t x y t'=>
  simp only[tr,iT,U0,vP]at h;repeat' split at h
  all_goals cases h
 all_goals first|(cases h;done)|(
  simp only[tr]at h;repeat' split at h
  all_goals cases h)
def aly{o:Oper}{xo:bM}(h:tr P o=.nxt xo):∃x:Operand,o.op=.next x false/\xo=aB x:=by
 obtain⟨dst,op,ty,pos,after,guard⟩:=o;cases op
 case next x s=>cases s<;>cases h;exact⟨x,rfl,rfl⟩
 case build t parts=>
  simp only[tr,Jy]at h;repeat' split at h
  all_goals cases h
 case slice t x lo hi mx=>cases mx<;>simp only[tr]at h<;>(repeat' split at h)<;>cases h
 case makeFunc fn a b=>cases fn<;>cases h
 case makeMap t r=>cases r<;>simp only[tr]at h<;>(try split at h)<;>cases h
 case binOp op t x y t'=>
  simp only[tr,iT,U0,vP]at h;repeat' split at h
  all_goals cases h
 case call c=>
  obtain⟨callee,args,ts⟩:=c;cases callee with
  |value f=>cases h
  |invoke r n=>cases h
  |builtin b=>cases b<;>simp only[tr,Zp]at h<;>(repeat' split at h)<;>cases h
 all_goals first|(cases h;done)|(
  simp only[tr]at h;repeat' split at h
  all_goals cases h)
def aq.ai0{B:Nat->QQ}{L:Nat->Option Nat}(hm:aq N w0 an γ w B L):aq N w0 an γ w.drew B L/\Ev w γ w.drew γ:=by
 have bZ:Ev w γ w.drew γ:=⟨zzaa _,fun _ _ _ h=>⟨h,rfl⟩,fun _ _ h=>h,fun _=>zzaa _,fun _ _ h=>h,rfl,fun _ _ _ ho=>⟨ho,fun arr _ he=>⟨arr,he,zzaa _⟩,fun _ h=>h⟩,fun _ h=>⟨h,rfl⟩,Sz.of_same fun _ _=>rfl⟩;refine⟨⟨w0.st _ _ _ _ hm.bs ⟨rfl,rfl,rfl,zzaa _,fun _ _ _=>rfl,bZ.ro,fun _ h=>.inl h,fun _ _ h=>.inl h⟩,hm.hN,hm.an,hm.robd,fun i cells b hb h1=>?_,hm.β,hm.inj,hm.own,hm.oinj,hm.sp,fun i b hb=>?_,hm.minj,hm.len,hm.cur0⟩,bZ⟩
 ·obtain⟨arr,e,h2,h3,h4⟩:=hm.box i cells b hb h1;exact⟨arr,e,h2,h3.mono bZ,h4⟩
 obtain⟨h1,h2,h3,h4,h5,h6,h8,h7⟩:=hm.mm i b hb;exact⟨h1,h2,h3,h4,h5,h6,h8,h7.mono bZ.cL.AR rfl⟩
def wo{es:Array MapEntry}{seen:Array Nat}{x:MapEntry}:x∈(leftOf es seen).toList<->x∈es.toList/\x.born ∉ seen.toList:=by
 simp[leftOf]
def QG{m:AM}(hm:aq N w0 an γ w m.B m.L){x:AV}{v:Value}{K:UV}(h1:au w γ x v)(h:vcNxt m K x)(ty:TypeId):
  ∃u w' av m',(Instr.next v false ty).run P w=.ok u w'/\K av m'/\Ev w γ w' γ/\aq N w0 an γ w' m'.B m'.L/\au w' γ av u/\(m'.st,m'.ln)=(m.st,m.ln):=by
 unfold vcNxt at h;split at h
 case h_2=>exact h.elim
 rename_i id;split at h
 case h_2=>exact h.elim
 rename_i mid n seen fI;split at h
 case h_2=>exact h.elim
 rename_i kn kvs gV;obtain⟨hn,SS,hK2⟩:=h;obtain⟨aM,C2⟩:=nj fI;obtain⟨V3,ard⟩:=nj gV;obtain⟨b,mb,hb,rfl,q1,q2⟩:=hm.NR h1 C2;obtain⟨b',es,cA,A7,q3,q4,q5⟩:=hm.ja (v:=.map (some mb)) (.mp q2) ard;cases A7
 have VN:∀y∈es.toList,y.born<n:=fun y hy=>by
  obtain⟨j,hj,rfl⟩:=zzfz hy;simp at hj;have:=Qec q4 q5 hj;simp only[Array.getElem_toList];omega
 rcases run_next_at (P:=P) w ty b mb n n seen.toArray es es.size q1 q3 VN (zzaa _)with⟨g1,g2⟩|⟨y,g1,w1,g2,g3⟩
 ·refine⟨_,w,.aQ [.bool false],m,g2,hK2 fun i hi=>?_,Ev.refl w γ,hm,(ak.cons (.bool false) ak.nil).zK,rfl⟩;have hie:i<es.size:=zE
  have hnil:leftOf es seen.toArray=#[]:=zzen g1;have:es[i] ∉ (leftOf es seen.toArray).toList:=by rw[hnil];simp
  rw[wo]at this;simp only[not_and,Decidable.not_not]at this;have:=this zd;rw[Qec q4 q5 hie]at this;simpa using this
 obtain⟨g4,g5⟩:=wo.1 g1;obtain⟨i,hi,rfl⟩:=zzfz g4;simp at hi;simp only[Array.getElem_toList]at g3 g5;have dK:=Qec q4 q5 hi;have qW:i<kvs.length:=zE
 obtain⟨p1,p2,_,p3⟩:=q5 i (kvs[i]'qW).1 (kvs[i]'qW).2 es[i] (by simp[qW]) (by simp[hi])
 have nk:aq N w0 an γ w1 m.B m.L/\Ev w γ w1 γ:=by
  obtain rfl|rfl:=g2
  ·exact⟨hm,Ev.refl _ γ⟩
  exact hm.ai0
 obtain⟨nk,fJ⟩:=nk;obtain⟨f1,f2⟩:=nk.qU hb (x:=.mitr mid n (seen++[i])) (o:=.mapIter (some mb) n (seen.toArray.push es[i].born) es.size) ⟨q2,rfl,zE,by simp[dK]⟩;refine⟨_,_,_,_,g3,SS i (kvs[i]'qW).1 (kvs[i]'qW).2 (by simp[qW]) (by rw[dK]at g5;simpa using g5),fJ.trans f1,?_,?_,rfl⟩
 ·rw[lX m id aM];exact f2
 rw[p2];exact((ak.cons (.bool true) (ak.cons (A4 p1) (ak.cons p3 ak.nil))).mono (fJ.trans f1)).zK
def Qdb{o:Oper}{e:bM->AV}{Q:QR}{K:UV}(hs:dP N w0 r an S P gl Y γ w s a)(he:∀x∈o.op.operands,au w γ (e (aB x)) (a.eval x))(h:Qbr P gl Y e s.m K (tr P o))
  {next:Act->World->Prop}(hn:∀v w' γ' av m',K av m'->ek w γ w' γ'->aq N w0 an γ' w' m'.B m'.L->cD γ' w' m'->au w' γ' av v->next (a.put o.dst v) w'):o.wpIn (FW r) 0 P a w next Q:=by
 obtain⟨dst,op,ty,pos,after,guard⟩:=o;cases eC:tr P ⟨dst,op,ty,pos,after,guard⟩with
 |call fo args=>
  rw[eC]at h;obtain⟨f,as',ts,rfl,rfl,rfl⟩:∃(f:Operand)(as':Array Operand)(ts:Array TypeId),op=.call ⟨.value f,as',ts⟩/\fo=aB f/\args=as'.toList.map aB:=by simpa using NT eC
  simp only[Qbr]at h;have h1:=he f (by simp[Op.operands,Call.operands]);have h2:∀x∈as',au w γ (e (aB x)) (a.eval x):=fun x hx=>he x (by simp[Op.operands,Call.operands,hx]);have iV:=qR h2;split at h
  ·rename_i i e1;rw[e1]at h1
   obtain⟨l,hl,hv⟩:∃l,γ.lp i=some l/\a.eval f=.func (.yield l) #[] #[]:=by
    generalize a.eval f=v at h1;cases h1 with
    |yld h=>exact⟨_,h,rfl⟩
   obtain⟨fn,tmps,assign,body,hy,hR⟩:=hs.y γ w (Ev.refl w γ).cL i _ s.m _ _ hs.m hs.ls iV h l hl
   have aX:(execOp a.eval ⟨dst,.call ⟨.value f,as',ts⟩,ty,pos,after,guard⟩).run P w=.ok (.round l fn tmps assign body) w:=by
    rw[Array.toArray_toList]at hy;simpa[execOp,resolve,hv,Deferred.ofValue,invoke]using hy
   refine wp_run aX (fun _ h=>by cases h) ?_;rw[Oper.uponIn_round];refine⟨fun h=>by simp[FW,Fence.wide]at h,RoundIn.mono hR ?_⟩;rintro en w' ⟨b,γ',m',rfl,g1,g2,g3,g4⟩;exact hn _ _ _ _ _ g4 g1 g2 g3 (.bool b)
  ·rename_i g first cap e1
   rw[e1]at h1;obtain⟨fa,ca,hv,r1,r2⟩:=h1.mX
   have aX:(execOp a.eval ⟨dst,.call ⟨.value f,as',ts⟩,ty,pos,after,guard⟩).run P w=.ok (.enter g ((fa.toList++(as'.map a.eval).toList++ca.toList).toArray)) w:=by
    simp[execOp,resolve,hv,Deferred.ofValue,invoke,Qan h.1]
   refine wp_run aX (fun _ h=>by cases h) ⟨fun h=>by simp[FW,Fence.wide]at h,?_⟩;refine CallsIn.mono (h.2 N w0 an γ w _ hs.m hs.ls hs.g hs.y ((r1.append iV).append r2)) ?_;rintro en w' ⟨v,γ',r',m',rfl,g1,g2,g3,g4,g5⟩;exact hn v w' γ' r' m' g5 g1 g2 g3 g4
  exact h.elim
 |nxt xo=>
  rw[eC]at h;obtain⟨x,rfl,rfl⟩:∃x:Operand,op=.next x false/\xo=aB x:=by simpa using aly eC
  simp only[Qbr]at h;obtain⟨u,w',av,m',g1,g2,g3,g4,g5,g6⟩:=QG (P:=P) hs.m (he x (by simp[Op.operands])) h ty;exact Zj (v:=u) (w':=w') (by simp[execOp,g1]) (hn u w' γ av m' g2 g3.cL g4 (hs.ls.mono' g3 g6) g5)
 |_=>rw[eC]at h;exact h.elim
def sL{ops:Array Oper}{Q:QR}{K:AS->Prop}{k:Nat}(aa:k<ops.size){rest:List SO}(hs:dP N w0 r an S P gl Y γ w s a)
  (h:Ze P gl orc Y (Xf P ops ops[k]::rest) s K):
  wpOpIn (FW r) 0 P ops Q k (fun a' w'=>∃γ' s',dP N w0 r an S P gl Y γ' w' s' a'/\Ze P gl orc Y rest s' K) a w:=by
 have ho:ops[k]?=some ops[k]:=zzag aa;generalize ops[k]=o at ho h;simp only[wpOpIn,ho];cases hg:o.guard with
 |none=>
  have hw:Region.wanted o (yielded ops a.tmps)=true:=by simp[Region.wanted,hg]
  rw[if_pos hw];have e1:(Xf P ops o).guard=none:=by simp[Xf,hg]
  simp only[Ze,e1]at h;split at h
  ·exact Qdb (K:=fun av m=>Ze P gl orc Y rest ⟨Abs.put s.T o.dst av,m⟩ K) hs (fun x _=>hs.ev x) h fun v w' γ' av m' hK h1 h2 h3 h4=>⟨γ',_,hs.aei h1 h2 h3 h4,hK⟩
  exact Bc (K:=fun av m=>Ze P gl orc Y rest ⟨Abs.put s.T o.dst av,m⟩ K) hs.m hs.g (fun x _=>hs.ev x) h r _ Q fun v w' γ' av m' hK dx h1 h2 h3=>⟨γ',_,hs.put h1 h2 dx h3,hK⟩
 |some p=>
  obtain⟨j,want⟩:=p;have e1:(Xf P ops o).guard=some ((ops[j]?).bind (·.dst),want):=by simp[Xf,hg]
  simp only[Ze,e1]at h;cases hj:(ops[j]?).bind (·.dst)with
  |none=>rw[hj]at h;exact h.elim
  |some t=>
   rw[hj]at h;simp only at h;split at h
   case h_2=>exact h.elim
   rename_i gw o6;obtain⟨h1,h⟩:=h
   have V4:Region.wanted o (yielded ops a.tmps)=gw:=by
    have hr:=hs.t.get t
    have bK:t<a.tmps.size:=by
     rcases zzab t s.T.length with h|h
     ·have h5:=hs.t.1;rw[zzbj]at h5;rw[<- h5];exact h
     simp[List.getD,zzau h,IL]at o6
    have cB:(a.tmps.toList.getD t undef)=a.tmps[t]:=by simp[List.getD,bK]
    rw[cB]at hr;have hyv:∀b,a.tmps[t]=.bool b->yielded ops a.tmps j=some b:=fun b hb=>by simp only[yielded,hj,zzcw,zzag bK,hb]
    have hyu:a.tmps[t]=undef->yielded ops a.tmps j=none:=fun hb=>by simp only[yielded,hj,zzcw,zzag bK,hb];rfl
    generalize s.T.getD t .junk=gv at o6 hr
    have hf:∀{x:AV},au w γ (.gd false x) a.tmps[t]->Region.wanted o (yielded ops a.tmps)=false:=fun hx=>by
     simp only[Region.wanted,hg,hyu hx.NO];cases want<;>rfl
    cases gv with
    |bool g=>
     simp only[IL,Option.some.injEq]at o6;subst o6;simp only[Region.wanted,hg,hyv g hr.bz];cases g<;>cases want<;>rfl
    |gd d x=>
     cases d with
     |false=>
      rw[hf hr];cases x<;>simp[IL]at o6<;>exact o6.symm
     |true=>
      cases x<;>simp[IL]at o6;rename_i b;subst o6;simp only[Region.wanted,hg,hyv b (hr.CS rfl).bz];cases b<;>cases want<;>rfl
    |_=>simp[IL]at o6
   rw[V4]
   have V5:gw=true->∀x∈o.op.operands,au w γ (evG gl s.T (tr P o) (aB x)) (a.eval x):=fun SU x hx=>by
    unfold evG;cases eX:rawOp (tr P o)with
    |true=>exact hs.ev x
    |false=>
     refine Be (hs.ev x) fun g' b hgb=>C3 h1 (aB x) ?_ g' b hgb SU;have gC:rawOp (Xf P ops o).op=false:=eX;simp only[gxs,gC,cond_false];simp[Xf,hg];exact⟨x,Pi hx,rfl⟩
   split at h
   ·obtain⟨h2,h3⟩:=h;cases SU:gw with
    |true=>
     simp only[if_true];exact Qdb (e:=evG gl s.T (tr P o)) (K:=fun av m=>Ze P gl orc Y rest ⟨Abs.put s.T o.dst (.gd true av),m⟩ K) hs (V5 SU) (h2 SU) fun v w' γ' av m' hK h1 h2 h3 h4=>⟨γ',_,hs.aei h1 h2 h3 (.gd (fun _=>h4) (fun h=>by cases h)),hK⟩
    |false=>
     simp only[zzbp,if_false];exact⟨fun _ _=>trivial,γ,_,hs.put (Ev.refl _ _) hs.m rfl (.gd (fun h=>by cases h) (fun _=>rfl)),h3 SU⟩
   obtain⟨h2,h3⟩:=h;cases SU:gw with
   |true=>
    rw[SU]at h2 h3;simp only[if_true];refine Qcs (e:=evG gl s.T (tr P o)) hs.m (fun _ _ h=>h) hs.g (V5 SU) (h2 rfl) r _ Q fun v w' γ' q1 q2 q3=>?_;exact⟨γ',_,hs.put q1 q2 rfl (.gd (fun _=>q3) (fun h=>by cases h)),h3⟩
   |false=>
    rw[SU]at h3;simp only[zzbp,if_false];exact⟨fun _ _=>trivial,γ,_,hs.put (Ev.refl _ _) hs.m rfl (.gd (fun h=>by cases h) (fun _=>rfl)),h3⟩
def wq{ops:Array Oper}{Q:QR}{K:AS->Prop}{k:Nat}(aa:k<ops.size)(hs:dP N w0 r an S P gl Y γ w s a)
  (h:Ze P gl orc Y ((ops.toList.drop k).map (Xf P ops)) s K):
  wpOpIn (FW r) 0 P ops Q k (fun a' w'=>∃γ' s',dP N w0 r an S P gl Y γ' w' s' a'/\Ze P gl orc Y ((ops.toList.drop (k+1)).map (Xf P ops)) s' K) a w:=by
 have hd:ops.toList.drop k=ops[k]::ops.toList.drop (k+1):=by
  rw[zzaf (Pi aa)];simp
 rw[hd,zzay]at h;exact sL aa hs h
def Bf{ops:Array Oper}{Q:QR}{K:AS->Prop}{more:P1}(hQ:∀γ w s a,K s->dP N w0 r an S P gl Y γ w s a->wpOpsIn (FW r) 0 P ops Q more a w):
  ∀(n k:Nat)(γ:G)(w:World)(s:AS)(a:Act),k+n<=ops.size->Ze P gl orc Y (((ops.toList.drop k).take n).map (Xf P ops)) s K->dP N w0 r an S P gl Y γ w s a->wpOpsIn (FW r) 0 P ops Q (List.range' k n++more) a w
 |0,k,γ,w,s,a,hk,h,hs=>hQ γ w s a h hs
 |n+1,k,γ,w,s,a,hk,h,hs=>by
  have aa:k<ops.size:=zE
  have hd:ops.toList.drop k=ops[k]::ops.toList.drop (k+1):=by
   rw[zzaf (Pi aa)];simp
  rw[hd,zzdb,zzay]at h;rw[zzez,zzae,wpOpsIn_cons];refine wpOpIn_mono ?_ (sL aa hs h);rintro a' w' ⟨γ',s',ef,h'⟩;exact Bf hQ n (k+1) γ' w' s' a' zE h' ef
def jd{ops:Array Oper}{Q:QR}{K:AS->Prop}(hQ:∀γ w s a,K s->dP N w0 r an S P gl Y γ w s a->Q .normal a w):
  ∀(n k:Nat)(γ:G)(w:World)(s:AS)(a:Act),k+n=ops.size->Ze P gl orc Y ((ops.toList.drop k).map (Xf P ops)) s K->dP N w0 r an S P gl Y γ w s a->wpOpsIn (FW r) 0 P ops Q (List.range' k n) a w
 |0,k,γ,w,s,a,hk,h,hs=>by
  have:ops.toList.drop k=[]:=zzam (by simp;omega);rw[this]at h;exact hQ γ w s a h hs
 |n+1,k,γ,w,s,a,hk,h,hs=>by
  rw[zzez,wpOpsIn_cons];refine wpOpIn_mono ?_ (wq zE hs h);rintro a' w' ⟨γ',s',ef,h'⟩;exact jd hQ n (k+1) γ' w' s' a' zE h' ef
def alz{o:Oper}{xo:bM}(h:tr P o=.pan xo):∃x:Operand,o.op=.panic x/\xo=aB x:=by
 obtain⟨dst,op,ty,pos,after,guard⟩:=o;cases op
 case panic x=>cases h;exact⟨x,rfl,rfl⟩
 case next x s=>cases s<;>cases h
 case build t parts=>
  simp only[tr,Jy]at h;repeat' split at h
  all_goals cases h
 case slice t x lo hi mx=>cases mx<;>simp only[tr]at h<;>(repeat' split at h)<;>cases h
 case makeFunc fn a b=>cases fn<;>cases h
 case makeMap t r=>cases r<;>simp only[tr]at h<;>(try split at h)<;>cases h
 case binOp op t x y t'=>
  simp only[tr,iT,U0,vP]at h;repeat' split at h
  all_goals cases h
 case call c=>
  obtain⟨callee,args,ts⟩:=c;cases callee with
  |value f=>cases h
  |invoke r n=>cases h
  |builtin b=>cases b<;>simp only[tr,Zp]at h<;>(repeat' split at h)<;>cases h
 all_goals first|(cases h;done)|(
  simp only[tr]at h;repeat' split at h
  all_goals cases h)
def QH{ops:Array Oper}{Q:QR}{QX:T5}(hQ:∀γ w s a ch,QX (.panic ch) s->dP N w0 r an S P gl Y γ w s a->Q (.panic ch) a w){k:Nat}
  (h:IN P gl orc Y k (ops.toList.map (Xf P ops)) s QX)(hs:dP N w0 r an S P gl Y γ w s a):wpOpsIn (FW r) 0 P ops Q (List.range ops.size) a w:=by
 obtain⟨o',ho,hg,h⟩:=h;rw[zzbf,zzbd]at ho;obtain⟨o,ho,rfl⟩:=ho;rw[zzbw]at ho;obtain⟨aa,ck⟩:=zzbr.1 ho
 have hr:List.range ops.size=List.range' 0 k++k::List.range' (k+1) (ops.size-(k+1)):=by
  have h1:=List.range'_append_1 (s:=0) (m:=k) (n:=ops.size-(k+1)+1);rw[zzed,show List.range' 0 ops.size=List.range' 0 (k+(ops.size-(k+1)+1)) by congr 1;omega,<- h1,zzez,zzbm]
 rw[hr];rw[<- List.map_take]at h;refine Bf (P:=P) (orc:=orc) (ops:=ops) (fun γ w s a hK hs=>?_) k 0 γ w s a zE (Pi h) hs;rw[wpOpsIn_cons];simp only[wpOpIn,ho]
 have hg':o.guard=none:=by
  cases hgo:o.guard with
  |none=>rfl
  |some p=>simp[Xf,hgo]at hg
 have hw:Region.wanted o (yielded ops a.tmps)=true:=by simp[Region.wanted,hg']
 rw[if_pos hw];have eC:(Xf P ops o).op=tr P o:=rfl;rw[eC]at hK;obtain⟨dst,op,ty,pos,after,guard⟩:=o;cases hc:tr P ⟨dst,op,ty,pos,after,guard⟩with
 |call fo args=>
  rw[hc]at hK;obtain⟨f,as',ts,rfl,rfl,rfl⟩:∃(f:Operand)(as':Array Operand)(ts:Array TypeId),op=.call ⟨.value f,as',ts⟩/\fo=aB f/\args=as'.toList.map aB:=by simpa using NT hc
  simp only[IM]at hK;have h1:=hs.ev f;have iV:=qR (xs:=as') fun x _=>hs.ev x;split at hK
  case h_2=>exact hK.elim
  rename_i g first cap e1
  rw[e1]at h1;obtain⟨fa,ca,hv,r1,r2⟩:=h1.mX
  have aX:(execOp a.eval ⟨dst,.call ⟨.value f,as',ts⟩,ty,pos,after,guard⟩).run P w=.ok (.enter g ((fa.toList++(as'.map a.eval).toList++ca.toList).toArray)) w:=by
   simp[execOp,resolve,hv,Deferred.ofValue,invoke,Qan hK.1]
  refine wp_run aX (fun _ h=>by cases h) ⟨fun h=>by simp[FW,Fence.wide]at h,?_⟩;refine CallsIn.mono (hK.2 N w0 an γ w _ hs.m hs.ls hs.g hs.y ((r1.append iV).append r2)) ?_;rintro en w' ⟨ch,γ',m',rfl,g1,g2,g3,g4⟩;exact hQ γ' w' _ _ ch g4 (hs.aei (dst:=none) (av:=.junk) (v:=undef) g1 g2 g3 (.junk _))
 |pan xo=>
  rw[hc]at hK;obtain⟨x,rfl,rfl⟩:∃x:Operand,op=.panic x/\xo=aB x:=by simpa using alz hc
  simp only[IM]at hK;have h1:=hs.ev x;split at hK
  case h_2=>exact hK.elim
  rename_i t b e1;rw[e1]at h1
  have hv:a.eval x=.iface t (.pointer (some b)):=by
   generalize a.eval x=v at h1;cases h1;rfl
  have aX:(execOp a.eval ⟨dst,.panic x,ty,pos,after,guard⟩).run P w=.halt (.panic (.iface t (.pointer (some b)))) w:=by
   simp only[execOp,hv];rfl
  refine⟨fun f _=>trivial,?_⟩;rw[Oper.semAt_eq _ _ _ (fun c h=>by cases h),aX];exact hQ γ w _ _ _ hK hs
 |_=>rw[hc]at hK;exact hK.elim
end
end Go.Abs
