import Derived.Test.YthjppoincojfkaaGreatDoorRPMA
set_option linter.all false
namespace Go.Abs
open Go Go.RowKit
section inv
variable {w:World} {γ:G} {v:Value}
def aA.bu{b:Bool}(h:aA w γ (.bool b) v):v=.bool b:=by cases h;rfl
def aA.aI{k:IntKind}{n:Int}(h:aA w γ (.int k n) v):v=.int k n:=by cases h;rfl
def aA.cq{s:ByteArray}(h:aA w γ (.str s) v):v=.string s:=by cases h;rfl
def aA.Pd(h:aA w γ .nilfn v):v=.nilFunc:=by cases h;rfl
def aA.dJ{id o:Nat}(h:aA w γ (.ptr id o) v):∃b,γ.β id=some b/\v=.pointer (some ⟨b,o,none⟩):=by cases h with|ptr h=>exact⟨_,h,rfl⟩
def aA.cN{id off len sz:Nat}(h:aA w γ (.bs id off len sz) v):∃(b cap:Nat)(arr:P1)(e:TypeId),γ.β id=some b/\v=.slice (some ⟨b,off,none⟩) len cap/\len<=cap/\
  w.heap[b]?=some (.cells arr e (0,0))/\off+cap*sz<=arr.size:=by
 cases h with|bs h hl hh hs=>exact⟨_,_,_,_,h,rfl,hl,hh,hs⟩
def aA.Cm{g:Bool}{a:AV}(h:aA w γ (.gd g a) v)(hg:g=true):aA w γ a v:=by cases h with|gd h _=>exact h hg
def aA.Ns{a:AV}(h:aA w γ (.gd false a) v):v=undef:=by cases h with|gd _ h=>exact h rfl
def aA.fZ{cs:P2}(h:aA w γ (.agg cs) v):∃arr:P1,v=.agg arr/\ak w γ cs arr.toList:=by
 cases h with
 |@agg _ _ arr hl h=>exact⟨arr,rfl,Nm hl,fun i a v h1 h2=>h i a v h1 (Nm h2)⟩
def aA.Cn{cs:P2}(h:aA w γ (.aS cs) v):∃arr:P1,v=.tuple arr/\ak w γ cs arr.toList:=by
 cases h with
 |@aS _ _ arr hl h=>exact⟨arr,rfl,Nm hl,fun i a v h1 h2=>h i a v h1 (Nm h2)⟩
def aA.qH{f:FuncId}{first cap:P2}(h:aA w γ (.fn f first cap) v):∃fa ca:P1,v=.func (.func f) fa ca/\ak w γ first fa.toList/\ak w γ cap ca.toList:=by
 cases h with
 |@fn _ _ _ _ fa ca hl h eV h'=>exact⟨fa,ca,rfl,⟨Nm hl,fun i a v h1 h2=>h i a v h1 (Nm h2)⟩,⟨Nm eV,fun i a v h1 h2=>h' i a v h1 (Nm h2)⟩⟩
def aA.iO{row:P2}{o:Nat}(h:aA w γ (.ep row o) v):∃(b off:Nat)(cv:Nat->Value),v=.pointer (some ⟨b,off+o,none⟩)/\b<w.heap.size/\
  (∀(j:Nat)(c:AV),row[j]?=some c->w.cell? ⟨b,off+j,none⟩=some (cv j)/\γ.ro b (off+j)/\(cv j).oneCell'=true)/\(∀(j:Nat)(c:AV),row[j]?=some c->aA w γ.cT c (cv j)):=by
 cases h with
 |@ep _ _ _ b off cv hb hc h=>exact⟨b,off,cv,rfl,hb,hc,h⟩
def aA.UM{rt:Rt}{rows:T5}(h:aA w γ (.sl rt rows) v):∃(a:Option Addr)(cap b off sz:Nat)(cv:Nat->Nat->Value),v=.slice a rows.length cap/\
  rows.length<=cap/\(a=none->cap=0)/\(rows≠[]->a=some ⟨b,off,none⟩/\b<w.heap.size)/\(∀row∈rows,row.length=sz)/\
  (∀(i j:Nat)(c:AV),Qv rows i j=some c->w.cell? ⟨b,off+i*sz+j,none⟩=some (cv i j)/\γ.ro b (off+i*sz+j)/\(cv i j).oneCell'=true)/\
  (∀(i j:Nat)(c:AV),Qv rows i j=some c->aA w γ.cT c (cv i j))/\qE w γ a rows.length cap sz rt:=by
 cases h with
 |@sl _ _ _ a cap b off sz cv h1 h2 h3 h4 h5 h6 h7=>exact⟨a,cap,b,off,sz,cv,rfl,h1,h2,h3,h4,h5,h6,h7⟩
end inv
def aA.gh{w:World}{γ:G}{a:AV}{v:Value}(h:aA w γ.cT a v):aA w γ a v:=
 h.eM ⟨zzab _,fun _ _ _ h=>⟨h,rfl⟩,fun _ _ h=>(by cases h),fun _=>zzbp _,fun _ _ h=>(by cases h),fun _ _ h=>(by cases h),fun _ _ _ h=>(by cases h),Sz.refl w⟩
def ak.agg{w:World}{γ:G}{cs:P2}{vs:PQ}(h:ak w γ cs vs):aA w γ (.agg cs) (.agg vs.toArray):=
 .agg (Nm h.1) fun i c v h1 h2=>h.2 i c v h1 (Nm h2)
def ak.Pe{w:World}{γ:G}{cs:P2}{arr:P1}(h:ak w γ cs arr.toList):aA w γ (.agg cs) (.agg arr):=by
 have:=h.agg;simpa using this
def ak.take{w:World}{γ:G}{cs:P2}{vs:PQ}(h:ak w γ cs vs)(n:Nat):ak w γ (cs.take n) (vs.take n):=
 ⟨by simp[h.1],fun i a v h1 h2=>by
  rw[zzbj]at h1 h2;split at h1<;>simp_all;exact h.2 i a v h1 h2⟩
def ak.drop{w:World}{γ:G}{cs:P2}{vs:PQ}(h:ak w γ cs vs)(n:Nat):ak w γ (cs.drop n) (vs.drop n):=
 ⟨by simp[h.1],fun i a v h1 h2=>by
  rw[zzbl]at h1 h2;exact h.2 _ a v h1 h2⟩
def FW(r:Option Nat):Fence:={Fence.wide with round:=r}
section
variable {P:Program} {o:Oper} {a:Act} {w:World} {next:Act->World->Prop} {Q:PP} {r:Option Nat}
def UN{x:Next}{w':World}(h:(execOp a.eval o).run P w=.ok x w')(hx:∀d,x≠.defer d):∀c,o.op≠.defer c:=by
 intro c hc;unfold execOp at h;simp only[hc,Sem.run_bind]at h;cases hr:(resolve a.eval c o.type).run P w with
 |ok d qG=>rw[hr]at h;simp at h;exact hx d h.1.symm
 |halt e qG=>rw[hr]at h;simp at h
def wp_run{x:Next}{w':World}(h:(execOp a.eval o).run P w=.ok x w')(hx:∀d,x≠.defer d)(hn:o.uponIn (FW r) 0 P a next Q (.ok x w')):o.wpIn (FW r) 0 P a w next Q:=by
 refine⟨fun f _=>trivial,?_⟩;rw[Oper.semAt_eq _ _ _ (UN h hx),h];exact hn
def Zk{v:Value}{w':World}(h:(execOp a.eval o).run P w=.ok (.value v) w')(hn:next (a.put o.dst v) w'):o.wpIn (FW r) 0 P a w next Q:=
 wp_run h (fun _ h=>by cases h) hn
def oI{w':World}(h:(execOp a.eval o).run P w=.ok .skip w')(hn:next (a.put o.dst undef) w'):o.wpIn (FW r) 0 P a w next Q:=
 wp_run h (fun _ h=>by cases h) hn
def EK{f:FuncId}{args:P1}{w':World}(h:(execOp a.eval o).run P w=.ok (.enter f args) w')(hn:Calls P f args w' fun
   |.returned v,qG=>next (a.put o.dst v) qG
   |.panicked chain,qG=>Q (.panic chain) a qG
   |.outgrown,_=>LetsOut Q):o.wpIn (FW r) 0 P a w next Q:=
 wp_run h (fun _ h=>by cases h) ⟨fun h=>by simp[FW,Fence.wide]at h,callsIn_wide.2 hn⟩
end
def bn(b o n:Nat):(⟨b,o,none⟩:Addr).add n=⟨b,o+n,none⟩:=by
 unfold Addr.add;split<;>simp_all
def Qdn{P:Program}{w:World}{γ:G}{agg:Bool}{n b o:Nat}{t:TypeId}{i:TypeInfo}{d:TypeDesc}(hi:P.info? t=some i)(hd:P.underlying t=some d)(bJ:Kj P t=agg)
  (hn:agg=true->n=i.size){cs:P2}{cv:Nat->Value}(bL:∀(j:Nat)(c:AV),cs[j]?=some c->w.cell? ⟨b,o+j,none⟩=some (cv j))(zi:∀(j:Nat)(c:AV),cs[j]?=some c->aA w γ c (cv j))
  (hc:(Vh agg n cs).1):∃v,(Instr.loadAt t (.pointer (some ⟨b,o,none⟩))).run P w=.ok v w/\aA w γ (Vh agg n cs).2 v:=by
 obtain⟨h1,h2⟩:=hc;have aH:n<=cs.length:=by rw[zzaq]at h1;omega
 cases agg with
 |false=>
  have qp:=h2 rfl;subst qp;have hz:cs[0]?=some (cs.getD 0 .junk):=by simp[List.getD];cases cs<;>simp_all
  have hc0:=bL 0 _ hz;refine⟨cv 0,?_,?_⟩
  ·unfold Kj at bJ;rw[hd]at bJ;simp only[zzcn]at hc0;cases d<;>simp at bJ<;>simp[Instr.loadAt,Instr.sureAddr,loadVar,isAgg,run_underlying hd,hc0]
  simpa[Vh]using zi 0 _ hz
 |true=>
  have qp:=hn rfl;subst qp
  have hl:(loadCells ⟨b,o,none⟩ i.size).run P w=.ok ((List.range i.size).map cv).toArray w:=by
   refine run_loadCells w _ _ _ fun j hj=>?_;rw[bn];exact bL j _ (zzaf zE)
  refine⟨.agg ((List.range i.size).map cv).toArray,?_,?_⟩
  ·unfold Kj at bJ;rw[hd]at bJ;cases d<;>simp at bJ<;>simp[Instr.loadAt,Instr.sureAddr,loadVar,isAgg,run_underlying hd,sizeOf,typeInfo,hi,hl]
  simp only[Vh,if_true];refine ak.agg ⟨by simp;omega,fun j c v dW ov=>?_⟩;rw[zzbj]at dW;split at dW
  ·simp at ov;obtain⟨k,hk,rfl⟩:=ov;rename_i ai;rw[zzej ai]at hk;cases hk;exact zi j c dW
  cases dW
open Go Go.RowKit
variable {N:Nat} {w0:eN} {an:Nat->Nat->Prop} {γ:G} {w:World} {B:Nat->PH} {L:Nat->Option Nat}
def ug{a:AV}{v:Value}(h:aA w γ a v)(hc:Qx a=true):v.oneCell'=true:=by
 cases a<;>simp[Qx]at hc<;>cases h<;>first|rfl|(rename_i p;cases p<;>rfl)
def ak.map{ro':Nat->Nat->Prop}{as':P2}{vs:PQ}{f:AV->AV}(h:ak w γ as' vs)(hf:∀a∈as',∀v,aA w γ a v->aA w (G0 ro') (f a) v):ak w (G0 ro') (as'.map f) vs:=
 ⟨Nm h.1,fun i a v h1 h2=>by
  simp at h1;obtain⟨a',h3,rfl⟩:=h1;exact hf a' (zzad h3) v (h.2 i a' v h3 h2)⟩
def ak.vE{as':P2}{p:AV->Bool}{a:AV}(ha:a∈as')(hp:p a=true):as'.any p=true:=zzbr.2 ⟨a,ha,hp⟩
def Qeg(sz:Nat):∀(n:Nat)(l:P2),(aY sz n l).length=n
 |0,_=>rfl
 |n+1,l=>by simp[aY,Qeg sz n]
def As{sz:Nat}:∀{n:Nat}{l:P2}{row:P2},n*sz<=l.length->row∈aY sz n l->row.length=sz
 |0,_,_,_,h=>by cases h
 |n+1,l,row,hl,h=>by
  rw[zzbq,zzdt]at hl;rcases zzap.1 h with rfl|h
  ·simp;omega
  exact As (by simp;omega) h
def Wu{sz:Nat}{c:AV}:∀{n:Nat}{l:P2}{i j:Nat},Qv (aY sz n l) i j=some c->i<n/\j<sz/\l[i*sz+j]?=some c
 |0,_,i,j,h=>by simp[Qv,aY]at h
 |n+1,l,0,j,h=>by
  simp only[Qv,aY,zzgu,zzcv]at h;rw[zzbj]at h;split at h
  ·rename_i hj;exact⟨zE,hj,Nm h⟩
  cases h
 |n+1,l,i+1,j,h=>by
  have h':Qv (aY sz n (l.drop sz)) i j=some c:=by simpa[Qv,aY]using h
  obtain⟨h1,h2,h3⟩:=Wu h';rw[zzbl]at h3;refine⟨zE,h2,?_⟩;rw[zzbq,zzdt,zzfe (i*sz) sz,zzan];exact h3
def ko(hm:au N w0 an γ w B L){m:AM}(hB:∀id cells,m.boxes[id]?=some cells->B id=some cells){ro':Nat->Nat->Prop}(fV:∀b o,γ.ro b o->ro' b o):
  ∀(d:Nat)(a:AV)(v:Value),aA w γ a v->(Ve d a=true->∀id b,γ.β id=some b->∀o,ro' b o)->aA w (G0 ro') (bz m d a) v:=by
 have aqZ:∀(a:AV)(v:Value),aA w γ.cT a v->aA w (G0 ro') a v:=fun a v h=>
  h.mono ⟨zzab _,fun b o _ h=>⟨fV b o h,rfl⟩,fun _ _ h=>(by cases h),fun _=>zzab _,fun _ _ h=>(by cases h),rfl,fun _ _ _ h=>(by cases h),fun _ h=>h.elim,Sz.refl w⟩
 intro d;induction d with
 |zero=>exact fun _ _ _ _=>.junk _
 |succ d ih=>
  intro a v h hp;cases a with
  |junk=>exact .junk _
  |bool b=>rw[h.bu];exact .bool b
  |int k n=>rw[h.aI];exact .int k n
  |str s=>rw[h.cq];exact .str s
  |nilfn=>rw[h.Pd];exact .nilfn
  |gd g a=>exact .junk _
  |yld l=>exact .junk _
  |mp id=>exact .junk _
  |nilv p=>cases h;exact .nilv p
  |it id=>exact .junk _
  |aJ kn kvs=>exact .junk _
  |mitr mid n s=>exact .junk _
  |agg cs=>
   obtain⟨arr,rfl,hr⟩:=h.fZ;refine ak.Pe (hr.map fun a ha v hv=>ih a v hv fun ku=>hp ?_);simp only[Ve];exact ak.vE ha ku
  |aS cs=>
   obtain⟨arr,rfl,hr⟩:=h.Cn;have:=hr.map (ro':=ro') (f:=bz m d) fun a ha v hv=>ih a v hv fun ku=>hp (by simp only[Ve];exact ak.vE ha ku);exact .aS (Nm this.1) fun i c v h1 h2=>this.2 i c v h1 (Nm h2)
  |fn f first cap=>
   obtain⟨fa,ca,rfl,h1,h2⟩:=h.qH;have t1:=h1.map (ro':=ro') (f:=bz m d) fun a ha v hv=>ih a v hv fun ku=>hp (by simp only[Ve];rw[ak.vE ha ku];rfl);have t2:=h2.map (ro':=ro') (f:=bz m d) fun a ha v hv=>ih a v hv fun ku=>hp (by simp only[Ve];rw[ak.vE ha ku];simp);exact .fn (Nm t1.1) (fun i c v h1 h2=>t1.2 i c v h1 (Nm h2)) (Nm t2.1) fun i c v h1 h2=>t2.2 i c v h1 (Nm h2)
  |ep row o=>
   obtain⟨b,off,cv,rfl,hb,hc,hr⟩:=h.iO;exact .ep cv hb (fun j c hj=>⟨(hc j c hj).1,fV _ _ (hc j c hj).2.1,(hc j c hj).2.2⟩) fun j c hj=>aqZ _ _ (hr j c hj)
  |sl rt rows=>
   obtain⟨a,cap,b,off,sz,cv,rfl,h1,h2,h3,h4,h5,h6,h7⟩:=h.UM
   have key:∀y4,qE w (G0 ro') a rows.length cap sz y4->aA w (G0 ro') (.sl y4 rows) (.slice a rows.length cap):=fun y4 aX=>
    .sl b off sz cv h1 h2 h3 h4 (fun i j c hj=>⟨(h5 i j c hj).1,fV _ _ (h5 i j c hj).2.1,(h5 i j c hj).2.2⟩) (fun i j c hj=>aqZ _ _ (h6 i j c hj)) aX
   cases rt with
   |ro=>exact key .ro trivial
   |full=>exact key .full h7
   |nil=>exact key .nil h7
   |nn=>exact key .nn h7
   |own id dy=>exact key .ro trivial
  |bs id off len sz=>
   obtain⟨b,cap,arr,te,hb,rfl,hl,hh,hs⟩:=h.cN;have eX:=hp rfl;obtain⟨_,ai,_⟩:=hm.β id b hb;simp only[bz];cases hble:Nat.ble (off+len*sz) (m.boxes.getD id []).length with
   |false=>exact .junk _
   |true=>
    have cn:=zzbc hble
    have cp:∀(k:Nat)(c:AV),(((m.boxes.getD id []).map (bz m d)).drop off)[k]?=some c->∃c' u,c=bz m d c'/\arr[off+k]?=some u/\arr.getD (off+k) undef=u/\aA w γ c' u/\u.oneCell'=true:=fun k c hk=>by
     rw[zzbl,zzbm]at hk;cases gI:m.boxes[id]? with
     |none=>simp[List.getD,gI]at hk
     |some cells=>
      have:m.boxes.getD id []=cells:=by simp[List.getD,gI]
      rw[this]at hk;obtain⟨bN,e',g2,g3,g4⟩:=hm.box id cells b (hB id cells gI) hb;rw[hh]at g2;cases g2;cases hc:cells[off+k]? with
      |none=>simp[hc]at hk
      |some c'=>
       simp[hc]at hk;have h1:=(zza.1 hc).1;have h2:=g3.1;have bZ:off+k<arr.size:=by simp at h2;omega
       have hu:arr[off+k]?=some arr[off+k]:=zzah bZ;exact⟨c',arr[off+k],hk.symm,hu,by simp[bZ],g3.2 _ c' _ hc (by simp[bZ]),g4 _ zd⟩
    have aH:=Qeg sz len (((m.boxes.getD id []).map (bz m d)).drop off)
    have hr:aA w (G0 ro') (.sl .ro (aY sz len (((m.boxes.getD id []).map (bz m d)).drop off))) (.slice (some ⟨b,off,none⟩) (aY sz len (((m.boxes.getD id []).map (bz m d)).drop off)).length cap):=by
     refine .sl b off sz (fun i j=>arr.getD (off+(i*sz+j)) undef) (by rw[aH];exact hl) (fun h=>by cases h) (fun _=>⟨rfl,ai⟩) (fun row ah=>?_) (fun i j c hc=>?_) (fun i j c hc=>?_) trivial
     ·exact As (by rw[zzcw,zzbv];omega) ah
     ·obtain⟨_,_,h3⟩:=Wu hc;obtain⟨c',u,rfl,h4,h5,h6,h7⟩:=cp _ _ h3;rw[aN hh,zzan,h5];exact⟨h4,eX id b hb _,h7⟩
     obtain⟨_,_,h3⟩:=Wu hc;obtain⟨c',u,rfl,h4,h5,h6,h7⟩:=cp _ _ h3;rw[UH,h5];exact ih c' u h6 fun _=>eX
    rw[aH]at hr;exact hr
  |ptr id o=>
   obtain⟨b,hb,rfl⟩:=h.dJ;have eX:=hp rfl;obtain⟨_,ai,_⟩:=hm.β id b hb;simp only[bz];have hz:(.pointer (some ⟨b,o,none⟩):Value)=.pointer (some ⟨b,0+o,none⟩):=by rw[zzbs]
   rw[hz];cases gI:m.boxes[id]? with
   |none=>
    have:m.boxes.getD id []=[]:=by simp[List.getD,gI]
    rw[this];exact .ep (fun _=>undef) ai (fun j c hj=>by simp at hj) fun j c hj=>by simp at hj
   |some cells=>
    have:m.boxes.getD id []=cells:=by simp[List.getD,gI]
    rw[this];obtain⟨arr,e,g2,g3,g4⟩:=hm.box id cells b (hB id cells gI) hb
    have cp:∀(j:Nat)(c:AV),(cells.map (bz m d))[j]?=some c->∃c' u,cells[j]?=some c'/\c=bz m d c'/\arr[j]?=some u/\arr.getD j undef=u/\aA w γ c' u:=fun j c hj=>by
     simp at hj;obtain⟨c',h1,rfl⟩:=hj
     have bZ:j<arr.size:=by
      have:=g3.1;rcases zzaa j cells.length with h|h
      ·simp at this;omega
      rw[zzas h]at h1;cases h1
     have hu:arr[j]?=some arr[j]:=zzah bZ;exact⟨c',arr[j],h1,rfl,hu,by simp[bZ],g3.2 j c' _ h1 (by simp[bZ])⟩
    refine .ep (fun j=>arr.getD j undef) ai (fun j c hj=>?_) fun j c hj=>?_
    ·obtain⟨c',u,h1,h2,h3,h4,h5⟩:=cp j c hj;rw[zzbs,aN g2,h4];exact⟨h3,eX id b hb j,g4 u (by simpa using zzda h3)⟩
    obtain⟨c',u,h1,rfl,h3,h4,h5⟩:=cp j c hj;rw[UH,h4];exact ih c' u h5 fun _=>eX
def UO{w':World}{γ':G}{r:AV}{v:Value}(hf:flat r=true)(h:aA w γ r v):aA w' γ' r v:=by
 have one:∀(a:AV)(v:Value),iN a=true->aA w γ a v->aA w' γ' a v:=fun a v hf h=>by
  cases a<;>simp[iN]at hf
  ·rw[h.bu];exact .bool _
  ·rw[h.aI];exact .int _ _
  rw[h.cq];exact .str _
 cases r with
 |aS cs=>
  obtain⟨arr,rfl,hr⟩:=h.Cn;simp only[flat]at hf;exact .aS (Nm hr.1) fun i c v h1 h2=>one c v (zzay.1 hf c (zzad h1)) (hr.2 i c v h1 (Nm h2))
 |_=>exact one _ _ hf h
def JD{P:Program}{gl:Nat->AV}(hm:au N w0 an γ w B L){m:AM}(hB:∀id cells,m.boxes[id]?=some cells->B id=some cells)(lE:∀g,aA w γ.cT (gl g) (.pointer (some ⟨g,0,none⟩)))
  {f:FuncId}{as':P2}{vs:PQ}{r:AV}(hr:ak w γ as' vs)(hp:Pure P gl f (as'.map (bz m 6)) r)(fh:as'.any (Ve 6)=true->flat r=true)
  {R:Ending->World->Prop}(hk:∀v w' γ',Ev w γ w' γ'->au N w0 an γ' w' B L->aA w' γ' r v->R (.returned v) w'):Calls P f vs.toArray w R:=by
 let ro':Nat->Nat->Prop:=fun b o=>γ.ro b o\/(as'.any (Ve 6)=true/\∃id,γ.β id=some b)
 have oJ:ak w (G0 ro') (as'.map (bz m 6)) vs:=hr.map fun a ha v hv=>ko hm hB (fun b o h=>.inl h) 6 a v hv fun ku id b hb o=>.inr ⟨ak.vE ha ku,id,hb⟩
 have awA:∀g,aA w (G0 ro') (gl g) (.pointer (some ⟨g,0,none⟩)):=fun g=>
  (lE g).mono ⟨zzab _,fun b o _ h=>⟨.inl h,rfl⟩,fun _ _ h=>(by cases h),fun _=>zzab _,fun _ _ h=>(by cases h),rfl,fun _ _ _ h=>(by cases h),fun _ h=>h.elim,Sz.refl w⟩
 refine(hp.2 ro' w vs awA oJ).mono ?_;rintro e w' ⟨v,rfl,hb,hv⟩;refine hk v w' _ (hm.dn hb) (hm.grow hb) ?_;cases hany:as'.any (Ve 6)with
 |true=>exact UO (fh hany) hv
 |false=>
  refine hv.eM ⟨zzab _,fun b o ai h=>⟨?_,rfl⟩,fun _ _ h=>(by cases h),fun _=>zzbp _,fun _ _ h=>(by cases h),fun _ _ h=>(by cases h),fun _ _ _ h=>(by cases h),Sz.refl w'⟩;obtain(h|⟨h,_⟩)|h:=h
  ·exact .inl h
  ·rw[hany]at h;cases h
  exact .inr ⟨h,ai⟩
open Go Go.RowKit
def Vb(n sz:Nat)(cv:Nat->Nat->Value):PQ:=(List.range (n*sz)).map fun k=>cv (k/sz) (k%sz)
def Zd(n sz:Nat)(cv:Nat->Nat->Value):(Vb n sz cv).length=n*sz:=by simp[Vb]
def qI{n sz:Nat}{cv:Nat->Nat->Value}{k:Nat}{u:Value}(h:(Vb n sz cv)[k]?=some u):k<n*sz/\u=cv (k/sz) (k%sz):=by
 simp only[Vb,zzbm]at h;rcases zzaa k (n*sz)with hk|hk
 ·rw[zzej hk]at h;simp at h;exact⟨hk,h.symm⟩
 rw[zzas (Nm hk)]at h;simp at h
def vF(n sz:Nat)(cv:Nat->Nat->Value){i j:Nat}(hi:i<n)(hj:j<sz):(Vb n sz cv)[i*sz+j]?=some (cv i j):=by
 have hk:i*sz+j<n*sz:=by
  have:(i+1)*sz<=n*sz:=zzbe _ hi;rw[zzbq,zzdt]at this;omega
 have h1:(i*sz+j)/sz=i:=by
  rw[zzeg,Nat.mul_add_div zE,zzew hj];rfl
 have h2:(i*sz+j)%sz=j:=by
  rw[zzeg,Nat.mul_add_mod,zzgp hj]
 simp[Vb,zzej hk,h1,h2]
def vG{rows:T5}{sz k:Nat}(hsz:∀row∈rows,row.length=sz)(hk:k<rows.length*sz):∃c,Qv rows (k/sz) (k%sz)=some c:=by
 have h0:0<sz:=by
  rcases zzck sz with h|h;· subst h;simp at hk
  · exact h
 have h1:k/sz<rows.length:=by rw[Nat.div_lt_iff_lt_mul h0];exact hk
 have h2:k%sz<(rows[k/sz]).length:=by rw[hsz _ (zzdd h1)];exact zzee _ h0
 exact⟨rows[k/sz][k%sz],by simp[Qv,h1,h2]⟩
structure qq (w:World) (γ:G) (rows:T5) (a:Option Addr) (cap b off sz:Nat) (cv:Nat->Nat->Value):Prop where
 hcap:rows.length<=cap
 hnil:a=none->cap=0
 at_:rows≠[]->a=some ⟨b,off,none⟩/\b<w.heap.size
 hsz:∀row∈rows,row.length=sz
 cell:∀(i j:Nat)(c:AV),Qv rows i j=some c->w.cell? ⟨b,off+i*sz+j,none⟩=some (cv i j)/\γ.ro b (off+i*sz+j)/\(cv i j).oneCell'=true
 rep:∀(i j:Nat)(c:AV),Qv rows i j=some c->aA w γ.cT c (cv i j)
def qq.mk'{w:World}{γ:G}{rows:T5}{a:Option Addr}{cap b off sz:Nat}{cv:Nat->Nat->Value}(h:qq w γ rows a cap b off sz cv){rt:Rt}(aX:qE w γ a rows.length cap sz rt):
  aA w γ (.sl rt rows) (.slice a rows.length cap):=.sl b off sz cv h.hcap h.hnil h.at_ h.hsz h.cell h.rep aX
def aA.b9{w:World}{γ:G}{v:Value}{rt:Rt}{rows:T5}(h:aA w γ (.sl rt rows) v):∃(a:Option Addr)(cap b off sz:Nat)(cv:Nat->Nat->Value),
  v=.slice a rows.length cap/\qq w γ rows a cap b off sz cv/\qE w γ a rows.length cap sz rt:=by
 obtain⟨a,cap,b,off,sz,cv,h0,h1,h2,h3,h4,h5,h6,h7⟩:=h.UM;exact⟨a,cap,b,off,sz,cv,h0,⟨h1,h2,h3,h4,h5,h6⟩,h7⟩
def qq.cells{w:World}{γ:G}{rows:T5}{a:Option Addr}{cap b off sz:Nat}{cv:Nat->Nat->Value}(h:qq w γ rows a cap b off sz cv):
  ∀k u,(Vb rows.length sz cv)[k]?=some u->w.cell? ((⟨b,off,none⟩:Addr).add k)=some u:=fun k u hu=>by
 obtain⟨hk,rfl⟩:=qI hu;obtain⟨c,hc⟩:=vG h.hsz hk;have:=(h.cell _ _ c hc).1
 have h0:0<sz:=by
  rcases zzck sz with h|h;· subst h;simp at hk
  · exact h
 rw[bn];rw[<- this]
 have e:off+k=off+k/sz*sz+k%sz:=by
  have:=zzgw k sz;rw[zzeg]at this;omega
 rw[e]
def qq.one{w:World}{γ:G}{rows:T5}{a:Option Addr}{cap b off sz:Nat}{cv:Nat->Nat->Value}(h:qq w γ rows a cap b off sz cv):
  ∀u∈Vb rows.length sz cv,u.oneCell'=true:=fun u hu=>by
 obtain⟨k,hk⟩:=zzcq.1 hu;obtain⟨Co,rfl⟩:=qI hk;obtain⟨c,hc⟩:=vG h.hsz Co;exact(h.cell _ _ c hc).2.2
def qq.first{P:Program}{w:World}{γ:G}{rows:T5}{a:Option Addr}{cap b off sz:Nat}{cv:Nat->Nat->Value}(h:qq w γ rows a cap b off sz cv){w':World}(hw:∀x,w'.cell? x=w.cell? x):
  (Builtin.firstCells sz rows.length (.slice a rows.length cap)).run P w'=.ok (Vb rows.length sz cv).toArray w':=by
 cases hr:rows with
 |nil=>
  subst hr;cases a with
  |none=>simp[Builtin.firstCells,Vb]
  |some a=>simp[Builtin.firstCells,loadCells,loadCellsFrom,Vb]
 |cons r rs=>
  rw[<- hr];obtain⟨rfl,_⟩:=h.at_ (by rw[hr];simp);exact run_firstCells_some w' sz rows.length _ rows.length cap _ (Zd _ _ _) fun j u hj=>by rw[hw];exact h.cells j u hj
def Qcu(n:Nat)(cv gi:Nat->Nat->Value):Nat->Nat->Value:=fun i j=>if i<n then cv i j else gi (i-n) j
def Un{rows aq:T5}{i j:Nat}{c:AV}(h:Qv (rows++aq) i j=some c):
  (i<rows.length/\Qv rows i j=some c)\/(rows.length<=i/\Qv aq (i-rows.length) j=some c):=by
 unfold Qv at*
 rcases zzaa i rows.length with hi|hi
 ·rw[zzaj hi]at h;exact .inl ⟨hi,h⟩
 rw[zzao hi]at h;exact .inr ⟨hi,h⟩
def mV{rows:T5}{i j:Nat}{c:AV}(h:Qv rows i j=some c):∃hi:i<rows.length,j<rows[i].length:=by
 unfold Qv at h;cases hr:rows[i]? with
 |none=>simp[hr]at h
 |some row=>
  obtain⟨hi,rfl⟩:=zza.1 hr;simp[hr]at h;exact⟨hi,(zza.1 h).1⟩
def Au(n:Nat):∀(k c:Nat),c<n->Builtin.growBy n k c<=n+n/4+192
 |0,c,h=>by simp only[Builtin.growBy];omega
 |k+1,c,h=>by
  simp only[Builtin.growBy];rw[if_neg zE];by_cases h2:c+(c+768)/4<n
  ·exact Au n k _ h2
  cases k with
  |zero=>simp only[Builtin.growBy];omega
  |succ k=>simp only[Builtin.growBy];rw[if_pos zE];omega
def JE{n c:Nat}(h:c<n):2*Builtin.nextslicecap n c<=3*n+4000:=by
 unfold Builtin.nextslicecap;split
 ·omega
 split
 ·omega
 have:=Au n 4 c h;omega
section run
variable {P:Program} {w:World} {γ:G} {t ty e:TypeId} {i:TypeInfo} {z:Value} {rows aq:T5} {a a2:Option Addr} {cap b off cc b2 fW sz:Nat} {cv gi:Nat->Nat->Value}
def Qeb(ht:P.underlying t=some (.slice e))(hi:P.info? e=some i)(a2:Option Addr)(cc len:Nat)(hcap:len<=cap):
  (Builtin.append_ #[t,t] ty #[.slice a len cap,.slice a2 0 cc]).run P w=.ok (.slice a len cap) w:=by
 cases a<;>cases a2<;>simp[Builtin.append_,run_underlying ht,sizeOf,typeInfo,hi,Builtin.lenOf,hcap,Builtin.firstCells,loadCells,loadCellsFrom,storeCells]
def oK(ht:P.underlying t=some (.slice e))(hi:P.info? e=some i)(hz:i.zero=some z)(h:qq w γ rows a cap b off i.size cv){γ2:G}(h2:qq w γ2 aq a2 cc b2 fW i.size gi)
  (hg:cap<rows.length+aq.length)(cI:(3*(rows.length+aq.length)+4000)*i.bytes<=562949953421312)(vH:rows.length+aq.length<=9223372036854775807):
  ∃bh,rows.length+aq.length<=bh/\(Builtin.append_ #[t,t] ty #[.slice a rows.length cap,.slice a2 aq.length cc]).run P w=
   .ok (.slice (some ⟨w.heap.size,0,none⟩) (rows.length+aq.length) bh)
    (w.drew.alloc (.cells ((Vb rows.length i.size cv).toArray++(Vb aq.length i.size gi).toArray++Builtin.zeroCells z.cells (bh-(rows.length+aq.length))) e)):=by
 have hn:¬(rows.length+aq.length<=cap):=zE
 have ak1:¬(9223372036854775807<((rows.length:Int)+(aq.length:Int))):=zE
 have cn:=JE hg
 have ak2:¬(281474976710656<Builtin.nextslicecap (rows.length+aq.length) cap*i.bytes):=by
  have:2*Builtin.nextslicecap (rows.length+aq.length) cap*i.bytes<=(3*(rows.length+aq.length)+4000)*i.bytes:=zzbe _ zE;rw[Nat.mul_assoc]at this;omega
 have f1:=h.first (P:=P) (w':=w.drew) fun _=>rfl
 have f2:=h2.first (P:=P) (w':=w.drew) fun _=>rfl
 refine⟨grownCap w (rows.length+aq.length) cap e,grownCap_ge w _ _ _,?_⟩;simp[Builtin.append_,run_underlying ht,sizeOf,typeInfo,zeroValue,hi,hz,Builtin.lenOf,hn,ak1,ak2,Question.forced,f1,f2,newRow,grownCap];congr 2;apply Array.ext';simp[zzav]
def Cp(ht:P.underlying t=some (.slice e))(hi:P.info? e=some i)(h2:qq w γ aq a2 cc b2 fW i.size gi){len:Nat}
  (cA:len+aq.length<=cap){arr:P1}{e':TypeId}(hh:w.heap[b]?=some (.cells arr e' (0,0)))(hsz:off+cap*i.size<=arr.size):
  (
   Builtin.append_ #[t,t] ty #[.slice (some ⟨b,off,none⟩) len cap,.slice a2 aq.length cc]).run P w=
   .ok (.slice (some ⟨b,off,none⟩) (len+aq.length) cap) (w.setCells b (off+len*i.size) (Vb aq.length i.size gi)):=by
 have f2:=h2.first (P:=P) (w':=w) fun _=>rfl
 have cn:(len+aq.length)*i.size<=cap*i.size:=zzbe _ cA;rw[zzbq]at cn
 have bY:=run_storeCells_cells (P:=P) b (off+len*i.size) (Vb aq.length i.size gi) 0 w (fun j hj=>by
   rw[Zd]at hj;rw[aN hh,zzcn,zzah zE];rfl)
  (fun j hj=>Zp hh) h2.one
 simp only[zzcn]at bY;simp[Builtin.append_,run_underlying ht,sizeOf,typeInfo,hi,Builtin.lenOf,cA,f2,bn,bY]
end run
open Go Go.RowKit
variable {N:Nat} {w0:eN} {an:Nat->Nat->Prop} {γ:G} {w:World} {B:Nat->PH} {L:Nat->Option Nat}
def qq.fix{rows:T5}{a:Option Addr}{cap b off sz dy:Nat}{cv:Nat->Nat->Value}(h:qq w γ rows a cap b off dy cv)(hr:∀row∈rows,row.length=sz):qq w γ rows a cap b off sz cv:=by
 cases ee:rows with
 |nil=>
  subst ee;exact⟨h.hcap,h.hnil,h.at_,hr,fun i j c hc=>by simp[Qv]at hc,fun i j c hc=>by simp[Qv]at hc⟩
 |cons r rs=>
  have e:dy=sz:=(h.hsz r (by simp[ee])).symm.trans (hr r (by simp[ee]));rw[<- ee];subst e;exact h
def qq.mono{rows:T5}{a:Option Addr}{cap b off sz:Nat}{cv:Nat->Nat->Value}(h:qq w γ rows a cap b off sz cv){w':World}{γ':G}(e:Ev w γ w' γ'):qq w' γ' rows a cap b off sz cv:=by
 obtain⟨a',ay5,b',mW,dy,cv',e0,h1,h2⟩:=((h.mk' (rt:=.ro) trivial).mono e).b9;refine⟨h.hcap,h.hnil,fun hn=>⟨(h.at_ hn).1,zzba (h.at_ hn).2 e.size⟩,h.hsz,fun i j c hc=>?_,fun i j c hc=>(h.rep i j c hc).mono e.cT⟩;have hb:=(h.at_ (by rintro rfl;simp[Qv]at hc)).2;obtain⟨g1,g2,g3⟩:=h.cell i j c hc;exact⟨(e.ro _ _ hb g2).2.trans g1,(e.ro _ _ hb g2).1,g3⟩
def qq.EL{rows aq:T5}{a a2:Option Addr}{cap b off cc b2 fW sz:Nat}{cv gi:Nat->Nat->Value}(h:qq w γ rows a cap b off sz cv){γ2:G}(h2:qq w γ2 aq a2 cc b2 fW sz gi)(oM:∀i j c,Qv aq i j=some c->aA w γ.cT c (gi i j))
  {w':World}{γ':G}(e:Ev w γ w' γ'){nb:Nat}{rest:P1}{te:TypeId}
  (hh:w'.heap[nb]?=some (.cells ((Vb rows.length sz cv).toArray++(Vb aq.length sz gi).toArray++rest) te (0,0)))
  (fV:∀o,o<(rows.length+aq.length)*sz->γ'.ro nb o){bh:Nat}(hcap:rows.length+aq.length<=bh):
  qq w' γ' (rows++aq) (some ⟨nb,0,none⟩) bh nb 0 sz (Qcu rows.length cv gi):=by
 refine⟨Nm hcap,fun hn=>(by cases hn),fun _=>⟨rfl,aR hh⟩,fun row hr=>?_,fun i j c hc=>?_,fun i j c hc=>?_⟩
 ·rcases zzam.1 hr with hr|hr
  ·exact h.hsz row hr
  exact h2.hsz row hr
 ·obtain⟨hi,hj⟩:=mV hc
  have Nt:j<sz:=by
   rcases zzam.1 (zzdd hi)with hr|hr
   ·rw[h.hsz _ hr]at hj;exact hj
   rw[h2.hsz _ hr]at hj;exact hj
  have ai:i*sz+j<(rows.length+aq.length)*sz:=by
   have:(i+1)*sz<=(rows.length+aq.length)*sz:=zzbe _ (by simp at hi;omega);rw[zzbq,zzdt]at this;omega
  rw[zzbs];refine⟨?_,fV _ ai,?_⟩
  ·rw[aN hh];rcases Un hc with⟨h1,h3⟩|⟨h1,h3⟩
   ·have:=vF rows.length sz cv h1 Nt;have hl:i*sz+j<(Vb rows.length sz cv).length:=(zza.1 this).1;rw[Array.append_assoc,zzf (Nm hl)];simp[Qcu,h1,this]
   have h4:i-rows.length<aq.length:=(mV h3).1;have:=vF aq.length sz gi h4 Nt
   have e1:i*sz+j=rows.length*sz+((i-rows.length)*sz+j):=by
    rw[Nat.sub_mul];have:rows.length*sz<=i*sz:=zzbe _ h1;omega
   have hl:(i-rows.length)*sz+j<(Vb aq.length sz gi).length:=(zza.1 this).1;rw[Array.append_assoc,Array.getElem?_append_right (by simp[Zd];omega)];rw[zzf (by simp[Zd]at hl |-;omega)];have e2:i*sz+j-rows.length*sz=(i-rows.length)*sz+j:=zE
   simp only[zzeo,Zd,e2,List.getElem?_toArray,this,Qcu,if_neg (zzbk.2 h1)]
  unfold Qcu;rcases Un hc with⟨h1,h3⟩|⟨h1,h3⟩
  ·rw[if_pos h1];exact(h.cell i j c h3).2.2
  rw[if_neg (zzbk.2 h1)];exact(h2.cell _ j c h3).2.2
 unfold Qcu;rcases Un hc with⟨h1,h3⟩|⟨h1,h3⟩
 ·rw[if_pos h1];exact(h.rep i j c h3).mono e.cT
 rw[if_neg (zzbk.2 h1)];exact(oM _ j c h3).mono e.cT
def Yj(w:World)(o:Obj):(w.drew.alloc o).heap[w.heap.size]?=some o:=by
 show(w.heap.push o)[w.heap.size]?=some o;simp
def tG(w:World)(o:Obj):w.heap.size<(w.drew.alloc o).heap.size:=by
 show _<(w.heap.push o).size;simp
def qJ(w:World)(o:Obj):Below w.heap.size w (w.drew.alloc o):=
 ((Below.refl w.heap.size w).drew).alloc (zzab _) o
section
variable {P:Program} {t ty e:TypeId} {i:TypeInfo} {z:Value} {rows aq:T5} {rt Sh:Rt} {v1 v2:Value}
def ak3(hm:au N w0 an γ w B L)(ht:P.underlying t=some (.slice e))(hi:P.info? e=some i)(hz:i.zero=some z)(h1:aA w γ (.sl .full rows) v1)(h2:aA w γ (.sl Sh aq) v2)
  (hr:∀row∈rows++aq,row.length=i.size)(cI:(3*(rows.length+aq.length)+4000)*i.bytes<=562949953421312)(vH:rows.length+aq.length<=9223372036854775807):
  ∃v w' γ',(Builtin.append_ #[t,t] ty #[v1,v2]).run P w=.ok v w'/\Ev w γ w' γ'/\au N w0 an γ' w' B L/\aA w' γ' (.sl .ro (rows++aq)) v:=by
 obtain⟨a,cap,b,off,sz,cv,rfl,s1,r1⟩:=h1.b9;obtain⟨a2,cc,b2,fW,sz2,gi,rfl,s2,r2⟩:=h2.b9;replace s1:=s1.fix (sz:=i.size) fun row h=>hr row (by simp[h]);replace s2:=s2.fix (sz:=i.size) fun row h=>hr row (by simp[h]);by_cases hn:aq=[]
 ·subst hn;refine⟨_,w,γ,Qeb ht hi _ _ _ s1.hcap,Ev.refl _ _,hm,?_⟩;rw[zzau];exact s1.mk' trivial
 have lF:0<aq.length:=zzdb.2 hn;have hcap:cap=rows.length:=r1;obtain⟨bh,cn,aZ⟩:=oK (P:=P) (ty:=ty) ht hi hz s1 s2 zE cI vH;have hb:=qJ w (.cells ((Vb rows.length i.size cv).toArray++(Vb aq.length i.size gi).toArray++Builtin.zeroCells z.cells (bh-(rows.length+aq.length))) e);refine⟨_,_,_,aZ,hm.dn hb,hm.grow hb,?_⟩;have hj:=s1.EL s2 s2.rep (hm.dn hb) (nb:=w.heap.size) (te:=e) (Yj w _) (fun o _=>.inr ⟨zzab _,tG w _⟩) cn;have:=hj.mk' (rt:=.ro) trivial;rwa [zzak]at this
def G.mark(γ:G)(id n:Nat):G:={γ with cur:=fun i=>if i=id then n else γ.cur i}
def au.oN(hm:au N w0 an γ w B L){id n:Nat}(hn:γ.cur id<=n)(h0:γ.cur id=n\/γ.own id=none):Ev w γ w (γ.mark id n) where
 size:=zzab _
 ro _ _ _ h:=⟨h,rfl⟩
 β _ _ h:=h
 cur j:=by simp only[G.mark];split<;>simp_all
 mm _ _ h:=h
 lp:=rfl
 own j b _ ho:=⟨ho,fun arr _ h=>⟨arr,h,zzab _⟩,fun _ h=>h⟩
 sp _ h:=⟨h,rfl⟩
 ss:=Sz.refl w
def au.mark(hm:au N w0 an γ w B L){id n:Nat}(hn:γ.cur id<=n)(h0:γ.cur id=n\/γ.own id=none):au N w0 an (γ.mark id n) w B (fun i=>if i=id then some n else L i) where
 bs:=w0.st _ _ _ _ hm.bs ⟨rfl,rfl,rfl,zzab _,fun _ _ _=>rfl,fun _ _ _ h=>⟨h,rfl⟩,fun _ hb=>.inl hb,fun _ _ h=>.inl h⟩
 hN:=hm.hN
 an:=hm.an
 robd:=hm.robd
 box j cs b hb h1:=by
  obtain⟨arr,e,h2,h3,h4⟩:=hm.box j cs b hb h1;exact⟨arr,e,h2,h3.mono (hm.oN hn h0),h4⟩
 β:=hm.β
 inj:=hm.inj
 own j b hb:=by
  obtain⟨h1,h2,k,hk⟩:=hm.own j b hb;refine⟨h1,h2,?_⟩;by_cases hj:j=id
  ·exact⟨n,by simp[hj]⟩
  exact⟨k,by simp[hj,hk]⟩
 oinj:=hm.oinj
 sp:=hm.sp
 mm i b hb:=by
  obtain⟨h1,h2,h3,h4,h5,h6,h8,h7⟩:=hm.mm i b hb;exact⟨h1,h2,h3,h4,h5,h6,h8,h7.mono (hm.oN hn h0).cG.Ap rfl⟩
 minj:=hm.minj
 len j k hj:=by
  by_cases h:j=id
  ·simp[h]at hj;simp[G.mark,h,hj]
  simp[h]at hj;simp[G.mark,h,hm.len j k hj]
 cur0 j hj:=by
  by_cases h:j=id
  ·simp[h]at hj
  simp[h]at hj;simp[G.mark,h,hm.cur0 j hj]
def vI(hm:au N w0 an γ w B L)(ht:P.underlying t=some (.slice e))(hi:P.info? e=some i)(hz:i.zero=some z)(Cq:z.cells.size=i.size){id:Nat}
  (h1:(aA w γ (.sl .full rows) v1/\L id=none)\/(aA w γ (.sl (.own id i.size) rows) v1/\L id=some rows.length)){γ2:G}{a2:Option Addr}{cc b2 fW:Nat}{gi:Nat->Nat->Value}(s2:qq w γ2 aq a2 cc b2 fW i.size gi)(oM:∀i j c,Qv aq i j=some c->aA w γ.cT c (gi i j))
  (hr:∀row∈rows++aq,row.length=i.size)(cI:(3*(rows.length+aq.length)+4000)*i.bytes<=562949953421312)(vH:rows.length+aq.length<=9223372036854775807):
  ∃v w' γ',(Builtin.append_ #[t,t] ty #[v1,.slice a2 aq.length cc]).run P w=.ok v w'/\Ev w γ w' γ'/\au N w0 an γ' w' B (fun j=>if j=id then some (rows.length+aq.length)else L j)/\aA w' γ' (.sl (.own id i.size) (rows++aq)) v:=by
 have key:∃a cap b off cv,v1=.slice a rows.length cap/\qq w γ rows a cap b off i.size cv/\γ.cur id<=rows.length/\(γ.cur id=rows.length\/γ.own id=none)/\(cap=rows.length\/(lY w γ a id rows.length cap i.size/\γ.cur id=rows.length)):=by
  obtain⟨h1,hL⟩|⟨h1,hL⟩:=h1
  ·obtain⟨a,cap,b,off,sz,cv,rfl,s1,r1⟩:=h1.b9
   have ct:γ.own id=none:=by
    cases ho:γ.own id with
    |none=>rfl
    |some b=>obtain⟨_,_,n,hn⟩:=hm.own id b ho;rw[hL]at hn;cases hn
   exact⟨a,cap,b,off,cv,rfl,s1.fix fun row h=>hr row (by simp[h]),by rw[hm.cur0 id hL];exact zzbp _,.inr ct,.inl r1⟩
  obtain⟨a,cap,b,off,sz,cv,rfl,s1,r1,r2,r3⟩:=h1.b9;subst r1;have hc:=hm.len id _ hL;exact⟨a,cap,b,off,cv,rfl,s1,zE,.inl hc,(r3 hc.symm).imp_right fun h=>⟨h,hc⟩⟩
 obtain⟨a,cap,b,off,cv,rfl,s1,adN,cW,cV⟩:=key;by_cases hn:aq=[]
 ·subst hn;refine⟨_,w,γ.mark id rows.length,Qeb ht hi _ _ _ s1.hcap,hm.oN adN cW,by simpa using hm.mark adN cW,?_⟩;rw[zzau];refine(s1.mono (hm.oN adN cW)).mk' ⟨rfl,by simp[G.mark],fun _=>?_⟩;obtain h|⟨h,hc⟩:=cV
  ·exact .inl h
  refine .inr (h.mono (hm.oN adN cW) ?_);simp[G.mark,hc]
 have lF:0<aq.length:=zzdb.2 hn;by_cases cA:rows.length+aq.length<=cap
 ·
  obtain h|⟨⟨b',mW,arr,te,ha,ho,hh,hsz,iM⟩,hc⟩:=cV
  ·omega
  subst ha;have aZ:=Cp (P:=P) (ty:=ty) (off:=mW) ht hi s2 cA hh hsz;have hq:mW+(rows.length+aq.length)*i.size=mW+rows.length*i.size+(Vb aq.length i.size gi).length:=by rw[Zd,zzbq];omega
  have bT:=hm.kj (vs:=Vb aq.length i.size gi) (n:=rows.length+aq.length) ho zE (fun h=>zE) hq iM;refine⟨_,_,_,aZ,bT,hm.extend ho zE (fun h=>zE) hq iM,?_⟩;have hb:b'<w.heap.size:=aR hh;have cn:(rows.length+aq.length)*i.size<=cap*i.size:=zzbe _ cA
  have Iu:rows≠[]->b=b'/\off=mW:=fun h=>by
   obtain⟨h1,_⟩:=s1.at_ h;injection h1 with h1;injection h1 with h1 h2;exact⟨h1.symm,h2.symm⟩
  have bO:∀j(hj:j<(Vb aq.length i.size gi).length),(w.setCells b' (mW+rows.length*i.size) (Vb aq.length i.size gi)).cell? ⟨b',mW+rows.length*i.size+j,none⟩=some (Vb aq.length i.size gi)[j]:=
   World.cell?_setCells_in b' _ _ w fun j hj=>by
    rw[Zd]at hj;rw[aN hh,zzah (by rw[zzbq]at cn;omega)];rfl
  have hj:qq (w.setCells b' (mW+rows.length*i.size) (Vb aq.length i.size gi)) (γ.extend id b' (mW+rows.length*i.size) (mW+(rows.length+aq.length)*i.size) (rows.length+aq.length))
    (rows++aq) (some ⟨b',mW,none⟩) cap b' mW i.size (Qcu rows.length cv gi):=by
   refine⟨Nm cA,fun hn=>(by cases hn),fun _=>⟨rfl,by rw[aG];exact hb⟩,hr,fun j k c hc=>?_,fun j k c hc=>?_⟩
   ·rcases Un hc with⟨Pf,h3⟩|⟨h1,h3⟩
    ·obtain⟨rfl,rfl⟩:=Iu (by rintro rfl;simp at Pf);obtain⟨g1,g2,g3⟩:=(s1.mono bT).cell j k c h3;have ej:Qcu rows.length cv gi j k=cv j k:=by unfold Qcu;rw[if_pos Pf]
     rw[ej];exact⟨g1,g2,g3⟩
    obtain⟨hi4,hj4⟩:=mV h3;have hk:k<i.size:=by rw[s2.hsz _ (zzdd hi4)]at hj4;exact hj4
    have hf:=vF aq.length i.size gi hi4 hk;obtain⟨ai,cB⟩:=zza.1 hf
    have e1:mW+j*i.size+k=mW+rows.length*i.size+((j-rows.length)*i.size+k):=by
     rw[Nat.sub_mul];have:rows.length*i.size<=j*i.size:=zzbe _ h1;omega
    simp only[Qcu,if_neg (zzbk.2 h1)];refine⟨?_,?_,(s2.cell _ _ c h3).2.2⟩
    ·rw[e1,bO _ ai,cB]
    rw[Zd]at ai;exact .inr ⟨rfl,by rw[e1];omega,by rw[e1,zzbq];omega⟩
   unfold Qcu;rcases Un hc with⟨h1,h3⟩|⟨h1,h3⟩
   ·rw[if_pos h1];exact(s1.rep j k c h3).mono bT.cT
   rw[if_neg (zzbk.2 h1)];exact(oM _ k c h3).mono bT.cT
  have:=hj.mk' (rt:=.own id i.size) ⟨rfl,by simp[G.extend],fun _=>.inr ⟨b',mW,_,te,rfl,ho,Xe b' _ _ w arr te _ hh,by rw[Zz];exact hsz,fun o cO fV=>?_⟩⟩
  ·rwa [zzak]at this
  rw[zzak]at cO;obtain fV|⟨_,_,h4⟩:=fV
  ·refine iM o ?_ fV;have:rows.length*i.size<=(rows.length+aq.length)*i.size:=zzbe _ zE;omega
  omega
 ·
  obtain⟨bh,cn,aZ⟩:=oK (P:=P) (ty:=ty) ht hi hz s1 s2 zE cI vH;have hmd:=hm.drew;have aO:γ.cur id=rows.length+aq.length->γ.own id=none:=fun h=>zE
  have hcn:γ.cur id<=rows.length+aq.length:=zE
  have bT:Ev w γ _ _:=(Ev.drew w γ).trans (hmd.fF (q:=(rows.length+aq.length)*i.size) hcn aO (.cells ((Vb rows.length i.size cv).toArray++(Vb aq.length i.size gi).toArray++Builtin.zeroCells z.cells (bh-(rows.length+aq.length))) e));refine⟨_,_,_,aZ,bT,hmd.renew hcn aO _,?_⟩
  have hh:(w.drew.alloc (.cells ((Vb rows.length i.size cv).toArray++(Vb aq.length i.size gi).toArray++Builtin.zeroCells z.cells (bh-(rows.length+aq.length))) e)).heap[w.heap.size]?=some (.cells ((Vb rows.length i.size cv).toArray++(Vb aq.length i.size gi).toArray++Builtin.zeroCells z.cells (bh-(rows.length+aq.length))) e (0,0)):=by
   exact Yj w _
  have hj:=s1.EL s2 oM bT (nb:=w.heap.size) hh (fun o ho=>.inr ⟨rfl,ho⟩) cn;have:=hj.mk' (rt:=.own id i.size) ⟨rfl,by simp[G.renew],fun _=>?_⟩
  ·rwa [zzak]at this
  by_cases hz0:bh=rows.length+aq.length
  ·exact .inl (by simp[hz0])
  refine .inr ⟨w.heap.size,0,_,e,rfl,by simp[G.renew],hh,?_,fun o ho fV=>?_⟩
  ·simp only[zzep,zzeo,Zd,size_zeroCells]
   have Ph:bh*i.size=rows.length*i.size+aq.length*i.size+(bh-(rows.length+aq.length))*i.size:=by
    rw[<- zzbq,<- zzbq];congr 1;omega
   rw[Cq,Ph];omega
  simp only[zzak,zzbs]at ho;obtain fV|⟨_,fV⟩:=fV
  ·have:=hm.robd _ _ fV;omega
  omega
def Nu(hm:au N w0 an γ w B L)(ht:P.underlying t=some (.slice e))(hi:P.info? e=some i)(hz:i.zero=some z)(Cq:z.cells.size=i.size){id:Nat}
  (h1:(aA w γ (.sl .full rows) v1/\L id=none)\/(aA w γ (.sl (.own id i.size) rows) v1/\L id=some rows.length))(h2:aA w γ (.sl Sh aq) v2)
  (hr:∀row∈rows++aq,row.length=i.size)(cI:(3*(rows.length+aq.length)+4000)*i.bytes<=562949953421312)(vH:rows.length+aq.length<=9223372036854775807):
  ∃v w' γ',(Builtin.append_ #[t,t] ty #[v1,v2]).run P w=.ok v w'/\Ev w γ w' γ'/\au N w0 an γ' w' B (fun j=>if j=id then some (rows.length+aq.length)else L j)/\aA w' γ' (.sl (.own id i.size) (rows++aq)) v:=by
 obtain⟨a2,cc,b2,fW,sz2,gi,rfl,s2,r2⟩:=h2.b9;exact vI hm ht hi hz Cq h1 (s2.fix (sz:=i.size) fun row h=>hr row (by simp[h])) s2.rep hr cI vH
end
open Go Go.RowKit
def Step(N:Nat)(w0:eN)(an:Nat->Nat->Prop)(P:Program)(o:Oper)(a:Act)(γ:G)(w:World)(B:Nat->PH)(L:Nat->Option Nat)(r:AV):Prop:=
 ∀(rd:Option Nat)(next:Act->World->Prop)(Q:PP),(∀v w' γ',Ev w γ w' γ'->au N w0 an γ' w' B L->aA w' γ' r v->next (a.put o.dst v) w')->o.wpIn (FW rd) 0 P a w next Q
section
variable {N:Nat} {w0:eN} {an:Nat->Nat->Prop} {γ:G} {w:World} {B:Nat->PH} {L:Nat->Option Nat} {P:Program} {o:Oper} {a:Act} {r:AV}
def Qs(hm:au N w0 an γ w B L){v:Value}(h:(execOp a.eval o).run P w=.ok (.value v) w)(hr:aA w γ r v):Step N w0 an P o a γ w B L r:=
 fun _ _ _ hk=>Zk h (hk v w γ (Ev.refl _ _) hm hr)
def Av{v:Value}{w':World}{γ':G}(hm:au N w0 an γ' w' B L)(e:Ev w γ w' γ')(h:(execOp a.eval o).run P w=.ok (.value v) w')(hr:aA w' γ' r v):Step N w0 an P o a γ w B L r:=
 fun _ _ _ hk=>Zk h (hk v w' γ' e hm hr)
variable {dst:Option Tmp} {ty:TypeId} {pos:String} {after:Array Edge} {guard:Option (Nat×Bool)} {gl:Nat->AV} {orc:UV} {e:bE->AV} {m:AM}
def Cr{x:AV}{v:Value}{g b:Bool}(h:JC x=some (g,b))(hr:aA w γ x v)(hg:g=true):v=.bool b:=by
 cases x<;>simp[JC]at h
 ·obtain⟨rfl,rfl⟩:=h;exact hr.bu
 rename_i g' y;obtain⟨h1,rfl⟩:=h;rw[hg]at h1;cases g' with
 |false=>cases h1
 |true=>
  cases y<;>simp[isB]at h1;exact(hr.Cm rfl).bu
def Pj(hm:au N w0 an γ w B L){c x y:Operand}(h1:aA w γ (e (aC c)) (a.eval c))(h2:aA w γ (e (aC x)) (a.eval x))(h3:aA w γ (e (aC y)) (a.eval y))
  (hc:(rop P gl orc e m dst (.pick (aC c) (aC x) (aC y))).1):
  Step N w0 an P ⟨dst,.pick c x y,ty,pos,after,guard⟩ a γ w B L (rop P gl orc e m dst (.pick (aC c) (aC x) (aC y))).2:=by
 simp only[rop]at hc |-
 split at hc
 ·rename_i g0 c' g1 x' g2 y' e1 e2 e3;try simp only[e1,e2,e3]
  obtain⟨hc0,fk,Cs⟩:=hc;have h1:=Cr e1 h1 hc0;cases c' with
  |true=>
   have:=Cr e2 h2 (fk rfl);exact Qs hm (v:=.bool x') (by simp[execOp,h1,asBool,this]) (.bool _)
  |false=>
   have:=Cr e3 h3 (Cs rfl);exact Qs hm (v:=.bool y') (by simp[execOp,h1,asBool,this]) (.bool _)
 exact hc.elim
def Pk(hm:au N w0 an γ w B L)(hB:∀id cells,m.boxes[id]?=some cells->B id=some cells){t:TypeId}{x:Operand}(h1:aA w γ (e (aC x)) (a.eval x))
  (hc:(rop P gl orc e m dst (tr P ⟨dst,.load t x,ty,pos,after,guard⟩)).1):
  Step N w0 an P ⟨dst,.load t x,ty,pos,after,guard⟩ a γ w B L (rop P gl orc e m dst (tr P ⟨dst,.load t x,ty,pos,after,guard⟩)).2:=by
 simp only[tr]at hc |-
 split at hc
 case h_2=>exact hc.elim
 rename_i i d hi hd;try simp only[hi,hd]
 have main:∀(agg:Bool)(n:Nat),Kj P t=agg->(agg=true->n=i.size)->(rop P gl orc e m dst (.load agg n (aC x))).1->
   Step N w0 an P ⟨dst,.load t x,ty,pos,after,guard⟩ a γ w B L (rop P gl orc e m dst (.load agg n (aC x))).2:=by
  intro agg n bJ hn hc;simp only[rop]at hc |-
  split at hc
  ·rename_i id o' he;try simp only[he]
   rw[he]at h1;obtain⟨b,hb,hv⟩:=h1.dJ;cases gI:m.boxes[id]? with
   |none=>
    have e0:m.boxes.getD id []=[]:=by simp[List.getD,gI]
    rw[e0]at hc |-
    obtain⟨v,h2,h3⟩:=Qdn (P:=P) (w:=w) (γ:=γ) (b:=b) (o:=o') (cv:=fun _=>undef) hi hd bJ hn (fun j c hj=>by simp at hj) (fun j c hj=>by simp at hj) hc;exact Qs hm (by simp[execOp,hv,h2]) h3
   |some cells=>
    have e0:m.boxes.getD id []=cells:=by simp[List.getD,gI]
    rw[e0]at hc |-
    obtain⟨arr,te,g2,g3,g4⟩:=hm.box id cells b (hB id cells gI) hb
    have cp:∀(j:Nat)(c:AV),(cells.drop o')[j]?=some c->arr[o'+j]?=some (arr.getD (o'+j) undef)/\aA w γ c (arr.getD (o'+j) undef):=fun j c hj=>by
     rw[zzbl]at hj
     have ai:o'+j<arr.size:=by
      have:=(zza.1 hj).1;have h0:=g3.1;simp at h0;omega
     have hu:arr[o'+j]?=some (arr.getD (o'+j) undef):=by simp[ai]
     exact⟨hu,g3.2 _ _ _ hj (Nm hu)⟩
    obtain⟨v,h2,h3⟩:=Qdn (P:=P) (w:=w) (γ:=γ) (b:=b) (o:=o') (cv:=fun j=>arr.getD (o'+j) undef) hi hd bJ hn (fun j c hj=>by rw[aN g2];exact(cp j c hj).1) (fun j c hj=>(cp j c hj).2) hc;exact Qs hm (by simp[execOp,hv,h2]) h3
  ·rename_i row o' he;try simp only[he]
   rw[he]at h1;obtain⟨b,off,cv,hv,hb,bL,zi⟩:=h1.iO;have cp:∀(j:Nat)(c:AV),(row.drop o')[j]?=some c->row[o'+j]?=some c:=fun j c hj=>by rw[zzbl]at hj;exact hj
   obtain⟨v,h2,h3⟩:=Qdn (P:=P) (w:=w) (γ:=γ) (b:=b) (o:=off+o') (cv:=fun j=>cv (o'+j)) hi hd bJ hn
    (fun j c hj=>by rw[zzan];exact(bL _ _ (cp j c hj)).1) (fun j c hj=>(zi _ _ (cp j c hj)).gh) hc
   exact Qs hm (by simp[execOp,hv,h2]) h3
  exact hc.elim
 cases bJ:Kj P t with
 |true=>simp only[bJ,if_true]at hc |-;exact main true _ bJ (fun _=>rfl) hc
 |false=>simp only[bJ]at hc |-;exact main false 1 bJ (fun h=>by cases h) hc
def JF(hm:au N w0 an γ w B L){t:TypeId}{x:Operand}{f:Nat}(h1:aA w γ (e (aC x)) (a.eval x))
  (hc:(rop P gl orc e m dst (tr P ⟨dst,.fieldAddr t x f,ty,pos,after,guard⟩)).1):
  Step N w0 an P ⟨dst,.fieldAddr t x f,ty,pos,after,guard⟩ a γ w B L (rop P gl orc e m dst (tr P ⟨dst,.fieldAddr t x f,ty,pos,after,guard⟩)).2:=by
 simp only[tr]at hc |-
 split at hc
 case h_2=>exact hc.elim
 rename_i fields hu;try simp only[hu]
 split at hc
 case h_2=>exact hc.elim
 rename_i fl fh;try simp only[fh]
 split at hc
 case h_2=>exact hc.elim
 rename_i i hi;try simp only[hi]
 split at hc
 case isTrue=>exact hc.elim
 rename_i hsz;try rw[if_neg hsz]
 simp only[rop]at hc |-
 have aq0:i.size≠0:=by simpa using hsz
 split at hc
 ·rename_i id o' he;try simp only[he]
  rw[he]at h1;obtain⟨b,hb,hv⟩:=h1.dJ;exact Qs hm (v:=.pointer (some ⟨b,o'+fl.offset,none⟩)) (by simp[execOp,hv,Instr.fieldAt,run_underlying hu,fh,Instr.sureAddr,fieldPlace,sizeOf,typeInfo,hi,aq0,bn]) (.ptr hb)
 ·rename_i row o' he;try simp only[he]
  rw[he]at h1;obtain⟨b,off,cv,hv,hb,bL,zi⟩:=h1.iO;refine Qs hm (v:=.pointer (some ⟨b,off+(o'+fl.offset),none⟩)) (by simp[execOp,hv,Instr.fieldAt,run_underlying hu,fh,Instr.sureAddr,fieldPlace,sizeOf,typeInfo,hi,aq0,bn,zzan]) (.ep cv hb bL zi)
 exact hc.elim
def JG(hm:au N w0 an γ w B L){t:TypeId}{x y:Operand}(h1:aA w γ (e (aC x)) (a.eval x))(h2:aA w γ (e (aC y)) (a.eval y))
  (hc:(rop P gl orc e m dst (tr P ⟨dst,.indexAddr t x y,ty,pos,after,guard⟩)).1):
  Step N w0 an P ⟨dst,.indexAddr t x y,ty,pos,after,guard⟩ a γ w B L (rop P gl orc e m dst (tr P ⟨dst,.indexAddr t x y,ty,pos,after,guard⟩)).2:=by
 simp only[tr]at hc |-
 split at hc
 ·rename_i te hu;try simp only[hu]
  split at hc
  case h_2=>exact hc.elim
  rename_i i hi;try simp only[hi]
  simp only[rop]at hc |-
  split at hc
  case h_3=>exact hc.elim
  case h_2=>
   rename_i id off len dy k n e1 e2;try simp only[e1,e2]
   rw[e1]at h1;rw[e2]at h2;obtain⟨b,cap,arr,y5,hb,hv,hl,hh,hs⟩:=h1.cN;obtain⟨⟨gj,qp⟩,rfl⟩:=hc;refine Qs hm (v:=.pointer (some ⟨b,off+n.toNat*i.size,none⟩)) ?_ (.ptr hb);simp[execOp,hv,h2.aI,Instr.indexAt,run_underlying hu,asIntOf,gj,qp,sizeOf,typeInfo,hi,bn]
  rename_i rt rows k n e1 e2;try simp only[e1,e2]
  rw[e1]at h1;rw[e2]at h2;obtain⟨a',cap,b,off,sz,cv,hv,s,_⟩:=h1.b9;obtain⟨⟨gj,qp⟩,aH⟩:=hc;have ai:n.toNat<rows.length:=zE
  have dz:rows.getD n.toNat []∈rows:=by simp[List.getD,ai]
  have hsz:sz=i.size:=(s.hsz _ dz).symm.trans aH;subst hsz;obtain⟨ha,hb⟩:=s.at_ (by rintro rfl;simp at ai)
  have ow:∀(j:Nat)(c:AV),(rows.getD n.toNat [])[j]?=some c->Qv rows n.toNat j=some c:=fun j c hj=>by
   simp[Qv,List.getD,ai]at hj |-;exact hj
  refine Qs hm (v:=.pointer (some ⟨b,(off+n.toNat*i.size)+0,none⟩)) ?_ (.ep (off:=off+n.toNat*i.size) (cv n.toNat) hb (fun j c hj=>s.cell _ j c (ow j c hj)) fun j c hj=>s.rep _ j c (ow j c hj));have y6:n<(rows.length:Int):=qp;simp[execOp,hv,h2.aI,ha,Instr.indexAt,run_underlying hu,asIntOf,gj,y6,sizeOf,typeInfo,hi,bn]
 ·rename_i len te hu;try simp only[hu]
  split at hc
  case h_2=>exact hc.elim
  rename_i i hi;try simp only[hi]
  simp only[rop]at hc |-
  split at hc
  ·rename_i id o' k n e1 e2;try simp only[e1,e2]
   rw[e1]at h1;rw[e2]at h2;obtain⟨b,hb,hv⟩:=h1.dJ;obtain⟨gj,qp⟩:=hc;refine Qs hm (v:=.pointer (some ⟨b,o'+n.toNat*i.size,none⟩)) ?_ (.ptr hb);simp[execOp,hv,h2.aI,Instr.indexAt,Instr.sureAddr,run_underlying hu,asIntOf,gj,qp,sizeOf,typeInfo,hi,bn]
  ·rename_i row o' k n e1 e2;try simp only[e1,e2]
   rw[e1]at h1;rw[e2]at h2;obtain⟨b,off,cv,hv,hb,bL,zi⟩:=h1.iO;obtain⟨gj,qp⟩:=hc;refine Qs hm (v:=.pointer (some ⟨b,off+(o'+n.toNat*i.size),none⟩)) ?_ (.ep cv hb bL zi);simp[execOp,hv,h2.aI,Instr.indexAt,Instr.sureAddr,run_underlying hu,asIntOf,gj,qp,sizeOf,typeInfo,hi,bn,zzan]
  exact hc.elim
 exact hc.elim
end
end Go.Abs
