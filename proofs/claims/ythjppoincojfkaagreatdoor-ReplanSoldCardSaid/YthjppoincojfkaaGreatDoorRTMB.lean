import Derived.Test.YthjppoincojfkaaGreatDoorRTMA
set_option linter.all false
namespace Go.Abs
open Go Go.RowKit
section inv
variable {w:World} {γ:G} {v:Value}
def aA.bw{b:Bool}(h:aA w γ (.bool b) v):v=.bool b:=by cases h;rfl
def aA.aI{k:IntKind}{n:Int}(h:aA w γ (.int k n) v):v=.int k n:=by cases h;rfl
def aA.cp{s:ByteArray}(h:aA w γ (.str s) v):v=.string s:=by cases h;rfl
def aA.Py(h:aA w γ .nilfn v):v=.nilFunc:=by cases h;rfl
def aA.dG{id o:Nat}(h:aA w γ (.ptr id o) v):∃b,γ.β id=some b/\v=.pointer (some ⟨b,o,none⟩):=by cases h with|ptr h=>exact⟨_,h,rfl⟩
def aA.cL{id off len sz:Nat}(h:aA w γ (.bs id off len sz) v):∃(b cap:Nat)(arr:P1)(e:TypeId),γ.β id=some b/\v=.slice (some ⟨b,off,none⟩) len cap/\len<=cap/\
  w.heap[b]?=some (.cells arr e (0,0))/\off+cap*sz<=arr.size:=by
 cases h with|bs h hl hh hs=>exact⟨_,_,_,_,h,rfl,hl,hh,hs⟩
def aA.Cn{g:Bool}{a:AV}(h:aA w γ (.gd g a) v)(hg:g=true):aA w γ a v:=by cases h with|gd h _=>exact h hg
def aA.Ns{a:AV}(h:aA w γ (.gd false a) v):v=undef:=by cases h with|gd _ h=>exact h rfl
def aA.gj{cs:P2}(h:aA w γ (.agg cs) v):∃arr:P1,v=.agg arr/\ak w γ cs arr.toList:=by
 cases h with
 |@agg _ _ arr hl h=>exact⟨arr,rfl,Nm hl,fun i a v h1 h2=>h i a v h1 (Nm h2)⟩
def aA.Co{cs:P2}(h:aA w γ (.aS cs) v):∃arr:P1,v=.tuple arr/\ak w γ cs arr.toList:=by
 cases h with
 |@aS _ _ arr hl h=>exact⟨arr,rfl,Nm hl,fun i a v h1 h2=>h i a v h1 (Nm h2)⟩
def aA.qA{f:FuncId}{first cap:P2}(h:aA w γ (.fn f first cap) v):∃fa ca:P1,v=.func (.func f) fa ca/\ak w γ first fa.toList/\ak w γ cap ca.toList:=by
 cases h with
 |@fn _ _ _ _ fa ca hl h eH h'=>exact⟨fa,ca,rfl,⟨Nm hl,fun i a v h1 h2=>h i a v h1 (Nm h2)⟩,⟨Nm eH,fun i a v h1 h2=>h' i a v h1 (Nm h2)⟩⟩
def aA.iM{row:P2}{o:Nat}(h:aA w γ (.ep row o) v):∃(b off:Nat)(cv:Nat->Value),v=.pointer (some ⟨b,off+o,none⟩)/\b<w.heap.size/\
  (∀(j:Nat)(c:AV),row[j]?=some c->w.cell? ⟨b,off+j,none⟩=some (cv j)/\γ.ro b (off+j)/\(cv j).oneCell'=true)/\(∀(j:Nat)(c:AV),row[j]?=some c->aA w γ.cS c (cv j)):=by
 cases h with
 |@ep _ _ _ b off cv hb hc h=>exact⟨b,off,cv,rfl,hb,hc,h⟩
def aA.U4{rt:Rt}{rows:T5}(h:aA w γ (.sl rt rows) v):∃(a:Option Addr)(cap b off sz:Nat)(cv:Nat->Nat->Value),v=.slice a rows.length cap/\
  rows.length<=cap/\(a=none->cap=0)/\(rows≠[]->a=some ⟨b,off,none⟩/\b<w.heap.size)/\(∀row∈rows,row.length=sz)/\
  (∀(i j:Nat)(c:AV),Qu rows i j=some c->w.cell? ⟨b,off+i*sz+j,none⟩=some (cv i j)/\γ.ro b (off+i*sz+j)/\(cv i j).oneCell'=true)/\
  (∀(i j:Nat)(c:AV),Qu rows i j=some c->aA w γ.cS c (cv i j))/\qx w γ a rows.length cap sz rt:=by
 cases h with
 |@sl _ _ _ a cap b off sz cv h1 h2 h3 h4 h5 h6 h7=>exact⟨a,cap,b,off,sz,cv,rfl,h1,h2,h3,h4,h5,h6,h7⟩
end inv
def aA.gm{w:World}{γ:G}{a:AV}{v:Value}(h:aA w γ.cS a v):aA w γ a v:=
 h.eN ⟨zzab _,fun _ _ _ h=>⟨h,rfl⟩,fun _ _ h=>(by cases h),fun _=>zzbv _,fun _ _ h=>(by cases h),fun _ _ h=>(by cases h),fun _ _ _ h=>(by cases h),Sz.refl w⟩
def ak.agg{w:World}{γ:G}{cs:P2}{vs:PQ}(h:ak w γ cs vs):aA w γ (.agg cs) (.agg vs.toArray):=
 .agg (Nm h.1) fun i c v h1 h2=>h.2 i c v h1 (Nm h2)
def ak.Pz{w:World}{γ:G}{cs:P2}{arr:P1}(h:ak w γ cs arr.toList):aA w γ (.agg cs) (.agg arr):=by
 have:=h.agg;simpa using this
def ak.take{w:World}{γ:G}{cs:P2}{vs:PQ}(h:ak w γ cs vs)(n:Nat):ak w γ (cs.take n) (vs.take n):=
 ⟨by simp[h.1],fun i a v h1 h2=>by
  rw[zzbk]at h1 h2;split at h1<;>simp_all;exact h.2 i a v h1 h2⟩
def ak.drop{w:World}{γ:G}{cs:P2}{vs:PQ}(h:ak w γ cs vs)(n:Nat):ak w γ (cs.drop n) (vs.drop n):=
 ⟨by simp[h.1],fun i a v h1 h2=>by
  rw[zzbl]at h1 h2;exact h.2 _ a v h1 h2⟩
def FW(r:Option Nat):Fence:={Fence.wide with round:=r}
section
variable {P:Program} {o:Oper} {a:Act} {w:World} {next:Act->World->Prop} {Q:PP} {r:Option Nat}
def U5{x:Next}{w':World}(h:(execOp a.eval o).run P w=.ok x w')(hx:∀d,x≠.defer d):∀c,o.op≠.defer c:=by
 intro c hc;unfold execOp at h;simp only[hc,Sem.run_bind]at h;cases hr:(resolve a.eval c o.type).run P w with
 |ok d qz=>rw[hr]at h;simp at h;exact hx d h.1.symm
 |halt e qz=>rw[hr]at h;simp at h
def wp_run{x:Next}{w':World}(h:(execOp a.eval o).run P w=.ok x w')(hx:∀d,x≠.defer d)(hn:o.uponIn (FW r) 0 P a next Q (.ok x w')):o.wpIn (FW r) 0 P a w next Q:=by
 refine⟨fun f _=>trivial,?_⟩;rw[Oper.semAt_eq _ _ _ (U5 h hx),h];exact hn
def Zj{v:Value}{w':World}(h:(execOp a.eval o).run P w=.ok (.value v) w')(hn:next (a.put o.dst v) w'):o.wpIn (FW r) 0 P a w next Q:=
 wp_run h (fun _ h=>by cases h) hn
def om{w':World}(h:(execOp a.eval o).run P w=.ok .skip w')(hn:next (a.put o.dst undef) w'):o.wpIn (FW r) 0 P a w next Q:=
 wp_run h (fun _ h=>by cases h) hn
def ER{f:FuncId}{args:P1}{w':World}(h:(execOp a.eval o).run P w=.ok (.enter f args) w')(hn:Calls P f args w' fun
   |.returned v,qz=>next (a.put o.dst v) qz
   |.panicked chain,qz=>Q (.panic chain) a qz
   |.outgrown,_=>LetsOut Q):o.wpIn (FW r) 0 P a w next Q:=
 wp_run h (fun _ h=>by cases h) ⟨fun h=>by simp[FW,Fence.wide]at h,callsIn_wide.2 hn⟩
end
def bq(b o n:Nat):(⟨b,o,none⟩:Addr).add n=⟨b,o+n,none⟩:=by
 unfold Addr.add;split<;>simp_all
def Qdg{P:Program}{w:World}{γ:G}{agg:Bool}{n b o:Nat}{t:TypeId}{i:TypeInfo}{d:TypeDesc}(hi:P.info? t=some i)(hd:P.underlying t=some d)(bH:Jq P t=agg)
  (hn:agg=true->n=i.size){cs:P2}{cv:Nat->Value}(bK:∀(j:Nat)(c:AV),cs[j]?=some c->w.cell? ⟨b,o+j,none⟩=some (cv j))(zu:∀(j:Nat)(c:AV),cs[j]?=some c->aA w γ c (cv j))
  (hc:(Vk agg n cs).1):∃v,(Instr.loadAt t (.pointer (some ⟨b,o,none⟩))).run P w=.ok v w/\aA w γ (Vk agg n cs).2 v:=by
 obtain⟨h1,h2⟩:=hc;have aH:n<=cs.length:=by rw[zzas]at h1;omega
 cases agg with
 |false=>
  have qB:=h2 rfl;subst qB;have hz:cs[0]?=some (cs.getD 0 .junk):=by simp[List.getD];cases cs<;>simp_all
  have hc0:=bK 0 _ hz;refine⟨cv 0,?_,?_⟩
  ·unfold Jq at bH;rw[hd]at bH;simp only[zzcm]at hc0;cases d<;>simp at bH<;>simp[Instr.loadAt,Instr.sureAddr,loadVar,isAgg,run_underlying hd,hc0]
  simpa[Vk]using zu 0 _ hz
 |true=>
  have qB:=hn rfl;subst qB
  have hl:(loadCells ⟨b,o,none⟩ i.size).run P w=.ok ((List.range i.size).map cv).toArray w:=by
   refine run_loadCells w _ _ _ fun j hj=>?_;rw[bq];exact bK j _ (zzaf zE)
  refine⟨.agg ((List.range i.size).map cv).toArray,?_,?_⟩
  ·unfold Jq at bH;rw[hd]at bH;cases d<;>simp at bH<;>simp[Instr.loadAt,Instr.sureAddr,loadVar,isAgg,run_underlying hd,sizeOf,typeInfo,hi,hl]
  simp only[Vk,if_true];refine ak.agg ⟨by simp;omega,fun j c v dX nV=>?_⟩;rw[zzbk]at dX;split at dX
  ·simp at nV;obtain⟨k,hk,rfl⟩:=nV;rename_i ah;rw[zzeq ah]at hk;cases hk;exact zu j c dX
  cases dX
variable {N:Nat} {w0:eO} {an:Nat->Nat->Prop} {γ:G} {w:World} {B:Nat->PH} {L:Nat->Option Nat}
def uf{a:AV}{v:Value}(h:aA w γ a v)(hc:Qx a=true):v.oneCell'=true:=by
 cases a<;>simp[Qx]at hc<;>cases h<;>first|rfl|(rename_i p;cases p<;>rfl)
def ak.map{ro':Nat->Nat->Prop}{as':P2}{vs:PQ}{f:AV->AV}(h:ak w γ as' vs)(hf:∀a∈as',∀v,aA w γ a v->aA w (G0 ro') (f a) v):ak w (G0 ro') (as'.map f) vs:=
 ⟨Nm h.1,fun i a v h1 h2=>by
  simp at h1;obtain⟨a',h3,rfl⟩:=h1;exact hf a' (zzad h3) v (h.2 i a' v h3 h2)⟩
def ak.vG{as':P2}{p:AV->Bool}{a:AV}(ha:a∈as')(hp:p a=true):as'.any p=true:=zzbt.2 ⟨a,ha,hp⟩
def Qec(sz:Nat):∀(n:Nat)(l:P2),(aZ sz n l).length=n
 |0,_=>rfl
 |n+1,l=>by simp[aZ,Qec sz n]
def Az{sz:Nat}:∀{n:Nat}{l:P2}{row:P2},n*sz<=l.length->row∈aZ sz n l->row.length=sz
 |0,_,_,_,h=>by cases h
 |n+1,l,row,hl,h=>by
  rw[zzbr,zzdv]at hl;rcases zzao.1 h with rfl|h
  ·simp;omega
  exact Az (by simp;omega) h
def Wo{sz:Nat}{c:AV}:∀{n:Nat}{l:P2}{i j:Nat},Qu (aZ sz n l) i j=some c->i<n/\j<sz/\l[i*sz+j]?=some c
 |0,_,i,j,h=>by simp[Qu,aZ]at h
 |n+1,l,0,j,h=>by
  simp only[Qu,aZ,List.getElem?_cons_zero,zzcx]at h;rw[zzbk]at h;split at h
  ·rename_i hj;exact⟨zE,hj,Nm h⟩
  cases h
 |n+1,l,i+1,j,h=>by
  have h':Qu (aZ sz n (l.drop sz)) i j=some c:=by simpa[Qu,aZ]using h
  obtain⟨h1,h2,h3⟩:=Wo h';rw[zzbl]at h3;refine⟨zE,h2,?_⟩;rw[zzbr,zzdv,zzfn (i*sz) sz,zzap];exact h3
def jW(hm:au N w0 an γ w B L){m:AM}(hB:∀id cells,m.boxes[id]?=some cells->B id=some cells){ro':Nat->Nat->Prop}(gh:∀b o,γ.ro b o->ro' b o):
  ∀(d:Nat)(a:AV)(v:Value),aA w γ a v->(Vi d a=true->∀id b,γ.β id=some b->∀o,ro' b o)->aA w (G0 ro') (bB m d a) v:=by
 have aq9:∀(a:AV)(v:Value),aA w γ.cS a v->aA w (G0 ro') a v:=fun a v h=>
  h.mono ⟨zzab _,fun b o _ h=>⟨gh b o h,rfl⟩,fun _ _ h=>(by cases h),fun _=>zzab _,fun _ _ h=>(by cases h),rfl,fun _ _ _ h=>(by cases h),fun _ h=>h.elim,Sz.refl w⟩
 intro d;induction d with
 |zero=>exact fun _ _ _ _=>.junk _
 |succ d ih=>
  intro a v h hp;cases a with
  |junk=>exact .junk _
  |bool b=>rw[h.bw];exact .bool b
  |int k n=>rw[h.aI];exact .int k n
  |str s=>rw[h.cp];exact .str s
  |nilfn=>rw[h.Py];exact .nilfn
  |gd g a=>exact .junk _
  |yld l=>exact .junk _
  |mp id=>exact .junk _
  |nilv p=>cases h;exact .nilv p
  |it id=>exact .junk _
  |aJ kn kvs=>exact .junk _
  |mitr mid n s=>exact .junk _
  |agg cs=>
   obtain⟨arr,rfl,hr⟩:=h.gj;refine ak.Pz (hr.map fun a ha v hv=>ih a v hv fun jX=>hp ?_);simp only[Vi];exact ak.vG ha jX
  |aS cs=>
   obtain⟨arr,rfl,hr⟩:=h.Co;have:=hr.map (ro':=ro') (f:=bB m d) fun a ha v hv=>ih a v hv fun jX=>hp (by simp only[Vi];exact ak.vG ha jX);exact .aS (Nm this.1) fun i c v h1 h2=>this.2 i c v h1 (Nm h2)
  |fn f first cap=>
   obtain⟨fa,ca,rfl,h1,h2⟩:=h.qA;have t1:=h1.map (ro':=ro') (f:=bB m d) fun a ha v hv=>ih a v hv fun jX=>hp (by simp only[Vi];rw[ak.vG ha jX];rfl);have t2:=h2.map (ro':=ro') (f:=bB m d) fun a ha v hv=>ih a v hv fun jX=>hp (by simp only[Vi];rw[ak.vG ha jX];simp);exact .fn (Nm t1.1) (fun i c v h1 h2=>t1.2 i c v h1 (Nm h2)) (Nm t2.1) fun i c v h1 h2=>t2.2 i c v h1 (Nm h2)
  |ep row o=>
   obtain⟨b,off,cv,rfl,hb,hc,hr⟩:=h.iM;exact .ep cv hb (fun j c hj=>⟨(hc j c hj).1,gh _ _ (hc j c hj).2.1,(hc j c hj).2.2⟩) fun j c hj=>aq9 _ _ (hr j c hj)
  |sl rt rows=>
   obtain⟨a,cap,b,off,sz,cv,rfl,h1,h2,h3,h4,h5,h6,h7⟩:=h.U4
   have key:∀y6,qx w (G0 ro') a rows.length cap sz y6->aA w (G0 ro') (.sl y6 rows) (.slice a rows.length cap):=fun y6 aY=>
    .sl b off sz cv h1 h2 h3 h4 (fun i j c hj=>⟨(h5 i j c hj).1,gh _ _ (h5 i j c hj).2.1,(h5 i j c hj).2.2⟩) (fun i j c hj=>aq9 _ _ (h6 i j c hj)) aY
   cases rt with
   |ro=>exact key .ro trivial
   |full=>exact key .full h7
   |nil=>exact key .nil h7
   |nn=>exact key .nn h7
   |own id dy=>exact key .ro trivial
  |bs id off len sz=>
   obtain⟨b,cap,arr,te,hb,rfl,hl,hh,hs⟩:=h.cL;have eY:=hp rfl;obtain⟨_,ah,_⟩:=hm.β id b hb;simp only[bB];cases hble:Nat.ble (off+len*sz) (m.boxes.getD id []).length with
   |false=>exact .junk _
   |true=>
    have cw:=zzba hble
    have cm:∀(k:Nat)(c:AV),(((m.boxes.getD id []).map (bB m d)).drop off)[k]?=some c->∃c' u,c=bB m d c'/\arr[off+k]?=some u/\arr.getD (off+k) undef=u/\aA w γ c' u/\u.oneCell'=true:=fun k c hk=>by
     rw[zzbl,zzbn]at hk;cases gJ:m.boxes[id]? with
     |none=>simp[List.getD,gJ]at hk
     |some cells=>
      have:m.boxes.getD id []=cells:=by simp[List.getD,gJ]
      rw[this]at hk;obtain⟨bN,e',g2,g3,g4⟩:=hm.box id cells b (hB id cells gJ) hb;rw[hh]at g2;cases g2;cases hc:cells[off+k]? with
      |none=>simp[hc]at hk
      |some c'=>
       simp[hc]at hk;have h1:=(zza.1 hc).1;have h2:=g3.1;have cn:off+k<arr.size:=by simp at h2;omega
       have hu:arr[off+k]?=some arr[off+k]:=zzah cn;exact⟨c',arr[off+k],hk.symm,hu,by simp[cn],g3.2 _ c' _ hc (by simp[cn]),g4 _ zd⟩
    have aH:=Qec sz len (((m.boxes.getD id []).map (bB m d)).drop off)
    have hr:aA w (G0 ro') (.sl .ro (aZ sz len (((m.boxes.getD id []).map (bB m d)).drop off))) (.slice (some ⟨b,off,none⟩) (aZ sz len (((m.boxes.getD id []).map (bB m d)).drop off)).length cap):=by
     refine .sl b off sz (fun i j=>arr.getD (off+(i*sz+j)) undef) (by rw[aH];exact hl) (fun h=>by cases h) (fun _=>⟨rfl,ah⟩) (fun row ai=>?_) (fun i j c hc=>?_) (fun i j c hc=>?_) trivial
     ·exact Az (by rw[zzcy,zzbw];omega) ai
     ·obtain⟨_,_,h3⟩:=Wo hc;obtain⟨c',u,rfl,h4,h5,h6,h7⟩:=cm _ _ h3;rw[aN hh,zzap,h5];exact⟨h4,eY id b hb _,h7⟩
     obtain⟨_,_,h3⟩:=Wo hc;obtain⟨c',u,rfl,h4,h5,h6,h7⟩:=cm _ _ h3;rw[UZ,h5];exact ih c' u h6 fun _=>eY
    rw[aH]at hr;exact hr
  |ptr id o=>
   obtain⟨b,hb,rfl⟩:=h.dG;have eY:=hp rfl;obtain⟨_,ah,_⟩:=hm.β id b hb;simp only[bB];have hz:(.pointer (some ⟨b,o,none⟩):Value)=.pointer (some ⟨b,0+o,none⟩):=by rw[zzbs]
   rw[hz];cases gJ:m.boxes[id]? with
   |none=>
    have:m.boxes.getD id []=[]:=by simp[List.getD,gJ]
    rw[this];exact .ep (fun _=>undef) ah (fun j c hj=>by simp at hj) fun j c hj=>by simp at hj
   |some cells=>
    have:m.boxes.getD id []=cells:=by simp[List.getD,gJ]
    rw[this];obtain⟨arr,e,g2,g3,g4⟩:=hm.box id cells b (hB id cells gJ) hb
    have cm:∀(j:Nat)(c:AV),(cells.map (bB m d))[j]?=some c->∃c' u,cells[j]?=some c'/\c=bB m d c'/\arr[j]?=some u/\arr.getD j undef=u/\aA w γ c' u:=fun j c hj=>by
     simp at hj;obtain⟨c',h1,rfl⟩:=hj
     have cn:j<arr.size:=by
      have:=g3.1;rcases zzaa j cells.length with h|h
      ·simp at this;omega
      rw[zzav h]at h1;cases h1
     have hu:arr[j]?=some arr[j]:=zzah cn;exact⟨c',arr[j],h1,rfl,hu,by simp[cn],g3.2 j c' _ h1 (by simp[cn])⟩
    refine .ep (fun j=>arr.getD j undef) ah (fun j c hj=>?_) fun j c hj=>?_
    ·obtain⟨c',u,h1,h2,h3,h4,h5⟩:=cm j c hj;rw[zzbs,aN g2,h4];exact⟨h3,eY id b hb j,g4 u (by simpa using zzde h3)⟩
    obtain⟨c',u,h1,rfl,h3,h4,h5⟩:=cm j c hj;rw[UZ,h4];exact ih c' u h5 fun _=>eY
def U6{w':World}{γ':G}{r:AV}{v:Value}(hf:flat r=true)(h:aA w γ r v):aA w' γ' r v:=by
 have one:∀(a:AV)(v:Value),iL a=true->aA w γ a v->aA w' γ' a v:=fun a v hf h=>by
  cases a<;>simp[iL]at hf
  ·rw[h.bw];exact .bool _
  ·rw[h.aI];exact .int _ _
  rw[h.cp];exact .str _
 cases r with
 |aS cs=>
  obtain⟨arr,rfl,hr⟩:=h.Co;simp only[flat]at hf;exact .aS (Nm hr.1) fun i c v h1 h2=>one c v (zzax.1 hf c (zzad h1)) (hr.2 i c v h1 (Nm h2))
 |_=>exact one _ _ hf h
def JD{P:Program}{gl:Nat->AV}(hm:au N w0 an γ w B L){m:AM}(hB:∀id cells,m.boxes[id]?=some cells->B id=some cells)(iN:∀g,aA w γ.cS (gl g) (.pointer (some ⟨g,0,none⟩)))
  {f:FuncId}{as':P2}{vs:PQ}{r:AV}(hr:ak w γ as' vs)(hp:Pure P gl f (as'.map (bB m 6)) r)(eZ:as'.any (Vi 6)=true->flat r=true)
  {R:Ending->World->Prop}(hk:∀v w' γ',Ev w γ w' γ'->au N w0 an γ' w' B L->aA w' γ' r v->R (.returned v) w'):Calls P f vs.toArray w R:=by
 let ro':Nat->Nat->Prop:=fun b o=>γ.ro b o\/(as'.any (Vi 6)=true/\∃id,γ.β id=some b)
 have oq:ak w (G0 ro') (as'.map (bB m 6)) vs:=hr.map fun a ha v hv=>jW hm hB (fun b o h=>.inl h) 6 a v hv fun jX id b hb o=>.inr ⟨ak.vG ha jX,id,hb⟩
 have awE:∀g,aA w (G0 ro') (gl g) (.pointer (some ⟨g,0,none⟩)):=fun g=>
  (iN g).mono ⟨zzab _,fun b o _ h=>⟨.inl h,rfl⟩,fun _ _ h=>(by cases h),fun _=>zzab _,fun _ _ h=>(by cases h),rfl,fun _ _ _ h=>(by cases h),fun _ h=>h.elim,Sz.refl w⟩
 refine(hp.2 ro' w vs awE oq).mono ?_;rintro e w' ⟨v,rfl,hb,hv⟩;refine hk v w' _ (hm.dm hb) (hm.grow hb) ?_;cases hany:as'.any (Vi 6)with
 |true=>exact U6 (eZ hany) hv
 |false=>
  refine hv.eN ⟨zzab _,fun b o ah h=>⟨?_,rfl⟩,fun _ _ h=>(by cases h),fun _=>zzbv _,fun _ _ h=>(by cases h),fun _ _ h=>(by cases h),fun _ _ _ h=>(by cases h),Sz.refl w'⟩;obtain(h|⟨h,_⟩)|h:=h
  ·exact .inl h
  ·rw[hany]at h;cases h
  exact .inr ⟨h,ah⟩
def Vf(n sz:Nat)(cv:Nat->Nat->Value):PQ:=(List.range (n*sz)).map fun k=>cv (k/sz) (k%sz)
def Ze(n sz:Nat)(cv:Nat->Nat->Value):(Vf n sz cv).length=n*sz:=by simp[Vf]
def qC{n sz:Nat}{cv:Nat->Nat->Value}{k:Nat}{u:Value}(h:(Vf n sz cv)[k]?=some u):k<n*sz/\u=cv (k/sz) (k%sz):=by
 simp only[Vf,zzbn]at h;rcases zzaa k (n*sz)with hk|hk
 ·rw[zzeq hk]at h;simp at h;exact⟨hk,h.symm⟩
 rw[zzav (Nm hk)]at h;simp at h
def vH(n sz:Nat)(cv:Nat->Nat->Value){i j:Nat}(hi:i<n)(hj:j<sz):(Vf n sz cv)[i*sz+j]?=some (cv i j):=by
 have hk:i*sz+j<n*sz:=by
  have:(i+1)*sz<=n*sz:=zzbc _ hi;rw[zzbr,zzdv]at this;omega
 have h1:(i*sz+j)/sz=i:=by
  rw[zzek,Nat.mul_add_div zE,zzgv hj];rfl
 have h2:(i*sz+j)%sz=j:=by
  rw[zzek,Nat.mul_add_mod,zzgw hj]
 simp[Vf,zzeq hk,h1,h2]
def vI{rows:T5}{sz k:Nat}(hsz:∀row∈rows,row.length=sz)(hk:k<rows.length*sz):∃c,Qu rows (k/sz) (k%sz)=some c:=by
 have h0:0<sz:=by
  rcases zzci sz with h|h;· subst h;simp at hk
  · exact h
 have h1:k/sz<rows.length:=by rw[Nat.div_lt_iff_lt_mul h0];exact hk
 have h2:k%sz<(rows[k/sz]).length:=by rw[hsz _ (zzdi h1)];exact zzei _ h0
 exact⟨rows[k/sz][k%sz],by simp[Qu,h1,h2]⟩
structure qd (w:World) (γ:G) (rows:T5) (a:Option Addr) (cap b off sz:Nat) (cv:Nat->Nat->Value):Prop where
 hcap:rows.length<=cap
 hnil:a=none->cap=0
 at_:rows≠[]->a=some ⟨b,off,none⟩/\b<w.heap.size
 hsz:∀row∈rows,row.length=sz
 cell:∀(i j:Nat)(c:AV),Qu rows i j=some c->w.cell? ⟨b,off+i*sz+j,none⟩=some (cv i j)/\γ.ro b (off+i*sz+j)/\(cv i j).oneCell'=true
 rep:∀(i j:Nat)(c:AV),Qu rows i j=some c->aA w γ.cS c (cv i j)
def qd.mk'{w:World}{γ:G}{rows:T5}{a:Option Addr}{cap b off sz:Nat}{cv:Nat->Nat->Value}(h:qd w γ rows a cap b off sz cv){rt:Rt}(aY:qx w γ a rows.length cap sz rt):
  aA w γ (.sl rt rows) (.slice a rows.length cap):=.sl b off sz cv h.hcap h.hnil h.at_ h.hsz h.cell h.rep aY
def aA.bZ{w:World}{γ:G}{v:Value}{rt:Rt}{rows:T5}(h:aA w γ (.sl rt rows) v):∃(a:Option Addr)(cap b off sz:Nat)(cv:Nat->Nat->Value),
  v=.slice a rows.length cap/\qd w γ rows a cap b off sz cv/\qx w γ a rows.length cap sz rt:=by
 obtain⟨a,cap,b,off,sz,cv,h0,h1,h2,h3,h4,h5,h6,h7⟩:=h.U4;exact⟨a,cap,b,off,sz,cv,h0,⟨h1,h2,h3,h4,h5,h6⟩,h7⟩
def qd.cells{w:World}{γ:G}{rows:T5}{a:Option Addr}{cap b off sz:Nat}{cv:Nat->Nat->Value}(h:qd w γ rows a cap b off sz cv):
  ∀k u,(Vf rows.length sz cv)[k]?=some u->w.cell? ((⟨b,off,none⟩:Addr).add k)=some u:=fun k u hu=>by
 obtain⟨hk,rfl⟩:=qC hu;obtain⟨c,hc⟩:=vI h.hsz hk;have:=(h.cell _ _ c hc).1
 have h0:0<sz:=by
  rcases zzci sz with h|h;· subst h;simp at hk
  · exact h
 rw[bq];rw[<- this]
 have e:off+k=off+k/sz*sz+k%sz:=by
  have:=zzh k sz;rw[zzek]at this;omega
 rw[e]
def qd.one{w:World}{γ:G}{rows:T5}{a:Option Addr}{cap b off sz:Nat}{cv:Nat->Nat->Value}(h:qd w γ rows a cap b off sz cv):
  ∀u∈Vf rows.length sz cv,u.oneCell'=true:=fun u hu=>by
 obtain⟨k,hk⟩:=zzcp.1 hu;obtain⟨Cp,rfl⟩:=qC hk;obtain⟨c,hc⟩:=vI h.hsz Cp;exact(h.cell _ _ c hc).2.2
def qd.first{P:Program}{w:World}{γ:G}{rows:T5}{a:Option Addr}{cap b off sz:Nat}{cv:Nat->Nat->Value}(h:qd w γ rows a cap b off sz cv){w':World}(hw:∀x,w'.cell? x=w.cell? x):
  (Builtin.firstCells sz rows.length (.slice a rows.length cap)).run P w'=.ok (Vf rows.length sz cv).toArray w':=by
 cases hr:rows with
 |nil=>
  subst hr;cases a with
  |none=>simp[Builtin.firstCells,Vf]
  |some a=>simp[Builtin.firstCells,loadCells,loadCellsFrom,Vf]
 |cons r rs=>
  rw[<- hr];obtain⟨rfl,_⟩:=h.at_ (by rw[hr];simp);exact run_firstCells_some w' sz rows.length _ rows.length cap _ (Ze _ _ _) fun j u hj=>by rw[hw];exact h.cells j u hj
def Qcm(n:Nat)(cv gp:Nat->Nat->Value):Nat->Nat->Value:=fun i j=>if i<n then cv i j else gp (i-n) j
def Um{rows aq:T5}{i j:Nat}{c:AV}(h:Qu (rows++aq) i j=some c):
  (i<rows.length/\Qu rows i j=some c)\/(rows.length<=i/\Qu aq (i-rows.length) j=some c):=by
 unfold Qu at*
 rcases zzaa i rows.length with hi|hi
 ·rw[zzak hi]at h;exact .inl ⟨hi,h⟩
 rw[zzaq hi]at h;exact .inr ⟨hi,h⟩
def mG{rows:T5}{i j:Nat}{c:AV}(h:Qu rows i j=some c):∃hi:i<rows.length,j<rows[i].length:=by
 unfold Qu at h;cases hr:rows[i]? with
 |none=>simp[hr]at h
 |some row=>
  obtain⟨hi,rfl⟩:=zza.1 hr;simp[hr]at h;exact⟨hi,(zza.1 h).1⟩
def AA(n:Nat):∀(k c:Nat),c<n->Builtin.growBy n k c<=n+n/4+192
 |0,c,h=>by simp only[Builtin.growBy];omega
 |k+1,c,h=>by
  simp only[Builtin.growBy];rw[ab zE];by_cases h2:c+(c+768)/4<n
  ·exact AA n k _ h2
  cases k with
  |zero=>simp only[Builtin.growBy];omega
  |succ k=>simp only[Builtin.growBy];rw[ac zE];omega
def JE{n c:Nat}(h:c<n):2*Builtin.nextslicecap n c<=3*n+4000:=by
 unfold Builtin.nextslicecap;split
 ·omega
 split
 ·omega
 have:=AA n 4 c h;omega
section run
variable {P:Program} {w:World} {γ:G} {t ty e:TypeId} {i:TypeInfo} {z:Value} {rows aq:T5} {a a2:Option Addr} {cap b off b9 b2 gi sz:Nat} {cv gp:Nat->Nat->Value}
def Qdw(ht:P.underlying t=some (.slice e))(hi:P.info? e=some i)(a2:Option Addr)(b9 len:Nat)(hcap:len<=cap):
  (Builtin.append_ #[t,t] ty #[.slice a len cap,.slice a2 0 b9]).run P w=.ok (.slice a len cap) w:=by
 cases a<;>cases a2<;>simp[Builtin.append_,run_underlying ht,sizeOf,typeInfo,hi,Builtin.lenOf,hcap,Builtin.firstCells,loadCells,loadCellsFrom,storeCells]
def ot(ht:P.underlying t=some (.slice e))(hi:P.info? e=some i)(hz:i.zero=some z)(h:qd w γ rows a cap b off i.size cv){γ2:G}(h2:qd w γ2 aq a2 b9 b2 gi i.size gp)
  (hg:cap<rows.length+aq.length)(cH:(3*(rows.length+aq.length)+4000)*i.bytes<=562949953421312)(vJ:rows.length+aq.length<=9223372036854775807):
  ∃bn,rows.length+aq.length<=bn/\(Builtin.append_ #[t,t] ty #[.slice a rows.length cap,.slice a2 aq.length b9]).run P w=
   .ok (.slice (some ⟨w.heap.size,0,none⟩) (rows.length+aq.length) bn)
    (w.drew.alloc (.cells ((Vf rows.length i.size cv).toArray++(Vf aq.length i.size gp).toArray++Builtin.zeroCells z.cells (bn-(rows.length+aq.length))) e)):=by
 have hn:¬(rows.length+aq.length<=cap):=zE
 have ald:¬(9223372036854775807<((rows.length:Int)+(aq.length:Int))):=zE
 have cw:=JE hg
 have ale:¬(281474976710656<Builtin.nextslicecap (rows.length+aq.length) cap*i.bytes):=by
  have:2*Builtin.nextslicecap (rows.length+aq.length) cap*i.bytes<=(3*(rows.length+aq.length)+4000)*i.bytes:=zzbc _ zE;rw[Nat.mul_assoc]at this;omega
 have f1:=h.first (P:=P) (w':=w.drew) fun _=>rfl
 have f2:=h2.first (P:=P) (w':=w.drew) fun _=>rfl
 refine⟨grownCap w (rows.length+aq.length) cap e,grownCap_ge w _ _ _,?_⟩;simp[Builtin.append_,run_underlying ht,sizeOf,typeInfo,zeroValue,hi,hz,Builtin.lenOf,hn,ald,ale,Question.forced,f1,f2,newRow,grownCap];congr 2;apply Array.ext';simp[zzbg]
def Cq(ht:P.underlying t=some (.slice e))(hi:P.info? e=some i)(h2:qd w γ aq a2 b9 b2 gi i.size gp){len:Nat}
  (cA:len+aq.length<=cap){arr:P1}{e':TypeId}(hh:w.heap[b]?=some (.cells arr e' (0,0)))(hsz:off+cap*i.size<=arr.size):
  (
   Builtin.append_ #[t,t] ty #[.slice (some ⟨b,off,none⟩) len cap,.slice a2 aq.length b9]).run P w=
   .ok (.slice (some ⟨b,off,none⟩) (len+aq.length) cap) (w.setCells b (off+len*i.size) (Vf aq.length i.size gp)):=by
 have f2:=h2.first (P:=P) (w':=w) fun _=>rfl
 have cw:(len+aq.length)*i.size<=cap*i.size:=zzbc _ cA;rw[zzbr]at cw
 have bM:=run_storeCells_cells (P:=P) b (off+len*i.size) (Vf aq.length i.size gp) 0 w (fun j hj=>by
   rw[Ze]at hj;rw[aN hh,zzcm,zzah zE];rfl)
  (fun j hj=>Zp hh) h2.one
 simp only[zzcm]at bM;simp[Builtin.append_,run_underlying ht,sizeOf,typeInfo,hi,Builtin.lenOf,cA,f2,bq,bM]
end run
variable {N:Nat} {w0:eO} {an:Nat->Nat->Prop} {γ:G} {w:World} {B:Nat->PH} {L:Nat->Option Nat}
def qd.fix{rows:T5}{a:Option Addr}{cap b off sz dy:Nat}{cv:Nat->Nat->Value}(h:qd w γ rows a cap b off dy cv)(hr:∀row∈rows,row.length=sz):qd w γ rows a cap b off sz cv:=by
 cases ee:rows with
 |nil=>
  subst ee;exact⟨h.hcap,h.hnil,h.at_,hr,fun i j c hc=>by simp[Qu]at hc,fun i j c hc=>by simp[Qu]at hc⟩
 |cons r rs=>
  have e:dy=sz:=(h.hsz r (by simp[ee])).symm.trans (hr r (by simp[ee]));rw[<- ee];subst e;exact h
def qd.mono{rows:T5}{a:Option Addr}{cap b off sz:Nat}{cv:Nat->Nat->Value}(h:qd w γ rows a cap b off sz cv){w':World}{γ':G}(e:Ev w γ w' γ'):qd w' γ' rows a cap b off sz cv:=by
 obtain⟨a',aze,b',mH,dy,cv',e0,h1,h2⟩:=((h.mk' (rt:=.ro) trivial).mono e).bZ;refine⟨h.hcap,h.hnil,fun hn=>⟨(h.at_ hn).1,zzaz (h.at_ hn).2 e.size⟩,h.hsz,fun i j c hc=>?_,fun i j c hc=>(h.rep i j c hc).mono e.cS⟩;have hb:=(h.at_ (by rintro rfl;simp[Qu]at hc)).2;obtain⟨g1,g2,g3⟩:=h.cell i j c hc;exact⟨(e.ro _ _ hb g2).2.trans g1,(e.ro _ _ hb g2).1,g3⟩
def qd.ES{rows aq:T5}{a a2:Option Addr}{cap b off b9 b2 gi sz:Nat}{cv gp:Nat->Nat->Value}(h:qd w γ rows a cap b off sz cv){γ2:G}(h2:qd w γ2 aq a2 b9 b2 gi sz gp)(ou:∀i j c,Qu aq i j=some c->aA w γ.cS c (gp i j))
  {w':World}{γ':G}(e:Ev w γ w' γ'){nb:Nat}{rest:P1}{te:TypeId}
  (hh:w'.heap[nb]?=some (.cells ((Vf rows.length sz cv).toArray++(Vf aq.length sz gp).toArray++rest) te (0,0)))
  (gh:∀o,o<(rows.length+aq.length)*sz->γ'.ro nb o){bn:Nat}(hcap:rows.length+aq.length<=bn):
  qd w' γ' (rows++aq) (some ⟨nb,0,none⟩) bn nb 0 sz (Qcm rows.length cv gp):=by
 refine⟨Nm hcap,fun hn=>(by cases hn),fun _=>⟨rfl,aR hh⟩,fun row hr=>?_,fun i j c hc=>?_,fun i j c hc=>?_⟩
 ·rcases zzaj.1 hr with hr|hr
  ·exact h.hsz row hr
  exact h2.hsz row hr
 ·obtain⟨hi,hj⟩:=mG hc
  have Nt:j<sz:=by
   rcases zzaj.1 (zzdi hi)with hr|hr
   ·rw[h.hsz _ hr]at hj;exact hj
   rw[h2.hsz _ hr]at hj;exact hj
  have ah:i*sz+j<(rows.length+aq.length)*sz:=by
   have:(i+1)*sz<=(rows.length+aq.length)*sz:=zzbc _ (by simp at hi;omega);rw[zzbr,zzdv]at this;omega
  rw[zzbs];refine⟨?_,gh _ ah,?_⟩
  ·rw[aN hh];rcases Um hc with⟨h1,h3⟩|⟨h1,h3⟩
   ·have:=vH rows.length sz cv h1 Nt;have hl:i*sz+j<(Vf rows.length sz cv).length:=(zza.1 this).1;rw[Array.append_assoc,zzfg (Nm hl)];simp[Qcm,h1,this]
   have h4:i-rows.length<aq.length:=(mG h3).1;have:=vH aq.length sz gp h4 Nt
   have e1:i*sz+j=rows.length*sz+((i-rows.length)*sz+j):=by
    rw[Nat.sub_mul];have:rows.length*sz<=i*sz:=zzbc _ h1;omega
   have hl:(i-rows.length)*sz+j<(Vf aq.length sz gp).length:=(zza.1 this).1;rw[Array.append_assoc,Array.getElem?_append_right (by simp[Ze];omega)];rw[zzfg (by simp[Ze]at hl |-;omega)];have e2:i*sz+j-rows.length*sz=(i-rows.length)*sz+j:=zE
   simp only[zzev,Ze,e2,List.getElem?_toArray,this,Qcm,ab (zzbm.2 h1)]
  unfold Qcm;rcases Um hc with⟨h1,h3⟩|⟨h1,h3⟩
  ·rw[ac h1];exact(h.cell i j c h3).2.2
  rw[ab (zzbm.2 h1)];exact(h2.cell _ j c h3).2.2
 unfold Qcm;rcases Um hc with⟨h1,h3⟩|⟨h1,h3⟩
 ·rw[ac h1];exact(h.rep i j c h3).mono e.cS
 rw[ab (zzbm.2 h1)];exact(ou _ j c h3).mono e.cS
def Yk(w:World)(o:Obj):(w.drew.alloc o).heap[w.heap.size]?=some o:=by
 show(w.heap.push o)[w.heap.size]?=some o;simp
def tG(w:World)(o:Obj):w.heap.size<(w.drew.alloc o).heap.size:=by
 show _<(w.heap.push o).size;simp
def qD(w:World)(o:Obj):Below w.heap.size w (w.drew.alloc o):=
 ((Below.refl w.heap.size w).drew).alloc (zzab _) o
section
variable {P:Program} {t ty e:TypeId} {i:TypeInfo} {z:Value} {rows aq:T5} {rt Su:Rt} {v1 v2:Value}
def alf(hm:au N w0 an γ w B L)(ht:P.underlying t=some (.slice e))(hi:P.info? e=some i)(hz:i.zero=some z)(h1:aA w γ (.sl .full rows) v1)(h2:aA w γ (.sl Su aq) v2)
  (hr:∀row∈rows++aq,row.length=i.size)(cH:(3*(rows.length+aq.length)+4000)*i.bytes<=562949953421312)(vJ:rows.length+aq.length<=9223372036854775807):
  ∃v w' γ',(Builtin.append_ #[t,t] ty #[v1,v2]).run P w=.ok v w'/\Ev w γ w' γ'/\au N w0 an γ' w' B L/\aA w' γ' (.sl .ro (rows++aq)) v:=by
 obtain⟨a,cap,b,off,sz,cv,rfl,s1,r1⟩:=h1.bZ;obtain⟨a2,b9,b2,gi,sz2,gp,rfl,s2,r2⟩:=h2.bZ;replace s1:=s1.fix (sz:=i.size) fun row h=>hr row (by simp[h]);replace s2:=s2.fix (sz:=i.size) fun row h=>hr row (by simp[h]);by_cases hn:aq=[]
 ·subst hn;refine⟨_,w,γ,Qdw ht hi _ _ _ s1.hcap,Ev.refl _ _,hm,?_⟩;rw[zzat];exact s1.mk' trivial
 have kW:0<aq.length:=zzdf.2 hn;have hcap:cap=rows.length:=r1;obtain⟨bn,cw,bh⟩:=ot (P:=P) (ty:=ty) ht hi hz s1 s2 zE cH vJ;have hb:=qD w (.cells ((Vf rows.length i.size cv).toArray++(Vf aq.length i.size gp).toArray++Builtin.zeroCells z.cells (bn-(rows.length+aq.length))) e);refine⟨_,_,_,bh,hm.dm hb,hm.grow hb,?_⟩;have hj:=s1.ES s2 s2.rep (hm.dm hb) (nb:=w.heap.size) (te:=e) (Yk w _) (fun o _=>.inr ⟨zzab _,tG w _⟩) cw;have:=hj.mk' (rt:=.ro) trivial;rwa [zzal]at this
def G.mark(γ:G)(id n:Nat):G:={γ with cur:=fun i=>if i=id then n else γ.cur i}
def au.ov(hm:au N w0 an γ w B L){id n:Nat}(hn:γ.cur id<=n)(h0:γ.cur id=n\/γ.own id=none):Ev w γ w (γ.mark id n) where
 size:=zzab _
 ro _ _ _ h:=⟨h,rfl⟩
 β _ _ h:=h
 cur j:=by simp only[G.mark];split<;>simp_all
 mm _ _ h:=h
 lp:=rfl
 own j b _ ho:=⟨ho,fun arr _ h=>⟨arr,h,zzab _⟩,fun _ h=>h⟩
 sp _ h:=⟨h,rfl⟩
 ss:=Sz.refl w
def au.mark(hm:au N w0 an γ w B L){id n:Nat}(hn:γ.cur id<=n)(h0:γ.cur id=n\/γ.own id=none):au N w0 an (γ.mark id n) w B (fun i=>if i=id then some n else L i) where
 bs:=w0.st _ _ _ _ hm.bs ⟨rfl,rfl,rfl,zzab _,fun _ _ _=>rfl,fun _ _ _ h=>⟨h,rfl⟩,fun _ hb=>.inl hb,fun _ _ h=>.inl h⟩
 hN:=hm.hN
 an:=hm.an
 robd:=hm.robd
 box j cs b hb h1:=by
  obtain⟨arr,e,h2,h3,h4⟩:=hm.box j cs b hb h1;exact⟨arr,e,h2,h3.mono (hm.ov hn h0),h4⟩
 β:=hm.β
 inj:=hm.inj
 own j b hb:=by
  obtain⟨h1,h2,k,hk⟩:=hm.own j b hb;refine⟨h1,h2,?_⟩;by_cases hj:j=id
  ·exact⟨n,by simp[hj]⟩
  exact⟨k,by simp[hj,hk]⟩
 oinj:=hm.oinj
 sp:=hm.sp
 mm i b hb:=by
  obtain⟨h1,h2,h3,h4,h5,h6,h8,h7⟩:=hm.mm i b hb;exact⟨h1,h2,h3,h4,h5,h6,h8,h7.mono (hm.ov hn h0).cF.Av rfl⟩
 minj:=hm.minj
 len j k hj:=by
  by_cases h:j=id
  ·simp[h]at hj;simp[G.mark,h,hj]
  simp[h]at hj;simp[G.mark,h,hm.len j k hj]
 cur0 j hj:=by
  by_cases h:j=id
  ·simp[h]at hj
  simp[h]at hj;simp[G.mark,h,hm.cur0 j hj]
def vK(hm:au N w0 an γ w B L)(ht:P.underlying t=some (.slice e))(hi:P.info? e=some i)(hz:i.zero=some z)(Cr:z.cells.size=i.size){id:Nat}
  (h1:(aA w γ (.sl .full rows) v1/\L id=none)\/(aA w γ (.sl (.own id i.size) rows) v1/\L id=some rows.length)){γ2:G}{a2:Option Addr}{b9 b2 gi:Nat}{gp:Nat->Nat->Value}(s2:qd w γ2 aq a2 b9 b2 gi i.size gp)(ou:∀i j c,Qu aq i j=some c->aA w γ.cS c (gp i j))
  (hr:∀row∈rows++aq,row.length=i.size)(cH:(3*(rows.length+aq.length)+4000)*i.bytes<=562949953421312)(vJ:rows.length+aq.length<=9223372036854775807):
  ∃v w' γ',(Builtin.append_ #[t,t] ty #[v1,.slice a2 aq.length b9]).run P w=.ok v w'/\Ev w γ w' γ'/\au N w0 an γ' w' B (fun j=>if j=id then some (rows.length+aq.length)else L j)/\aA w' γ' (.sl (.own id i.size) (rows++aq)) v:=by
 have key:∃a cap b off cv,v1=.slice a rows.length cap/\qd w γ rows a cap b off i.size cv/\γ.cur id<=rows.length/\(γ.cur id=rows.length\/γ.own id=none)/\(cap=rows.length\/(lH w γ a id rows.length cap i.size/\γ.cur id=rows.length)):=by
  obtain⟨h1,hL⟩|⟨h1,hL⟩:=h1
  ·obtain⟨a,cap,b,off,sz,cv,rfl,s1,r1⟩:=h1.bZ
   have cr:γ.own id=none:=by
    cases ho:γ.own id with
    |none=>rfl
    |some b=>obtain⟨_,_,n,hn⟩:=hm.own id b ho;rw[hL]at hn;cases hn
   exact⟨a,cap,b,off,cv,rfl,s1.fix fun row h=>hr row (by simp[h]),by rw[hm.cur0 id hL];exact zzbv _,.inr cr,.inl r1⟩
  obtain⟨a,cap,b,off,sz,cv,rfl,s1,r1,r2,r3⟩:=h1.bZ;subst r1;have hc:=hm.len id _ hL;exact⟨a,cap,b,off,cv,rfl,s1,zE,.inl hc,(r3 hc.symm).imp_right fun h=>⟨h,hc⟩⟩
 obtain⟨a,cap,b,off,cv,rfl,s1,ad2,cU,di⟩:=key;by_cases hn:aq=[]
 ·subst hn;refine⟨_,w,γ.mark id rows.length,Qdw ht hi _ _ _ s1.hcap,hm.ov ad2 cU,by simpa using hm.mark ad2 cU,?_⟩;rw[zzat];refine(s1.mono (hm.ov ad2 cU)).mk' ⟨rfl,by simp[G.mark],fun _=>?_⟩;obtain h|⟨h,hc⟩:=di
  ·exact .inl h
  refine .inr (h.mono (hm.ov ad2 cU) ?_);simp[G.mark,hc]
 have kW:0<aq.length:=zzdf.2 hn;by_cases cA:rows.length+aq.length<=cap
 ·
  obtain h|⟨⟨b',mH,arr,te,ha,ho,hh,hsz,oh⟩,hc⟩:=di
  ·omega
  subst ha;have bh:=Cq (P:=P) (ty:=ty) (off:=mH) ht hi s2 cA hh hsz;have hq:mH+(rows.length+aq.length)*i.size=mH+rows.length*i.size+(Vf aq.length i.size gp).length:=by rw[Ze,zzbr];omega
  have bU:=hm.jV (vs:=Vf aq.length i.size gp) (n:=rows.length+aq.length) ho zE (fun h=>zE) hq oh;refine⟨_,_,_,bh,bU,hm.extend ho zE (fun h=>zE) hq oh,?_⟩;have hb:b'<w.heap.size:=aR hh;have cw:(rows.length+aq.length)*i.size<=cap*i.size:=zzbc _ cA
  have Sv:rows≠[]->b=b'/\off=mH:=fun h=>by
   obtain⟨h1,_⟩:=s1.at_ h;injection h1 with h1;injection h1 with h1 h2;exact⟨h1.symm,h2.symm⟩
  have bP:∀j(hj:j<(Vf aq.length i.size gp).length),(w.setCells b' (mH+rows.length*i.size) (Vf aq.length i.size gp)).cell? ⟨b',mH+rows.length*i.size+j,none⟩=some (Vf aq.length i.size gp)[j]:=
   World.cell?_setCells_in b' _ _ w fun j hj=>by
    rw[Ze]at hj;rw[aN hh,zzah (by rw[zzbr]at cw;omega)];rfl
  have hj:qd (w.setCells b' (mH+rows.length*i.size) (Vf aq.length i.size gp)) (γ.extend id b' (mH+rows.length*i.size) (mH+(rows.length+aq.length)*i.size) (rows.length+aq.length))
    (rows++aq) (some ⟨b',mH,none⟩) cap b' mH i.size (Qcm rows.length cv gp):=by
   refine⟨Nm cA,fun hn=>(by cases hn),fun _=>⟨rfl,by rw[aG];exact hb⟩,hr,fun j k c hc=>?_,fun j k c hc=>?_⟩
   ·rcases Um hc with⟨JF,h3⟩|⟨h1,h3⟩
    ·obtain⟨rfl,rfl⟩:=Sv (by rintro rfl;simp at JF);obtain⟨g1,g2,g3⟩:=(s1.mono bU).cell j k c h3;have ej:Qcm rows.length cv gp j k=cv j k:=by unfold Qcm;rw[ac JF]
     rw[ej];exact⟨g1,g2,g3⟩
    obtain⟨hi4,hj4⟩:=mG h3;have hk:k<i.size:=by rw[s2.hsz _ (zzdi hi4)]at hj4;exact hj4
    have hf:=vH aq.length i.size gp hi4 hk;obtain⟨ah,dg⟩:=zza.1 hf
    have e1:mH+j*i.size+k=mH+rows.length*i.size+((j-rows.length)*i.size+k):=by
     rw[Nat.sub_mul];have:rows.length*i.size<=j*i.size:=zzbc _ h1;omega
    simp only[Qcm,ab (zzbm.2 h1)];refine⟨?_,?_,(s2.cell _ _ c h3).2.2⟩
    ·rw[e1,bP _ ah,dg]
    rw[Ze]at ah;exact .inr ⟨rfl,by rw[e1];omega,by rw[e1,zzbr];omega⟩
   unfold Qcm;rcases Um hc with⟨h1,h3⟩|⟨h1,h3⟩
   ·rw[ac h1];exact(s1.rep j k c h3).mono bU.cS
   rw[ab (zzbm.2 h1)];exact(ou _ k c h3).mono bU.cS
  have:=hj.mk' (rt:=.own id i.size) ⟨rfl,by simp[G.extend],fun _=>.inr ⟨b',mH,_,te,rfl,ho,Xb b' _ _ w arr te _ hh,by rw[Vd];exact hsz,fun o cM gh=>?_⟩⟩
  ·rwa [zzal]at this
  rw[zzal]at cM;obtain gh|⟨_,_,h4⟩:=gh
  ·refine oh o ?_ gh;have:rows.length*i.size<=(rows.length+aq.length)*i.size:=zzbc _ zE;omega
  omega
 ·
  obtain⟨bn,cw,bh⟩:=ot (P:=P) (ty:=ty) ht hi hz s1 s2 zE cH vJ;have hmd:=hm.drew;have aO:γ.cur id=rows.length+aq.length->γ.own id=none:=fun h=>zE
  have hcn:γ.cur id<=rows.length+aq.length:=zE
  have bU:Ev w γ _ _:=(Ev.drew w γ).trans (hmd.fH (q:=(rows.length+aq.length)*i.size) hcn aO (.cells ((Vf rows.length i.size cv).toArray++(Vf aq.length i.size gp).toArray++Builtin.zeroCells z.cells (bn-(rows.length+aq.length))) e));refine⟨_,_,_,bh,bU,hmd.renew hcn aO _,?_⟩
  have hh:(w.drew.alloc (.cells ((Vf rows.length i.size cv).toArray++(Vf aq.length i.size gp).toArray++Builtin.zeroCells z.cells (bn-(rows.length+aq.length))) e)).heap[w.heap.size]?=some (.cells ((Vf rows.length i.size cv).toArray++(Vf aq.length i.size gp).toArray++Builtin.zeroCells z.cells (bn-(rows.length+aq.length))) e (0,0)):=by
   exact Yk w _
  have hj:=s1.ES s2 ou bU (nb:=w.heap.size) hh (fun o ho=>.inr ⟨rfl,ho⟩) cw;have:=hj.mk' (rt:=.own id i.size) ⟨rfl,by simp[G.renew],fun _=>?_⟩
  ·rwa [zzal]at this
  by_cases hz0:bn=rows.length+aq.length
  ·exact .inl (by simp[hz0])
  refine .inr ⟨w.heap.size,0,_,e,rfl,by simp[G.renew],hh,?_,fun o ho gh=>?_⟩
  ·simp only[zzew,zzev,Ze,size_zeroCells]
   have PA:bn*i.size=rows.length*i.size+aq.length*i.size+(bn-(rows.length+aq.length))*i.size:=by
    rw[<- zzbr,<- zzbr];congr 1;omega
   rw[Cr,PA];omega
  simp only[zzal,zzbs]at ho;obtain gh|⟨_,gh⟩:=gh
  ·have:=hm.robd _ _ gh;omega
  omega
def Nu(hm:au N w0 an γ w B L)(ht:P.underlying t=some (.slice e))(hi:P.info? e=some i)(hz:i.zero=some z)(Cr:z.cells.size=i.size){id:Nat}
  (h1:(aA w γ (.sl .full rows) v1/\L id=none)\/(aA w γ (.sl (.own id i.size) rows) v1/\L id=some rows.length))(h2:aA w γ (.sl Su aq) v2)
  (hr:∀row∈rows++aq,row.length=i.size)(cH:(3*(rows.length+aq.length)+4000)*i.bytes<=562949953421312)(vJ:rows.length+aq.length<=9223372036854775807):
  ∃v w' γ',(Builtin.append_ #[t,t] ty #[v1,v2]).run P w=.ok v w'/\Ev w γ w' γ'/\au N w0 an γ' w' B (fun j=>if j=id then some (rows.length+aq.length)else L j)/\aA w' γ' (.sl (.own id i.size) (rows++aq)) v:=by
 obtain⟨a2,b9,b2,gi,sz2,gp,rfl,s2,r2⟩:=h2.bZ;exact vK hm ht hi hz Cr h1 (s2.fix (sz:=i.size) fun row h=>hr row (by simp[h])) s2.rep hr cH vJ
end
def Step(N:Nat)(w0:eO)(an:Nat->Nat->Prop)(P:Program)(o:Oper)(a:Act)(γ:G)(w:World)(B:Nat->PH)(L:Nat->Option Nat)(r:AV):Prop:=
 ∀(rd:Option Nat)(next:Act->World->Prop)(Q:PP),(∀v w' γ',Ev w γ w' γ'->au N w0 an γ' w' B L->aA w' γ' r v->next (a.put o.dst v) w')->o.wpIn (FW rd) 0 P a w next Q
section
variable {N:Nat} {w0:eO} {an:Nat->Nat->Prop} {γ:G} {w:World} {B:Nat->PH} {L:Nat->Option Nat} {P:Program} {o:Oper} {a:Act} {r:AV}
def Qs(hm:au N w0 an γ w B L){v:Value}(h:(execOp a.eval o).run P w=.ok (.value v) w)(hr:aA w γ r v):Step N w0 an P o a γ w B L r:=
 fun _ _ _ hk=>Zj h (hk v w γ (Ev.refl _ _) hm hr)
def AB{v:Value}{w':World}{γ':G}(hm:au N w0 an γ' w' B L)(e:Ev w γ w' γ')(h:(execOp a.eval o).run P w=.ok (.value v) w')(hr:aA w' γ' r v):Step N w0 an P o a γ w B L r:=
 fun _ _ _ hk=>Zj h (hk v w' γ' e hm hr)
variable {dst:Option Tmp} {ty:TypeId} {pos:String} {after:Array Edge} {guard:Option (Nat×Bool)} {gl:Nat->AV} {orc:UV} {e:bE->AV} {m:AM}
def Cs{x:AV}{v:Value}{g b:Bool}(h:JC x=some (g,b))(hr:aA w γ x v)(hg:g=true):v=.bool b:=by
 cases x<;>simp[JC]at h
 ·obtain⟨rfl,rfl⟩:=h;exact hr.bw
 rename_i g' y;obtain⟨h1,rfl⟩:=h;rw[hg]at h1;cases g' with
 |false=>cases h1
 |true=>
  cases y<;>simp[isB]at h1;exact(hr.Cn rfl).bw
def PB(hm:au N w0 an γ w B L){c x y:Operand}(h1:aA w γ (e (aC c)) (a.eval c))(h2:aA w γ (e (aC x)) (a.eval x))(h3:aA w γ (e (aC y)) (a.eval y))
  (hc:(rop P gl orc e m dst (.pick (aC c) (aC x) (aC y))).1):
  Step N w0 an P ⟨dst,.pick c x y,ty,pos,after,guard⟩ a γ w B L (rop P gl orc e m dst (.pick (aC c) (aC x) (aC y))).2:=by
 simp only[rop]at hc |-
 split at hc
 ·rename_i g0 c' g1 x' g2 y' e1 e2 e3;try simp only[e1,e2,e3]
  obtain⟨hc0,fA,Ct⟩:=hc;have h1:=Cs e1 h1 hc0;cases c' with
  |true=>
   have:=Cs e2 h2 (fA rfl);exact Qs hm (v:=.bool x') (by simp[execOp,h1,asBool,this]) (.bool _)
  |false=>
   have:=Cs e3 h3 (Ct rfl);exact Qs hm (v:=.bool y') (by simp[execOp,h1,asBool,this]) (.bool _)
 exact hc.elim
def PC(hm:au N w0 an γ w B L)(hB:∀id cells,m.boxes[id]?=some cells->B id=some cells){t:TypeId}{x:Operand}(h1:aA w γ (e (aC x)) (a.eval x))
  (hc:(rop P gl orc e m dst (tr P ⟨dst,.load t x,ty,pos,after,guard⟩)).1):
  Step N w0 an P ⟨dst,.load t x,ty,pos,after,guard⟩ a γ w B L (rop P gl orc e m dst (tr P ⟨dst,.load t x,ty,pos,after,guard⟩)).2:=by
 simp only[tr]at hc |-
 split at hc
 case h_2=>exact hc.elim
 rename_i i d hi hd;try simp only[hi,hd]
 have main:∀(agg:Bool)(n:Nat),Jq P t=agg->(agg=true->n=i.size)->(rop P gl orc e m dst (.load agg n (aC x))).1->
   Step N w0 an P ⟨dst,.load t x,ty,pos,after,guard⟩ a γ w B L (rop P gl orc e m dst (.load agg n (aC x))).2:=by
  intro agg n bH hn hc;simp only[rop]at hc |-
  split at hc
  ·rename_i id o' he;try simp only[he]
   rw[he]at h1;obtain⟨b,hb,hv⟩:=h1.dG;cases gJ:m.boxes[id]? with
   |none=>
    have e0:m.boxes.getD id []=[]:=by simp[List.getD,gJ]
    rw[e0]at hc |-
    obtain⟨v,h2,h3⟩:=Qdg (P:=P) (w:=w) (γ:=γ) (b:=b) (o:=o') (cv:=fun _=>undef) hi hd bH hn (fun j c hj=>by simp at hj) (fun j c hj=>by simp at hj) hc;exact Qs hm (by simp[execOp,hv,h2]) h3
   |some cells=>
    have e0:m.boxes.getD id []=cells:=by simp[List.getD,gJ]
    rw[e0]at hc |-
    obtain⟨arr,te,g2,g3,g4⟩:=hm.box id cells b (hB id cells gJ) hb
    have cm:∀(j:Nat)(c:AV),(cells.drop o')[j]?=some c->arr[o'+j]?=some (arr.getD (o'+j) undef)/\aA w γ c (arr.getD (o'+j) undef):=fun j c hj=>by
     rw[zzbl]at hj
     have ah:o'+j<arr.size:=by
      have:=(zza.1 hj).1;have h0:=g3.1;simp at h0;omega
     have hu:arr[o'+j]?=some (arr.getD (o'+j) undef):=by simp[ah]
     exact⟨hu,g3.2 _ _ _ hj (Nm hu)⟩
    obtain⟨v,h2,h3⟩:=Qdg (P:=P) (w:=w) (γ:=γ) (b:=b) (o:=o') (cv:=fun j=>arr.getD (o'+j) undef) hi hd bH hn (fun j c hj=>by rw[aN g2];exact(cm j c hj).1) (fun j c hj=>(cm j c hj).2) hc;exact Qs hm (by simp[execOp,hv,h2]) h3
  ·rename_i row o' he;try simp only[he]
   rw[he]at h1;obtain⟨b,off,cv,hv,hb,bK,zu⟩:=h1.iM;have cm:∀(j:Nat)(c:AV),(row.drop o')[j]?=some c->row[o'+j]?=some c:=fun j c hj=>by rw[zzbl]at hj;exact hj
   obtain⟨v,h2,h3⟩:=Qdg (P:=P) (w:=w) (γ:=γ) (b:=b) (o:=off+o') (cv:=fun j=>cv (o'+j)) hi hd bH hn
    (fun j c hj=>by rw[zzap];exact(bK _ _ (cm j c hj)).1) (fun j c hj=>(zu _ _ (cm j c hj)).gm) hc
   exact Qs hm (by simp[execOp,hv,h2]) h3
  exact hc.elim
 cases bH:Jq P t with
 |true=>simp only[bH,if_true]at hc |-;exact main true _ bH (fun _=>rfl) hc
 |false=>simp only[bH]at hc |-;exact main false 1 bH (fun h=>by cases h) hc
def JG(hm:au N w0 an γ w B L){t:TypeId}{x:Operand}{f:Nat}(h1:aA w γ (e (aC x)) (a.eval x))
  (hc:(rop P gl orc e m dst (tr P ⟨dst,.fieldAddr t x f,ty,pos,after,guard⟩)).1):
  Step N w0 an P ⟨dst,.fieldAddr t x f,ty,pos,after,guard⟩ a γ w B L (rop P gl orc e m dst (tr P ⟨dst,.fieldAddr t x f,ty,pos,after,guard⟩)).2:=by
 simp only[tr]at hc |-
 split at hc
 case h_2=>exact hc.elim
 rename_i fields hu;try simp only[hu]
 split at hc
 case h_2=>exact hc.elim
 rename_i fl eZ;try simp only[eZ]
 split at hc
 case h_2=>exact hc.elim
 rename_i i hi;try simp only[hi]
 split at hc
 case isTrue=>exact hc.elim
 rename_i hsz;try rw[ab hsz]
 simp only[rop]at hc |-
 have ara:i.size≠0:=by simpa using hsz
 split at hc
 ·rename_i id o' he;try simp only[he]
  rw[he]at h1;obtain⟨b,hb,hv⟩:=h1.dG;exact Qs hm (v:=.pointer (some ⟨b,o'+fl.offset,none⟩)) (by simp[execOp,hv,Instr.fieldAt,run_underlying hu,eZ,Instr.sureAddr,fieldPlace,sizeOf,typeInfo,hi,ara,bq]) (.ptr hb)
 ·rename_i row o' he;try simp only[he]
  rw[he]at h1;obtain⟨b,off,cv,hv,hb,bK,zu⟩:=h1.iM;refine Qs hm (v:=.pointer (some ⟨b,off+(o'+fl.offset),none⟩)) (by simp[execOp,hv,Instr.fieldAt,run_underlying hu,eZ,Instr.sureAddr,fieldPlace,sizeOf,typeInfo,hi,ara,bq,zzap]) (.ep cv hb bK zu)
 exact hc.elim
def JH(hm:au N w0 an γ w B L){t:TypeId}{x y:Operand}(h1:aA w γ (e (aC x)) (a.eval x))(h2:aA w γ (e (aC y)) (a.eval y))
  (hc:(rop P gl orc e m dst (tr P ⟨dst,.indexAddr t x y,ty,pos,after,guard⟩)).1):
  Step N w0 an P ⟨dst,.indexAddr t x y,ty,pos,after,guard⟩ a γ w B L (rop P gl orc e m dst (tr P ⟨dst,.indexAddr t x y,ty,pos,after,guard⟩)).2:=by
 simp only[tr]at hc |-
 split at hc
 ·rename_i te hu;try simp only[hu]
  split at hc
  case h_2=>exact hc.elim
  rename_i i hi;try simp only[hi]
  simp only[rop]at hc |-
  split at hc
  case h_3=>exact hc.elim
  case h_2=>
   rename_i id off len dy k n e1 e2;try simp only[e1,e2]
   rw[e1]at h1;rw[e2]at h2;obtain⟨b,cap,arr,y7,hb,hv,hl,hh,hs⟩:=h1.cL;obtain⟨⟨gq,qB⟩,rfl⟩:=hc;refine Qs hm (v:=.pointer (some ⟨b,off+n.toNat*i.size,none⟩)) ?_ (.ptr hb);simp[execOp,hv,h2.aI,Instr.indexAt,run_underlying hu,asIntOf,gq,qB,sizeOf,typeInfo,hi,bq]
  rename_i rt rows k n e1 e2;try simp only[e1,e2]
  rw[e1]at h1;rw[e2]at h2;obtain⟨a',cap,b,off,sz,cv,hv,s,_⟩:=h1.bZ;obtain⟨⟨gq,qB⟩,aH⟩:=hc;have ah:n.toNat<rows.length:=zE
  have dJ:rows.getD n.toNat []∈rows:=by simp[List.getD,ah]
  have hsz:sz=i.size:=(s.hsz _ dJ).symm.trans aH;subst hsz;obtain⟨ha,hb⟩:=s.at_ (by rintro rfl;simp at ah)
  have nW:∀(j:Nat)(c:AV),(rows.getD n.toNat [])[j]?=some c->Qu rows n.toNat j=some c:=fun j c hj=>by
   simp[Qu,List.getD,ah]at hj |-;exact hj
  refine Qs hm (v:=.pointer (some ⟨b,(off+n.toNat*i.size)+0,none⟩)) ?_ (.ep (off:=off+n.toNat*i.size) (cv n.toNat) hb (fun j c hj=>s.cell _ j c (nW j c hj)) fun j c hj=>s.rep _ j c (nW j c hj));have vL:n<(rows.length:Int):=qB;simp[execOp,hv,h2.aI,ha,Instr.indexAt,run_underlying hu,asIntOf,gq,vL,sizeOf,typeInfo,hi,bq]
 ·rename_i len te hu;try simp only[hu]
  split at hc
  case h_2=>exact hc.elim
  rename_i i hi;try simp only[hi]
  simp only[rop]at hc |-
  split at hc
  ·rename_i id o' k n e1 e2;try simp only[e1,e2]
   rw[e1]at h1;rw[e2]at h2;obtain⟨b,hb,hv⟩:=h1.dG;obtain⟨gq,qB⟩:=hc;refine Qs hm (v:=.pointer (some ⟨b,o'+n.toNat*i.size,none⟩)) ?_ (.ptr hb);simp[execOp,hv,h2.aI,Instr.indexAt,Instr.sureAddr,run_underlying hu,asIntOf,gq,qB,sizeOf,typeInfo,hi,bq]
  ·rename_i row o' k n e1 e2;try simp only[e1,e2]
   rw[e1]at h1;rw[e2]at h2;obtain⟨b,off,cv,hv,hb,bK,zu⟩:=h1.iM;obtain⟨gq,qB⟩:=hc;refine Qs hm (v:=.pointer (some ⟨b,off+(o'+n.toNat*i.size),none⟩)) ?_ (.ep cv hb bK zu);simp[execOp,hv,h2.aI,Instr.indexAt,Instr.sureAddr,run_underlying hu,asIntOf,gq,qB,sizeOf,typeInfo,hi,bq,zzap]
  exact hc.elim
 exact hc.elim
end
end Go.Abs
