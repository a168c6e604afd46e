import Derived.Test.YtfliagpjbbkijaaGreatDoorVBMA
set_option linter.all false
namespace Go.Abs
open Go Go.RowKit
section inv
variable {w:World} {γ:G} {v:Value}
def au.bA{b:Bool}(h:au w γ (.bool b) v):v=.bool b:=by cases h;rfl
def au.aJ{k:IntKind}{n:Int}(h:au w γ (.int k n) v):v=.int k n:=by cases h;rfl
def au.cD{s:ByteArray}(h:au w γ (.str s) v):v=.string s:=by cases h;rfl
def au.PB(h:au w γ .nilfn v):v=.nilFunc:=by cases h;rfl
def au.dO{id o:Nat}(h:au w γ (.ptr id o) v):∃b,γ.β id=some b/\v=.pointer (some ⟨b,o,none⟩):=by cases h with|ptr h=>exact⟨_,h,rfl⟩
def au.dz{id off len sz:Nat}(h:au w γ (.bs id off len sz) v):∃(b cap:Nat)(arr:PQ)(e:TypeId),γ.β id=some b/\v=.slice (some ⟨b,off,none⟩) len cap/\len<=cap/\
  w.heap[b]?=some (.cells arr e (0,0))/\off+cap*sz<=arr.size:=by
 cases h with|bs h hl hh hs=>exact⟨_,_,_,_,h,rfl,hl,hh,hs⟩
def au.Cu{g:Bool}{a:AV}(h:au w γ (.gd g a) v)(hg:g=true):au w γ a v:=by cases h with|gd h _=>exact h hg
def au.NA{a:AV}(h:au w γ (.gd false a) v):v=undef:=by cases h with|gd _ h=>exact h rfl
def au.dP{cs:P1}(h:au w γ (.agg cs) v):∃arr:PQ,v=.agg arr/\ak w γ cs arr.toList:=by
 cases h with
 |@agg _ _ arr hl h=>exact⟨arr,rfl,Nm hl,fun i a v h1 h2=>h i a v h1 (Nm h2)⟩
def au.Cv{cs:P1}(h:au w γ (.aS cs) v):∃arr:PQ,v=.tuple arr/\ak w γ cs arr.toList:=by
 cases h with
 |@aS _ _ arr hl h=>exact⟨arr,rfl,Nm hl,fun i a v h1 h2=>h i a v h1 (Nm h2)⟩
def au.mH{f:FuncId}{first cap:P1}(h:au w γ (.fn f first cap) v):∃fa ca:PQ,v=.func (.func f) fa ca/\ak w γ first fa.toList/\ak w γ cap ca.toList:=by
 cases h with
 |@fn _ _ _ _ fa ca hl h fA h'=>exact⟨fa,ca,rfl,⟨Nm hl,fun i a v h1 h2=>h i a v h1 (Nm h2)⟩,⟨Nm fA,fun i a v h1 h2=>h' i a v h1 (Nm h2)⟩⟩
def au.gE{row:P1}{o:Nat}(h:au w γ (.ep row o) v):∃(b off:Nat)(cv:Nat->Value),v=.pointer (some ⟨b,off+o,none⟩)/\b<w.heap.size/\
  (∀(j:Nat)(c:AV),row[j]?=some c->w.cell? ⟨b,off+j,none⟩=some (cv j)/\γ.ro b (off+j)/\(cv j).oneCell'=true)/\(∀(j:Nat)(c:AV),row[j]?=some c->au w γ.cQ c (cv j)):=by
 cases h with
 |@ep _ _ _ b off cv hb hc h=>exact⟨b,off,cv,rfl,hb,hc,h⟩
def au.JK{rt:Rt}{rows:X2}(h:au w γ (.sl rt rows) v):∃(a:Option Addr)(cap b off sz:Nat)(cv:Nat->Nat->Value),v=.slice a rows.length cap/\
  rows.length<=cap/\(a=none->cap=0)/\(rows≠[]->a=some ⟨b,off,none⟩/\b<w.heap.size)/\(∀row∈rows,row.length=sz)/\
  (∀(i j:Nat)(c:AV),Qr rows i j=some c->w.cell? ⟨b,off+i*sz+j,none⟩=some (cv i j)/\γ.ro b (off+i*sz+j)/\(cv i j).oneCell'=true)/\
  (∀(i j:Nat)(c:AV),Qr rows i j=some c->au w γ.cQ c (cv i j))/\tG w γ a rows.length cap sz rt:=by
 cases h with
 |@sl _ _ _ a cap b off sz cv h1 h2 h3 h4 h5 h6 h7=>exact⟨a,cap,b,off,sz,cv,rfl,h1,h2,h3,h4,h5,h6,h7⟩
end inv
def au.gF{w:World}{γ:G}{a:AV}{v:Value}(h:au w γ.cQ a v):au w γ a v:=
 h.eD ⟨zzaa _,fun _ _ _ h=>⟨h,rfl⟩,fun _ _ h=>(by cases h),fun _=>zzbe _,fun _ _ h=>(by cases h),fun _ _ h=>(by cases h),fun _ _ _ h=>(by cases h),Sz.refl w⟩
def ak.agg{w:World}{γ:G}{cs:P1}{vs:PP}(h:ak w γ cs vs):au w γ (.agg cs) (.agg vs.toArray):=
 .agg (Nm h.1) fun i c v h1 h2=>h.2 i c v h1 (Nm h2)
def ak.PC{w:World}{γ:G}{cs:P1}{arr:PQ}(h:ak w γ cs arr.toList):au w γ (.agg cs) (.agg arr):=by
 have:=h.agg;simpa using this
def ak.take{w:World}{γ:G}{cs:P1}{vs:PP}(h:ak w γ cs vs)(n:Nat):ak w γ (cs.take n) (vs.take n):=
 ⟨by simp[h.1],fun i a v h1 h2=>by
  rw[zzbw]at h1 h2;split at h1<;>simp_all;exact h.2 i a v h1 h2⟩
def ak.drop{w:World}{γ:G}{cs:P1}{vs:PP}(h:ak w γ cs vs)(n:Nat):ak w γ (cs.drop n) (vs.drop n):=
 ⟨by simp[h.1],fun i a v h1 h2=>by
  rw[zzbr]at h1 h2;exact h.2 _ a v h1 h2⟩
def FW(r:Option Nat):Fence:={Fence.wide with round:=r}
section
variable {P:Program} {o:Oper} {a:Act} {w:World} {next:Act->World->Prop} {Q:PH} {r:Option Nat}
def UP{x:Next}{w':World}(h:(execOp a.eval o).run P w=.ok x w')(hx:∀d,x≠.defer d):∀c,o.op≠.defer c:=by
 intro c hc;unfold execOp at h;simp only[hc,Sem.run_bind]at h;cases hr:(resolve a.eval c o.type).run P w with
 |ok d iw=>rw[hr]at h;simp at h;exact hx d h.1.symm
 |halt e iw=>rw[hr]at h;simp at h
def wp_run{x:Next}{w':World}(h:(execOp a.eval o).run P w=.ok x w')(hx:∀d,x≠.defer d)(hn:o.uponIn (FW r) 0 P a next Q (.ok x w')):o.wpIn (FW r) 0 P a w next Q:=by
 refine⟨fun f _=>trivial,?_⟩;rw[Oper.semAt_eq _ _ _ (UP h hx),h];exact hn
def Zn{v:Value}{w':World}(h:(execOp a.eval o).run P w=.ok (.value v) w')(hn:next (a.put o.dst v) w'):o.wpIn (FW r) 0 P a w next Q:=
 wp_run h (fun _ h=>by cases h) hn
def oy{w':World}(h:(execOp a.eval o).run P w=.ok .skip w')(hn:next (a.put o.dst undef) w'):o.wpIn (FW r) 0 P a w next Q:=
 wp_run h (fun _ h=>by cases h) hn
def EW{f:FuncId}{args:PQ}{w':World}(h:(execOp a.eval o).run P w=.ok (.enter f args) w')(hn:Calls P f args w' fun
   |.returned v,iw=>next (a.put o.dst v) iw
   |.panicked chain,iw=>Q (.panic chain) a iw
   |.outgrown,_=>LetsOut Q):o.wpIn (FW r) 0 P a w next Q:=
 wp_run h (fun _ h=>by cases h) ⟨fun h=>by simp[FW,Fence.wide]at h,callsIn_wide.2 hn⟩
end
def bC(b o n:Nat):(⟨b,o,none⟩:Addr).add n=⟨b,o+n,none⟩:=by
 unfold Addr.add;split<;>simp_all
def Qdj{P:Program}{w:World}{γ:G}{agg:Bool}{n b o:Nat}{t:TypeId}{i:TypeInfo}{d:TypeDesc}(hi:P.info? t=some i)(hd:P.underlying t=some d)(bK:Jq P t=agg)
  (hn:agg=true->n=i.size){cs:P1}{cv:Nat->Value}(bP:∀(j:Nat)(c:AV),cs[j]?=some c->w.cell? ⟨b,o+j,none⟩=some (cv j))(oA:∀(j:Nat)(c:AV),cs[j]?=some c->au w γ c (cv j))
  (hc:(Vx agg n cs).1):∃v,(Instr.loadAt t (.pointer (some ⟨b,o,none⟩))).run P w=.ok v w/\au w γ (Vx agg n cs).2 v:=by
 obtain⟨h1,h2⟩:=hc;have aH:n<=cs.length:=by rw[zzav]at h1;omega
 cases agg with
 |false=>
  have qF:=h2 rfl;subst qF;have hz:cs[0]?=some (cs.getD 0 .junk):=by simp[List.getD];cases cs<;>simp_all
  have hc0:=bP 0 _ hz;refine⟨cv 0,?_,?_⟩
  ·unfold Jq at bK;rw[hd]at bK;simp only[zzd]at hc0;cases d<;>simp at bK<;>simp[Instr.loadAt,Instr.sureAddr,loadVar,isAgg,run_underlying hd,hc0]
  simpa[Vx]using oA 0 _ hz
 |true=>
  have qF:=hn rfl;subst qF
  have hl:(loadCells ⟨b,o,none⟩ i.size).run P w=.ok ((List.range i.size).map cv).toArray w:=by
   refine run_loadCells w _ _ _ fun j hj=>?_;rw[bC];exact bP j _ (zzac zE)
  refine⟨.agg ((List.range i.size).map cv).toArray,?_,?_⟩
  ·unfold Jq at bK;rw[hd]at bK;cases d<;>simp at bK<;>simp[Instr.loadAt,Instr.sureAddr,loadVar,isAgg,run_underlying hd,sizeOf,typeInfo,hi,hl]
  simp only[Vx,if_true];refine ak.agg ⟨by simp;omega,fun j c v ek nY=>?_⟩;rw[zzbw]at ek;split at ek
  ·simp at nY;obtain⟨k,hk,rfl⟩:=nY;rename_i ah;rw[zzei ah]at hk;cases hk;exact oA j c ek
  cases ek
variable {N:Nat} {w0:fE} {an:Nat->Nat->Prop} {γ:G} {w:World} {B:Nat->QR} {L:Nat->Option Nat}
def ue{a:AV}{v:Value}(h:au w γ a v)(hc:Qw a=true):v.oneCell'=true:=by
 cases a<;>simp[Qw]at hc<;>cases h<;>first|rfl|(rename_i p;cases p<;>rfl)
def ak.map{ro':Nat->Nat->Prop}{as':P1}{vs:PP}{f:AV->AV}(h:ak w γ as' vs)(hf:∀a∈as',∀v,au w γ a v->au w (G0 ro') (f a) v):ak w (G0 ro') (as'.map f) vs:=
 ⟨Nm h.1,fun i a v h1 h2=>by
  simp at h1;obtain⟨a',h3,rfl⟩:=h1;exact hf a' (zzad h3) v (h.2 i a' v h3 h2)⟩
def ak.vu{as':P1}{p:AV->Bool}{a:AV}(ha:a∈as')(hp:p a=true):as'.any p=true:=zzbu.2 ⟨a,ha,hp⟩
def Qed(sz:Nat):∀(n:Nat)(l:P1),(aY sz n l).length=n
 |0,_=>rfl
 |n+1,l=>by simp[aY,Qed sz n]
def Aw{sz:Nat}:∀{n:Nat}{l:P1}{row:P1},n*sz<=l.length->row∈aY sz n l->row.length=sz
 |0,_,_,_,h=>by cases h
 |n+1,l,row,hl,h=>by
  rw[zzbi,zzdp]at hl;rcases zzao.1 h with rfl|h
  ·simp;omega
  exact Aw (by simp;omega) h
def Ky{sz:Nat}{c:AV}:∀{n:Nat}{l:P1}{i j:Nat},Qr (aY sz n l) i j=some c->i<n/\j<sz/\l[i*sz+j]?=some c
 |0,_,i,j,h=>by simp[Qr,aY]at h
 |n+1,l,0,j,h=>by
  simp only[Qr,aY,List.getElem?_cons_zero,zzcr]at h;rw[zzbw]at h;split at h
  ·rename_i hj;exact⟨zE,hj,Nm h⟩
  cases h
 |n+1,l,i+1,j,h=>by
  have h':Qr (aY sz n (l.drop sz)) i j=some c:=by simpa[Qr,aY]using h
  obtain⟨h1,h2,h3⟩:=Ky h';rw[zzbr]at h3;refine⟨zE,h2,?_⟩;rw[zzbi,zzdp,zzer (i*sz) sz,zzas];exact h3
def Qel(hm:aq N w0 an γ w B L){m:AM}(hB:∀id cells,m.boxes[id]?=some cells->B id=some cells){ro':Nat->Nat->Prop}(gA:∀b o,γ.ro b o->ro' b o):
  ∀(d:Nat)(a:AV)(v:Value),au w γ a v->(Vz d a=true->∀id b,γ.β id=some b->∀o,ro' b o)->au w (G0 ro') (bG m d a) v:=by
 have arK:∀(a:AV)(v:Value),au w γ.cQ a v->au w (G0 ro') a v:=fun a v h=>
  h.mono ⟨zzaa _,fun b o _ h=>⟨gA b o h,rfl⟩,fun _ _ h=>(by cases h),fun _=>zzaa _,fun _ _ h=>(by cases h),rfl,fun _ _ _ h=>(by cases h),fun _ h=>h.elim,Sz.refl w⟩
 intro d;induction d with
 |zero=>exact fun _ _ _ _=>.junk _
 |succ d ih=>
  intro a v h hp;cases a with
  |junk=>exact .junk _
  |er t a=>cases h with|er hh=>exact .er hh
  |bool b=>rw[h.bA];exact .bool b
  |int k n=>rw[h.aJ];exact .int k n
  |str s=>rw[h.cD];exact .str s
  |nilfn=>rw[h.PB];exact .nilfn
  |gd g a=>exact .junk _
  |yld l=>exact .junk _
  |mp id=>exact .junk _
  |nilv p=>cases h;exact .nilv p
  |it id=>exact .junk _
  |aM kn kvs=>exact .junk _
  |mitr mid n s=>exact .junk _
  |agg cs=>
   obtain⟨arr,rfl,hr⟩:=h.dP;refine ak.PC (hr.map fun a ha v hv=>ih a v hv fun j7=>hp ?_);simp only[Vz];exact ak.vu ha j7
  |aS cs=>
   obtain⟨arr,rfl,hr⟩:=h.Cv;have:=hr.map (ro':=ro') (f:=bG m d) fun a ha v hv=>ih a v hv fun j7=>hp (by simp only[Vz];exact ak.vu ha j7);exact .aS (Nm this.1) fun i c v h1 h2=>this.2 i c v h1 (Nm h2)
  |fn f first cap=>
   obtain⟨fa,ca,rfl,h1,h2⟩:=h.mH;have t1:=h1.map (ro':=ro') (f:=bG m d) fun a ha v hv=>ih a v hv fun j7=>hp (by simp only[Vz];rw[ak.vu ha j7];rfl);have t2:=h2.map (ro':=ro') (f:=bG m d) fun a ha v hv=>ih a v hv fun j7=>hp (by simp only[Vz];rw[ak.vu ha j7];simp);exact .fn (Nm t1.1) (fun i c v h1 h2=>t1.2 i c v h1 (Nm h2)) (Nm t2.1) fun i c v h1 h2=>t2.2 i c v h1 (Nm h2)
  |ep row o=>
   obtain⟨b,off,cv,rfl,hb,hc,hr⟩:=h.gE;exact .ep cv hb (fun j c hj=>⟨(hc j c hj).1,gA _ _ (hc j c hj).2.1,(hc j c hj).2.2⟩) fun j c hj=>arK _ _ (hr j c hj)
  |sl rt rows=>
   obtain⟨a,cap,b,off,sz,cv,rfl,h1,h2,h3,h4,h5,h6,h7⟩:=h.JK
   have key:∀dA,tG w (G0 ro') a rows.length cap sz dA->au w (G0 ro') (.sl dA rows) (.slice a rows.length cap):=fun dA bn=>
    .sl b off sz cv h1 h2 h3 h4 (fun i j c hj=>⟨(h5 i j c hj).1,gA _ _ (h5 i j c hj).2.1,(h5 i j c hj).2.2⟩) (fun i j c hj=>arK _ _ (h6 i j c hj)) bn
   cases rt with
   |ro=>exact key .ro trivial
   |full=>exact key .full h7
   |nil=>exact key .nil h7
   |nn=>exact key .nn h7
   |own id gz=>exact key .ro trivial
  |bs id off len sz=>
   obtain⟨b,cap,arr,te,hb,rfl,hl,hh,hs⟩:=h.dz;have fK:=hp rfl;obtain⟨_,ah,_⟩:=hm.β id b hb;simp only[bG];cases hble:Nat.ble (off+len*sz) (m.boxes.getD id []).length with
   |false=>exact .junk _
   |true=>
    have cw:=zzha hble
    have cA:∀(k:Nat)(c:AV),(((m.boxes.getD id []).map (bG m d)).drop off)[k]?=some c->∃c' u,c=bG m d c'/\arr[off+k]?=some u/\arr.getD (off+k) undef=u/\au w γ c' u/\u.oneCell'=true:=fun k c hk=>by
     rw[zzbr,zzbc]at hk;cases gT:m.boxes[id]? with
     |none=>simp[List.getD,gT]at hk
     |some cells=>
      have:m.boxes.getD id []=cells:=by simp[List.getD,gT]
      rw[this]at hk;obtain⟨bU,e',g2,g3,g4⟩:=hm.box id cells b (hB id cells gT) hb;rw[hh]at g2;cases g2;cases hc:cells[off+k]? with
      |none=>simp[hc]at hk
      |some c'=>
       simp[hc]at hk;have h1:=(zza.1 hc).1;have h2:=g3.1;have bL:off+k<arr.size:=by simp at h2;omega
       have hu:arr[off+k]?=some arr[off+k]:=zzag bL;exact⟨c',arr[off+k],hk.symm,hu,by simp[bL],g3.2 _ c' _ hc (by simp[bL]),g4 _ zd⟩
    have aH:=Qed sz len (((m.boxes.getD id []).map (bG m d)).drop off)
    have hr:au w (G0 ro') (.sl .ro (aY sz len (((m.boxes.getD id []).map (bG m d)).drop off))) (.slice (some ⟨b,off,none⟩) (aY sz len (((m.boxes.getD id []).map (bG m d)).drop off)).length cap):=by
     refine .sl b off sz (fun i j=>arr.getD (off+(i*sz+j)) undef) (by rw[aH];exact hl) (fun h=>by cases h) (fun _=>⟨rfl,ah⟩) (fun row ai=>?_) (fun i j c hc=>?_) (fun i j c hc=>?_) trivial
     ·exact Aw (by rw[zzcw,zzbv];omega) ai
     ·obtain⟨_,_,h3⟩:=Ky hc;obtain⟨c',u,rfl,h4,h5,h6,h7⟩:=cA _ _ h3;rw[aQ hh,zzas,h5];exact⟨h4,fK id b hb _,h7⟩
     obtain⟨_,_,h3⟩:=Ky hc;obtain⟨c',u,rfl,h4,h5,h6,h7⟩:=cA _ _ h3;rw[UI,h5];exact ih c' u h6 fun _=>fK
    rw[aH]at hr;exact hr
  |ptr id o=>
   obtain⟨b,hb,rfl⟩:=h.dO;have fK:=hp rfl;obtain⟨_,ah,_⟩:=hm.β id b hb;simp only[bG];have hz:(.pointer (some ⟨b,o,none⟩):Value)=.pointer (some ⟨b,0+o,none⟩):=by rw[zzbn]
   rw[hz];cases gT:m.boxes[id]? with
   |none=>
    have:m.boxes.getD id []=[]:=by simp[List.getD,gT]
    rw[this];exact .ep (fun _=>undef) ah (fun j c hj=>by simp at hj) fun j c hj=>by simp at hj
   |some cells=>
    have:m.boxes.getD id []=cells:=by simp[List.getD,gT]
    rw[this];obtain⟨arr,e,g2,g3,g4⟩:=hm.box id cells b (hB id cells gT) hb
    have cA:∀(j:Nat)(c:AV),(cells.map (bG m d))[j]?=some c->∃c' u,cells[j]?=some c'/\c=bG m d c'/\arr[j]?=some u/\arr.getD j undef=u/\au w γ c' u:=fun j c hj=>by
     simp at hj;obtain⟨c',h1,rfl⟩:=hj
     have bL:j<arr.size:=by
      have:=g3.1;rcases zzab j cells.length with h|h
      ·simp at this;omega
      rw[zzar h]at h1;cases h1
     have hu:arr[j]?=some arr[j]:=zzag bL;exact⟨c',arr[j],h1,rfl,hu,by simp[bL],g3.2 j c' _ h1 (by simp[bL])⟩
    refine .ep (fun j=>arr.getD j undef) ah (fun j c hj=>?_) fun j c hj=>?_
    ·obtain⟨c',u,h1,h2,h3,h4,h5⟩:=cA j c hj;rw[zzbn,aQ g2,h4];exact⟨h3,fK id b hb j,g4 u (by simpa using zzda h3)⟩
    obtain⟨c',u,h1,rfl,h3,h4,h5⟩:=cA j c hj;rw[UI,h4];exact ih c' u h5 fun _=>fK
def UQ{w':World}{γ':G}{r:AV}{v:Value}(hf:flat r=true)(h:au w γ r v):au w' γ' r v:=by
 have one:∀(a:AV)(v:Value),iS a=true->au w γ a v->au w' γ' a v:=fun a v hf h=>by
  cases a<;>simp[iS]at hf
  ·rw[h.bA];exact .bool _
  ·rw[h.aJ];exact .int _ _
  rw[h.cD];exact .str _
 cases r with
 |aS cs=>
  obtain⟨arr,rfl,hr⟩:=h.Cv;simp only[flat]at hf;exact .aS (Nm hr.1) fun i c v h1 h2=>one c v (zzbf.1 hf c (zzad h1)) (hr.2 i c v h1 (Nm h2))
 |_=>exact one _ _ hf h
def JL{P:Program}{gl:Nat->AV}(hm:aq N w0 an γ w B L){m:AM}(hB:∀id cells,m.boxes[id]?=some cells->B id=some cells)(fh:∀g,au w γ.cQ (gl g) (.pointer (some ⟨g,0,none⟩)))
  {f:FuncId}{as':P1}{vs:PP}{r:AV}(hr:ak w γ as' vs)(hp:Pure P gl f (as'.map (bG m 6)) r)(gG:as'.any (Vz 6)=true->flat r=true)
  {R:Ending->World->Prop}(hk:∀v w' γ',Ev w γ w' γ'->aq N w0 an γ' w' B L->au w' γ' r v->R (.returned v) w'):Calls P f vs.toArray w R:=by
 let ro':Nat->Nat->Prop:=fun b o=>γ.ro b o\/(as'.any (Vz 6)=true/\∃id,γ.β id=some b)
 have iT:ak w (G0 ro') (as'.map (bG m 6)) vs:=hr.map fun a ha v hv=>Qel hm hB (fun b o h=>.inl h) 6 a v hv fun j7 id b hb o=>.inr ⟨ak.vu ha j7,id,hb⟩
 have axz:∀g,au w (G0 ro') (gl g) (.pointer (some ⟨g,0,none⟩)):=fun g=>
  (fh g).mono ⟨zzaa _,fun b o _ h=>⟨.inl h,rfl⟩,fun _ _ h=>(by cases h),fun _=>zzaa _,fun _ _ h=>(by cases h),rfl,fun _ _ _ h=>(by cases h),fun _ h=>h.elim,Sz.refl w⟩
 refine(hp.2 ro' w vs axz iT).mono ?_;rintro e w' ⟨v,rfl,hb,hv⟩;refine hk v w' _ (hm.cH hb) (hm.grow hb) ?_;cases hany:as'.any (Vz 6)with
 |true=>exact UQ (gG hany) hv
 |false=>
  refine hv.eD ⟨zzaa _,fun b o ah h=>⟨?_,rfl⟩,fun _ _ h=>(by cases h),fun _=>zzbe _,fun _ _ h=>(by cases h),fun _ _ h=>(by cases h),fun _ _ _ h=>(by cases h),Sz.refl w'⟩;obtain(h|⟨h,_⟩)|h:=h
  ·exact .inl h
  ·rw[hany]at h;cases h
  exact .inr ⟨h,ah⟩
def Ve(n sz:Nat)(cv:Nat->Nat->Value):PP:=(List.range (n*sz)).map fun k=>cv (k/sz) (k%sz)
def Zf(n sz:Nat)(cv:Nat->Nat->Value):(Ve n sz cv).length=n*sz:=by simp[Ve]
def qG{n sz:Nat}{cv:Nat->Nat->Value}{k:Nat}{u:Value}(h:(Ve n sz cv)[k]?=some u):k<n*sz/\u=cv (k/sz) (k%sz):=by
 simp only[Ve,zzbc]at h;rcases zzab k (n*sz)with hk|hk
 ·rw[zzei hk]at h;simp at h;exact⟨hk,h.symm⟩
 rw[zzar (Nm hk)]at h;simp at h
def vw(n sz:Nat)(cv:Nat->Nat->Value){i j:Nat}(hi:i<n)(hj:j<sz):(Ve n sz cv)[i*sz+j]?=some (cv i j):=by
 have hk:i*sz+j<n*sz:=by
  have:(i+1)*sz<=n*sz:=zzbb _ hi;rw[zzbi,zzdp]at this;omega
 have h1:(i*sz+j)/sz=i:=by
  rw[zzcc,Nat.mul_add_div zE,Nat.div_eq_of_lt hj];rfl
 have h2:(i*sz+j)%sz=j:=by
  rw[zzcc,Nat.mul_add_mod,zzdx hj]
 simp[Ve,zzei hk,h1,h2]
def vz{rows:X2}{sz k:Nat}(hsz:∀row∈rows,row.length=sz)(hk:k<rows.length*sz):∃c,Qr rows (k/sz) (k%sz)=some c:=by
 have h0:0<sz:=by
  rcases zzbx sz with h|h;· subst h;simp at hk
  · exact h
 have h1:k/sz<rows.length:=by rw[Nat.div_lt_iff_lt_mul h0];exact hk
 have h2:k%sz<(rows[k/sz]).length:=by rw[hsz _ (zzdc h1)];exact zzdk _ h0
 exact⟨rows[k/sz][k%sz],by simp[Qr,h1,h2]⟩
structure qp (w:World) (γ:G) (rows:X2) (a:Option Addr) (cap b off sz:Nat) (cv:Nat->Nat->Value):Prop where
 hcap:rows.length<=cap
 hnil:a=none->cap=0
 at_:rows≠[]->a=some ⟨b,off,none⟩/\b<w.heap.size
 hsz:∀row∈rows,row.length=sz
 cell:∀(i j:Nat)(c:AV),Qr rows i j=some c->w.cell? ⟨b,off+i*sz+j,none⟩=some (cv i j)/\γ.ro b (off+i*sz+j)/\(cv i j).oneCell'=true
 rep:∀(i j:Nat)(c:AV),Qr rows i j=some c->au w γ.cQ c (cv i j)
def qp.mk'{w:World}{γ:G}{rows:X2}{a:Option Addr}{cap b off sz:Nat}{cv:Nat->Nat->Value}(h:qp w γ rows a cap b off sz cv){rt:Rt}(bn:tG w γ a rows.length cap sz rt):
  au w γ (.sl rt rows) (.slice a rows.length cap):=.sl b off sz cv h.hcap h.hnil h.at_ h.hsz h.cell h.rep bn
def au.cq{w:World}{γ:G}{v:Value}{rt:Rt}{rows:X2}(h:au w γ (.sl rt rows) v):∃(a:Option Addr)(cap b off sz:Nat)(cv:Nat->Nat->Value),
  v=.slice a rows.length cap/\qp w γ rows a cap b off sz cv/\tG w γ a rows.length cap sz rt:=by
 obtain⟨a,cap,b,off,sz,cv,h0,h1,h2,h3,h4,h5,h6,h7⟩:=h.JK;exact⟨a,cap,b,off,sz,cv,h0,⟨h1,h2,h3,h4,h5,h6⟩,h7⟩
def qp.cells{w:World}{γ:G}{rows:X2}{a:Option Addr}{cap b off sz:Nat}{cv:Nat->Nat->Value}(h:qp w γ rows a cap b off sz cv):
  ∀k u,(Ve rows.length sz cv)[k]?=some u->w.cell? ((⟨b,off,none⟩:Addr).add k)=some u:=fun k u hu=>by
 obtain⟨hk,rfl⟩:=qG hu;obtain⟨c,hc⟩:=vz h.hsz hk;have:=(h.cell _ _ c hc).1
 have h0:0<sz:=by
  rcases zzbx sz with h|h;· subst h;simp at hk
  · exact h
 rw[bC];rw[<- this]
 have e:off+k=off+k/sz*sz+k%sz:=by
  have:=zzgv k sz;rw[zzcc]at this;omega
 rw[e]
def qp.one{w:World}{γ:G}{rows:X2}{a:Option Addr}{cap b off sz:Nat}{cv:Nat->Nat->Value}(h:qp w γ rows a cap b off sz cv):
  ∀u∈Ve rows.length sz cv,u.oneCell'=true:=fun u hu=>by
 obtain⟨k,hk⟩:=zzcl.1 hu;obtain⟨tI,rfl⟩:=qG hk;obtain⟨c,hc⟩:=vz h.hsz tI;exact(h.cell _ _ c hc).2.2
def qp.first{P:Program}{w:World}{γ:G}{rows:X2}{a:Option Addr}{cap b off sz:Nat}{cv:Nat->Nat->Value}(h:qp w γ rows a cap b off sz cv){w':World}(hw:∀x,w'.cell? x=w.cell? x):
  (Builtin.firstCells sz rows.length (.slice a rows.length cap)).run P w'=.ok (Ve rows.length sz cv).toArray w':=by
 cases hr:rows with
 |nil=>
  subst hr;cases a with
  |none=>simp[Builtin.firstCells,Ve]
  |some a=>simp[Builtin.firstCells,loadCells,loadCellsFrom,Ve]
 |cons r rs=>
  rw[<- hr];obtain⟨rfl,_⟩:=h.at_ (by rw[hr];simp);exact run_firstCells_some w' sz rows.length _ rows.length cap _ (Zf _ _ _) fun j u hj=>by rw[hw];exact h.cells j u hj
def Qcm(n:Nat)(cv gH:Nat->Nat->Value):Nat->Nat->Value:=fun i j=>if i<n then cv i j else gH (i-n) j
def Uj{rows aB:X2}{i j:Nat}{c:AV}(h:Qr (rows++aB) i j=some c):
  (i<rows.length/\Qr rows i j=some c)\/(rows.length<=i/\Qr aB (i-rows.length) j=some c):=by
 unfold Qr at*
 rcases zzab i rows.length with hi|hi
 ·rw[zzam hi]at h;exact .inl ⟨hi,h⟩
 rw[zzaw hi]at h;exact .inr ⟨hi,h⟩
def mJ{rows:X2}{i j:Nat}{c:AV}(h:Qr rows i j=some c):∃hi:i<rows.length,j<rows[i].length:=by
 unfold Qr at h;cases hr:rows[i]? with
 |none=>simp[hr]at h
 |some row=>
  obtain⟨hi,rfl⟩:=zza.1 hr;simp[hr]at h;exact⟨hi,(zza.1 h).1⟩
def Ay(n:Nat):∀(k c:Nat),c<n->Builtin.growBy n k c<=n+n/4+192
 |0,c,h=>by simp only[Builtin.growBy];omega
 |k+1,c,h=>by
  simp only[Builtin.growBy];rw[if_neg zE];by_cases h2:c+(c+768)/4<n
  ·exact Ay n k _ h2
  cases k with
  |zero=>simp only[Builtin.growBy];omega
  |succ k=>simp only[Builtin.growBy];rw[if_pos zE];omega
def UR{n c:Nat}(h:c<n):2*Builtin.nextslicecap n c<=3*n+4000:=by
 unfold Builtin.nextslicecap;split
 ·omega
 split
 ·omega
 have:=Ay n 4 c h;omega
section run
variable {P:Program} {w:World} {γ:G} {t ty e:TypeId} {i:TypeInfo} {z:Value} {rows aB:X2} {a a2:Option Addr} {cap b off cr b2 gD sz:Nat} {cv gH:Nat->Nat->Value}
def Qdv(ht:P.underlying t=some (.slice e))(hi:P.info? e=some i)(a2:Option Addr)(cr len:Nat)(hcap:len<=cap):
  (Builtin.append_ #[t,t] ty #[.slice a len cap,.slice a2 0 cr]).run P w=.ok (.slice a len cap) w:=by
 cases a<;>cases a2<;>simp[Builtin.append_,run_underlying ht,sizeOf,typeInfo,hi,Builtin.lenOf,hcap,Builtin.firstCells,loadCells,loadCellsFrom,storeCells]
def oB(ht:P.underlying t=some (.slice e))(hi:P.info? e=some i)(hz:i.zero=some z)(h:qp w γ rows a cap b off i.size cv){γ2:G}(h2:qp w γ2 aB a2 cr b2 gD i.size gH)
  (hg:cap<rows.length+aB.length)(cN:(3*(rows.length+aB.length)+4000)*i.bytes<=562949953421312)(Cw:rows.length+aB.length<=9223372036854775807):
  ∃bq,rows.length+aB.length<=bq/\(Builtin.append_ #[t,t] ty #[.slice a rows.length cap,.slice a2 aB.length cr]).run P w=
   .ok (.slice (some ⟨w.heap.size,0,none⟩) (rows.length+aB.length) bq)
    (w.drew.alloc (.cells ((Ve rows.length i.size cv).toArray++(Ve aB.length i.size gH).toArray++Builtin.zeroCells z.cells (bq-(rows.length+aB.length))) e)):=by
 have hn:¬(rows.length+aB.length<=cap):=zE
 have alE:¬(9223372036854775807<((rows.length:Int)+(aB.length:Int))):=zE
 have cw:=UR hg
 have alF:¬(281474976710656<Builtin.nextslicecap (rows.length+aB.length) cap*i.bytes):=by
  have:2*Builtin.nextslicecap (rows.length+aB.length) cap*i.bytes<=(3*(rows.length+aB.length)+4000)*i.bytes:=zzbb _ zE;rw[zzgi]at this;omega
 have f1:=h.first (P:=P) (w':=w.drew) fun _=>rfl
 have f2:=h2.first (P:=P) (w':=w.drew) fun _=>rfl
 refine⟨grownCap w (rows.length+aB.length) cap e,grownCap_ge w _ _ _,?_⟩;simp[Builtin.append_,run_underlying ht,sizeOf,typeInfo,zeroValue,hi,hz,Builtin.lenOf,hn,alE,alF,Question.forced,f1,f2,newRow,grownCap];congr 2;apply Array.ext';simp[zzbd]
def Cx(ht:P.underlying t=some (.slice e))(hi:P.info? e=some i)(h2:qp w γ aB a2 cr b2 gD i.size gH){len:Nat}
  (eU:len+aB.length<=cap){arr:PQ}{e':TypeId}(hh:w.heap[b]?=some (.cells arr e' (0,0)))(hsz:off+cap*i.size<=arr.size):
  (
   Builtin.append_ #[t,t] ty #[.slice (some ⟨b,off,none⟩) len cap,.slice a2 aB.length cr]).run P w=
   .ok (.slice (some ⟨b,off,none⟩) (len+aB.length) cap) (w.setCells b (off+len*i.size) (Ve aB.length i.size gH)):=by
 have f2:=h2.first (P:=P) (w':=w) fun _=>rfl
 have cw:(len+aB.length)*i.size<=cap*i.size:=zzbb _ eU;rw[zzbi]at cw
 have cI:=run_storeCells_cells (P:=P) b (off+len*i.size) (Ve aB.length i.size gH) 0 w (fun j hj=>by
   rw[Zf]at hj;rw[aQ hh,zzd,zzag zE];rfl)
  (fun j hj=>Uc hh) h2.one
 simp only[zzd]at cI;simp[Builtin.append_,run_underlying ht,sizeOf,typeInfo,hi,Builtin.lenOf,eU,f2,bC,cI]
end run
variable {N:Nat} {w0:fE} {an:Nat->Nat->Prop} {γ:G} {w:World} {B:Nat->QR} {L:Nat->Option Nat}
def qp.fix{rows:X2}{a:Option Addr}{cap b off sz gz:Nat}{cv:Nat->Nat->Value}(h:qp w γ rows a cap b off gz cv)(hr:∀row∈rows,row.length=sz):qp w γ rows a cap b off sz cv:=by
 cases eE:rows with
 |nil=>
  subst eE;exact⟨h.hcap,h.hnil,h.at_,hr,fun i j c hc=>by simp[Qr]at hc,fun i j c hc=>by simp[Qr]at hc⟩
 |cons r rs=>
  have e:gz=sz:=(h.hsz r (by simp[eE])).symm.trans (hr r (by simp[eE]));rw[<- eE];subst e;exact h
def qp.mono{rows:X2}{a:Option Addr}{cap b off sz:Nat}{cv:Nat->Nat->Value}(h:qp w γ rows a cap b off sz cv){w':World}{γ':G}(e:Ev w γ w' γ'):qp w' γ' rows a cap b off sz cv:=by
 obtain⟨a',azV,b',mM,gz,cv',e0,h1,h2⟩:=((h.mk' (rt:=.ro) trivial).mono e).cq;refine⟨h.hcap,h.hnil,fun hn=>⟨(h.at_ hn).1,zzan (h.at_ hn).2 e.size⟩,h.hsz,fun i j c hc=>?_,fun i j c hc=>(h.rep i j c hc).mono e.cQ⟩;have hb:=(h.at_ (by rintro rfl;simp[Qr]at hc)).2;obtain⟨g1,g2,g3⟩:=h.cell i j c hc;exact⟨(e.ro _ _ hb g2).2.trans g1,(e.ro _ _ hb g2).1,g3⟩
def qp.EX{rows aB:X2}{a a2:Option Addr}{cap b off cr b2 gD sz:Nat}{cv gH:Nat->Nat->Value}(h:qp w γ rows a cap b off sz cv){γ2:G}(h2:qp w γ2 aB a2 cr b2 gD sz gH)(dB:∀i j c,Qr aB i j=some c->au w γ.cQ c (gH i j))
  {w':World}{γ':G}(e:Ev w γ w' γ'){nb:Nat}{rest:PQ}{te:TypeId}
  (hh:w'.heap[nb]?=some (.cells ((Ve rows.length sz cv).toArray++(Ve aB.length sz gH).toArray++rest) te (0,0)))
  (gA:∀o,o<(rows.length+aB.length)*sz->γ'.ro nb o){bq:Nat}(hcap:rows.length+aB.length<=bq):
  qp w' γ' (rows++aB) (some ⟨nb,0,none⟩) bq nb 0 sz (Qcm rows.length cv gH):=by
 refine⟨Nm hcap,fun hn=>(by cases hn),fun _=>⟨rfl,aW hh⟩,fun row hr=>?_,fun i j c hc=>?_,fun i j c hc=>?_⟩
 ·rcases zzat.1 hr with hr|hr
  ·exact h.hsz row hr
  exact h2.hsz row hr
 ·obtain⟨hi,hj⟩:=mJ hc
  have NB:j<sz:=by
   rcases zzat.1 (zzdc hi)with hr|hr
   ·rw[h.hsz _ hr]at hj;exact hj
   rw[h2.hsz _ hr]at hj;exact hj
  have ah:i*sz+j<(rows.length+aB.length)*sz:=by
   have:(i+1)*sz<=(rows.length+aB.length)*sz:=zzbb _ (by simp at hi;omega);rw[zzbi,zzdp]at this;omega
  rw[zzbn];refine⟨?_,gA _ ah,?_⟩
  ·rw[aQ hh];rcases Uj hc with⟨h1,h3⟩|⟨h1,h3⟩
   ·have:=vw rows.length sz cv h1 NB;have hl:i*sz+j<(Ve rows.length sz cv).length:=(zza.1 this).1;rw[Array.append_assoc,zzfc (Nm hl)];simp[Qcm,h1,this]
   have h4:i-rows.length<aB.length:=(mJ h3).1;have:=vw aB.length sz gH h4 NB
   have e1:i*sz+j=rows.length*sz+((i-rows.length)*sz+j):=by
    rw[Nat.sub_mul];have:rows.length*sz<=i*sz:=zzbb _ h1;omega
   have hl:(i-rows.length)*sz+j<(Ve aB.length sz gH).length:=(zza.1 this).1;rw[Array.append_assoc,Array.getElem?_append_right (by simp[Zf];omega)];rw[zzfc (by simp[Zf]at hl |-;omega)];have e2:i*sz+j-rows.length*sz=(i-rows.length)*sz+j:=zE
   simp only[zzfn,Zf,e2,List.getElem?_toArray,this,Qcm,if_neg (zzbj.2 h1)]
  unfold Qcm;rcases Uj hc with⟨h1,h3⟩|⟨h1,h3⟩
  ·rw[if_pos h1];exact(h.cell i j c h3).2.2
  rw[if_neg (zzbj.2 h1)];exact(h2.cell _ j c h3).2.2
 unfold Qcm;rcases Uj hc with⟨h1,h3⟩|⟨h1,h3⟩
 ·rw[if_pos h1];exact(h.rep i j c h3).mono e.cQ
 rw[if_neg (zzbj.2 h1)];exact(dB _ j c h3).mono e.cQ
def Kz(w:World)(o:Obj):(w.drew.alloc o).heap[w.heap.size]?=some o:=by
 show(w.heap.push o)[w.heap.size]?=some o;simp
def tJ(w:World)(o:Obj):w.heap.size<(w.drew.alloc o).heap.size:=by
 show _<(w.heap.push o).size;simp
def qH(w:World)(o:Obj):Below w.heap.size w (w.drew.alloc o):=
 ((Below.refl w.heap.size w).drew).alloc (zzaa _) o
section
variable {P:Program} {t ty e:TypeId} {i:TypeInfo} {z:Value} {rows aB:X2} {rt US:Rt} {v1 v2:Value}
def alG(hm:aq N w0 an γ w B L)(ht:P.underlying t=some (.slice e))(hi:P.info? e=some i)(hz:i.zero=some z)(h1:au w γ (.sl .full rows) v1)(h2:au w γ (.sl US aB) v2)
  (hr:∀row∈rows++aB,row.length=i.size)(cN:(3*(rows.length+aB.length)+4000)*i.bytes<=562949953421312)(Cw:rows.length+aB.length<=9223372036854775807):
  ∃v w' γ',(Builtin.append_ #[t,t] ty #[v1,v2]).run P w=.ok v w'/\Ev w γ w' γ'/\aq N w0 an γ' w' B L/\au w' γ' (.sl .ro (rows++aB)) v:=by
 obtain⟨a,cap,b,off,sz,cv,rfl,s1,r1⟩:=h1.cq;obtain⟨a2,cr,b2,gD,sz2,gH,rfl,s2,r2⟩:=h2.cq;replace s1:=s1.fix (sz:=i.size) fun row h=>hr row (by simp[h]);replace s2:=s2.fix (sz:=i.size) fun row h=>hr row (by simp[h]);by_cases hn:aB=[]
 ·subst hn;refine⟨_,w,γ,Qdv ht hi _ _ _ s1.hcap,Ev.refl _ _,hm,?_⟩;rw[zzau];exact s1.mk' trivial
 have oC:0<aB.length:=zzdi.2 hn;have hcap:cap=rows.length:=r1;obtain⟨bq,cw,aZ⟩:=oB (P:=P) (ty:=ty) ht hi hz s1 s2 zE cN Cw;have hb:=qH w (.cells ((Ve rows.length i.size cv).toArray++(Ve aB.length i.size gH).toArray++Builtin.zeroCells z.cells (bq-(rows.length+aB.length))) e);refine⟨_,_,_,aZ,hm.cH hb,hm.grow hb,?_⟩;have hj:=s1.EX s2 s2.rep (hm.cH hb) (nb:=w.heap.size) (te:=e) (Kz w _) (fun o _=>.inr ⟨zzaa _,tJ w _⟩) cw;have:=hj.mk' (rt:=.ro) trivial;rwa [zzal]at this
def G.mark(γ:G)(id n:Nat):G:={γ with cur:=fun i=>if i=id then n else γ.cur i}
def aq.oE(hm:aq N w0 an γ w B L){id n:Nat}(hn:γ.cur id<=n)(h0:γ.cur id=n\/γ.own id=none):Ev w γ w (γ.mark id n) where
 size:=zzaa _
 ro _ _ _ h:=⟨h,rfl⟩
 β _ _ h:=h
 cur j:=by simp only[G.mark];split<;>simp_all
 mm _ _ h:=h
 lp:=rfl
 own j b _ ho:=⟨ho,fun arr _ h=>⟨arr,h,zzaa _⟩,fun _ h=>h⟩
 sp _ h:=⟨h,rfl⟩
 ss:=Sz.refl w
def aq.mark(hm:aq N w0 an γ w B L){id n:Nat}(hn:γ.cur id<=n)(h0:γ.cur id=n\/γ.own id=none):aq N w0 an (γ.mark id n) w B (fun i=>if i=id then some n else L i) where
 bs:=w0.st _ _ _ _ hm.bs ⟨rfl,rfl,rfl,zzaa _,fun _ _ _=>rfl,fun _ _ _ h=>⟨h,rfl⟩,fun _ hb=>.inl hb,fun _ _ h=>.inl h⟩
 hN:=hm.hN
 an:=hm.an
 robd:=hm.robd
 box j cs b hb h1:=by
  obtain⟨arr,e,h2,h3,h4⟩:=hm.box j cs b hb h1;exact⟨arr,e,h2,h3.mono (hm.oE hn h0),h4⟩
 β:=hm.β
 inj:=hm.inj
 own j b hb:=by
  obtain⟨h1,h2,k,hk⟩:=hm.own j b hb;refine⟨h1,h2,?_⟩;by_cases hj:j=id
  ·exact⟨n,by simp[hj]⟩
  exact⟨k,by simp[hj,hk]⟩
 oinj:=hm.oinj
 sp:=hm.sp
 mm i b hb:=by
  obtain⟨h1,h2,h3,h4,h5,h6,h8,h7⟩:=hm.mm i b hb;exact⟨h1,h2,h3,h4,h5,h6,h8,h7.mono (hm.oE hn h0).cR.Aq rfl⟩
 minj:=hm.minj
 len j k hj:=by
  by_cases h:j=id
  ·simp[h]at hj;simp[G.mark,h,hj]
  simp[h]at hj;simp[G.mark,h,hm.len j k hj]
 cur0 j hj:=by
  by_cases h:j=id
  ·simp[h]at hj
  simp[h]at hj;simp[G.mark,h,hm.cur0 j hj]
def vA(hm:aq N w0 an γ w B L)(ht:P.underlying t=some (.slice e))(hi:P.info? e=some i)(hz:i.zero=some z)(JM:z.cells.size=i.size){id:Nat}
  (h1:(au w γ (.sl .full rows) v1/\L id=none)\/(au w γ (.sl (.own id i.size) rows) v1/\L id=some rows.length)){γ2:G}{a2:Option Addr}{cr b2 gD:Nat}{gH:Nat->Nat->Value}(s2:qp w γ2 aB a2 cr b2 gD i.size gH)(dB:∀i j c,Qr aB i j=some c->au w γ.cQ c (gH i j))
  (hr:∀row∈rows++aB,row.length=i.size)(cN:(3*(rows.length+aB.length)+4000)*i.bytes<=562949953421312)(Cw:rows.length+aB.length<=9223372036854775807):
  ∃v w' γ',(Builtin.append_ #[t,t] ty #[v1,.slice a2 aB.length cr]).run P w=.ok v w'/\Ev w γ w' γ'/\aq N w0 an γ' w' B (fun j=>if j=id then some (rows.length+aB.length)else L j)/\au w' γ' (.sl (.own id i.size) (rows++aB)) v:=by
 have key:∃a cap b off cv,v1=.slice a rows.length cap/\qp w γ rows a cap b off i.size cv/\γ.cur id<=rows.length/\(γ.cur id=rows.length\/γ.own id=none)/\(cap=rows.length\/(lQ w γ a id rows.length cap i.size/\γ.cur id=rows.length)):=by
  obtain⟨h1,hL⟩|⟨h1,hL⟩:=h1
  ·obtain⟨a,cap,b,off,sz,cv,rfl,s1,r1⟩:=h1.cq
   have cp:γ.own id=none:=by
    cases ho:γ.own id with
    |none=>rfl
    |some b=>obtain⟨_,_,n,hn⟩:=hm.own id b ho;rw[hL]at hn;cases hn
   exact⟨a,cap,b,off,cv,rfl,s1.fix fun row h=>hr row (by simp[h]),by rw[hm.cur0 id hL];exact zzbe _,.inr cp,.inl r1⟩
  obtain⟨a,cap,b,off,sz,cv,rfl,s1,r1,r2,r3⟩:=h1.cq;subst r1;have hc:=hm.len id _ hL;exact⟨a,cap,b,off,cv,rfl,s1,zE,.inl hc,(r3 hc.symm).imp_right fun h=>⟨h,hc⟩⟩
 obtain⟨a,cap,b,off,cv,rfl,s1,ad9,eu,dy⟩:=key;by_cases hn:aB=[]
 ·subst hn;refine⟨_,w,γ.mark id rows.length,Qdv ht hi _ _ _ s1.hcap,hm.oE ad9 eu,by simpa using hm.mark ad9 eu,?_⟩;rw[zzau];refine(s1.mono (hm.oE ad9 eu)).mk' ⟨rfl,by simp[G.mark],fun _=>?_⟩;obtain h|⟨h,hc⟩:=dy
  ·exact .inl h
  refine .inr (h.mono (hm.oE ad9 eu) ?_);simp[G.mark,hc]
 have oC:0<aB.length:=zzdi.2 hn;by_cases eU:rows.length+aB.length<=cap
 ·
  obtain h|⟨⟨b',mM,arr,te,ha,ho,hh,hsz,ow⟩,hc⟩:=dy
  ·omega
  subst ha;have aZ:=Cx (P:=P) (ty:=ty) (off:=mM) ht hi s2 eU hh hsz;have hq:mM+(rows.length+aB.length)*i.size=mM+rows.length*i.size+(Ve aB.length i.size gH).length:=by rw[Zf,zzbi];omega
  have bZ:=hm.jZ (vs:=Ve aB.length i.size gH) (n:=rows.length+aB.length) ho zE (fun h=>zE) hq ow;refine⟨_,_,_,aZ,bZ,hm.extend ho zE (fun h=>zE) hq ow,?_⟩;have hb:b'<w.heap.size:=aW hh;have cw:(rows.length+aB.length)*i.size<=cap*i.size:=zzbb _ eU
  have SK:rows≠[]->b=b'/\off=mM:=fun h=>by
   obtain⟨h1,_⟩:=s1.at_ h;injection h1 with h1;injection h1 with h1 h2;exact⟨h1.symm,h2.symm⟩
  have bT:∀j(hj:j<(Ve aB.length i.size gH).length),(w.setCells b' (mM+rows.length*i.size) (Ve aB.length i.size gH)).cell? ⟨b',mM+rows.length*i.size+j,none⟩=some (Ve aB.length i.size gH)[j]:=
   World.cell?_setCells_in b' _ _ w fun j hj=>by
    rw[Zf]at hj;rw[aQ hh,zzag (by rw[zzbi]at cw;omega)];rfl
  have hj:qp (w.setCells b' (mM+rows.length*i.size) (Ve aB.length i.size gH)) (γ.extend id b' (mM+rows.length*i.size) (mM+(rows.length+aB.length)*i.size) (rows.length+aB.length))
    (rows++aB) (some ⟨b',mM,none⟩) cap b' mM i.size (Qcm rows.length cv gH):=by
   refine⟨Nm eU,fun hn=>(by cases hn),fun _=>⟨rfl,by rw[aG];exact hb⟩,hr,fun j k c hc=>?_,fun j k c hc=>?_⟩
   ·rcases Uj hc with⟨Im,h3⟩|⟨h1,h3⟩
    ·obtain⟨rfl,rfl⟩:=SK (by rintro rfl;simp at Im);obtain⟨g1,g2,g3⟩:=(s1.mono bZ).cell j k c h3;have ej:Qcm rows.length cv gH j k=cv j k:=by unfold Qcm;rw[if_pos Im]
     rw[ej];exact⟨g1,g2,g3⟩
    obtain⟨hi4,hj4⟩:=mJ h3;have hk:k<i.size:=by rw[s2.hsz _ (zzdc hi4)]at hj4;exact hj4
    have hf:=vw aB.length i.size gH hi4 hk;obtain⟨ah,dx⟩:=zza.1 hf
    have e1:mM+j*i.size+k=mM+rows.length*i.size+((j-rows.length)*i.size+k):=by
     rw[Nat.sub_mul];have:rows.length*i.size<=j*i.size:=zzbb _ h1;omega
    simp only[Qcm,if_neg (zzbj.2 h1)];refine⟨?_,?_,(s2.cell _ _ c h3).2.2⟩
    ·rw[e1,bT _ ah,dx]
    rw[Zf]at ah;exact .inr ⟨rfl,by rw[e1];omega,by rw[e1,zzbi];omega⟩
   unfold Qcm;rcases Uj hc with⟨h1,h3⟩|⟨h1,h3⟩
   ·rw[if_pos h1];exact(s1.rep j k c h3).mono bZ.cQ
   rw[if_neg (zzbj.2 h1)];exact(dB _ k c h3).mono bZ.cQ
  have:=hj.mk' (rt:=.own id i.size) ⟨rfl,by simp[G.extend],fun _=>.inr ⟨b',mM,_,te,rfl,ho,Zm b' _ _ w arr te _ hh,by rw[Kk];exact hsz,fun o dg gA=>?_⟩⟩
  ·rwa [zzal]at this
  rw[zzal]at dg;obtain gA|⟨_,_,h4⟩:=gA
  ·refine ow o ?_ gA;have:rows.length*i.size<=(rows.length+aB.length)*i.size:=zzbb _ zE;omega
  omega
 ·
  obtain⟨bq,cw,aZ⟩:=oB (P:=P) (ty:=ty) ht hi hz s1 s2 zE cN Cw;have hmd:=hm.drew;have aK:γ.cur id=rows.length+aB.length->γ.own id=none:=fun h=>zE
  have D7:γ.cur id<=rows.length+aB.length:=zE
  have bZ:Ev w γ _ _:=(Ev.drew w γ).trans (hmd.fZ (q:=(rows.length+aB.length)*i.size) D7 aK (.cells ((Ve rows.length i.size cv).toArray++(Ve aB.length i.size gH).toArray++Builtin.zeroCells z.cells (bq-(rows.length+aB.length))) e));refine⟨_,_,_,aZ,bZ,hmd.renew D7 aK _,?_⟩
  have hh:(w.drew.alloc (.cells ((Ve rows.length i.size cv).toArray++(Ve aB.length i.size gH).toArray++Builtin.zeroCells z.cells (bq-(rows.length+aB.length))) e)).heap[w.heap.size]?=some (.cells ((Ve rows.length i.size cv).toArray++(Ve aB.length i.size gH).toArray++Builtin.zeroCells z.cells (bq-(rows.length+aB.length))) e (0,0)):=by
   exact Kz w _
  have hj:=s1.EX s2 dB bZ (nb:=w.heap.size) hh (fun o ho=>.inr ⟨rfl,ho⟩) cw;have:=hj.mk' (rt:=.own id i.size) ⟨rfl,by simp[G.renew],fun _=>?_⟩
  ·rwa [zzal]at this
  by_cases UT:bq=rows.length+aB.length
  ·exact .inl (by simp[UT])
  refine .inr ⟨w.heap.size,0,_,e,rfl,by simp[G.renew],hh,?_,fun o ho gA=>?_⟩
  ·simp only[zzfo,zzfn,Zf,size_zeroCells]
   have alH:bq*i.size=rows.length*i.size+aB.length*i.size+(bq-(rows.length+aB.length))*i.size:=by
    rw[<- zzbi,<- zzbi];congr 1;omega
   rw[JM,alH];omega
  simp only[zzal,zzbn]at ho;obtain gA|⟨_,gA⟩:=gA
  ·have:=hm.robd _ _ gA;omega
  omega
def NC(hm:aq N w0 an γ w B L)(ht:P.underlying t=some (.slice e))(hi:P.info? e=some i)(hz:i.zero=some z)(JM:z.cells.size=i.size){id:Nat}
  (h1:(au w γ (.sl .full rows) v1/\L id=none)\/(au w γ (.sl (.own id i.size) rows) v1/\L id=some rows.length))(h2:au w γ (.sl US aB) v2)
  (hr:∀row∈rows++aB,row.length=i.size)(cN:(3*(rows.length+aB.length)+4000)*i.bytes<=562949953421312)(Cw:rows.length+aB.length<=9223372036854775807):
  ∃v w' γ',(Builtin.append_ #[t,t] ty #[v1,v2]).run P w=.ok v w'/\Ev w γ w' γ'/\aq N w0 an γ' w' B (fun j=>if j=id then some (rows.length+aB.length)else L j)/\au w' γ' (.sl (.own id i.size) (rows++aB)) v:=by
 obtain⟨a2,cr,b2,gD,sz2,gH,rfl,s2,r2⟩:=h2.cq;exact vA hm ht hi hz JM h1 (s2.fix (sz:=i.size) fun row h=>hr row (by simp[h])) s2.rep hr cN Cw
end
def Step(N:Nat)(w0:fE)(an:Nat->Nat->Prop)(P:Program)(o:Oper)(a:Act)(γ:G)(w:World)(B:Nat->QR)(L:Nat->Option Nat)(r:AV):Prop:=
 ∀(rd:Option Nat)(next:Act->World->Prop)(Q:PH),(∀v w' γ',Ev w γ w' γ'->aq N w0 an γ' w' B L->au w' γ' r v->next (a.put o.dst v) w')->o.wpIn (FW rd) 0 P a w next Q
section
variable {N:Nat} {w0:fE} {an:Nat->Nat->Prop} {γ:G} {w:World} {B:Nat->QR} {L:Nat->Option Nat} {P:Program} {o:Oper} {a:Act} {r:AV}
def Qq(hm:aq N w0 an γ w B L){v:Value}(h:(execOp a.eval o).run P w=.ok (.value v) w)(hr:au w γ r v):Step N w0 an P o a γ w B L r:=
 fun _ _ _ hk=>Zn h (hk v w γ (Ev.refl _ _) hm hr)
def Az{v:Value}{w':World}{γ':G}(hm:aq N w0 an γ' w' B L)(e:Ev w γ w' γ')(h:(execOp a.eval o).run P w=.ok (.value v) w')(hr:au w' γ' r v):Step N w0 an P o a γ w B L r:=
 fun _ _ _ hk=>Zn h (hk v w' γ' e hm hr)
variable {dst:Option Tmp} {ty:TypeId} {pos:String} {after:Array Edge} {guard:Option (Nat×Bool)} {gl:Nat->AV} {orc:X1} {e:bN->AV} {m:AM}
def Cy{x:AV}{v:Value}{g b:Bool}(h:asB x=some (g,b))(hr:au w γ x v)(hg:g=true):v=.bool b:=by
 cases x<;>simp[asB]at h
 ·obtain⟨rfl,rfl⟩:=h;exact hr.bA
 rename_i g' y;obtain⟨h1,rfl⟩:=h;rw[hg]at h1;cases g' with
 |false=>cases h1
 |true=>
  cases y<;>simp[isB]at h1;exact(hr.Cu rfl).bA
def PD(hm:aq N w0 an γ w B L){c x y:Operand}(h1:au w γ (e (aA c)) (a.eval c))(h2:au w γ (e (aA x)) (a.eval x))(h3:au w γ (e (aA y)) (a.eval y))
  (hc:(rop P gl orc e m dst (.pick (aA c) (aA x) (aA y))).1):
  Step N w0 an P ⟨dst,.pick c x y,ty,pos,after,guard⟩ a γ w B L (rop P gl orc e m dst (.pick (aA c) (aA x) (aA y))).2:=by
 simp only[rop]at hc |-
 split at hc
 ·rename_i g0 c' g1 x' g2 y' e1 e2 e3;try simp only[e1,e2,e3]
  obtain⟨hc0,fB,yZ⟩:=hc;have h1:=Cy e1 h1 hc0;cases c' with
  |true=>
   have:=Cy e2 h2 (fB rfl);exact Qq hm (v:=.bool x') (by simp[execOp,h1,asBool,this]) (.bool _)
  |false=>
   have:=Cy e3 h3 (yZ rfl);exact Qq hm (v:=.bool y') (by simp[execOp,h1,asBool,this]) (.bool _)
 exact hc.elim
def PE(hm:aq N w0 an γ w B L)(hB:∀id cells,m.boxes[id]?=some cells->B id=some cells){t:TypeId}{x:Operand}(h1:au w γ (e (aA x)) (a.eval x))
  (hc:(rop P gl orc e m dst (tr P ⟨dst,.load t x,ty,pos,after,guard⟩)).1):
  Step N w0 an P ⟨dst,.load t x,ty,pos,after,guard⟩ a γ w B L (rop P gl orc e m dst (tr P ⟨dst,.load t x,ty,pos,after,guard⟩)).2:=by
 simp only[tr]at hc |-
 split at hc
 case h_2=>exact hc.elim
 rename_i i d hi hd;try simp only[hi,hd]
 have main:∀(agg:Bool)(n:Nat),Jq P t=agg->(agg=true->n=i.size)->(rop P gl orc e m dst (.load agg n (aA x))).1->
   Step N w0 an P ⟨dst,.load t x,ty,pos,after,guard⟩ a γ w B L (rop P gl orc e m dst (.load agg n (aA x))).2:=by
  intro agg n bK hn hc;simp only[rop]at hc |-
  split at hc
  ·rename_i id o' he;try simp only[he]
   rw[he]at h1;obtain⟨b,hb,hv⟩:=h1.dO;cases gT:m.boxes[id]? with
   |none=>
    have e0:m.boxes.getD id []=[]:=by simp[List.getD,gT]
    rw[e0]at hc |-
    obtain⟨v,h2,h3⟩:=Qdj (P:=P) (w:=w) (γ:=γ) (b:=b) (o:=o') (cv:=fun _=>undef) hi hd bK hn (fun j c hj=>by simp at hj) (fun j c hj=>by simp at hj) hc;exact Qq hm (by simp[execOp,hv,h2]) h3
   |some cells=>
    have e0:m.boxes.getD id []=cells:=by simp[List.getD,gT]
    rw[e0]at hc |-
    obtain⟨arr,te,g2,g3,g4⟩:=hm.box id cells b (hB id cells gT) hb
    have cA:∀(j:Nat)(c:AV),(cells.drop o')[j]?=some c->arr[o'+j]?=some (arr.getD (o'+j) undef)/\au w γ c (arr.getD (o'+j) undef):=fun j c hj=>by
     rw[zzbr]at hj
     have ah:o'+j<arr.size:=by
      have:=(zza.1 hj).1;have h0:=g3.1;simp at h0;omega
     have hu:arr[o'+j]?=some (arr.getD (o'+j) undef):=by simp[ah]
     exact⟨hu,g3.2 _ _ _ hj (Nm hu)⟩
    obtain⟨v,h2,h3⟩:=Qdj (P:=P) (w:=w) (γ:=γ) (b:=b) (o:=o') (cv:=fun j=>arr.getD (o'+j) undef) hi hd bK hn (fun j c hj=>by rw[aQ g2];exact(cA j c hj).1) (fun j c hj=>(cA j c hj).2) hc;exact Qq hm (by simp[execOp,hv,h2]) h3
  ·rename_i row o' he;try simp only[he]
   rw[he]at h1;obtain⟨b,off,cv,hv,hb,bP,oA⟩:=h1.gE;have cA:∀(j:Nat)(c:AV),(row.drop o')[j]?=some c->row[o'+j]?=some c:=fun j c hj=>by rw[zzbr]at hj;exact hj
   obtain⟨v,h2,h3⟩:=Qdj (P:=P) (w:=w) (γ:=γ) (b:=b) (o:=off+o') (cv:=fun j=>cv (o'+j)) hi hd bK hn
    (fun j c hj=>by rw[zzas];exact(bP _ _ (cA j c hj)).1) (fun j c hj=>(oA _ _ (cA j c hj)).gF) hc
   exact Qq hm (by simp[execOp,hv,h2]) h3
  exact hc.elim
 cases bK:Jq P t with
 |true=>simp only[bK,if_true]at hc |-;exact main true _ bK (fun _=>rfl) hc
 |false=>simp only[bK]at hc |-;exact main false 1 bK (fun h=>by cases h) hc
def JN(hm:aq N w0 an γ w B L){t:TypeId}{x:Operand}{f:Nat}(h1:au w γ (e (aA x)) (a.eval x))
  (hc:(rop P gl orc e m dst (tr P ⟨dst,.fieldAddr t x f,ty,pos,after,guard⟩)).1):
  Step N w0 an P ⟨dst,.fieldAddr t x f,ty,pos,after,guard⟩ a γ w B L (rop P gl orc e m dst (tr P ⟨dst,.fieldAddr t x f,ty,pos,after,guard⟩)).2:=by
 simp only[tr]at hc |-
 split at hc
 case h_2=>exact hc.elim
 rename_i fields hu;try simp only[hu]
 split at hc
 case h_2=>exact hc.elim
 rename_i fl gG;try simp only[gG]
 split at hc
 case h_2=>exact hc.elim
 rename_i i hi;try simp only[hi]
 split at hc
 case isTrue=>exact hc.elim
 rename_i hsz;try rw[if_neg hsz]
 simp only[rop]at hc |-
 have arL:i.size≠0:=by simpa using hsz
 split at hc
 ·rename_i id o' he;try simp only[he]
  rw[he]at h1;obtain⟨b,hb,hv⟩:=h1.dO;exact Qq hm (v:=.pointer (some ⟨b,o'+fl.offset,none⟩)) (by simp[execOp,hv,Instr.fieldAt,run_underlying hu,gG,Instr.sureAddr,fieldPlace,sizeOf,typeInfo,hi,arL,bC]) (.ptr hb)
 ·rename_i row o' he;try simp only[he]
  rw[he]at h1;obtain⟨b,off,cv,hv,hb,bP,oA⟩:=h1.gE;refine Qq hm (v:=.pointer (some ⟨b,off+(o'+fl.offset),none⟩)) (by simp[execOp,hv,Instr.fieldAt,run_underlying hu,gG,Instr.sureAddr,fieldPlace,sizeOf,typeInfo,hi,arL,bC,zzas]) (.ep cv hb bP oA)
 exact hc.elim
def JO(hm:aq N w0 an γ w B L){t:TypeId}{x y:Operand}(h1:au w γ (e (aA x)) (a.eval x))(h2:au w γ (e (aA y)) (a.eval y))
  (hc:(rop P gl orc e m dst (tr P ⟨dst,.indexAddr t x y,ty,pos,after,guard⟩)).1):
  Step N w0 an P ⟨dst,.indexAddr t x y,ty,pos,after,guard⟩ a γ w B L (rop P gl orc e m dst (tr P ⟨dst,.indexAddr t x y,ty,pos,after,guard⟩)).2:=by
 simp only[tr]at hc |-
 split at hc
 ·rename_i te hu;try simp only[hu]
  split at hc
  case h_2=>exact hc.elim
  rename_i i hi;try simp only[hi]
  simp only[rop]at hc |-
  split at hc
  case h_3=>exact hc.elim
  case h_2=>
   rename_i id off len gz k n e1 e2;try simp only[e1,e2]
   rw[e1]at h1;rw[e2]at h2;obtain⟨b,cap,arr,y7,hb,hv,hl,hh,hs⟩:=h1.dz;obtain⟨⟨fF,qF⟩,rfl⟩:=hc;refine Qq hm (v:=.pointer (some ⟨b,off+n.toNat*i.size,none⟩)) ?_ (.ptr hb);simp[execOp,hv,h2.aJ,Instr.indexAt,run_underlying hu,asIntOf,fF,qF,sizeOf,typeInfo,hi,bC]
  rename_i rt rows k n e1 e2;try simp only[e1,e2]
  rw[e1]at h1;rw[e2]at h2;obtain⟨a',cap,b,off,sz,cv,hv,s,_⟩:=h1.cq;obtain⟨⟨fF,qF⟩,aH⟩:=hc;have ah:n.toNat<rows.length:=zE
  have lq:rows.getD n.toNat []∈rows:=by simp[List.getD,ah]
  have hsz:sz=i.size:=(s.hsz _ lq).symm.trans aH;subst hsz;obtain⟨ha,hb⟩:=s.at_ (by rintro rfl;simp at ah)
  have nZ:∀(j:Nat)(c:AV),(rows.getD n.toNat [])[j]?=some c->Qr rows n.toNat j=some c:=fun j c hj=>by
   simp[Qr,List.getD,ah]at hj |-;exact hj
  refine Qq hm (v:=.pointer (some ⟨b,(off+n.toNat*i.size)+0,none⟩)) ?_ (.ep (off:=off+n.toNat*i.size) (cv n.toNat) hb (fun j c hj=>s.cell _ j c (nZ j c hj)) fun j c hj=>s.rep _ j c (nZ j c hj));have eL:n<(rows.length:Int):=qF;simp[execOp,hv,h2.aJ,ha,Instr.indexAt,run_underlying hu,asIntOf,fF,eL,sizeOf,typeInfo,hi,bC]
 ·rename_i len te hu;try simp only[hu]
  split at hc
  case h_2=>exact hc.elim
  rename_i i hi;try simp only[hi]
  simp only[rop]at hc |-
  split at hc
  ·rename_i id o' k n e1 e2;try simp only[e1,e2]
   rw[e1]at h1;rw[e2]at h2;obtain⟨b,hb,hv⟩:=h1.dO;obtain⟨fF,qF⟩:=hc;refine Qq hm (v:=.pointer (some ⟨b,o'+n.toNat*i.size,none⟩)) ?_ (.ptr hb);simp[execOp,hv,h2.aJ,Instr.indexAt,Instr.sureAddr,run_underlying hu,asIntOf,fF,qF,sizeOf,typeInfo,hi,bC]
  ·rename_i row o' k n e1 e2;try simp only[e1,e2]
   rw[e1]at h1;rw[e2]at h2;obtain⟨b,off,cv,hv,hb,bP,oA⟩:=h1.gE;obtain⟨fF,qF⟩:=hc;refine Qq hm (v:=.pointer (some ⟨b,off+(o'+n.toNat*i.size),none⟩)) ?_ (.ep cv hb bP oA);simp[execOp,hv,h2.aJ,Instr.indexAt,Instr.sureAddr,run_underlying hu,asIntOf,fF,qF,sizeOf,typeInfo,hi,bC,zzas]
  exact hc.elim
 exact hc.elim
end
end Go.Abs
