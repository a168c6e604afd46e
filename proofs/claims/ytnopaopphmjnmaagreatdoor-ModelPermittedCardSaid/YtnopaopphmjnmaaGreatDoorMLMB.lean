import Derived.Test.YtnopaopphmjnmaaGreatDoorMLMA
set_option linter.all false
namespace Go.Abs
open Go Go.RowKit
section inv
variable {w:World} {γ:G} {v:Value}
def aB.bA{b:Bool}(h:aB w γ (.bool b) v):v=.bool b:=by cases h;rfl
def aB.aG{k:IntKind}{n:Int}(h:aB w γ (.int k n) v):v=.int k n:=by cases h;rfl
def aB.cq{s:ByteArray}(h:aB w γ (.str s) v):v=.string s:=by cases h;rfl
def aB.PN(h:aB w γ .nilfn v):v=.nilFunc:=by cases h;rfl
def aB.dF{id o:Nat}(h:aB w γ (.ptr id o) v):∃b,γ.β id=some b/\v=.pointer (some ⟨b,o,none⟩):=by cases h with|ptr h=>exact⟨_,h,rfl⟩
def aB.cI{id off len sz:Nat}(h:aB w γ (.bs id off len sz) v):∃(b cap:Nat)(arr:Array Value)(e:TypeId),γ.β id=some b/\v=.slice (some ⟨b,off,none⟩) len cap/\len<=cap/\
  w.heap[b]?=some (.cells arr e (0,0))/\off+cap*sz<=arr.size:=by
 cases h with|bs h hl hh hs=>exact⟨_,_,_,_,h,rfl,hl,hh,hs⟩
def aB.Cp{g:Bool}{a:AV}(h:aB w γ (.gd g a) v)(hg:g=true):aB w γ a v:=by cases h with|gd h _=>exact h hg
def aB.NN{a:AV}(h:aB w γ (.gd false a) v):v=undef:=by cases h with|gd _ h=>exact h rfl
def aB.gC{cs:List AV}(h:aB w γ (.agg cs) v):∃arr:Array Value,v=.agg arr/\ak w γ cs arr.toList:=by
 cases h with
 |@agg _ _ arr hl h=>exact⟨arr,rfl,by simpa using hl,fun i a v h1 h2=>h i a v h1 (by simpa using h2)⟩
def aB.Cq{cs:List AV}(h:aB w γ (.aW cs) v):∃arr:Array Value,v=.tuple arr/\ak w γ cs arr.toList:=by
 cases h with
 |@aW _ _ arr hl h=>exact⟨arr,rfl,by simpa using hl,fun i a v h1 h2=>h i a v h1 (by simpa using h2)⟩
def aB.qH{f:FuncId}{first cap:List AV}(h:aB w γ (.fn f first cap) v):∃fa ca:Array Value,v=.func (.func f) fa ca/\ak w γ first fa.toList/\ak w γ cap ca.toList:=by
 cases h with
 |@fn _ _ _ _ fa ca hl h ey h'=>exact⟨fa,ca,rfl,⟨by simpa using hl,fun i a v h1 h2=>h i a v h1 (by simpa using h2)⟩,⟨by simpa using ey,fun i a v h1 h2=>h' i a v h1 (by simpa using h2)⟩⟩
def aB.iW{row:List AV}{o:Nat}(h:aB w γ (.ep row o) v):∃(b off:Nat)(cv:Nat->Value),v=.pointer (some ⟨b,off+o,none⟩)/\b<w.heap.size/\
  (∀(j:Nat)(c:AV),row[j]?=some c->w.cell? ⟨b,off+j,none⟩=some (cv j)/\γ.ro b (off+j)/\(cv j).oneCell'=true)/\(∀(j:Nat)(c:AV),row[j]?=some c->aB w γ.cT c (cv j)):=by
 cases h with
 |@ep _ _ _ b off cv hb hc h=>exact⟨b,off,cv,rfl,hb,hc,h⟩
def aB.VW{rt:Rt}{rows:List (List AV)}(h:aB w γ (.sl rt rows) v):∃(a:Option Addr)(cap b off sz:Nat)(cv:Nat->Nat->Value),v=.slice a rows.length cap/\
  rows.length<=cap/\(a=none->cap=0)/\(rows≠[]->a=some ⟨b,off,none⟩/\b<w.heap.size)/\(∀row∈rows,row.length=sz)/\
  (∀(i j:Nat)(c:AV),Qt rows i j=some c->w.cell? ⟨b,off+i*sz+j,none⟩=some (cv i j)/\γ.ro b (off+i*sz+j)/\(cv i j).oneCell'=true)/\
  (∀(i j:Nat)(c:AV),Qt rows i j=some c->aB w γ.cT c (cv i j))/\tF w γ a rows.length cap sz rt:=by
 cases h with
 |@sl _ _ _ a cap b off sz cv h1 h2 h3 h4 h5 h6 h7=>exact⟨a,cap,b,off,sz,cv,rfl,h1,h2,h3,h4,h5,h6,h7⟩
end inv
def aB.gD{w:World}{γ:G}{a:AV}{v:Value}(h:aB w γ.cT a v):aB w γ a v:=
 h.eX ⟨zzab _,fun _ _ _ h=>⟨h,rfl⟩,fun _ _ h=>(by cases h),fun _=>zzcc _,fun _ _ h=>(by cases h),fun _ _ h=>(by cases h),fun _ _ _ h=>(by cases h),Sz.refl w⟩
def ak.agg{w:World}{γ:G}{cs:List AV}{vs:List Value}(h:ak w γ cs vs):aB w γ (.agg cs) (.agg vs.toArray):=
 .agg (by simpa using h.1) fun i c v h1 h2=>h.2 i c v h1 (by simpa using h2)
def ak.PO{w:World}{γ:G}{cs:List AV}{arr:Array Value}(h:ak w γ cs arr.toList):aB w γ (.agg cs) (.agg arr):=by
 have:=h.agg;simpa using this
def ak.take{w:World}{γ:G}{cs:List AV}{vs:List Value}(h:ak w γ cs vs)(n:Nat):ak w γ (cs.take n) (vs.take n):=
 ⟨by simp[h.1],fun i a v h1 h2=>by
  rw[zzbj]at h1 h2;split at h1<;>simp_all;exact h.2 i a v h1 h2⟩
def ak.drop{w:World}{γ:G}{cs:List AV}{vs:List Value}(h:ak w γ cs vs)(n:Nat):ak w γ (cs.drop n) (vs.drop n):=
 ⟨by simp[h.1],fun i a v h1 h2=>by
  rw[zzbk]at h1 h2;exact h.2 _ a v h1 h2⟩
def FW(r:Option Nat):Fence:={Fence.wide with round:=r}
section
variable {P:Program} {o:Oper} {a:Act} {w:World} {next:Act->World->Prop} {Q:Exit->Act->World->Prop} {r:Option Nat}
def VX{x:Next}{w':World}(h:(execOp a.eval o).run P w=.ok x w')(hx:∀d,x≠.defer d):∀c,o.op≠.defer c:=by
 intro c hc;unfold execOp at h;simp only[hc,Sem.run_bind]at h;cases hr:(resolve a.eval c o.type).run P w with
 |ok d zg=>rw[hr]at h;simp at h;exact hx d h.1.symm
 |halt e zg=>rw[hr]at h;simp at h
def wp_run{x:Next}{w':World}(h:(execOp a.eval o).run P w=.ok x w')(hx:∀d,x≠.defer d)(hn:o.uponIn (FW r) 0 P a next Q (.ok x w')):o.wpIn (FW r) 0 P a w next Q:=by
 refine⟨fun f _=>trivial,?_⟩;rw[Oper.semAt_eq _ _ _ (VX h hx),h];exact hn
def Zn{v:Value}{w':World}(h:(execOp a.eval o).run P w=.ok (.value v) w')(hn:next (a.put o.dst v) w'):o.wpIn (FW r) 0 P a w next Q:=
 wp_run h (fun _ h=>by cases h) hn
def oI{w':World}(h:(execOp a.eval o).run P w=.ok .skip w')(hn:next (a.put o.dst undef) w'):o.wpIn (FW r) 0 P a w next Q:=
 wp_run h (fun _ h=>by cases h) hn
def EP{f:FuncId}{args:Array Value}{w':World}(h:(execOp a.eval o).run P w=.ok (.enter f args) w')(hn:Calls P f args w' fun
   |.returned v,zg=>next (a.put o.dst v) zg
   |.panicked chain,zg=>Q (.panic chain) a zg
   |.outgrown,_=>LetsOut Q):o.wpIn (FW r) 0 P a w next Q:=
 wp_run h (fun _ h=>by cases h) ⟨fun h=>by simp[FW,Fence.wide]at h,callsIn_wide.2 hn⟩
end
def bw(b o n:Nat):(⟨b,o,none⟩:Addr).add n=⟨b,o+n,none⟩:=by
 unfold Addr.add;split<;>simp_all
def Qdf{P:Program}{w:World}{γ:G}{agg:Bool}{n b o:Nat}{t:TypeId}{i:TypeInfo}{d:TypeDesc}(hi:P.info? t=some i)(hd:P.underlying t=some d)(bE:Ja P t=agg)
  (hn:agg=true->n=i.size){cs:List AV}{cv:Nat->Value}(bL:∀(j:Nat)(c:AV),cs[j]?=some c->w.cell? ⟨b,o+j,none⟩=some (cv j))(zj:∀(j:Nat)(c:AV),cs[j]?=some c->aB w γ c (cv j))
  (hc:(Ya agg n cs).1):∃v,(Instr.loadAt t (.pointer (some ⟨b,o,none⟩))).run P w=.ok v w/\aB w γ (Ya agg n cs).2 v:=by
 obtain⟨h1,h2⟩:=hc;have aH:n<=cs.length:=by rw[zzaq]at h1;omega
 cases agg with
 |false=>
  have qI:=h2 rfl;subst qI;have hz:cs[0]?=some (cs.getD 0 .junk):=by simp[List.getD];cases cs<;>simp_all
  have hc0:=bL 0 _ hz;refine⟨cv 0,?_,?_⟩
  ·unfold Ja at bE;rw[hd]at bE;simp only[zzcq]at hc0;cases d<;>simp at bE<;>simp[Instr.loadAt,Instr.sureAddr,loadVar,isAgg,run_underlying hd,hc0]
  simpa[Ya]using zj 0 _ hz
 |true=>
  have qI:=hn rfl;subst qI
  have hl:(loadCells ⟨b,o,none⟩ i.size).run P w=.ok ((List.range i.size).map cv).toArray w:=by
   refine run_loadCells w _ _ _ fun j hj=>?_;rw[bw];exact bL j _ (zzac (by omega))
  refine⟨.agg ((List.range i.size).map cv).toArray,?_,?_⟩
  ·unfold Ja at bE;rw[hd]at bE;cases d<;>simp at bE<;>simp[Instr.loadAt,Instr.sureAddr,loadVar,isAgg,run_underlying hd,sizeOf,typeInfo,hi,hl]
  simp only[Ya,if_true];refine ak.agg ⟨by simp;omega,fun j c v ek ql=>?_⟩;rw[zzbj]at ek;split at ek
  ·simp at ql;obtain⟨k,hk,rfl⟩:=ql;rename_i ai;rw[zzef ai]at hk;cases hk;exact zj j c ek
  cases ek
open Go Go.RowKit
variable {N:Nat} {w0:ir} {aq:Nat->Nat->Prop} {γ:G} {w:World} {B:Nat->Option (List AV)} {L:Nat->Option Nat}
def uf{a:AV}{v:Value}(h:aB w γ a v)(hc:Qv a=true):v.oneCell'=true:=by
 cases a<;>simp[Qv]at hc<;>cases h<;>first|rfl|(rename_i p;cases p<;>rfl)
def ak.map{ro':Nat->Nat->Prop}{as:List AV}{vs:List Value}{f:AV->AV}(h:ak w γ as vs)(hf:∀a∈as,∀v,aB w γ a v->aB w (G0 ro') (f a) v):ak w (G0 ro') (as.map f) vs:=
 ⟨by simpa using h.1,fun i a v h1 h2=>by
  simp at h1;obtain⟨a',h3,rfl⟩:=h1;exact hf a' (zzad h3) v (h.2 i a' v h3 h2)⟩
def ak.vL{as:List AV}{p:AV->Bool}{a:AV}(ha:a∈as)(hp:p a=true):as.any p=true:=zzbz.2 ⟨a,ha,hp⟩
def Qdz(sz:Nat):∀(n:Nat)(l:List AV),(aV sz n l).length=n
 |0,_=>rfl
 |n+1,l=>by simp[aV,Qdz sz n]
def Av{sz:Nat}:∀{n:Nat}{l:List AV}{row:List AV},n*sz<=l.length->row∈aV sz n l->row.length=sz
 |0,_,_,_,h=>by cases h
 |n+1,l,row,hl,h=>by
  rw[zzbp,zzdl]at hl;rcases zzat.1 h with rfl|h
  ·simp;omega
  exact Av (by simp;omega) h
def Wl{sz:Nat}{c:AV}:∀{n:Nat}{l:List AV}{i j:Nat},Qt (aV sz n l) i j=some c->i<n/\j<sz/\l[i*sz+j]?=some c
 |0,_,i,j,h=>by simp[Qt,aV]at h
 |n+1,l,0,j,h=>by
  simp only[Qt,aV,List.getElem?_cons_zero,zzcg]at h;rw[zzbj]at h;split at h
  ·rename_i hj;exact⟨by omega,hj,by simpa using h⟩
  cases h
 |n+1,l,i+1,j,h=>by
  have h':Qt (aV sz n (l.drop sz)) i j=some c:=by simpa[Qt,aV]using h
  obtain⟨h1,h2,h3⟩:=Wl h';rw[zzbk]at h3;refine⟨by omega,h2,?_⟩;rw[zzbp,zzdl,zzff (i*sz) sz,zzan];exact h3
def kK(hm:au N w0 aq γ w B L){m:AM}(hB:∀id cells,m.boxes[id]?=some cells->B id=some cells){ro':Nat->Nat->Prop}(dM:∀b o,γ.ro b o->ro' b o):
  ∀(d:Nat)(a:AV)(v:Value),aB w γ a v->(Yj d a=true->∀id b,γ.β id=some b->∀o,ro' b o)->aB w (G0 ro') (bF m d a) v:=by
 have aqz:∀(a:AV)(v:Value),aB w γ.cT a v->aB w (G0 ro') a v:=fun a v h=>
  h.mono ⟨zzab _,fun b o _ h=>⟨dM b o h,rfl⟩,fun _ _ h=>(by cases h),fun _=>zzab _,fun _ _ h=>(by cases h),rfl,fun _ _ _ h=>(by cases h),fun _ h=>h.elim,Sz.refl w⟩
 intro d;induction d with
 |zero=>exact fun _ _ _ _=>.junk _
 |succ d ih=>
  intro a v h hp;cases a with
  |junk=>exact .junk _
  |bool b=>rw[h.bA];exact .bool b
  |int k n=>rw[h.aG];exact .int k n
  |str s=>rw[h.cq];exact .str s
  |nilfn=>rw[h.PN];exact .nilfn
  |gd g a=>exact .junk _
  |yld l=>exact .junk _
  |mp id=>exact .junk _
  |nilv p=>cases h;exact .nilv p
  |it id=>exact .junk _
  |aJ kn kvs=>exact .junk _
  |mitr mid n s=>exact .junk _
  |agg cs=>
   obtain⟨arr,rfl,hr⟩:=h.gC;refine ak.PO (hr.map fun a ha v hv=>ih a v hv fun iX=>hp ?_);simp only[Yj];exact ak.vL ha iX
  |aW cs=>
   obtain⟨arr,rfl,hr⟩:=h.Cq;have:=hr.map (ro':=ro') (f:=bF m d) fun a ha v hv=>ih a v hv fun iX=>hp (by simp only[Yj];exact ak.vL ha iX);exact .aW (by simpa using this.1) fun i c v h1 h2=>this.2 i c v h1 (by simpa using h2)
  |fn f first cap=>
   obtain⟨fa,ca,rfl,h1,h2⟩:=h.qH;have t1:=h1.map (ro':=ro') (f:=bF m d) fun a ha v hv=>ih a v hv fun iX=>hp (by simp only[Yj];rw[ak.vL ha iX];rfl);have t2:=h2.map (ro':=ro') (f:=bF m d) fun a ha v hv=>ih a v hv fun iX=>hp (by simp only[Yj];rw[ak.vL ha iX];simp);exact .fn (by simpa using t1.1) (fun i c v h1 h2=>t1.2 i c v h1 (by simpa using h2)) (by simpa using t2.1) fun i c v h1 h2=>t2.2 i c v h1 (by simpa using h2)
  |ep row o=>
   obtain⟨b,off,cv,rfl,hb,hc,hr⟩:=h.iW;exact .ep cv hb (fun j c hj=>⟨(hc j c hj).1,dM _ _ (hc j c hj).2.1,(hc j c hj).2.2⟩) fun j c hj=>aqz _ _ (hr j c hj)
  |sl rt rows=>
   obtain⟨a,cap,b,off,sz,cv,rfl,h1,h2,h3,h4,h5,h6,h7⟩:=h.VW
   have key:∀eY,tF w (G0 ro') a rows.length cap sz eY->aB w (G0 ro') (.sl eY rows) (.slice a rows.length cap):=fun eY aR=>
    .sl b off sz cv h1 h2 h3 h4 (fun i j c hj=>⟨(h5 i j c hj).1,dM _ _ (h5 i j c hj).2.1,(h5 i j c hj).2.2⟩) (fun i j c hj=>aqz _ _ (h6 i j c hj)) aR
   cases rt with
   |ro=>exact key .ro trivial
   |full=>exact key .full h7
   |nil=>exact key .nil h7
   |nn=>exact key .nn h7
   |own id gz=>exact key .ro trivial
  |bs id off len sz=>
   obtain⟨b,cap,arr,te,hb,rfl,hl,hh,hs⟩:=h.cI;have fq:=hp rfl;obtain⟨_,ai,_⟩:=hm.β id b hb;simp only[bF];cases hble:Nat.ble (off+len*sz) (m.boxes.getD id []).length with
   |false=>exact .junk _
   |true=>
    have ck:=zzhl hble
    have cp:∀(k:Nat)(c:AV),(((m.boxes.getD id []).map (bF m d)).drop off)[k]?=some c->∃c' u,c=bF m d c'/\arr[off+k]?=some u/\arr.getD (off+k) undef=u/\aB w γ c' u/\u.oneCell'=true:=fun k c hk=>by
     rw[zzbk,zzbl]at hk;cases gE:m.boxes[id]? with
     |none=>simp[List.getD,gE]at hk
     |some cells=>
      have:m.boxes.getD id []=cells:=by simp[List.getD,gE]
      rw[this]at hk;obtain⟨bT,e',g2,g3,g4⟩:=hm.box id cells b (hB id cells gE) hb;rw[hh]at g2;cases g2;cases hc:cells[off+k]? with
      |none=>simp[hc]at hk
      |some c'=>
       simp[hc]at hk;have h1:=(zza.1 hc).1;have h2:=g3.1;have cK:off+k<arr.size:=by simp at h2;omega
       have hu:arr[off+k]?=some arr[off+k]:=zzaj cK;exact⟨c',arr[off+k],hk.symm,hu,by simp[cK],g3.2 _ c' _ hc (by simp[cK]),g4 _ (by simp)⟩
    have aH:=Qdz sz len (((m.boxes.getD id []).map (bF m d)).drop off)
    have hr:aB w (G0 ro') (.sl .ro (aV sz len (((m.boxes.getD id []).map (bF m d)).drop off))) (.slice (some ⟨b,off,none⟩) (aV sz len (((m.boxes.getD id []).map (bF m d)).drop off)).length cap):=by
     refine .sl b off sz (fun i j=>arr.getD (off+(i*sz+j)) undef) (by rw[aH];exact hl) (fun h=>by cases h) (fun _=>⟨rfl,ai⟩) (fun row ah=>?_) (fun i j c hc=>?_) (fun i j c hc=>?_) trivial
     ·exact Av (by rw[zzcr,zzbg];omega) ah
     ·obtain⟨_,_,h3⟩:=Wl hc;obtain⟨c',u,rfl,h4,h5,h6,h7⟩:=cp _ _ h3;rw[aM hh,zzan,h5];exact⟨h4,fq id b hb _,h7⟩
     obtain⟨_,_,h3⟩:=Wl hc;obtain⟨c',u,rfl,h4,h5,h6,h7⟩:=cp _ _ h3;rw[VN,h5];exact ih c' u h6 fun _=>fq
    rw[aH]at hr;exact hr
  |ptr id o=>
   obtain⟨b,hb,rfl⟩:=h.dF;have fq:=hp rfl;obtain⟨_,ai,_⟩:=hm.β id b hb;simp only[bF];have hz:(.pointer (some ⟨b,o,none⟩):Value)=.pointer (some ⟨b,0+o,none⟩):=by rw[zzbv]
   rw[hz];cases gE:m.boxes[id]? with
   |none=>
    have:m.boxes.getD id []=[]:=by simp[List.getD,gE]
    rw[this];exact .ep (fun _=>undef) ai (fun j c hj=>by simp at hj) fun j c hj=>by simp at hj
   |some cells=>
    have:m.boxes.getD id []=cells:=by simp[List.getD,gE]
    rw[this];obtain⟨arr,e,g2,g3,g4⟩:=hm.box id cells b (hB id cells gE) hb
    have cp:∀(j:Nat)(c:AV),(cells.map (bF m d))[j]?=some c->∃c' u,cells[j]?=some c'/\c=bF m d c'/\arr[j]?=some u/\arr.getD j undef=u/\aB w γ c' u:=fun j c hj=>by
     simp at hj;obtain⟨c',h1,rfl⟩:=hj
     have cK:j<arr.size:=by
      have:=g3.1;rcases zzaa j cells.length with h|h
      ·simp at this;omega
      rw[zzay h]at h1;cases h1
     have hu:arr[j]?=some arr[j]:=zzaj cK;exact⟨c',arr[j],h1,rfl,hu,by simp[cK],g3.2 j c' _ h1 (by simp[cK])⟩
    refine .ep (fun j=>arr.getD j undef) ai (fun j c hj=>?_) fun j c hj=>?_
    ·obtain⟨c',u,h1,h2,h3,h4,h5⟩:=cp j c hj;rw[zzbv,aM g2,h4];exact⟨h3,fq id b hb j,g4 u (by simpa using zzda h3)⟩
    obtain⟨c',u,h1,rfl,h3,h4,h5⟩:=cp j c hj;rw[VN,h4];exact ih c' u h5 fun _=>fq
def VY{w':World}{γ':G}{r:AV}{v:Value}(hf:flat r=true)(h:aB w γ r v):aB w' γ' r v:=by
 have one:∀(a:AV)(v:Value),iV a=true->aB w γ a v->aB w' γ' a v:=fun a v hf h=>by
  cases a<;>simp[iV]at hf
  ·rw[h.bA];exact .bool _
  ·rw[h.aG];exact .int _ _
  rw[h.cq];exact .str _
 cases r with
 |aW cs=>
  obtain⟨arr,rfl,hr⟩:=h.Cq;simp only[flat]at hf;exact .aW (by simpa using hr.1) fun i c v h1 h2=>one c v (zzbh.1 hf c (zzad h1)) (hr.2 i c v h1 (by simpa using h2))
 |_=>exact one _ _ hf h
def JP{P:Program}{gl:Nat->AV}(hm:au N w0 aq γ w B L){m:AM}(hB:∀id cells,m.boxes[id]?=some cells->B id=some cells)(lM:∀g,aB w γ.cT (gl g) (.pointer (some ⟨g,0,none⟩)))
  {f:FuncId}{as:List AV}{vs:List Value}{r:AV}(hr:ak w γ as vs)(hp:Pure P gl f (as.map (bF m 6)) r)(gh:as.any (Yj 6)=true->flat r=true)
  {R:Ending->World->Prop}(hk:∀v w' γ',Ev w γ w' γ'->au N w0 aq γ' w' B L->aB w' γ' r v->R (.returned v) w'):Calls P f vs.toArray w R:=by
 let ro':Nat->Nat->Prop:=fun b o=>γ.ro b o\/(as.any (Yj 6)=true/\∃id,γ.β id=some b)
 have oJ:ak w (G0 ro') (as.map (bF m 6)) vs:=hr.map fun a ha v hv=>kK hm hB (fun b o h=>.inl h) 6 a v hv fun iX id b hb o=>.inr ⟨ak.vL ha iX,id,hb⟩
 have avQ:∀g,aB w (G0 ro') (gl g) (.pointer (some ⟨g,0,none⟩)):=fun g=>
  (lM g).mono ⟨zzab _,fun b o _ h=>⟨.inl h,rfl⟩,fun _ _ h=>(by cases h),fun _=>zzab _,fun _ _ h=>(by cases h),rfl,fun _ _ _ h=>(by cases h),fun _ h=>h.elim,Sz.refl w⟩
 refine(hp.2 ro' w vs avQ oJ).mono ?_;rintro e w' ⟨v,rfl,hb,hv⟩;refine hk v w' _ (hm.di hb) (hm.grow hb) ?_;cases hany:as.any (Yj 6)with
 |true=>exact VY (gh hany) hv
 |false=>
  refine hv.eX ⟨zzab _,fun b o ai h=>⟨?_,rfl⟩,fun _ _ h=>(by cases h),fun _=>zzcc _,fun _ _ h=>(by cases h),fun _ _ h=>(by cases h),fun _ _ _ h=>(by cases h),Sz.refl w'⟩;obtain(h|⟨h,_⟩)|h:=h
  ·exact .inl h
  ·rw[hany]at h;cases h
  exact .inr ⟨h,ai⟩
open Go Go.RowKit
def Vd(n sz:Nat)(cv:Nat->Nat->Value):List Value:=(List.range (n*sz)).map fun k=>cv (k/sz) (k%sz)
def Zd(n sz:Nat)(cv:Nat->Nat->Value):(Vd n sz cv).length=n*sz:=by simp[Vd]
def qJ{n sz:Nat}{cv:Nat->Nat->Value}{k:Nat}{u:Value}(h:(Vd n sz cv)[k]?=some u):k<n*sz/\u=cv (k/sz) (k%sz):=by
 simp only[Vd,zzbl]at h;rcases zzaa k (n*sz)with hk|hk
 ·rw[zzef hk]at h;simp at h;exact⟨hk,h.symm⟩
 rw[zzay (by simpa using hk)]at h;simp at h
def vM(n sz:Nat)(cv:Nat->Nat->Value){i j:Nat}(hi:i<n)(hj:j<sz):(Vd n sz cv)[i*sz+j]?=some (cv i j):=by
 have hk:i*sz+j<n*sz:=by
  have:(i+1)*sz<=n*sz:=zzba _ hi;rw[zzbp,zzdl]at this;omega
 have h1:(i*sz+j)/sz=i:=by
  rw[zzec,Nat.mul_add_div (by omega),zzet hj];rfl
 have h2:(i*sz+j)%sz=j:=by
  rw[zzec,Nat.mul_add_mod,zzgv hj]
 simp[Vd,zzef hk,h1,h2]
def vN{rows:List (List AV)}{sz k:Nat}(hsz:∀row∈rows,row.length=sz)(hk:k<rows.length*sz):∃c,Qt rows (k/sz) (k%sz)=some c:=by
 have h0:0<sz:=by
  rcases zzcn sz with h|h;· subst h;simp at hk
  · exact h
 have h1:k/sz<rows.length:=by rw[Nat.div_lt_iff_lt_mul h0];exact hk
 have h2:k%sz<(rows[k/sz]).length:=by rw[hsz _ (zzdi h1)];exact zze _ h0
 exact⟨rows[k/sz][k%sz],by simp[Qt,h1,h2]⟩
structure qm (w:World) (γ:G) (rows:List (List AV)) (a:Option Addr) (cap b off sz:Nat) (cv:Nat->Nat->Value):Prop where
 hcap:rows.length<=cap
 hnil:a=none->cap=0
 at_:rows≠[]->a=some ⟨b,off,none⟩/\b<w.heap.size
 hsz:∀row∈rows,row.length=sz
 cell:∀(i j:Nat)(c:AV),Qt rows i j=some c->w.cell? ⟨b,off+i*sz+j,none⟩=some (cv i j)/\γ.ro b (off+i*sz+j)/\(cv i j).oneCell'=true
 rep:∀(i j:Nat)(c:AV),Qt rows i j=some c->aB w γ.cT c (cv i j)
def qm.mk'{w:World}{γ:G}{rows:List (List AV)}{a:Option Addr}{cap b off sz:Nat}{cv:Nat->Nat->Value}(h:qm w γ rows a cap b off sz cv){rt:Rt}(aR:tF w γ a rows.length cap sz rt):
  aB w γ (.sl rt rows) (.slice a rows.length cap):=.sl b off sz cv h.hcap h.hnil h.at_ h.hsz h.cell h.rep aR
def aB.bY{w:World}{γ:G}{v:Value}{rt:Rt}{rows:List (List AV)}(h:aB w γ (.sl rt rows) v):∃(a:Option Addr)(cap b off sz:Nat)(cv:Nat->Nat->Value),
  v=.slice a rows.length cap/\qm w γ rows a cap b off sz cv/\tF w γ a rows.length cap sz rt:=by
 obtain⟨a,cap,b,off,sz,cv,h0,h1,h2,h3,h4,h5,h6,h7⟩:=h.VW;exact⟨a,cap,b,off,sz,cv,h0,⟨h1,h2,h3,h4,h5,h6⟩,h7⟩
def qm.cells{w:World}{γ:G}{rows:List (List AV)}{a:Option Addr}{cap b off sz:Nat}{cv:Nat->Nat->Value}(h:qm w γ rows a cap b off sz cv):
  ∀k u,(Vd rows.length sz cv)[k]?=some u->w.cell? ((⟨b,off,none⟩:Addr).add k)=some u:=fun k u hu=>by
 obtain⟨hk,rfl⟩:=qJ hu;obtain⟨c,hc⟩:=vN h.hsz hk;have:=(h.cell _ _ c hc).1
 have h0:0<sz:=by
  rcases zzcn sz with h|h;· subst h;simp at hk
  · exact h
 rw[bw];rw[<- this]
 have e:off+k=off+k/sz*sz+k%sz:=by
  have:=zzhe k sz;rw[zzec]at this;omega
 rw[e]
def qm.one{w:World}{γ:G}{rows:List (List AV)}{a:Option Addr}{cap b off sz:Nat}{cv:Nat->Nat->Value}(h:qm w γ rows a cap b off sz cv):
  ∀u∈Vd rows.length sz cv,u.oneCell'=true:=fun u hu=>by
 obtain⟨k,hk⟩:=zzby.1 hu;obtain⟨zk,rfl⟩:=qJ hk;obtain⟨c,hc⟩:=vN h.hsz zk;exact(h.cell _ _ c hc).2.2
def qm.first{P:Program}{w:World}{γ:G}{rows:List (List AV)}{a:Option Addr}{cap b off sz:Nat}{cv:Nat->Nat->Value}(h:qm w γ rows a cap b off sz cv){w':World}(hw:∀x,w'.cell? x=w.cell? x):
  (Builtin.firstCells sz rows.length (.slice a rows.length cap)).run P w'=.ok (Vd rows.length sz cv).toArray w':=by
 cases hr:rows with
 |nil=>
  subst hr;cases a with
  |none=>simp[Builtin.firstCells,Vd]
  |some a=>simp[Builtin.firstCells,loadCells,loadCellsFrom,Vd]
 |cons r rs=>
  rw[<- hr];obtain⟨rfl,_⟩:=h.at_ (by rw[hr];simp);exact run_firstCells_some w' sz rows.length _ rows.length cap _ (Zd _ _ _) fun j u hj=>by rw[hw];exact h.cells j u hj
def Qcn(n:Nat)(cv gF:Nat->Nat->Value):Nat->Nat->Value:=fun i j=>if i<n then cv i j else gF (i-n) j
def Um{rows aC:List (List AV)}{i j:Nat}{c:AV}(h:Qt (rows++aC) i j=some c):
  (i<rows.length/\Qt rows i j=some c)\/(rows.length<=i/\Qt aC (i-rows.length) j=some c):=by
 unfold Qt at*
 rcases zzaa i rows.length with hi|hi
 ·rw[zzag hi]at h;exact .inl ⟨hi,h⟩
 rw[zzal hi]at h;exact .inr ⟨hi,h⟩
def nq{rows:List (List AV)}{i j:Nat}{c:AV}(h:Qt rows i j=some c):∃hi:i<rows.length,j<rows[i].length:=by
 unfold Qt at h;cases hr:rows[i]? with
 |none=>simp[hr]at h
 |some row=>
  obtain⟨hi,rfl⟩:=zza.1 hr;simp[hr]at h;exact⟨hi,(zza.1 h).1⟩
def Aw(n:Nat):∀(k c:Nat),c<n->Builtin.growBy n k c<=n+n/4+192
 |0,c,h=>by simp only[Builtin.growBy];omega
 |k+1,c,h=>by
  simp only[Builtin.growBy];rw[if_neg (by omega)];by_cases h2:c+(c+768)/4<n
  ·exact Aw n k _ h2
  cases k with
  |zero=>simp only[Builtin.growBy];omega
  |succ k=>simp only[Builtin.growBy];rw[if_pos (by omega)];omega
def JQ{n c:Nat}(h:c<n):2*Builtin.nextslicecap n c<=3*n+4000:=by
 unfold Builtin.nextslicecap;split
 ·omega
 split
 ·omega
 have:=Aw n 4 c h;omega
section run
variable {P:Program} {w:World} {γ:G} {t ty e:TypeId} {i:TypeInfo} {z:Value} {rows aC:List (List AV)} {a a2:Option Addr} {cap b off bZ b2 gA sz:Nat} {cv gF:Nat->Nat->Value}
def Qds(ht:P.underlying t=some (.slice e))(hi:P.info? e=some i)(a2:Option Addr)(bZ len:Nat)(hcap:len<=cap):
  (Builtin.append_ #[t,t] ty #[.slice a len cap,.slice a2 0 bZ]).run P w=.ok (.slice a len cap) w:=by
 cases a<;>cases a2<;>simp[Builtin.append_,run_underlying ht,sizeOf,typeInfo,hi,Builtin.lenOf,hcap,Builtin.firstCells,loadCells,loadCellsFrom,storeCells]
def oK(ht:P.underlying t=some (.slice e))(hi:P.info? e=some i)(hz:i.zero=some z)(h:qm w γ rows a cap b off i.size cv){γ2:G}(h2:qm w γ2 aC a2 bZ b2 gA i.size gF)
  (hg:cap<rows.length+aC.length)(cF:(3*(rows.length+aC.length)+4000)*i.bytes<=562949953421312)(vO:rows.length+aC.length<=9223372036854775807):
  ∃aX,rows.length+aC.length<=aX/\(Builtin.append_ #[t,t] ty #[.slice a rows.length cap,.slice a2 aC.length bZ]).run P w=
   .ok (.slice (some ⟨w.heap.size,0,none⟩) (rows.length+aC.length) aX)
    (w.drew.alloc (.cells ((Vd rows.length i.size cv).toArray++(Vd aC.length i.size gF).toArray++Builtin.zeroCells z.cells (aX-(rows.length+aC.length))) e)):=by
 have hn:¬(rows.length+aC.length<=cap):=by omega
 have alz:¬(9223372036854775807<((rows.length:Int)+(aC.length:Int))):=by omega
 have ck:=JQ hg
 have alA:¬(281474976710656<Builtin.nextslicecap (rows.length+aC.length) cap*i.bytes):=by
  have:2*Builtin.nextslicecap (rows.length+aC.length) cap*i.bytes<=(3*(rows.length+aC.length)+4000)*i.bytes:=zzba _ (by omega);rw[Nat.mul_assoc]at this;omega
 have f1:=h.first (P:=P) (w':=w.drew) fun _=>rfl
 have f2:=h2.first (P:=P) (w':=w.drew) fun _=>rfl
 refine⟨grownCap w (rows.length+aC.length) cap e,grownCap_ge w _ _ _,?_⟩;simp[Builtin.append_,run_underlying ht,sizeOf,typeInfo,zeroValue,hi,hz,Builtin.lenOf,hn,alz,alA,Question.forced,f1,f2,newRow,grownCap];congr 2;apply Array.ext';simp[zzaw]
def Cr(ht:P.underlying t=some (.slice e))(hi:P.info? e=some i)(h2:qm w γ aC a2 bZ b2 gA i.size gF){len:Nat}
  (cB:len+aC.length<=cap){arr:Array Value}{e':TypeId}(hh:w.heap[b]?=some (.cells arr e' (0,0)))(hsz:off+cap*i.size<=arr.size):
  (
   Builtin.append_ #[t,t] ty #[.slice (some ⟨b,off,none⟩) len cap,.slice a2 aC.length bZ]).run P w=
   .ok (.slice (some ⟨b,off,none⟩) (len+aC.length) cap) (w.setCells b (off+len*i.size) (Vd aC.length i.size gF)):=by
 have f2:=h2.first (P:=P) (w':=w) fun _=>rfl
 have ck:(len+aC.length)*i.size<=cap*i.size:=zzba _ cB;rw[zzbp]at ck
 have cc:=run_storeCells_cells (P:=P) b (off+len*i.size) (Vd aC.length i.size gF) 0 w (fun j hj=>by
   rw[Zd]at hj;rw[aM hh,zzcq,zzaj (by omega)];rfl)
  (fun j hj=>Zm hh) h2.one
 simp only[zzcq]at cc;simp[Builtin.append_,run_underlying ht,sizeOf,typeInfo,hi,Builtin.lenOf,cB,f2,bw,cc]
end run
open Go Go.RowKit
variable {N:Nat} {w0:ir} {aq:Nat->Nat->Prop} {γ:G} {w:World} {B:Nat->Option (List AV)} {L:Nat->Option Nat}
def qm.fix{rows:List (List AV)}{a:Option Addr}{cap b off sz gz:Nat}{cv:Nat->Nat->Value}(h:qm w γ rows a cap b off gz cv)(hr:∀row∈rows,row.length=sz):qm w γ rows a cap b off sz cv:=by
 cases dY:rows with
 |nil=>
  subst dY;exact⟨h.hcap,h.hnil,h.at_,hr,fun i j c hc=>by simp[Qt]at hc,fun i j c hc=>by simp[Qt]at hc⟩
 |cons r rs=>
  have e:gz=sz:=(h.hsz r (by simp[dY])).symm.trans (hr r (by simp[dY]));rw[<- dY];subst e;exact h
def qm.mono{rows:List (List AV)}{a:Option Addr}{cap b off sz:Nat}{cv:Nat->Nat->Value}(h:qm w γ rows a cap b off sz cv){w':World}{γ':G}(e:Ev w γ w' γ'):qm w' γ' rows a cap b off sz cv:=by
 obtain⟨a',ayd,b',nr,gz,cv',e0,h1,h2⟩:=((h.mk' (rt:=.ro) trivial).mono e).bY;refine⟨h.hcap,h.hnil,fun hn=>⟨(h.at_ hn).1,zzbc (h.at_ hn).2 e.size⟩,h.hsz,fun i j c hc=>?_,fun i j c hc=>(h.rep i j c hc).mono e.cT⟩;have hb:=(h.at_ (by rintro rfl;simp[Qt]at hc)).2;obtain⟨g1,g2,g3⟩:=h.cell i j c hc;exact⟨(e.ro _ _ hb g2).2.trans g1,(e.ro _ _ hb g2).1,g3⟩
def qm.ER{rows aC:List (List AV)}{a a2:Option Addr}{cap b off bZ b2 gA sz:Nat}{cv gF:Nat->Nat->Value}(h:qm w γ rows a cap b off sz cv){γ2:G}(h2:qm w γ2 aC a2 bZ b2 gA sz gF)(iu:∀i j c,Qt aC i j=some c->aB w γ.cT c (gF i j))
  {w':World}{γ':G}(e:Ev w γ w' γ'){nb:Nat}{rest:Array Value}{te:TypeId}
  (hh:w'.heap[nb]?=some (.cells ((Vd rows.length sz cv).toArray++(Vd aC.length sz gF).toArray++rest) te (0,0)))
  (dM:∀o,o<(rows.length+aC.length)*sz->γ'.ro nb o){aX:Nat}(hcap:rows.length+aC.length<=aX):
  qm w' γ' (rows++aC) (some ⟨nb,0,none⟩) aX nb 0 sz (Qcn rows.length cv gF):=by
 refine⟨by simpa using hcap,fun hn=>(by cases hn),fun _=>⟨rfl,aT hh⟩,fun row hr=>?_,fun i j c hc=>?_,fun i j c hc=>?_⟩
 ·rcases zzao.1 hr with hr|hr
  ·exact h.hsz row hr
  exact h2.hsz row hr
 ·obtain⟨hi,hj⟩:=nq hc
  have NO:j<sz:=by
   rcases zzao.1 (zzdi hi)with hr|hr
   ·rw[h.hsz _ hr]at hj;exact hj
   rw[h2.hsz _ hr]at hj;exact hj
  have ai:i*sz+j<(rows.length+aC.length)*sz:=by
   have:(i+1)*sz<=(rows.length+aC.length)*sz:=zzba _ (by simp at hi;omega);rw[zzbp,zzdl]at this;omega
  rw[zzbv];refine⟨?_,dM _ ai,?_⟩
  ·rw[aM hh];rcases Um hc with⟨h1,h3⟩|⟨h1,h3⟩
   ·have:=vM rows.length sz cv h1 NO;have hl:i*sz+j<(Vd rows.length sz cv).length:=(zza.1 this).1;rw[Array.append_assoc,zzey (by simpa using hl)];simp[Qcn,h1,this]
   have h4:i-rows.length<aC.length:=(nq h3).1;have:=vM aC.length sz gF h4 NO
   have e1:i*sz+j=rows.length*sz+((i-rows.length)*sz+j):=by
    rw[Nat.sub_mul];have:rows.length*sz<=i*sz:=zzba _ h1;omega
   have hl:(i-rows.length)*sz+j<(Vd aC.length sz gF).length:=(zza.1 this).1;rw[Array.append_assoc,Array.getElem?_append_right (by simp[Zd];omega)];rw[zzey (by simp[Zd]at hl |-;omega)];have e2:i*sz+j-rows.length*sz=(i-rows.length)*sz+j:=by omega
   simp only[zzek,Zd,e2,List.getElem?_toArray,this,Qcn,if_neg (zzbm.2 h1)]
  unfold Qcn;rcases Um hc with⟨h1,h3⟩|⟨h1,h3⟩
  ·rw[if_pos h1];exact(h.cell i j c h3).2.2
  rw[if_neg (zzbm.2 h1)];exact(h2.cell _ j c h3).2.2
 unfold Qcn;rcases Um hc with⟨h1,h3⟩|⟨h1,h3⟩
 ·rw[if_pos h1];exact(h.rep i j c h3).mono e.cT
 rw[if_neg (zzbm.2 h1)];exact(iu _ j c h3).mono e.cT
def Yf(w:World)(o:Obj):(w.drew.alloc o).heap[w.heap.size]?=some o:=by
 show(w.heap.push o)[w.heap.size]?=some o;simp
def tH(w:World)(o:Obj):w.heap.size<(w.drew.alloc o).heap.size:=by
 show _<(w.heap.push o).size;simp
def qK(w:World)(o:Obj):Below w.heap.size w (w.drew.alloc o):=
 ((Below.refl w.heap.size w).drew).alloc (zzab _) o
section
variable {P:Program} {t ty e:TypeId} {i:TypeInfo} {z:Value} {rows aC:List (List AV)} {rt JR:Rt} {v1 v2:Value}
def alB(hm:au N w0 aq γ w B L)(ht:P.underlying t=some (.slice e))(hi:P.info? e=some i)(hz:i.zero=some z)(h1:aB w γ (.sl .full rows) v1)(h2:aB w γ (.sl JR aC) v2)
  (hr:∀row∈rows++aC,row.length=i.size)(cF:(3*(rows.length+aC.length)+4000)*i.bytes<=562949953421312)(vO:rows.length+aC.length<=9223372036854775807):
  ∃v w' γ',(Builtin.append_ #[t,t] ty #[v1,v2]).run P w=.ok v w'/\Ev w γ w' γ'/\au N w0 aq γ' w' B L/\aB w' γ' (.sl .ro (rows++aC)) v:=by
 obtain⟨a,cap,b,off,sz,cv,rfl,s1,r1⟩:=h1.bY;obtain⟨a2,bZ,b2,gA,sz2,gF,rfl,s2,r2⟩:=h2.bY;replace s1:=s1.fix (sz:=i.size) fun row h=>hr row (by simp[h]);replace s2:=s2.fix (sz:=i.size) fun row h=>hr row (by simp[h]);by_cases hn:aC=[]
 ·subst hn;refine⟨_,w,γ,Qds ht hi _ _ _ s1.hcap,Ev.refl _ _,hm,?_⟩;rw[zzau];exact s1.mk' trivial
 have eR:0<aC.length:=zzcw.2 hn;have hcap:cap=rows.length:=r1;obtain⟨aX,ck,aZ⟩:=oK (P:=P) (ty:=ty) ht hi hz s1 s2 (by omega) cF vO;have hb:=qK w (.cells ((Vd rows.length i.size cv).toArray++(Vd aC.length i.size gF).toArray++Builtin.zeroCells z.cells (aX-(rows.length+aC.length))) e);refine⟨_,_,_,aZ,hm.di hb,hm.grow hb,?_⟩;have hj:=s1.ER s2 s2.rep (hm.di hb) (nb:=w.heap.size) (te:=e) (Yf w _) (fun o _=>.inr ⟨zzab _,tH w _⟩) ck;have:=hj.mk' (rt:=.ro) trivial;rwa [zzah]at this
def G.mark(γ:G)(id n:Nat):G:={γ with cur:=fun i=>if i=id then n else γ.cur i}
def au.oM(hm:au N w0 aq γ w B L){id n:Nat}(hn:γ.cur id<=n)(h0:γ.cur id=n\/γ.own id=none):Ev w γ w (γ.mark id n) where
 size:=zzab _
 ro _ _ _ h:=⟨h,rfl⟩
 β _ _ h:=h
 cur j:=by simp only[G.mark];split<;>simp_all
 mm _ _ h:=h
 lp:=rfl
 own j b _ ho:=⟨ho,fun arr _ h=>⟨arr,h,zzab _⟩,fun _ h=>h⟩
 sp _ h:=⟨h,rfl⟩
 ss:=Sz.refl w
def au.mark(hm:au N w0 aq γ w B L){id n:Nat}(hn:γ.cur id<=n)(h0:γ.cur id=n\/γ.own id=none):au N w0 aq (γ.mark id n) w B (fun i=>if i=id then some n else L i) where
 bs:=w0.st _ _ _ _ hm.bs ⟨rfl,rfl,rfl,zzab _,fun _ _ _=>rfl,fun _ _ _ h=>⟨h,rfl⟩,fun _ hb=>.inl hb,fun _ _ h=>.inl h⟩
 hN:=hm.hN
 aq:=hm.aq
 robd:=hm.robd
 box j cs b hb h1:=by
  obtain⟨arr,e,h2,h3,h4⟩:=hm.box j cs b hb h1;exact⟨arr,e,h2,h3.mono (hm.oM hn h0),h4⟩
 β:=hm.β
 inj:=hm.inj
 own j b hb:=by
  obtain⟨h1,h2,k,hk⟩:=hm.own j b hb;refine⟨h1,h2,?_⟩;by_cases hj:j=id
  ·exact⟨n,by simp[hj]⟩
  exact⟨k,by simp[hj,hk]⟩
 oinj:=hm.oinj
 sp:=hm.sp
 mm i b hb:=by
  obtain⟨h1,h2,h3,h4,h5,h6,h8,h7⟩:=hm.mm i b hb;exact⟨h1,h2,h3,h4,h5,h6,h8,h7.mono (hm.oM hn h0).dD.D4 rfl⟩
 minj:=hm.minj
 len j k hj:=by
  by_cases h:j=id
  ·simp[h]at hj;simp[G.mark,h,hj]
  simp[h]at hj;simp[G.mark,h,hm.len j k hj]
 cur0 j hj:=by
  by_cases h:j=id
  ·simp[h]at hj
  simp[h]at hj;simp[G.mark,h,hm.cur0 j hj]
def vP(hm:au N w0 aq γ w B L)(ht:P.underlying t=some (.slice e))(hi:P.info? e=some i)(hz:i.zero=some z)(Cs:z.cells.size=i.size){id:Nat}
  (h1:(aB w γ (.sl .full rows) v1/\L id=none)\/(aB w γ (.sl (.own id i.size) rows) v1/\L id=some rows.length)){γ2:G}{a2:Option Addr}{bZ b2 gA:Nat}{gF:Nat->Nat->Value}(s2:qm w γ2 aC a2 bZ b2 gA i.size gF)(iu:∀i j c,Qt aC i j=some c->aB w γ.cT c (gF i j))
  (hr:∀row∈rows++aC,row.length=i.size)(cF:(3*(rows.length+aC.length)+4000)*i.bytes<=562949953421312)(vO:rows.length+aC.length<=9223372036854775807):
  ∃v w' γ',(Builtin.append_ #[t,t] ty #[v1,.slice a2 aC.length bZ]).run P w=.ok v w'/\Ev w γ w' γ'/\au N w0 aq γ' w' B (fun j=>if j=id then some (rows.length+aC.length)else L j)/\aB w' γ' (.sl (.own id i.size) (rows++aC)) v:=by
 have key:∃a cap b off cv,v1=.slice a rows.length cap/\qm w γ rows a cap b off i.size cv/\γ.cur id<=rows.length/\(γ.cur id=rows.length\/γ.own id=none)/\(cap=rows.length\/(mw w γ a id rows.length cap i.size/\γ.cur id=rows.length)):=by
  obtain⟨h1,hL⟩|⟨h1,hL⟩:=h1
  ·obtain⟨a,cap,b,off,sz,cv,rfl,s1,r1⟩:=h1.bY
   have eP:γ.own id=none:=by
    cases ho:γ.own id with
    |none=>rfl
    |some b=>obtain⟨_,_,n,hn⟩:=hm.own id b ho;rw[hL]at hn;cases hn
   exact⟨a,cap,b,off,cv,rfl,s1.fix fun row h=>hr row (by simp[h]),by rw[hm.cur0 id hL];exact zzcc _,.inr eP,.inl r1⟩
  obtain⟨a,cap,b,off,sz,cv,rfl,s1,r1,r2,r3⟩:=h1.bY;subst r1;have hc:=hm.len id _ hL;exact⟨a,cap,b,off,cv,rfl,s1,by omega,.inl hc,(r3 hc.symm).imp_right fun h=>⟨h,hc⟩⟩
 obtain⟨a,cap,b,off,cv,rfl,s1,aeu,dz,dy⟩:=key;by_cases hn:aC=[]
 ·subst hn;refine⟨_,w,γ.mark id rows.length,Qds ht hi _ _ _ s1.hcap,hm.oM aeu dz,by simpa using hm.mark aeu dz,?_⟩;rw[zzau];refine(s1.mono (hm.oM aeu dz)).mk' ⟨rfl,by simp[G.mark],fun _=>?_⟩;obtain h|⟨h,hc⟩:=dy
  ·exact .inl h
  refine .inr (h.mono (hm.oM aeu dz) ?_);simp[G.mark,hc]
 have eR:0<aC.length:=zzcw.2 hn;by_cases cB:rows.length+aC.length<=cap
 ·
  obtain h|⟨⟨b',nr,arr,te,ha,ho,hh,hsz,oH⟩,hc⟩:=dy
  ·omega
  subst ha;have aZ:=Cr (P:=P) (ty:=ty) (off:=nr) ht hi s2 cB hh hsz;have hq:nr+(rows.length+aC.length)*i.size=nr+rows.length*i.size+(Vd aC.length i.size gF).length:=by rw[Zd,zzbp];omega
  have cw:=hm.kJ (vs:=Vd aC.length i.size gF) (n:=rows.length+aC.length) ho (by omega) (fun h=>by omega) hq oH;refine⟨_,_,_,aZ,cw,hm.extend ho (by omega) (fun h=>by omega) hq oH,?_⟩;have hb:b'<w.heap.size:=aT hh;have ck:(rows.length+aC.length)*i.size<=cap*i.size:=zzba _ cB
  have Tf:rows≠[]->b=b'/\off=nr:=fun h=>by
   obtain⟨h1,_⟩:=s1.at_ h;injection h1 with h1;injection h1 with h1 h2;exact⟨h1.symm,h2.symm⟩
  have bI:∀j(hj:j<(Vd aC.length i.size gF).length),(w.setCells b' (nr+rows.length*i.size) (Vd aC.length i.size gF)).cell? ⟨b',nr+rows.length*i.size+j,none⟩=some (Vd aC.length i.size gF)[j]:=
   World.cell?_setCells_in b' _ _ w fun j hj=>by
    rw[Zd]at hj;rw[aM hh,zzaj (by rw[zzbp]at ck;omega)];rfl
  have hj:qm (w.setCells b' (nr+rows.length*i.size) (Vd aC.length i.size gF)) (γ.extend id b' (nr+rows.length*i.size) (nr+(rows.length+aC.length)*i.size) (rows.length+aC.length))
    (rows++aC) (some ⟨b',nr,none⟩) cap b' nr i.size (Qcn rows.length cv gF):=by
   refine⟨by simpa using cB,fun hn=>(by cases hn),fun _=>⟨rfl,by rw[aF];exact hb⟩,hr,fun j k c hc=>?_,fun j k c hc=>?_⟩
   ·rcases Um hc with⟨PR,h3⟩|⟨h1,h3⟩
    ·obtain⟨rfl,rfl⟩:=Tf (by rintro rfl;simp at PR);obtain⟨g1,g2,g3⟩:=(s1.mono cw).cell j k c h3;have ej:Qcn rows.length cv gF j k=cv j k:=by unfold Qcn;rw[if_pos PR]
     rw[ej];exact⟨g1,g2,g3⟩
    obtain⟨hi4,hj4⟩:=nq h3;have hk:k<i.size:=by rw[s2.hsz _ (zzdi hi4)]at hj4;exact hj4
    have hf:=vM aC.length i.size gF hi4 hk;obtain⟨ai,cU⟩:=zza.1 hf
    have e1:nr+j*i.size+k=nr+rows.length*i.size+((j-rows.length)*i.size+k):=by
     rw[Nat.sub_mul];have:rows.length*i.size<=j*i.size:=zzba _ h1;omega
    simp only[Qcn,if_neg (zzbm.2 h1)];refine⟨?_,?_,(s2.cell _ _ c h3).2.2⟩
    ·rw[e1,bI _ ai,cU]
    rw[Zd]at ai;exact .inr ⟨rfl,by rw[e1];omega,by rw[e1,zzbp];omega⟩
   unfold Qcn;rcases Um hc with⟨h1,h3⟩|⟨h1,h3⟩
   ·rw[if_pos h1];exact(s1.rep j k c h3).mono cw.cT
   rw[if_neg (zzbm.2 h1)];exact(iu _ k c h3).mono cw.cT
  have:=hj.mk' (rt:=.own id i.size) ⟨rfl,by simp[G.extend],fun _=>.inr ⟨b',nr,_,te,rfl,ho,Xa b' _ _ w arr te _ hh,by rw[Vb];exact hsz,fun o c9 dM=>?_⟩⟩
  ·rwa [zzah]at this
  rw[zzah]at c9;obtain dM|⟨_,_,h4⟩:=dM
  ·refine oH o ?_ dM;have:rows.length*i.size<=(rows.length+aC.length)*i.size:=zzba _ (by omega);omega
  omega
 ·
  obtain⟨aX,ck,aZ⟩:=oK (P:=P) (ty:=ty) ht hi hz s1 s2 (by omega) cF vO;have Iu:=hm.drew;have aK:γ.cur id=rows.length+aC.length->γ.own id=none:=fun h=>by omega
  have hcn:γ.cur id<=rows.length+aC.length:=by omega
  have cw:Ev w γ _ _:=(Ev.drew w γ).trans (Iu.fP (q:=(rows.length+aC.length)*i.size) hcn aK (.cells ((Vd rows.length i.size cv).toArray++(Vd aC.length i.size gF).toArray++Builtin.zeroCells z.cells (aX-(rows.length+aC.length))) e));refine⟨_,_,_,aZ,cw,Iu.renew hcn aK _,?_⟩
  have hh:(w.drew.alloc (.cells ((Vd rows.length i.size cv).toArray++(Vd aC.length i.size gF).toArray++Builtin.zeroCells z.cells (aX-(rows.length+aC.length))) e)).heap[w.heap.size]?=some (.cells ((Vd rows.length i.size cv).toArray++(Vd aC.length i.size gF).toArray++Builtin.zeroCells z.cells (aX-(rows.length+aC.length))) e (0,0)):=by
   exact Yf w _
  have hj:=s1.ER s2 iu cw (nb:=w.heap.size) hh (fun o ho=>.inr ⟨rfl,ho⟩) ck;have:=hj.mk' (rt:=.own id i.size) ⟨rfl,by simp[G.renew],fun _=>?_⟩
  ·rwa [zzah]at this
  by_cases hz0:aX=rows.length+aC.length
  ·exact .inl (by simp[hz0])
  refine .inr ⟨w.heap.size,0,_,e,rfl,by simp[G.renew],hh,?_,fun o ho dM=>?_⟩
  ·simp only[zzel,zzek,Zd,size_zeroCells]
   have PT:aX*i.size=rows.length*i.size+aC.length*i.size+(aX-(rows.length+aC.length))*i.size:=by
    rw[<- zzbp,<- zzbp];congr 1;omega
   rw[Cs,PT];omega
  simp only[zzah,zzbv]at ho;obtain dM|⟨_,dM⟩:=dM
  ·have:=hm.robd _ _ dM;omega
  omega
def NP(hm:au N w0 aq γ w B L)(ht:P.underlying t=some (.slice e))(hi:P.info? e=some i)(hz:i.zero=some z)(Cs:z.cells.size=i.size){id:Nat}
  (h1:(aB w γ (.sl .full rows) v1/\L id=none)\/(aB w γ (.sl (.own id i.size) rows) v1/\L id=some rows.length))(h2:aB w γ (.sl JR aC) v2)
  (hr:∀row∈rows++aC,row.length=i.size)(cF:(3*(rows.length+aC.length)+4000)*i.bytes<=562949953421312)(vO:rows.length+aC.length<=9223372036854775807):
  ∃v w' γ',(Builtin.append_ #[t,t] ty #[v1,v2]).run P w=.ok v w'/\Ev w γ w' γ'/\au N w0 aq γ' w' B (fun j=>if j=id then some (rows.length+aC.length)else L j)/\aB w' γ' (.sl (.own id i.size) (rows++aC)) v:=by
 obtain⟨a2,bZ,b2,gA,sz2,gF,rfl,s2,r2⟩:=h2.bY;exact vP hm ht hi hz Cs h1 (s2.fix (sz:=i.size) fun row h=>hr row (by simp[h])) s2.rep hr cF vO
end
open Go Go.RowKit
def Step(N:Nat)(w0:ir)(aq:Nat->Nat->Prop)(P:Program)(o:Oper)(a:Act)(γ:G)(w:World)(B:Nat->Option (List AV))(L:Nat->Option Nat)(r:AV):Prop:=
 ∀(rd:Option Nat)(next:Act->World->Prop)(Q:Exit->Act->World->Prop),(∀v w' γ',Ev w γ w' γ'->au N w0 aq γ' w' B L->aB w' γ' r v->next (a.put o.dst v) w')->o.wpIn (FW rd) 0 P a w next Q
section
variable {N:Nat} {w0:ir} {aq:Nat->Nat->Prop} {γ:G} {w:World} {B:Nat->Option (List AV)} {L:Nat->Option Nat} {P:Program} {o:Oper} {a:Act} {r:AV}
def Qr(hm:au N w0 aq γ w B L){v:Value}(h:(execOp a.eval o).run P w=.ok (.value v) w)(hr:aB w γ r v):Step N w0 aq P o a γ w B L r:=
 fun _ _ _ hk=>Zn h (hk v w γ (Ev.refl _ _) hm hr)
def Ay{v:Value}{w':World}{γ':G}(hm:au N w0 aq γ' w' B L)(e:Ev w γ w' γ')(h:(execOp a.eval o).run P w=.ok (.value v) w')(hr:aB w' γ' r v):Step N w0 aq P o a γ w B L r:=
 fun _ _ _ hk=>Zn h (hk v w' γ' e hm hr)
variable {dst:Option Tmp} {ty:TypeId} {pos:String} {after:Array Edge} {guard:Option (Nat×Bool)} {gl:Nat->AV} {orc:Nat->FuncId->List AV->AV} {e:bK->AV} {m:AM}
def Ct{x:AV}{v:Value}{g b:Bool}(h:asB x=some (g,b))(hr:aB w γ x v)(hg:g=true):v=.bool b:=by
 cases x<;>simp[asB]at h
 ·obtain⟨rfl,rfl⟩:=h;exact hr.bA
 rename_i g' y;obtain⟨h1,rfl⟩:=h;rw[hg]at h1;cases g' with
 |false=>cases h1
 |true=>
  cases y<;>simp[isB]at h1;exact(hr.Cp rfl).bA
def PU(hm:au N w0 aq γ w B L){c x y:Operand}(h1:aB w γ (e (aA c)) (a.eval c))(h2:aB w γ (e (aA x)) (a.eval x))(h3:aB w γ (e (aA y)) (a.eval y))
  (hc:(rop P gl orc e m dst (.pick (aA c) (aA x) (aA y))).1):
  Step N w0 aq P ⟨dst,.pick c x y,ty,pos,after,guard⟩ a γ w B L (rop P gl orc e m dst (.pick (aA c) (aA x) (aA y))).2:=by
 simp only[rop]at hc |-
 split at hc
 ·rename_i g0 c' g1 x' g2 y' e1 e2 e3;try simp only[e1,e2,e3]
  obtain⟨hc0,fE,Cu⟩:=hc;have h1:=Ct e1 h1 hc0;cases c' with
  |true=>
   have:=Ct e2 h2 (fE rfl);exact Qr hm (v:=.bool x') (by simp[execOp,h1,asBool,this]) (.bool _)
  |false=>
   have:=Ct e3 h3 (Cu rfl);exact Qr hm (v:=.bool y') (by simp[execOp,h1,asBool,this]) (.bool _)
 exact hc.elim
def PV(hm:au N w0 aq γ w B L)(hB:∀id cells,m.boxes[id]?=some cells->B id=some cells){t:TypeId}{x:Operand}(h1:aB w γ (e (aA x)) (a.eval x))
  (hc:(rop P gl orc e m dst (tr P ⟨dst,.load t x,ty,pos,after,guard⟩)).1):
  Step N w0 aq P ⟨dst,.load t x,ty,pos,after,guard⟩ a γ w B L (rop P gl orc e m dst (tr P ⟨dst,.load t x,ty,pos,after,guard⟩)).2:=by
 simp only[tr]at hc |-
 split at hc
 case h_2=>exact hc.elim
 rename_i i d hi hd;try simp only[hi,hd]
 have main:∀(agg:Bool)(n:Nat),Ja P t=agg->(agg=true->n=i.size)->(rop P gl orc e m dst (.load agg n (aA x))).1->
   Step N w0 aq P ⟨dst,.load t x,ty,pos,after,guard⟩ a γ w B L (rop P gl orc e m dst (.load agg n (aA x))).2:=by
  intro agg n bE hn hc;simp only[rop]at hc |-
  split at hc
  ·rename_i id o' he;try simp only[he]
   rw[he]at h1;obtain⟨b,hb,hv⟩:=h1.dF;cases gE:m.boxes[id]? with
   |none=>
    have e0:m.boxes.getD id []=[]:=by simp[List.getD,gE]
    rw[e0]at hc |-
    obtain⟨v,h2,h3⟩:=Qdf (P:=P) (w:=w) (γ:=γ) (b:=b) (o:=o') (cv:=fun _=>undef) hi hd bE hn (fun j c hj=>by simp at hj) (fun j c hj=>by simp at hj) hc;exact Qr hm (by simp[execOp,hv,h2]) h3
   |some cells=>
    have e0:m.boxes.getD id []=cells:=by simp[List.getD,gE]
    rw[e0]at hc |-
    obtain⟨arr,te,g2,g3,g4⟩:=hm.box id cells b (hB id cells gE) hb
    have cp:∀(j:Nat)(c:AV),(cells.drop o')[j]?=some c->arr[o'+j]?=some (arr.getD (o'+j) undef)/\aB w γ c (arr.getD (o'+j) undef):=fun j c hj=>by
     rw[zzbk]at hj
     have ai:o'+j<arr.size:=by
      have:=(zza.1 hj).1;have h0:=g3.1;simp at h0;omega
     have hu:arr[o'+j]?=some (arr.getD (o'+j) undef):=by simp[ai]
     exact⟨hu,g3.2 _ _ _ hj (by simpa using hu)⟩
    obtain⟨v,h2,h3⟩:=Qdf (P:=P) (w:=w) (γ:=γ) (b:=b) (o:=o') (cv:=fun j=>arr.getD (o'+j) undef) hi hd bE hn (fun j c hj=>by rw[aM g2];exact(cp j c hj).1) (fun j c hj=>(cp j c hj).2) hc;exact Qr hm (by simp[execOp,hv,h2]) h3
  ·rename_i row o' he;try simp only[he]
   rw[he]at h1;obtain⟨b,off,cv,hv,hb,bL,zj⟩:=h1.iW;have cp:∀(j:Nat)(c:AV),(row.drop o')[j]?=some c->row[o'+j]?=some c:=fun j c hj=>by rw[zzbk]at hj;exact hj
   obtain⟨v,h2,h3⟩:=Qdf (P:=P) (w:=w) (γ:=γ) (b:=b) (o:=off+o') (cv:=fun j=>cv (o'+j)) hi hd bE hn
    (fun j c hj=>by rw[zzan];exact(bL _ _ (cp j c hj)).1) (fun j c hj=>(zj _ _ (cp j c hj)).gD) hc
   exact Qr hm (by simp[execOp,hv,h2]) h3
  exact hc.elim
 cases bE:Ja P t with
 |true=>simp only[bE,if_true]at hc |-;exact main true _ bE (fun _=>rfl) hc
 |false=>simp only[bE]at hc |-;exact main false 1 bE (fun h=>by cases h) hc
def JS(hm:au N w0 aq γ w B L){t:TypeId}{x:Operand}{f:Nat}(h1:aB w γ (e (aA x)) (a.eval x))
  (hc:(rop P gl orc e m dst (tr P ⟨dst,.fieldAddr t x f,ty,pos,after,guard⟩)).1):
  Step N w0 aq P ⟨dst,.fieldAddr t x f,ty,pos,after,guard⟩ a γ w B L (rop P gl orc e m dst (tr P ⟨dst,.fieldAddr t x f,ty,pos,after,guard⟩)).2:=by
 simp only[tr]at hc |-
 split at hc
 case h_2=>exact hc.elim
 rename_i fields hu;try simp only[hu]
 split at hc
 case h_2=>exact hc.elim
 rename_i fl gh;try simp only[gh]
 split at hc
 case h_2=>exact hc.elim
 rename_i i hi;try simp only[hi]
 split at hc
 case isTrue=>exact hc.elim
 rename_i hsz;try rw[if_neg hsz]
 simp only[rop]at hc |-
 have aqA:i.size≠0:=by simpa using hsz
 split at hc
 ·rename_i id o' he;try simp only[he]
  rw[he]at h1;obtain⟨b,hb,hv⟩:=h1.dF;exact Qr hm (v:=.pointer (some ⟨b,o'+fl.offset,none⟩)) (by simp[execOp,hv,Instr.fieldAt,run_underlying hu,gh,Instr.sureAddr,fieldPlace,sizeOf,typeInfo,hi,aqA,bw]) (.ptr hb)
 ·rename_i row o' he;try simp only[he]
  rw[he]at h1;obtain⟨b,off,cv,hv,hb,bL,zj⟩:=h1.iW;refine Qr hm (v:=.pointer (some ⟨b,off+(o'+fl.offset),none⟩)) (by simp[execOp,hv,Instr.fieldAt,run_underlying hu,gh,Instr.sureAddr,fieldPlace,sizeOf,typeInfo,hi,aqA,bw,zzan]) (.ep cv hb bL zj)
 exact hc.elim
def JT(hm:au N w0 aq γ w B L){t:TypeId}{x y:Operand}(h1:aB w γ (e (aA x)) (a.eval x))(h2:aB w γ (e (aA y)) (a.eval y))
  (hc:(rop P gl orc e m dst (tr P ⟨dst,.indexAddr t x y,ty,pos,after,guard⟩)).1):
  Step N w0 aq P ⟨dst,.indexAddr t x y,ty,pos,after,guard⟩ a γ w B L (rop P gl orc e m dst (tr P ⟨dst,.indexAddr t x y,ty,pos,after,guard⟩)).2:=by
 simp only[tr]at hc |-
 split at hc
 ·rename_i te hu;try simp only[hu]
  split at hc
  case h_2=>exact hc.elim
  rename_i i hi;try simp only[hi]
  simp only[rop]at hc |-
  split at hc
  case h_3=>exact hc.elim
  case h_2=>
   rename_i id off len gz k n e1 e2;try simp only[e1,e2]
   rw[e1]at h1;rw[e2]at h2;obtain⟨b,cap,arr,JU,hb,hv,hl,hh,hs⟩:=h1.cI;obtain⟨⟨eN,qI⟩,rfl⟩:=hc;refine Qr hm (v:=.pointer (some ⟨b,off+n.toNat*i.size,none⟩)) ?_ (.ptr hb);simp[execOp,hv,h2.aG,Instr.indexAt,run_underlying hu,asIntOf,eN,qI,sizeOf,typeInfo,hi,bw]
  rename_i rt rows k n e1 e2;try simp only[e1,e2]
  rw[e1]at h1;rw[e2]at h2;obtain⟨a',cap,b,off,sz,cv,hv,s,_⟩:=h1.bY;obtain⟨⟨eN,qI⟩,aH⟩:=hc;have ai:n.toNat<rows.length:=by omega
  have dH:rows.getD n.toNat []∈rows:=by simp[List.getD,ai]
  have hsz:sz=i.size:=(s.hsz _ dH).symm.trans aH;subst hsz;obtain⟨ha,hb⟩:=s.at_ (by rintro rfl;simp at ai)
  have ow:∀(j:Nat)(c:AV),(rows.getD n.toNat [])[j]?=some c->Qt rows n.toNat j=some c:=fun j c hj=>by
   simp[Qt,List.getD,ai]at hj |-;exact hj
  refine Qr hm (v:=.pointer (some ⟨b,(off+n.toNat*i.size)+0,none⟩)) ?_ (.ep (off:=off+n.toNat*i.size) (cv n.toNat) hb (fun j c hj=>s.cell _ j c (ow j c hj)) fun j c hj=>s.rep _ j c (ow j c hj));have qL:n<(rows.length:Int):=qI;simp[execOp,hv,h2.aG,ha,Instr.indexAt,run_underlying hu,asIntOf,eN,qL,sizeOf,typeInfo,hi,bw]
 ·rename_i len te hu;try simp only[hu]
  split at hc
  case h_2=>exact hc.elim
  rename_i i hi;try simp only[hi]
  simp only[rop]at hc |-
  split at hc
  ·rename_i id o' k n e1 e2;try simp only[e1,e2]
   rw[e1]at h1;rw[e2]at h2;obtain⟨b,hb,hv⟩:=h1.dF;obtain⟨eN,qI⟩:=hc;refine Qr hm (v:=.pointer (some ⟨b,o'+n.toNat*i.size,none⟩)) ?_ (.ptr hb);simp[execOp,hv,h2.aG,Instr.indexAt,Instr.sureAddr,run_underlying hu,asIntOf,eN,qI,sizeOf,typeInfo,hi,bw]
  ·rename_i row o' k n e1 e2;try simp only[e1,e2]
   rw[e1]at h1;rw[e2]at h2;obtain⟨b,off,cv,hv,hb,bL,zj⟩:=h1.iW;obtain⟨eN,qI⟩:=hc;refine Qr hm (v:=.pointer (some ⟨b,off+(o'+n.toNat*i.size),none⟩)) ?_ (.ep cv hb bL zj);simp[execOp,hv,h2.aG,Instr.indexAt,Instr.sureAddr,run_underlying hu,asIntOf,eN,qI,sizeOf,typeInfo,hi,bw,zzan]
  exact hc.elim
 exact hc.elim
end
end Go.Abs
