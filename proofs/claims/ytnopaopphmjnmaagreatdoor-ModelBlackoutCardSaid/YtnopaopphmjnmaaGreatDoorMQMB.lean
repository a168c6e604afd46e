import Derived.Test.YtnopaopphmjnmaaGreatDoorMQMA
set_option linter.all false
namespace Go.Abs
open Go Go.RowKit
section inv
variable {w:World} {γ:G} {v:Value}
def aC.bB{b:Bool}(h:aC w γ (.bool b) v):v=.bool b:=by cases h;rfl
def aC.aI{k:IntKind}{n:Int}(h:aC w γ (.int k n) v):v=.int k n:=by cases h;rfl
def aC.cB{s:ByteArray}(h:aC w γ (.str s) v):v=.string s:=by cases h;rfl
def aC.Q7(h:aC w γ .nilfn v):v=.nilFunc:=by cases h;rfl
def aC.dO{id o:Nat}(h:aC w γ (.ptr id o) v):∃b,γ.β id=some b/\v=.pointer (some ⟨b,o,none⟩):=by cases h with|ptr h=>exact⟨_,h,rfl⟩
def aC.cQ{id off len sz:Nat}(h:aC w γ (.bs id off len sz) v):∃(b cap:Nat)(arr:Array Value)(e:TypeId),γ.β id=some b/\v=.slice (some ⟨b,off,none⟩) len cap/\len<=cap/\
  w.heap[b]?=some (.cells arr e (0,0))/\off+cap*sz<=arr.size:=by
 cases h with|bs h hl hh hs=>exact⟨_,_,_,_,h,rfl,hl,hh,hs⟩
def aC.CP{g:Bool}{a:AV}(h:aC w γ (.gd g a) v)(hg:g=true):aC w γ a v:=by cases h with|gd h _=>exact h hg
def aC.Oz{a:AV}(h:aC w γ (.gd false a) v):v=undef:=by cases h with|gd _ h=>exact h rfl
def aC.gJ{cs:List AV}(h:aC w γ (.agg cs) v):∃arr:Array Value,v=.agg arr/\ak w γ cs arr.toList:=by
 cases h with
 |@agg _ _ arr hl h=>exact⟨arr,rfl,by simpa using hl,fun i a v h1 h2=>h i a v h1 (by simpa using h2)⟩
def aC.CQ{cs:List AV}(h:aC w γ (.aZ cs) v):∃arr:Array Value,v=.tuple arr/\ak w γ cs arr.toList:=by
 cases h with
 |@aZ _ _ arr hl h=>exact⟨arr,rfl,by simpa using hl,fun i a v h1 h2=>h i a v h1 (by simpa using h2)⟩
def aC.qU{f:FuncId}{first cap:List AV}(h:aC w γ (.fn f first cap) v):∃fa ca:Array Value,v=.func (.func f) fa ca/\ak w γ first fa.toList/\ak w γ cap ca.toList:=by
 cases h with
 |@fn _ _ _ _ fa ca hl h eM h'=>exact⟨fa,ca,rfl,⟨by simpa using hl,fun i a v h1 h2=>h i a v h1 (by simpa using h2)⟩,⟨by simpa using eM,fun i a v h1 h2=>h' i a v h1 (by simpa using h2)⟩⟩
def aC.jg{row:List AV}{o:Nat}(h:aC w γ (.ep row o) v):∃(b off:Nat)(cv:Nat->Value),v=.pointer (some ⟨b,off+o,none⟩)/\b<w.heap.size/\
  (∀(j:Nat)(c:AV),row[j]?=some c->w.cell? ⟨b,off+j,none⟩=some (cv j)/\γ.ro b (off+j)/\(cv j).oneCell'=true)/\(∀(j:Nat)(c:AV),row[j]?=some c->aC w γ.cT c (cv j)):=by
 cases h with
 |@ep _ _ _ b off cv hb hc h=>exact⟨b,off,cv,rfl,hb,hc,h⟩
def aC.W3{rt:Rt}{rows:List (List AV)}(h:aC w γ (.sl rt rows) v):∃(a:Option Addr)(cap b off sz:Nat)(cv:Nat->Nat->Value),v=.slice a rows.length cap/\
  rows.length<=cap/\(a=none->cap=0)/\(rows≠[]->a=some ⟨b,off,none⟩/\b<w.heap.size)/\(∀row∈rows,row.length=sz)/\
  (∀(i j:Nat)(c:AV),Qv rows i j=some c->w.cell? ⟨b,off+i*sz+j,none⟩=some (cv i j)/\γ.ro b (off+i*sz+j)/\(cv i j).oneCell'=true)/\
  (∀(i j:Nat)(c:AV),Qv rows i j=some c->aC w γ.cT c (cv i j))/\tY w γ a rows.length cap sz rt:=by
 cases h with
 |@sl _ _ _ a cap b off sz cv h1 h2 h3 h4 h5 h6 h7=>exact⟨a,cap,b,off,sz,cv,rfl,h1,h2,h3,h4,h5,h6,h7⟩
end inv
def aC.gK{w:World}{γ:G}{a:AV}{v:Value}(h:aC w γ.cT a v):aC w γ a v:=
 h.fA ⟨zzab _,fun _ _ _ h=>⟨h,rfl⟩,fun _ _ h=>(by cases h),fun _=>zzbt _,fun _ _ h=>(by cases h),fun _ _ h=>(by cases h),fun _ _ _ h=>(by cases h),Sz.refl w⟩
def ak.agg{w:World}{γ:G}{cs:List AV}{vs:List Value}(h:ak w γ cs vs):aC w γ (.agg cs) (.agg vs.toArray):=
 .agg (by simpa using h.1) fun i c v h1 h2=>h.2 i c v h1 (by simpa using h2)
def ak.Q8{w:World}{γ:G}{cs:List AV}{arr:Array Value}(h:ak w γ cs arr.toList):aC w γ (.agg cs) (.agg arr):=by
 have:=h.agg;simpa using this
def ak.take{w:World}{γ:G}{cs:List AV}{vs:List Value}(h:ak w γ cs vs)(n:Nat):ak w γ (cs.take n) (vs.take n):=
 ⟨by simp[h.1],fun i a v h1 h2=>by
  rw[zzbl]at h1 h2;split at h1<;>simp_all;exact h.2 i a v h1 h2⟩
def ak.drop{w:World}{γ:G}{cs:List AV}{vs:List Value}(h:ak w γ cs vs)(n:Nat):ak w γ (cs.drop n) (vs.drop n):=
 ⟨by simp[h.1],fun i a v h1 h2=>by
  rw[zzbm]at h1 h2;exact h.2 _ a v h1 h2⟩
def FW(r:Option Nat):Fence:={Fence.wide with round:=r}
section
variable {P:Program} {o:Oper} {a:Act} {w:World} {next:Act->World->Prop} {Q:Exit->Act->World->Prop} {r:Option Nat}
def W4{x:Next}{w':World}(h:(execOp a.eval o).run P w=.ok x w')(hx:∀d,x≠.defer d):∀c,o.op≠.defer c:=by
 intro c hc;unfold execOp at h;simp only[hc,Sem.run_bind]at h;cases hr:(resolve a.eval c o.type).run P w with
 |ok d uG=>rw[hr]at h;simp at h;exact hx d h.1.symm
 |halt e uG=>rw[hr]at h;simp at h
def wp_run{x:Next}{w':World}(h:(execOp a.eval o).run P w=.ok x w')(hx:∀d,x≠.defer d)(hn:o.uponIn (FW r) 0 P a next Q (.ok x w')):o.wpIn (FW r) 0 P a w next Q:=by
 refine⟨fun f _=>trivial,?_⟩;rw[Oper.semAt_eq _ _ _ (W4 h hx),h];exact hn
def Zm{v:Value}{w':World}(h:(execOp a.eval o).run P w=.ok (.value v) w')(hn:next (a.put o.dst v) w'):o.wpIn (FW r) 0 P a w next Q:=
 wp_run h (fun _ h=>by cases h) hn
def oQ{w':World}(h:(execOp a.eval o).run P w=.ok .skip w')(hn:next (a.put o.dst undef) w'):o.wpIn (FW r) 0 P a w next Q:=
 wp_run h (fun _ h=>by cases h) hn
def Fx{f:FuncId}{args:Array Value}{w':World}(h:(execOp a.eval o).run P w=.ok (.enter f args) w')(hn:Calls P f args w' fun
   |.returned v,uG=>next (a.put o.dst v) uG
   |.panicked chain,uG=>Q (.panic chain) a uG
   |.outgrown,_=>LetsOut Q):o.wpIn (FW r) 0 P a w next Q:=
 wp_run h (fun _ h=>by cases h) ⟨fun h=>by simp[FW,Fence.wide]at h,callsIn_wide.2 hn⟩
end
def bA(b o n:Nat):(⟨b,o,none⟩:Addr).add n=⟨b,o+n,none⟩:=by
 unfold Addr.add;split<;>simp_all
def Qdo{P:Program}{w:World}{γ:G}{agg:Bool}{n b o:Nat}{t:TypeId}{i:TypeInfo}{d:TypeDesc}(hi:P.info? t=some i)(hd:P.underlying t=some d)(bG:Jh P t=agg)
  (hn:agg=true->n=i.size){cs:List AV}{cv:Nat->Value}(bO:∀(j:Nat)(c:AV),cs[j]?=some c->w.cell? ⟨b,o+j,none⟩=some (cv j))(zH:∀(j:Nat)(c:AV),cs[j]?=some c->aC w γ c (cv j))
  (hc:(Yd agg n cs).1):∃v,(Instr.loadAt t (.pointer (some ⟨b,o,none⟩))).run P w=.ok v w/\aC w γ (Yd agg n cs).2 v:=by
 obtain⟨h1,h2⟩:=hc;have aH:n<=cs.length:=by rw[zzaq]at h1;omega
 cases agg with
 |false=>
  have qV:=h2 rfl;subst qV;have hz:cs[0]?=some (cs.getD 0 .junk):=by simp[List.getD];cases cs<;>simp_all
  have hc0:=bO 0 _ hz;refine⟨cv 0,?_,?_⟩
  ·unfold Jh at bG;rw[hd]at bG;simp only[zzcq]at hc0;cases d<;>simp at bG<;>simp[Instr.loadAt,Instr.sureAddr,loadVar,isAgg,run_underlying hd,hc0]
  simpa[Yd]using zH 0 _ hz
 |true=>
  have qV:=hn rfl;subst qV
  have hl:(loadCells ⟨b,o,none⟩ i.size).run P w=.ok ((List.range i.size).map cv).toArray w:=by
   refine run_loadCells w _ _ _ fun j hj=>?_;rw[bA];exact bO j _ (zzae zE)
  refine⟨.agg ((List.range i.size).map cv).toArray,?_,?_⟩
  ·unfold Jh at bG;rw[hd]at bG;cases d<;>simp at bG<;>simp[Instr.loadAt,Instr.sureAddr,loadVar,isAgg,run_underlying hd,sizeOf,typeInfo,hi,hl]
  simp only[Yd,if_true];refine ak.agg ⟨by simp;omega,fun j c v ek oD=>?_⟩;rw[zzbl]at ek;split at ek
  ·simp at oD;obtain⟨k,hk,rfl⟩:=oD;rename_i ai;rw[zzej ai]at hk;cases hk;exact zH j c ek
  cases ek
open Go Go.RowKit
variable {N:Nat} {w0:fF} {aq:Nat->Nat->Prop} {γ:G} {w:World} {B:Nat->Option (List AV)} {L:Nat->Option Nat}
def uH{a:AV}{v:Value}(h:aC w γ a v)(hc:Qw a=true):v.oneCell'=true:=by
 cases a<;>simp[Qw]at hc<;>cases h<;>first|rfl|(rename_i p;cases p<;>rfl)
def ak.map{ro':Nat->Nat->Prop}{as:List AV}{vs:List Value}{f:AV->AV}(h:ak w γ as vs)(hf:∀a∈as,∀v,aC w γ a v->aC w (G0 ro') (f a) v):ak w (G0 ro') (as.map f) vs:=
 ⟨by simpa using h.1,fun i a v h1 h2=>by
  simp at h1;obtain⟨a',h3,rfl⟩:=h1;exact hf a' (zzac h3) v (h.2 i a' v h3 h2)⟩
def ak.v8{as:List AV}{p:AV->Bool}{a:AV}(ha:a∈as)(hp:p a=true):as.any p=true:=zzbx.2 ⟨a,ha,hp⟩
def Qei(sz:Nat):∀(n:Nat)(l:List AV),(bh sz n l).length=n
 |0,_=>rfl
 |n+1,l=>by simp[bh,Qei sz n]
def AX{sz:Nat}:∀{n:Nat}{l:List AV}{row:List AV},n*sz<=l.length->row∈bh sz n l->row.length=sz
 |0,_,_,_,h=>by cases h
 |n+1,l,row,hl,h=>by
  rw[zzbr,zzds]at hl;rcases zzat.1 h with rfl|h
  ·simp;omega
  exact AX (by simp;omega) h
def Wu{sz:Nat}{c:AV}:∀{n:Nat}{l:List AV}{i j:Nat},Qv (bh sz n l) i j=some c->i<n/\j<sz/\l[i*sz+j]?=some c
 |0,_,i,j,h=>by simp[Qv,bh]at h
 |n+1,l,0,j,h=>by
  simp only[Qv,bh,zzhb,zzbz]at h;rw[zzbl]at h;split at h
  ·rename_i hj;exact⟨zE,hj,by simpa using h⟩
  cases h
 |n+1,l,i+1,j,h=>by
  have h':Qv (bh sz n (l.drop sz)) i j=some c:=by simpa[Qv,bh]using h
  obtain⟨h1,h2,h3⟩:=Wu h';rw[zzbm]at h3;refine⟨zE,h2,?_⟩;rw[zzbr,zzds,zzfl (i*sz) sz,zzao];exact h3
def kU(hm:au N w0 aq γ w B L){m:AM}(hB:∀id cells,m.boxes[id]?=some cells->B id=some cells){ro':Nat->Nat->Prop}(c9:∀b o,γ.ro b o->ro' b o):
  ∀(d:Nat)(a:AV)(v:Value),aC w γ a v->(Yl d a=true->∀id b,γ.β id=some b->∀o,ro' b o)->aC w (G0 ro') (bJ m d a) v:=by
 have arA:∀(a:AV)(v:Value),aC w γ.cT a v->aC w (G0 ro') a v:=fun a v h=>
  h.mono ⟨zzab _,fun b o _ h=>⟨c9 b o h,rfl⟩,fun _ _ h=>(by cases h),fun _=>zzab _,fun _ _ h=>(by cases h),rfl,fun _ _ _ h=>(by cases h),fun _ h=>h.elim,Sz.refl w⟩
 intro d;induction d with
 |zero=>exact fun _ _ _ _=>.junk _
 |succ d ih=>
  intro a v h hp;cases a with
  |junk=>exact .junk _
  |bool b=>rw[h.bB];exact .bool b
  |int k n=>rw[h.aI];exact .int k n
  |str s=>rw[h.cB];exact .str s
  |nilfn=>rw[h.Q7];exact .nilfn
  |gd g a=>exact .junk _
  |yld l=>exact .junk _
  |mp id=>exact .junk _
  |nilv p=>cases h;exact .nilv p
  |it id=>exact .junk _
  |aL kn kvs=>exact .junk _
  |mitr mid n s=>exact .junk _
  |agg cs=>
   obtain⟨arr,rfl,hr⟩:=h.gJ;refine ak.Q8 (hr.map fun a ha v hv=>ih a v hv fun jh=>hp ?_);simp only[Yl];exact ak.v8 ha jh
  |aZ cs=>
   obtain⟨arr,rfl,hr⟩:=h.CQ;have:=hr.map (ro':=ro') (f:=bJ m d) fun a ha v hv=>ih a v hv fun jh=>hp (by simp only[Yl];exact ak.v8 ha jh);exact .aZ (by simpa using this.1) fun i c v h1 h2=>this.2 i c v h1 (by simpa using h2)
  |fn f first cap=>
   obtain⟨fa,ca,rfl,h1,h2⟩:=h.qU;have t1:=h1.map (ro':=ro') (f:=bJ m d) fun a ha v hv=>ih a v hv fun jh=>hp (by simp only[Yl];rw[ak.v8 ha jh];rfl);have t2:=h2.map (ro':=ro') (f:=bJ m d) fun a ha v hv=>ih a v hv fun jh=>hp (by simp only[Yl];rw[ak.v8 ha jh];simp);exact .fn (by simpa using t1.1) (fun i c v h1 h2=>t1.2 i c v h1 (by simpa using h2)) (by simpa using t2.1) fun i c v h1 h2=>t2.2 i c v h1 (by simpa using h2)
  |ep row o=>
   obtain⟨b,off,cv,rfl,hb,hc,hr⟩:=h.jg;exact .ep cv hb (fun j c hj=>⟨(hc j c hj).1,c9 _ _ (hc j c hj).2.1,(hc j c hj).2.2⟩) fun j c hj=>arA _ _ (hr j c hj)
  |sl rt rows=>
   obtain⟨a,cap,b,off,sz,cv,rfl,h1,h2,h3,h4,h5,h6,h7⟩:=h.W3
   have key:∀fB,tY w (G0 ro') a rows.length cap sz fB->aC w (G0 ro') (.sl fB rows) (.slice a rows.length cap):=fun fB aT=>
    .sl b off sz cv h1 h2 h3 h4 (fun i j c hj=>⟨(h5 i j c hj).1,c9 _ _ (h5 i j c hj).2.1,(h5 i j c hj).2.2⟩) (fun i j c hj=>arA _ _ (h6 i j c hj)) aT
   cases rt with
   |ro=>exact key .ro trivial
   |full=>exact key .full h7
   |nil=>exact key .nil h7
   |nn=>exact key .nn h7
   |own id gH=>exact key .ro trivial
  |bs id off len sz=>
   obtain⟨b,cap,arr,te,hb,rfl,hl,hh,hs⟩:=h.cQ;have fH:=hp rfl;obtain⟨_,ai,_⟩:=hm.β id b hb;simp only[bJ];cases hble:Nat.ble (off+len*sz) (m.boxes.getD id []).length with
   |false=>exact .junk _
   |true=>
    have cw:=zzhn hble
    have cA:∀(k:Nat)(c:AV),(((m.boxes.getD id []).map (bJ m d)).drop off)[k]?=some c->∃c' u,c=bJ m d c'/\arr[off+k]?=some u/\arr.getD (off+k) undef=u/\aC w γ c' u/\u.oneCell'=true:=fun k c hk=>by
     rw[zzbm,zzbi]at hk;cases fI:m.boxes[id]? with
     |none=>simp[List.getD,fI]at hk
     |some cells=>
      have:m.boxes.getD id []=cells:=by simp[List.getD,fI]
      rw[this]at hk;obtain⟨bR,e',g2,g3,g4⟩:=hm.box id cells b (hB id cells fI) hb;rw[hh]at g2;cases g2;cases hc:cells[off+k]? with
      |none=>simp[hc]at hk
      |some c'=>
       simp[hc]at hk;have h1:=(zza.1 hc).1;have h2:=g3.1;have ck:off+k<arr.size:=by simp at h2;omega
       have hu:arr[off+k]?=some arr[off+k]:=zzaj ck;exact⟨c',arr[off+k],hk.symm,hu,by simp[ck],g3.2 _ c' _ hc (by simp[ck]),g4 _ zd⟩
    have aH:=Qei sz len (((m.boxes.getD id []).map (bJ m d)).drop off)
    have hr:aC w (G0 ro') (.sl .ro (bh sz len (((m.boxes.getD id []).map (bJ m d)).drop off))) (.slice (some ⟨b,off,none⟩) (bh sz len (((m.boxes.getD id []).map (bJ m d)).drop off)).length cap):=by
     refine .sl b off sz (fun i j=>arr.getD (off+(i*sz+j)) undef) (by rw[aH];exact hl) (fun h=>by cases h) (fun _=>⟨rfl,ai⟩) (fun row ah=>?_) (fun i j c hc=>?_) (fun i j c hc=>?_) trivial
     ·exact AX (by rw[zzcr,zzbj];omega) ah
     ·obtain⟨_,_,h3⟩:=Wu hc;obtain⟨c',u,rfl,h4,h5,h6,h7⟩:=cA _ _ h3;rw[aO hh,zzao,h5];exact⟨h4,fH id b hb _,h7⟩
     obtain⟨_,_,h3⟩:=Wu hc;obtain⟨c',u,rfl,h4,h5,h6,h7⟩:=cA _ _ h3;rw[WV,h5];exact ih c' u h6 fun _=>fH
    rw[aH]at hr;exact hr
  |ptr id o=>
   obtain⟨b,hb,rfl⟩:=h.dO;have fH:=hp rfl;obtain⟨_,ai,_⟩:=hm.β id b hb;simp only[bJ];have hz:(.pointer (some ⟨b,o,none⟩):Value)=.pointer (some ⟨b,0+o,none⟩):=by rw[zzbw]
   rw[hz];cases fI:m.boxes[id]? with
   |none=>
    have:m.boxes.getD id []=[]:=by simp[List.getD,fI]
    rw[this];exact .ep (fun _=>undef) ai (fun j c hj=>by simp at hj) fun j c hj=>by simp at hj
   |some cells=>
    have:m.boxes.getD id []=cells:=by simp[List.getD,fI]
    rw[this];obtain⟨arr,e,g2,g3,g4⟩:=hm.box id cells b (hB id cells fI) hb
    have cA:∀(j:Nat)(c:AV),(cells.map (bJ m d))[j]?=some c->∃c' u,cells[j]?=some c'/\c=bJ m d c'/\arr[j]?=some u/\arr.getD j undef=u/\aC w γ c' u:=fun j c hj=>by
     simp at hj;obtain⟨c',h1,rfl⟩:=hj
     have ck:j<arr.size:=by
      have:=g3.1;rcases zzaa j cells.length with h|h
      ·simp at this;omega
      rw[zzaw h]at h1;cases h1
     have hu:arr[j]?=some arr[j]:=zzaj ck;exact⟨c',arr[j],h1,rfl,hu,by simp[ck],g3.2 j c' _ h1 (by simp[ck])⟩
    refine .ep (fun j=>arr.getD j undef) ai (fun j c hj=>?_) fun j c hj=>?_
    ·obtain⟨c',u,h1,h2,h3,h4,h5⟩:=cA j c hj;rw[zzbw,aO g2,h4];exact⟨h3,fH id b hb j,g4 u (by simpa using zzdc h3)⟩
    obtain⟨c',u,h1,rfl,h3,h4,h5⟩:=cA j c hj;rw[WV,h4];exact ih c' u h5 fun _=>fH
def W5{w':World}{γ':G}{r:AV}{v:Value}(hf:flat r=true)(h:aC w γ r v):aC w' γ' r v:=by
 have one:∀(a:AV)(v:Value),jf a=true->aC w γ a v->aC w' γ' a v:=fun a v hf h=>by
  cases a<;>simp[jf]at hf
  ·rw[h.bB];exact .bool _
  ·rw[h.aI];exact .int _ _
  rw[h.cB];exact .str _
 cases r with
 |aZ cs=>
  obtain⟨arr,rfl,hr⟩:=h.CQ;simp only[flat]at hf;exact .aZ (by simpa using hr.1) fun i c v h1 h2=>one c v (zzbh.1 hf c (zzac h1)) (hr.2 i c v h1 (by simpa using h2))
 |_=>exact one _ _ hf h
def KV{P:Program}{gl:Nat->AV}(hm:au N w0 aq γ w B L){m:AM}(hB:∀id cells,m.boxes[id]?=some cells->B id=some cells)(ji:∀g,aC w γ.cT (gl g) (.pointer (some ⟨g,0,none⟩)))
  {f:FuncId}{as:List AV}{vs:List Value}{r:AV}(hr:ak w γ as vs)(hp:Pure P gl f (as.map (bJ m 6)) r)(eG:as.any (Yl 6)=true->flat r=true)
  {R:Ending->World->Prop}(hk:∀v w' γ',Ev w γ w' γ'->au N w0 aq γ' w' B L->aC w' γ' r v->R (.returned v) w'):Calls P f vs.toArray w R:=by
 let ro':Nat->Nat->Prop:=fun b o=>γ.ro b o\/(as.any (Yl 6)=true/\∃id,γ.β id=some b)
 have oR:ak w (G0 ro') (as.map (bJ m 6)) vs:=hr.map fun a ha v hv=>kU hm hB (fun b o h=>.inl h) 6 a v hv fun jh id b hb o=>.inr ⟨ak.v8 ha jh,id,hb⟩
 have aw3:∀g,aC w (G0 ro') (gl g) (.pointer (some ⟨g,0,none⟩)):=fun g=>
  (ji g).mono ⟨zzab _,fun b o _ h=>⟨.inl h,rfl⟩,fun _ _ h=>(by cases h),fun _=>zzab _,fun _ _ h=>(by cases h),rfl,fun _ _ _ h=>(by cases h),fun _ h=>h.elim,Sz.refl w⟩
 refine(hp.2 ro' w vs aw3 oR).mono ?_;rintro e w' ⟨v,rfl,hb,hv⟩;refine hk v w' _ (hm.dA hb) (hm.grow hb) ?_;cases hany:as.any (Yl 6)with
 |true=>exact W5 (eG hany) hv
 |false=>
  refine hv.fA ⟨zzab _,fun b o ai h=>⟨?_,rfl⟩,fun _ _ h=>(by cases h),fun _=>zzbt _,fun _ _ h=>(by cases h),fun _ _ h=>(by cases h),fun _ _ _ h=>(by cases h),Sz.refl w'⟩;obtain(h|⟨h,_⟩)|h:=h
  ·exact .inl h
  ·rw[hany]at h;cases h
  exact .inr ⟨h,ai⟩
open Go Go.RowKit
def Vf(n sz:Nat)(cv:Nat->Nat->Value):List Value:=(List.range (n*sz)).map fun k=>cv (k/sz) (k%sz)
def Zg(n sz:Nat)(cv:Nat->Nat->Value):(Vf n sz cv).length=n*sz:=by simp[Vf]
def qW{n sz:Nat}{cv:Nat->Nat->Value}{k:Nat}{u:Value}(h:(Vf n sz cv)[k]?=some u):k<n*sz/\u=cv (k/sz) (k%sz):=by
 simp only[Vf,zzbi]at h;rcases zzaa k (n*sz)with hk|hk
 ·rw[zzej hk]at h;simp at h;exact⟨hk,h.symm⟩
 rw[zzaw (by simpa using hk)]at h;simp at h
def we(n sz:Nat)(cv:Nat->Nat->Value){i j:Nat}(hi:i<n)(hj:j<sz):(Vf n sz cv)[i*sz+j]?=some (cv i j):=by
 have hk:i*sz+j<n*sz:=by
  have:(i+1)*sz<=n*sz:=zzbc _ hi;rw[zzbr,zzds]at this;omega
 have h1:(i*sz+j)/sz=i:=by
  rw[zzeg,Nat.mul_add_div zE,zzey hj];rfl
 have h2:(i*sz+j)%sz=j:=by
  rw[zzeg,Nat.mul_add_mod,zzgv hj]
 simp[Vf,zzej hk,h1,h2]
def wg{rows:List (List AV)}{sz k:Nat}(hsz:∀row∈rows,row.length=sz)(hk:k<rows.length*sz):∃c,Qv rows (k/sz) (k%sz)=some c:=by
 have h0:0<sz:=by
  rcases zzcn sz with h|h;· subst h;simp at hk
  · exact h
 have h1:k/sz<rows.length:=by rw[Nat.div_lt_iff_lt_mul h0];exact hk
 have h2:k%sz<(rows[k/sz]).length:=by rw[hsz _ (zzdk h1)];exact zzed _ h0
 exact⟨rows[k/sz][k%sz],by simp[Qv,h1,h2]⟩
structure qz (w:World) (γ:G) (rows:List (List AV)) (a:Option Addr) (cap b off sz:Nat) (cv:Nat->Nat->Value):Prop where
 hcap:rows.length<=cap
 hnil:a=none->cap=0
 at_:rows≠[]->a=some ⟨b,off,none⟩/\b<w.heap.size
 hsz:∀row∈rows,row.length=sz
 cell:∀(i j:Nat)(c:AV),Qv rows i j=some c->w.cell? ⟨b,off+i*sz+j,none⟩=some (cv i j)/\γ.ro b (off+i*sz+j)/\(cv i j).oneCell'=true
 rep:∀(i j:Nat)(c:AV),Qv rows i j=some c->aC w γ.cT c (cv i j)
def qz.mk'{w:World}{γ:G}{rows:List (List AV)}{a:Option Addr}{cap b off sz:Nat}{cv:Nat->Nat->Value}(h:qz w γ rows a cap b off sz cv){rt:Rt}(aT:tY w γ a rows.length cap sz rt):
  aC w γ (.sl rt rows) (.slice a rows.length cap):=.sl b off sz cv h.hcap h.hnil h.at_ h.hsz h.cell h.rep aT
def aC.cm{w:World}{γ:G}{v:Value}{rt:Rt}{rows:List (List AV)}(h:aC w γ (.sl rt rows) v):∃(a:Option Addr)(cap b off sz:Nat)(cv:Nat->Nat->Value),
  v=.slice a rows.length cap/\qz w γ rows a cap b off sz cv/\tY w γ a rows.length cap sz rt:=by
 obtain⟨a,cap,b,off,sz,cv,h0,h1,h2,h3,h4,h5,h6,h7⟩:=h.W3;exact⟨a,cap,b,off,sz,cv,h0,⟨h1,h2,h3,h4,h5,h6⟩,h7⟩
def qz.cells{w:World}{γ:G}{rows:List (List AV)}{a:Option Addr}{cap b off sz:Nat}{cv:Nat->Nat->Value}(h:qz w γ rows a cap b off sz cv):
  ∀k u,(Vf rows.length sz cv)[k]?=some u->w.cell? ((⟨b,off,none⟩:Addr).add k)=some u:=fun k u hu=>by
 obtain⟨hk,rfl⟩:=qW hu;obtain⟨c,hc⟩:=wg h.hsz hk;have:=(h.cell _ _ c hc).1
 have h0:0<sz:=by
  rcases zzcn sz with h|h;· subst h;simp at hk
  · exact h
 rw[bA];rw[<- this]
 have e:off+k=off+k/sz*sz+k%sz:=by
  have:=zzhf k sz;rw[zzeg]at this;omega
 rw[e]
def qz.one{w:World}{γ:G}{rows:List (List AV)}{a:Option Addr}{cap b off sz:Nat}{cv:Nat->Nat->Value}(h:qz w γ rows a cap b off sz cv):
  ∀u∈Vf rows.length sz cv,u.oneCell'=true:=fun u hu=>by
 obtain⟨k,hk⟩:=zzc.1 hu;obtain⟨zI,rfl⟩:=qW hk;obtain⟨c,hc⟩:=wg h.hsz zI;exact(h.cell _ _ c hc).2.2
def qz.first{P:Program}{w:World}{γ:G}{rows:List (List AV)}{a:Option Addr}{cap b off sz:Nat}{cv:Nat->Nat->Value}(h:qz w γ rows a cap b off sz cv){w':World}(hw:∀x,w'.cell? x=w.cell? x):
  (Builtin.firstCells sz rows.length (.slice a rows.length cap)).run P w'=.ok (Vf rows.length sz cv).toArray w':=by
 cases hr:rows with
 |nil=>
  subst hr;cases a with
  |none=>simp[Builtin.firstCells,Vf]
  |some a=>simp[Builtin.firstCells,loadCells,loadCellsFrom,Vf]
 |cons r rs=>
  rw[<- hr];obtain⟨rfl,_⟩:=h.at_ (by rw[hr];simp);exact run_firstCells_some w' sz rows.length _ rows.length cap _ (Zg _ _ _) fun j u hj=>by rw[hw];exact h.cells j u hj
def Qcy(n:Nat)(cv gL:Nat->Nat->Value):Nat->Nat->Value:=fun i j=>if i<n then cv i j else gL (i-n) j
def Uq{rows aD:List (List AV)}{i j:Nat}{c:AV}(h:Qv (rows++aD) i j=some c):
  (i<rows.length/\Qv rows i j=some c)\/(rows.length<=i/\Qv aD (i-rows.length) j=some c):=by
 unfold Qv at*
 rcases zzaa i rows.length with hi|hi
 ·rw[zzag hi]at h;exact .inl ⟨hi,h⟩
 rw[zzal hi]at h;exact .inr ⟨hi,h⟩
def nB{rows:List (List AV)}{i j:Nat}{c:AV}(h:Qv rows i j=some c):∃hi:i<rows.length,j<rows[i].length:=by
 unfold Qv at h;cases hr:rows[i]? with
 |none=>simp[hr]at h
 |some row=>
  obtain⟨hi,rfl⟩:=zza.1 hr;simp[hr]at h;exact⟨hi,(zza.1 h).1⟩
def AY(n:Nat):∀(k c:Nat),c<n->Builtin.growBy n k c<=n+n/4+192
 |0,c,h=>by simp only[Builtin.growBy];omega
 |k+1,c,h=>by
  simp only[Builtin.growBy];rw[if_neg zE];by_cases h2:c+(c+768)/4<n
  ·exact AY n k _ h2
  cases k with
  |zero=>simp only[Builtin.growBy];omega
  |succ k=>simp only[Builtin.growBy];rw[if_pos zE];omega
def KW{n c:Nat}(h:c<n):2*Builtin.nextslicecap n c<=3*n+4000:=by
 unfold Builtin.nextslicecap;split
 ·omega
 split
 ·omega
 have:=AY n 4 c h;omega
section run
variable {P:Program} {w:World} {γ:G} {t ty e:TypeId} {i:TypeInfo} {z:Value} {rows aD:List (List AV)} {a a2:Option Addr} {cap b off cn b2 gI sz:Nat} {cv gL:Nat->Nat->Value}
def Qec(ht:P.underlying t=some (.slice e))(hi:P.info? e=some i)(a2:Option Addr)(cn len:Nat)(hcap:len<=cap):
  (Builtin.append_ #[t,t] ty #[.slice a len cap,.slice a2 0 cn]).run P w=.ok (.slice a len cap) w:=by
 cases a<;>cases a2<;>simp[Builtin.append_,run_underlying ht,sizeOf,typeInfo,hi,Builtin.lenOf,hcap,Builtin.firstCells,loadCells,loadCellsFrom,storeCells]
def oS(ht:P.underlying t=some (.slice e))(hi:P.info? e=some i)(hz:i.zero=some z)(h:qz w γ rows a cap b off i.size cv){γ2:G}(h2:qz w γ2 aD a2 cn b2 gI i.size gL)
  (hg:cap<rows.length+aD.length)(bX:(3*(rows.length+aD.length)+4000)*i.bytes<=562949953421312)(wj:rows.length+aD.length<=9223372036854775807):
  ∃bq,rows.length+aD.length<=bq/\(Builtin.append_ #[t,t] ty #[.slice a rows.length cap,.slice a2 aD.length cn]).run P w=
   .ok (.slice (some ⟨w.heap.size,0,none⟩) (rows.length+aD.length) bq)
    (w.drew.alloc (.cells ((Vf rows.length i.size cv).toArray++(Vf aD.length i.size gL).toArray++Builtin.zeroCells z.cells (bq-(rows.length+aD.length))) e)):=by
 have hn:¬(rows.length+aD.length<=cap):=zE
 have amr:¬(9223372036854775807<((rows.length:Int)+(aD.length:Int))):=zE
 have cw:=KW hg
 have ams:¬(281474976710656<Builtin.nextslicecap (rows.length+aD.length) cap*i.bytes):=by
  have:2*Builtin.nextslicecap (rows.length+aD.length) cap*i.bytes<=(3*(rows.length+aD.length)+4000)*i.bytes:=zzbc _ zE;rw[Nat.mul_assoc]at this;omega
 have f1:=h.first (P:=P) (w':=w.drew) fun _=>rfl
 have f2:=h2.first (P:=P) (w':=w.drew) fun _=>rfl
 refine⟨grownCap w (rows.length+aD.length) cap e,grownCap_ge w _ _ _,?_⟩;simp[Builtin.append_,run_underlying ht,sizeOf,typeInfo,zeroValue,hi,hz,Builtin.lenOf,hn,amr,ams,Question.forced,f1,f2,newRow,grownCap];congr 2;apply Array.ext';simp[zzb]
def CR(ht:P.underlying t=some (.slice e))(hi:P.info? e=some i)(h2:qz w γ aD a2 cn b2 gI i.size gL){len:Nat}
  (cH:len+aD.length<=cap){arr:Array Value}{e':TypeId}(hh:w.heap[b]?=some (.cells arr e' (0,0)))(hsz:off+cap*i.size<=arr.size):
  (
   Builtin.append_ #[t,t] ty #[.slice (some ⟨b,off,none⟩) len cap,.slice a2 aD.length cn]).run P w=
   .ok (.slice (some ⟨b,off,none⟩) (len+aD.length) cap) (w.setCells b (off+len*i.size) (Vf aD.length i.size gL)):=by
 have f2:=h2.first (P:=P) (w':=w) fun _=>rfl
 have cw:(len+aD.length)*i.size<=cap*i.size:=zzbc _ cH;rw[zzbr]at cw
 have ct:=run_storeCells_cells (P:=P) b (off+len*i.size) (Vf aD.length i.size gL) 0 w (fun j hj=>by
   rw[Zg]at hj;rw[aO hh,zzcq,zzaj zE];rfl)
  (fun j hj=>Zu hh) h2.one
 simp only[zzcq]at ct;simp[Builtin.append_,run_underlying ht,sizeOf,typeInfo,hi,Builtin.lenOf,cH,f2,bA,ct]
end run
open Go Go.RowKit
variable {N:Nat} {w0:fF} {aq:Nat->Nat->Prop} {γ:G} {w:World} {B:Nat->Option (List AV)} {L:Nat->Option Nat}
def qz.fix{rows:List (List AV)}{a:Option Addr}{cap b off sz gH:Nat}{cv:Nat->Nat->Value}(h:qz w γ rows a cap b off gH cv)(hr:∀row∈rows,row.length=sz):qz w γ rows a cap b off sz cv:=by
 cases ey:rows with
 |nil=>
  subst ey;exact⟨h.hcap,h.hnil,h.at_,hr,fun i j c hc=>by simp[Qv]at hc,fun i j c hc=>by simp[Qv]at hc⟩
 |cons r rs=>
  have e:gH=sz:=(h.hsz r (by simp[ey])).symm.trans (hr r (by simp[ey]));rw[<- ey];subst e;exact h
def qz.mono{rows:List (List AV)}{a:Option Addr}{cap b off sz:Nat}{cv:Nat->Nat->Value}(h:qz w γ rows a cap b off sz cv){w':World}{γ':G}(e:Ev w γ w' γ'):qz w' γ' rows a cap b off sz cv:=by
 obtain⟨a',azu,b',nC,gH,cv',e0,h1,h2⟩:=((h.mk' (rt:=.ro) trivial).mono e).cm;refine⟨h.hcap,h.hnil,fun hn=>⟨(h.at_ hn).1,zzaz (h.at_ hn).2 e.size⟩,h.hsz,fun i j c hc=>?_,fun i j c hc=>(h.rep i j c hc).mono e.cT⟩;have hb:=(h.at_ (by rintro rfl;simp[Qv]at hc)).2;obtain⟨g1,g2,g3⟩:=h.cell i j c hc;exact⟨(e.ro _ _ hb g2).2.trans g1,(e.ro _ _ hb g2).1,g3⟩
def qz.Fy{rows aD:List (List AV)}{a a2:Option Addr}{cap b off cn b2 gI sz:Nat}{cv gL:Nat->Nat->Value}(h:qz w γ rows a cap b off sz cv){γ2:G}(h2:qz w γ2 aD a2 cn b2 gI sz gL)(iC:∀i j c,Qv aD i j=some c->aC w γ.cT c (gL i j))
  {w':World}{γ':G}(e:Ev w γ w' γ'){nb:Nat}{rest:Array Value}{te:TypeId}
  (hh:w'.heap[nb]?=some (.cells ((Vf rows.length sz cv).toArray++(Vf aD.length sz gL).toArray++rest) te (0,0)))
  (c9:∀o,o<(rows.length+aD.length)*sz->γ'.ro nb o){bq:Nat}(hcap:rows.length+aD.length<=bq):
  qz w' γ' (rows++aD) (some ⟨nb,0,none⟩) bq nb 0 sz (Qcy rows.length cv gL):=by
 refine⟨by simpa using hcap,fun hn=>(by cases hn),fun _=>⟨rfl,aS hh⟩,fun row hr=>?_,fun i j c hc=>?_,fun i j c hc=>?_⟩
 ·rcases zzam.1 hr with hr|hr
  ·exact h.hsz row hr
  exact h2.hsz row hr
 ·obtain⟨hi,hj⟩:=nB hc
  have OA:j<sz:=by
   rcases zzam.1 (zzdk hi)with hr|hr
   ·rw[h.hsz _ hr]at hj;exact hj
   rw[h2.hsz _ hr]at hj;exact hj
  have ai:i*sz+j<(rows.length+aD.length)*sz:=by
   have:(i+1)*sz<=(rows.length+aD.length)*sz:=zzbc _ (by simp at hi;omega);rw[zzbr,zzds]at this;omega
  rw[zzbw];refine⟨?_,c9 _ ai,?_⟩
  ·rw[aO hh];rcases Uq hc with⟨h1,h3⟩|⟨h1,h3⟩
   ·have:=we rows.length sz cv h1 OA;have hl:i*sz+j<(Vf rows.length sz cv).length:=(zza.1 this).1;rw[Array.append_assoc,zzfd (by simpa using hl)];simp[Qcy,h1,this]
   have h4:i-rows.length<aD.length:=(nB h3).1;have:=we aD.length sz gL h4 OA
   have e1:i*sz+j=rows.length*sz+((i-rows.length)*sz+j):=by
    rw[Nat.sub_mul];have:rows.length*sz<=i*sz:=zzbc _ h1;omega
   have hl:(i-rows.length)*sz+j<(Vf aD.length sz gL).length:=(zza.1 this).1;rw[Array.append_assoc,Array.getElem?_append_right (by simp[Zg];omega)];rw[zzfd (by simp[Zg]at hl |-;omega)];have e2:i*sz+j-rows.length*sz=(i-rows.length)*sz+j:=zE
   simp only[zzeq,Zg,e2,List.getElem?_toArray,this,Qcy,if_neg (zzbo.2 h1)]
  unfold Qcy;rcases Uq hc with⟨h1,h3⟩|⟨h1,h3⟩
  ·rw[if_pos h1];exact(h.cell i j c h3).2.2
  rw[if_neg (zzbo.2 h1)];exact(h2.cell _ j c h3).2.2
 unfold Qcy;rcases Uq hc with⟨h1,h3⟩|⟨h1,h3⟩
 ·rw[if_pos h1];exact(h.rep i j c h3).mono e.cT
 rw[if_neg (zzbo.2 h1)];exact(iC _ j c h3).mono e.cT
def Yj(w:World)(o:Obj):(w.drew.alloc o).heap[w.heap.size]?=some o:=by
 show(w.heap.push o)[w.heap.size]?=some o;simp
def ua(w:World)(o:Obj):w.heap.size<(w.drew.alloc o).heap.size:=by
 show _<(w.heap.push o).size;simp
def qX(w:World)(o:Obj):Below w.heap.size w (w.drew.alloc o):=
 ((Below.refl w.heap.size w).drew).alloc (zzab _) o
section
variable {P:Program} {t ty e:TypeId} {i:TypeInfo} {z:Value} {rows aD:List (List AV)} {rt KX:Rt} {v1 v2:Value}
def amt(hm:au N w0 aq γ w B L)(ht:P.underlying t=some (.slice e))(hi:P.info? e=some i)(hz:i.zero=some z)(h1:aC w γ (.sl .full rows) v1)(h2:aC w γ (.sl KX aD) v2)
  (hr:∀row∈rows++aD,row.length=i.size)(bX:(3*(rows.length+aD.length)+4000)*i.bytes<=562949953421312)(wj:rows.length+aD.length<=9223372036854775807):
  ∃v w' γ',(Builtin.append_ #[t,t] ty #[v1,v2]).run P w=.ok v w'/\Ev w γ w' γ'/\au N w0 aq γ' w' B L/\aC w' γ' (.sl .ro (rows++aD)) v:=by
 obtain⟨a,cap,b,off,sz,cv,rfl,s1,r1⟩:=h1.cm;obtain⟨a2,cn,b2,gI,sz2,gL,rfl,s2,r2⟩:=h2.cm;replace s1:=s1.fix (sz:=i.size) fun row h=>hr row (by simp[h]);replace s2:=s2.fix (sz:=i.size) fun row h=>hr row (by simp[h]);by_cases hn:aD=[]
 ·subst hn;refine⟨_,w,γ,Qec ht hi _ _ _ s1.hcap,Ev.refl _ _,hm,?_⟩;rw[zzau];exact s1.mk' trivial
 have fk:0<aD.length:=zzcx.2 hn;have hcap:cap=rows.length:=r1;obtain⟨bq,cw,bn⟩:=oS (P:=P) (ty:=ty) ht hi hz s1 s2 zE bX wj;have hb:=qX w (.cells ((Vf rows.length i.size cv).toArray++(Vf aD.length i.size gL).toArray++Builtin.zeroCells z.cells (bq-(rows.length+aD.length))) e);refine⟨_,_,_,bn,hm.dA hb,hm.grow hb,?_⟩;have hj:=s1.Fy s2 s2.rep (hm.dA hb) (nb:=w.heap.size) (te:=e) (Yj w _) (fun o _=>.inr ⟨zzab _,ua w _⟩) cw;have:=hj.mk' (rt:=.ro) trivial;rwa [zzai]at this
def G.mark(γ:G)(id n:Nat):G:={γ with cur:=fun i=>if i=id then n else γ.cur i}
def au.oT(hm:au N w0 aq γ w B L){id n:Nat}(hn:γ.cur id<=n)(h0:γ.cur id=n\/γ.own id=none):Ev w γ w (γ.mark id n) where
 size:=zzab _
 ro _ _ _ h:=⟨h,rfl⟩
 β _ _ h:=h
 cur j:=by simp only[G.mark];split<;>simp_all
 mm _ _ h:=h
 lp:=rfl
 own j b _ ho:=⟨ho,fun arr _ h=>⟨arr,h,zzab _⟩,fun _ h=>h⟩
 sp _ h:=⟨h,rfl⟩
 ss:=Sz.refl w
def au.mark(hm:au N w0 aq γ w B L){id n:Nat}(hn:γ.cur id<=n)(h0:γ.cur id=n\/γ.own id=none):au N w0 aq (γ.mark id n) w B (fun i=>if i=id then some n else L i) where
 bs:=w0.st _ _ _ _ hm.bs ⟨rfl,rfl,rfl,zzab _,fun _ _ _=>rfl,fun _ _ _ h=>⟨h,rfl⟩,fun _ hb=>.inl hb,fun _ _ h=>.inl h⟩
 hN:=hm.hN
 aq:=hm.aq
 robd:=hm.robd
 box j cs b hb h1:=by
  obtain⟨arr,e,h2,h3,h4⟩:=hm.box j cs b hb h1;exact⟨arr,e,h2,h3.mono (hm.oT hn h0),h4⟩
 β:=hm.β
 inj:=hm.inj
 own j b hb:=by
  obtain⟨h1,h2,k,hk⟩:=hm.own j b hb;refine⟨h1,h2,?_⟩;by_cases hj:j=id
  ·exact⟨n,by simp[hj]⟩
  exact⟨k,by simp[hj,hk]⟩
 oinj:=hm.oinj
 sp:=hm.sp
 mm i b hb:=by
  obtain⟨h1,h2,h3,h4,h5,h6,h8,h7⟩:=hm.mm i b hb;exact⟨h1,h2,h3,h4,h5,h6,h8,h7.mono (hm.oT hn h0).cK.AR rfl⟩
 minj:=hm.minj
 len j k hj:=by
  by_cases h:j=id
  ·simp[h]at hj;simp[G.mark,h,hj]
  simp[h]at hj;simp[G.mark,h,hm.len j k hj]
 cur0 j hj:=by
  by_cases h:j=id
  ·simp[h]at hj
  simp[h]at hj;simp[G.mark,h,hm.cur0 j hj]
def wm(hm:au N w0 aq γ w B L)(ht:P.underlying t=some (.slice e))(hi:P.info? e=some i)(hz:i.zero=some z)(CS:z.cells.size=i.size){id:Nat}
  (h1:(aC w γ (.sl .full rows) v1/\L id=none)\/(aC w γ (.sl (.own id i.size) rows) v1/\L id=some rows.length)){γ2:G}{a2:Option Addr}{cn b2 gI:Nat}{gL:Nat->Nat->Value}(s2:qz w γ2 aD a2 cn b2 gI i.size gL)(iC:∀i j c,Qv aD i j=some c->aC w γ.cT c (gL i j))
  (hr:∀row∈rows++aD,row.length=i.size)(bX:(3*(rows.length+aD.length)+4000)*i.bytes<=562949953421312)(wj:rows.length+aD.length<=9223372036854775807):
  ∃v w' γ',(Builtin.append_ #[t,t] ty #[v1,.slice a2 aD.length cn]).run P w=.ok v w'/\Ev w γ w' γ'/\au N w0 aq γ' w' B (fun j=>if j=id then some (rows.length+aD.length)else L j)/\aC w' γ' (.sl (.own id i.size) (rows++aD)) v:=by
 have key:∃a cap b off cv,v1=.slice a rows.length cap/\qz w γ rows a cap b off i.size cv/\γ.cur id<=rows.length/\(γ.cur id=rows.length\/γ.own id=none)/\(cap=rows.length\/(mD w γ a id rows.length cap i.size/\γ.cur id=rows.length)):=by
  obtain⟨h1,hL⟩|⟨h1,hL⟩:=h1
  ·obtain⟨a,cap,b,off,sz,cv,rfl,s1,r1⟩:=h1.cm
   have fh:γ.own id=none:=by
    cases ho:γ.own id with
    |none=>rfl
    |some b=>obtain⟨_,_,n,hn⟩:=hm.own id b ho;rw[hL]at hn;cases hn
   exact⟨a,cap,b,off,cv,rfl,s1.fix fun row h=>hr row (by simp[h]),by rw[hm.cur0 id hL];exact zzbt _,.inr fh,.inl r1⟩
  obtain⟨a,cap,b,off,sz,cv,rfl,s1,r1,r2,r3⟩:=h1.cm;subst r1;have hc:=hm.len id _ hL;exact⟨a,cap,b,off,cv,rfl,s1,zE,.inl hc,(r3 hc.symm).imp_right fun h=>⟨h,hc⟩⟩
 obtain⟨a,cap,b,off,cv,rfl,s1,ae7,dH,cU⟩:=key;by_cases hn:aD=[]
 ·subst hn;refine⟨_,w,γ.mark id rows.length,Qec ht hi _ _ _ s1.hcap,hm.oT ae7 dH,by simpa using hm.mark ae7 dH,?_⟩;rw[zzau];refine(s1.mono (hm.oT ae7 dH)).mk' ⟨rfl,by simp[G.mark],fun _=>?_⟩;obtain h|⟨h,hc⟩:=cU
  ·exact .inl h
  refine .inr (h.mono (hm.oT ae7 dH) ?_);simp[G.mark,hc]
 have fk:0<aD.length:=zzcx.2 hn;by_cases cH:rows.length+aD.length<=cap
 ·
  obtain h|⟨⟨b',nC,arr,te,ha,ho,hh,hsz,oP⟩,hc⟩:=cU
  ·omega
  subst ha;have bn:=CR (P:=P) (ty:=ty) (off:=nC) ht hi s2 cH hh hsz;have hq:nC+(rows.length+aD.length)*i.size=nC+rows.length*i.size+(Vf aD.length i.size gL).length:=by rw[Zg,zzbr];omega
  have bT:=hm.kT (vs:=Vf aD.length i.size gL) (n:=rows.length+aD.length) ho zE (fun h=>zE) hq oP;refine⟨_,_,_,bn,bT,hm.extend ho zE (fun h=>zE) hq oP,?_⟩;have hb:b'<w.heap.size:=aS hh;have cw:(rows.length+aD.length)*i.size<=cap*i.size:=zzbc _ cH
  have TV:rows≠[]->b=b'/\off=nC:=fun h=>by
   obtain⟨h1,_⟩:=s1.at_ h;injection h1 with h1;injection h1 with h1 h2;exact⟨h1.symm,h2.symm⟩
  have bL:∀j(hj:j<(Vf aD.length i.size gL).length),(w.setCells b' (nC+rows.length*i.size) (Vf aD.length i.size gL)).cell? ⟨b',nC+rows.length*i.size+j,none⟩=some (Vf aD.length i.size gL)[j]:=
   World.cell?_setCells_in b' _ _ w fun j hj=>by
    rw[Zg]at hj;rw[aO hh,zzaj (by rw[zzbr]at cw;omega)];rfl
  have hj:qz (w.setCells b' (nC+rows.length*i.size) (Vf aD.length i.size gL)) (γ.extend id b' (nC+rows.length*i.size) (nC+(rows.length+aD.length)*i.size) (rows.length+aD.length))
    (rows++aD) (some ⟨b',nC,none⟩) cap b' nC i.size (Qcy rows.length cv gL):=by
   refine⟨by simpa using cH,fun hn=>(by cases hn),fun _=>⟨rfl,by rw[aG];exact hb⟩,hr,fun j k c hc=>?_,fun j k c hc=>?_⟩
   ·rcases Uq hc with⟨Q9,h3⟩|⟨h1,h3⟩
    ·obtain⟨rfl,rfl⟩:=TV (by rintro rfl;simp at Q9);obtain⟨g1,g2,g3⟩:=(s1.mono bT).cell j k c h3;have ej:Qcy rows.length cv gL j k=cv j k:=by unfold Qcy;rw[if_pos Q9]
     rw[ej];exact⟨g1,g2,g3⟩
    obtain⟨hi4,hj4⟩:=nB h3;have hk:k<i.size:=by rw[s2.hsz _ (zzdk hi4)]at hj4;exact hj4
    have hf:=we aD.length i.size gL hi4 hk;obtain⟨ai,dm⟩:=zza.1 hf
    have e1:nC+j*i.size+k=nC+rows.length*i.size+((j-rows.length)*i.size+k):=by
     rw[Nat.sub_mul];have:rows.length*i.size<=j*i.size:=zzbc _ h1;omega
    simp only[Qcy,if_neg (zzbo.2 h1)];refine⟨?_,?_,(s2.cell _ _ c h3).2.2⟩
    ·rw[e1,bL _ ai,dm]
    rw[Zg]at ai;exact .inr ⟨rfl,by rw[e1];omega,by rw[e1,zzbr];omega⟩
   unfold Qcy;rcases Uq hc with⟨h1,h3⟩|⟨h1,h3⟩
   ·rw[if_pos h1];exact(s1.rep j k c h3).mono bT.cT
   rw[if_neg (zzbo.2 h1)];exact(iC _ k c h3).mono bT.cT
  have:=hj.mk' (rt:=.own id i.size) ⟨rfl,by simp[G.extend],fun _=>.inr ⟨b',nC,_,te,rfl,ho,Xb b' _ _ w arr te _ hh,by rw[Vd];exact hsz,fun o cW c9=>?_⟩⟩
  ·rwa [zzai]at this
  rw[zzai]at cW;obtain c9|⟨_,_,h4⟩:=c9
  ·refine oP o ?_ c9;have:rows.length*i.size<=(rows.length+aD.length)*i.size:=zzbc _ zE;omega
  omega
 ·
  obtain⟨bq,cw,bn⟩:=oS (P:=P) (ty:=ty) ht hi hz s1 s2 zE bX wj;have Fz:=hm.drew;have aM:γ.cur id=rows.length+aD.length->γ.own id=none:=fun h=>zE
  have hcn:γ.cur id<=rows.length+aD.length:=zE
  have bT:Ev w γ _ _:=(Ev.drew w γ).trans (Fz.gj (q:=(rows.length+aD.length)*i.size) hcn aM (.cells ((Vf rows.length i.size cv).toArray++(Vf aD.length i.size gL).toArray++Builtin.zeroCells z.cells (bq-(rows.length+aD.length))) e));refine⟨_,_,_,bn,bT,Fz.renew hcn aM _,?_⟩
  have hh:(w.drew.alloc (.cells ((Vf rows.length i.size cv).toArray++(Vf aD.length i.size gL).toArray++Builtin.zeroCells z.cells (bq-(rows.length+aD.length))) e)).heap[w.heap.size]?=some (.cells ((Vf rows.length i.size cv).toArray++(Vf aD.length i.size gL).toArray++Builtin.zeroCells z.cells (bq-(rows.length+aD.length))) e (0,0)):=by
   exact Yj w _
  have hj:=s1.Fy s2 iC bT (nb:=w.heap.size) hh (fun o ho=>.inr ⟨rfl,ho⟩) cw;have:=hj.mk' (rt:=.own id i.size) ⟨rfl,by simp[G.renew],fun _=>?_⟩
  ·rwa [zzai]at this
  by_cases hz0:bq=rows.length+aD.length
  ·exact .inl (by simp[hz0])
  refine .inr ⟨w.heap.size,0,_,e,rfl,by simp[G.renew],hh,?_,fun o ho c9=>?_⟩
  ·simp only[zzer,zzeq,Zg,size_zeroCells]
   have Ra:bq*i.size=rows.length*i.size+aD.length*i.size+(bq-(rows.length+aD.length))*i.size:=by
    rw[<- zzbr,<- zzbr];congr 1;omega
   rw[CS,Ra];omega
  simp only[zzai,zzbw]at ho;obtain c9|⟨_,c9⟩:=c9
  ·have:=hm.robd _ _ c9;omega
  omega
def OB(hm:au N w0 aq γ w B L)(ht:P.underlying t=some (.slice e))(hi:P.info? e=some i)(hz:i.zero=some z)(CS:z.cells.size=i.size){id:Nat}
  (h1:(aC w γ (.sl .full rows) v1/\L id=none)\/(aC w γ (.sl (.own id i.size) rows) v1/\L id=some rows.length))(h2:aC w γ (.sl KX aD) v2)
  (hr:∀row∈rows++aD,row.length=i.size)(bX:(3*(rows.length+aD.length)+4000)*i.bytes<=562949953421312)(wj:rows.length+aD.length<=9223372036854775807):
  ∃v w' γ',(Builtin.append_ #[t,t] ty #[v1,v2]).run P w=.ok v w'/\Ev w γ w' γ'/\au N w0 aq γ' w' B (fun j=>if j=id then some (rows.length+aD.length)else L j)/\aC w' γ' (.sl (.own id i.size) (rows++aD)) v:=by
 obtain⟨a2,cn,b2,gI,sz2,gL,rfl,s2,r2⟩:=h2.cm;exact wm hm ht hi hz CS h1 (s2.fix (sz:=i.size) fun row h=>hr row (by simp[h])) s2.rep hr bX wj
end
open Go Go.RowKit
def Step(N:Nat)(w0:fF)(aq:Nat->Nat->Prop)(P:Program)(o:Oper)(a:Act)(γ:G)(w:World)(B:Nat->Option (List AV))(L:Nat->Option Nat)(r:AV):Prop:=
 ∀(rd:Option Nat)(next:Act->World->Prop)(Q:Exit->Act->World->Prop),(∀v w' γ',Ev w γ w' γ'->au N w0 aq γ' w' B L->aC w' γ' r v->next (a.put o.dst v) w')->o.wpIn (FW rd) 0 P a w next Q
section
variable {N:Nat} {w0:fF} {aq:Nat->Nat->Prop} {γ:G} {w:World} {B:Nat->Option (List AV)} {L:Nat->Option Nat} {P:Program} {o:Oper} {a:Act} {r:AV}
def Qs(hm:au N w0 aq γ w B L){v:Value}(h:(execOp a.eval o).run P w=.ok (.value v) w)(hr:aC w γ r v):Step N w0 aq P o a γ w B L r:=
 fun _ _ _ hk=>Zm h (hk v w γ (Ev.refl _ _) hm hr)
def AZ{v:Value}{w':World}{γ':G}(hm:au N w0 aq γ' w' B L)(e:Ev w γ w' γ')(h:(execOp a.eval o).run P w=.ok (.value v) w')(hr:aC w' γ' r v):Step N w0 aq P o a γ w B L r:=
 fun _ _ _ hk=>Zm h (hk v w' γ' e hm hr)
variable {dst:Option Tmp} {ty:TypeId} {pos:String} {after:Array Edge} {guard:Option (Nat×Bool)} {gl:Nat->AV} {orc:Nat->FuncId->List AV->AV} {e:bN->AV} {m:AM}
def CT{x:AV}{v:Value}{g b:Bool}(h:asB x=some (g,b))(hr:aC w γ x v)(hg:g=true):v=.bool b:=by
 cases x<;>simp[asB]at h
 ·obtain⟨rfl,rfl⟩:=h;exact hr.bB
 rename_i g' y;obtain⟨h1,rfl⟩:=h;rw[hg]at h1;cases g' with
 |false=>cases h1
 |true=>
  cases y<;>simp[isB]at h1;exact(hr.CP rfl).bB
def Rb(hm:au N w0 aq γ w B L){c x y:Operand}(h1:aC w γ (e (aB c)) (a.eval c))(h2:aC w γ (e (aB x)) (a.eval x))(h3:aC w γ (e (aB y)) (a.eval y))
  (hc:(rop P gl orc e m dst (.pick (aB c) (aB x) (aB y))).1):
  Step N w0 aq P ⟨dst,.pick c x y,ty,pos,after,guard⟩ a γ w B L (rop P gl orc e m dst (.pick (aB c) (aB x) (aB y))).2:=by
 simp only[rop]at hc |-
 split at hc
 ·rename_i g0 c' g1 x' g2 y' e1 e2 e3;try simp only[e1,e2,e3]
  obtain⟨hc0,fN,zJ⟩:=hc;have h1:=CT e1 h1 hc0;cases c' with
  |true=>
   have:=CT e2 h2 (fN rfl);exact Qs hm (v:=.bool x') (by simp[execOp,h1,asBool,this]) (.bool _)
  |false=>
   have:=CT e3 h3 (zJ rfl);exact Qs hm (v:=.bool y') (by simp[execOp,h1,asBool,this]) (.bool _)
 exact hc.elim
def Rf(hm:au N w0 aq γ w B L)(hB:∀id cells,m.boxes[id]?=some cells->B id=some cells){t:TypeId}{x:Operand}(h1:aC w γ (e (aB x)) (a.eval x))
  (hc:(rop P gl orc e m dst (tr P ⟨dst,.load t x,ty,pos,after,guard⟩)).1):
  Step N w0 aq P ⟨dst,.load t x,ty,pos,after,guard⟩ a γ w B L (rop P gl orc e m dst (tr P ⟨dst,.load t x,ty,pos,after,guard⟩)).2:=by
 simp only[tr]at hc |-
 split at hc
 case h_2=>exact hc.elim
 rename_i i d hi hd;try simp only[hi,hd]
 have main:∀(agg:Bool)(n:Nat),Jh P t=agg->(agg=true->n=i.size)->(rop P gl orc e m dst (.load agg n (aB x))).1->
   Step N w0 aq P ⟨dst,.load t x,ty,pos,after,guard⟩ a γ w B L (rop P gl orc e m dst (.load agg n (aB x))).2:=by
  intro agg n bG hn hc;simp only[rop]at hc |-
  split at hc
  ·rename_i id o' he;try simp only[he]
   rw[he]at h1;obtain⟨b,hb,hv⟩:=h1.dO;cases fI:m.boxes[id]? with
   |none=>
    have e0:m.boxes.getD id []=[]:=by simp[List.getD,fI]
    rw[e0]at hc |-
    obtain⟨v,h2,h3⟩:=Qdo (P:=P) (w:=w) (γ:=γ) (b:=b) (o:=o') (cv:=fun _=>undef) hi hd bG hn (fun j c hj=>by simp at hj) (fun j c hj=>by simp at hj) hc;exact Qs hm (by simp[execOp,hv,h2]) h3
   |some cells=>
    have e0:m.boxes.getD id []=cells:=by simp[List.getD,fI]
    rw[e0]at hc |-
    obtain⟨arr,te,g2,g3,g4⟩:=hm.box id cells b (hB id cells fI) hb
    have cA:∀(j:Nat)(c:AV),(cells.drop o')[j]?=some c->arr[o'+j]?=some (arr.getD (o'+j) undef)/\aC w γ c (arr.getD (o'+j) undef):=fun j c hj=>by
     rw[zzbm]at hj
     have ai:o'+j<arr.size:=by
      have:=(zza.1 hj).1;have h0:=g3.1;simp at h0;omega
     have hu:arr[o'+j]?=some (arr.getD (o'+j) undef):=by simp[ai]
     exact⟨hu,g3.2 _ _ _ hj (by simpa using hu)⟩
    obtain⟨v,h2,h3⟩:=Qdo (P:=P) (w:=w) (γ:=γ) (b:=b) (o:=o') (cv:=fun j=>arr.getD (o'+j) undef) hi hd bG hn (fun j c hj=>by rw[aO g2];exact(cA j c hj).1) (fun j c hj=>(cA j c hj).2) hc;exact Qs hm (by simp[execOp,hv,h2]) h3
  ·rename_i row o' he;try simp only[he]
   rw[he]at h1;obtain⟨b,off,cv,hv,hb,bO,zH⟩:=h1.jg;have cA:∀(j:Nat)(c:AV),(row.drop o')[j]?=some c->row[o'+j]?=some c:=fun j c hj=>by rw[zzbm]at hj;exact hj
   obtain⟨v,h2,h3⟩:=Qdo (P:=P) (w:=w) (γ:=γ) (b:=b) (o:=off+o') (cv:=fun j=>cv (o'+j)) hi hd bG hn
    (fun j c hj=>by rw[zzao];exact(bO _ _ (cA j c hj)).1) (fun j c hj=>(zH _ _ (cA j c hj)).gK) hc
   exact Qs hm (by simp[execOp,hv,h2]) h3
  exact hc.elim
 cases bG:Jh P t with
 |true=>simp only[bG,if_true]at hc |-;exact main true _ bG (fun _=>rfl) hc
 |false=>simp only[bG]at hc |-;exact main false 1 bG (fun h=>by cases h) hc
def KY(hm:au N w0 aq γ w B L){t:TypeId}{x:Operand}{f:Nat}(h1:aC w γ (e (aB x)) (a.eval x))
  (hc:(rop P gl orc e m dst (tr P ⟨dst,.fieldAddr t x f,ty,pos,after,guard⟩)).1):
  Step N w0 aq P ⟨dst,.fieldAddr t x f,ty,pos,after,guard⟩ a γ w B L (rop P gl orc e m dst (tr P ⟨dst,.fieldAddr t x f,ty,pos,after,guard⟩)).2:=by
 simp only[tr]at hc |-
 split at hc
 case h_2=>exact hc.elim
 rename_i fields hu;try simp only[hu]
 split at hc
 case h_2=>exact hc.elim
 rename_i fl eG;try simp only[eG]
 split at hc
 case h_2=>exact hc.elim
 rename_i i hi;try simp only[hi]
 split at hc
 case isTrue=>exact hc.elim
 rename_i hsz;try rw[if_neg hsz]
 simp only[rop]at hc |-
 have arB:i.size≠0:=by simpa using hsz
 split at hc
 ·rename_i id o' he;try simp only[he]
  rw[he]at h1;obtain⟨b,hb,hv⟩:=h1.dO;exact Qs hm (v:=.pointer (some ⟨b,o'+fl.offset,none⟩)) (by simp[execOp,hv,Instr.fieldAt,run_underlying hu,eG,Instr.sureAddr,fieldPlace,sizeOf,typeInfo,hi,arB,bA]) (.ptr hb)
 ·rename_i row o' he;try simp only[he]
  rw[he]at h1;obtain⟨b,off,cv,hv,hb,bO,zH⟩:=h1.jg;refine Qs hm (v:=.pointer (some ⟨b,off+(o'+fl.offset),none⟩)) (by simp[execOp,hv,Instr.fieldAt,run_underlying hu,eG,Instr.sureAddr,fieldPlace,sizeOf,typeInfo,hi,arB,bA,zzao]) (.ep cv hb bO zH)
 exact hc.elim
def KZ(hm:au N w0 aq γ w B L){t:TypeId}{x y:Operand}(h1:aC w γ (e (aB x)) (a.eval x))(h2:aC w γ (e (aB y)) (a.eval y))
  (hc:(rop P gl orc e m dst (tr P ⟨dst,.indexAddr t x y,ty,pos,after,guard⟩)).1):
  Step N w0 aq P ⟨dst,.indexAddr t x y,ty,pos,after,guard⟩ a γ w B L (rop P gl orc e m dst (tr P ⟨dst,.indexAddr t x y,ty,pos,after,guard⟩)).2:=by
 simp only[tr]at hc |-
 split at hc
 ·rename_i te hu;try simp only[hu]
  split at hc
  case h_2=>exact hc.elim
  rename_i i hi;try simp only[hi]
  simp only[rop]at hc |-
  split at hc
  case h_3=>exact hc.elim
  case h_2=>
   rename_i id off len gH k n e1 e2;try simp only[e1,e2]
   rw[e1]at h1;rw[e2]at h2;obtain⟨b,cap,arr,zn,hb,hv,hl,hh,hs⟩:=h1.cQ;obtain⟨⟨eZ,qV⟩,rfl⟩:=hc;refine Qs hm (v:=.pointer (some ⟨b,off+n.toNat*i.size,none⟩)) ?_ (.ptr hb);simp[execOp,hv,h2.aI,Instr.indexAt,run_underlying hu,asIntOf,eZ,qV,sizeOf,typeInfo,hi,bA]
  rename_i rt rows k n e1 e2;try simp only[e1,e2]
  rw[e1]at h1;rw[e2]at h2;obtain⟨a',cap,b,off,sz,cv,hv,s,_⟩:=h1.cm;obtain⟨⟨eZ,qV⟩,aH⟩:=hc;have ai:n.toNat<rows.length:=zE
  have dU:rows.getD n.toNat []∈rows:=by simp[List.getD,ai]
  have hsz:sz=i.size:=(s.hsz _ dU).symm.trans aH;subst hsz;obtain⟨ha,hb⟩:=s.at_ (by rintro rfl;simp at ai)
  have oE:∀(j:Nat)(c:AV),(rows.getD n.toNat [])[j]?=some c->Qv rows n.toNat j=some c:=fun j c hj=>by
   simp[Qv,List.getD,ai]at hj |-;exact hj
  refine Qs hm (v:=.pointer (some ⟨b,(off+n.toNat*i.size)+0,none⟩)) ?_ (.ep (off:=off+n.toNat*i.size) (cv n.toNat) hb (fun j c hj=>s.cell _ j c (oE j c hj)) fun j c hj=>s.rep _ j c (oE j c hj));have qY:n<(rows.length:Int):=qV;simp[execOp,hv,h2.aI,ha,Instr.indexAt,run_underlying hu,asIntOf,eZ,qY,sizeOf,typeInfo,hi,bA]
 ·rename_i len te hu;try simp only[hu]
  split at hc
  case h_2=>exact hc.elim
  rename_i i hi;try simp only[hi]
  simp only[rop]at hc |-
  split at hc
  ·rename_i id o' k n e1 e2;try simp only[e1,e2]
   rw[e1]at h1;rw[e2]at h2;obtain⟨b,hb,hv⟩:=h1.dO;obtain⟨eZ,qV⟩:=hc;refine Qs hm (v:=.pointer (some ⟨b,o'+n.toNat*i.size,none⟩)) ?_ (.ptr hb);simp[execOp,hv,h2.aI,Instr.indexAt,Instr.sureAddr,run_underlying hu,asIntOf,eZ,qV,sizeOf,typeInfo,hi,bA]
  ·rename_i row o' k n e1 e2;try simp only[e1,e2]
   rw[e1]at h1;rw[e2]at h2;obtain⟨b,off,cv,hv,hb,bO,zH⟩:=h1.jg;obtain⟨eZ,qV⟩:=hc;refine Qs hm (v:=.pointer (some ⟨b,off+(o'+n.toNat*i.size),none⟩)) ?_ (.ep cv hb bO zH);simp[execOp,hv,h2.aI,Instr.indexAt,Instr.sureAddr,run_underlying hu,asIntOf,eZ,qV,sizeOf,typeInfo,hi,bA,zzao]
  exact hc.elim
 exact hc.elim
end
end Go.Abs
