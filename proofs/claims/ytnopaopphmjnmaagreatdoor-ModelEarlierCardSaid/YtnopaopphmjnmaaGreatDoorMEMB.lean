import Derived.Test.YtnopaopphmjnmaaGreatDoorMEMA
set_option linter.all false
namespace Go.Abs
open Go Go.RowKit
section inv
variable {w:World} {γ:G} {v:Value}
def aB.bA{b:Bool}(h:aB w γ (.bool b) v):v=.bool b:=by cases h;rfl
def aB.aG{k:IntKind}{n:Int}(h:aB w γ (.int k n) v):v=.int k n:=by cases h;rfl
def aB.cq{s:ByteArray}(h:aB w γ (.str s) v):v=.string s:=by cases h;rfl
def aB.P4(h:aB w γ .nilfn v):v=.nilFunc:=by cases h;rfl
def aB.dK{id o:Nat}(h:aB w γ (.ptr id o) v):∃b,γ.β id=some b/\v=.pointer (some ⟨b,o,none⟩):=by cases h with|ptr h=>exact⟨_,h,rfl⟩
def aB.cM{id off len sz:Nat}(h:aB w γ (.bs id off len sz) v):∃(b cap:Nat)(arr:Array Value)(e:TypeId),γ.β id=some b/\v=.slice (some ⟨b,off,none⟩) len cap/\len<=cap/\
  w.heap[b]?=some (.cells arr e (0,0))/\off+cap*sz<=arr.size:=by
 cases h with|bs h hl hh hs=>exact⟨_,_,_,_,h,rfl,hl,hh,hs⟩
def aB.Cs{g:Bool}{a:AV}(h:aB w γ (.gd g a) v)(hg:g=true):aB w γ a v:=by cases h with|gd h _=>exact h hg
def aB.N0{a:AV}(h:aB w γ (.gd false a) v):v=undef:=by cases h with|gd _ h=>exact h rfl
def aB.gH{cs:List AV}(h:aB w γ (.agg cs) v):∃arr:Array Value,v=.agg arr/\ak w γ cs arr.toList:=by
 cases h with
 |@agg _ _ arr hl h=>exact⟨arr,rfl,by simpa using hl,fun i a v h1 h2=>h i a v h1 (by simpa using h2)⟩
def aB.Ct{cs:List AV}(h:aB w γ (.aW cs) v):∃arr:Array Value,v=.tuple arr/\ak w γ cs arr.toList:=by
 cases h with
 |@aW _ _ arr hl h=>exact⟨arr,rfl,by simpa using hl,fun i a v h1 h2=>h i a v h1 (by simpa using h2)⟩
def aB.qL{f:FuncId}{first cap:List AV}(h:aB w γ (.fn f first cap) v):∃fa ca:Array Value,v=.func (.func f) fa ca/\ak w γ first fa.toList/\ak w γ cap ca.toList:=by
 cases h with
 |@fn _ _ _ _ fa ca hl h eF h'=>exact⟨fa,ca,rfl,⟨by simpa using hl,fun i a v h1 h2=>h i a v h1 (by simpa using h2)⟩,⟨by simpa using eF,fun i a v h1 h2=>h' i a v h1 (by simpa using h2)⟩⟩
def aB.jc{row:List AV}{o:Nat}(h:aB w γ (.ep row o) v):∃(b off:Nat)(cv:Nat->Value),v=.pointer (some ⟨b,off+o,none⟩)/\b<w.heap.size/\
  (∀(j:Nat)(c:AV),row[j]?=some c->w.cell? ⟨b,off+j,none⟩=some (cv j)/\γ.ro b (off+j)/\(cv j).oneCell'=true)/\(∀(j:Nat)(c:AV),row[j]?=some c->aB w γ.dg c (cv j)):=by
 cases h with
 |@ep _ _ _ b off cv hb hc h=>exact⟨b,off,cv,rfl,hb,hc,h⟩
def aB.VU{rt:Rt}{rows:List (List AV)}(h:aB w γ (.sl rt rows) v):∃(a:Option Addr)(cap b off sz:Nat)(cv:Nat->Nat->Value),v=.slice a rows.length cap/\
  rows.length<=cap/\(a=none->cap=0)/\(rows≠[]->a=some ⟨b,off,none⟩/\b<w.heap.size)/\(∀row∈rows,row.length=sz)/\
  (∀(i j:Nat)(c:AV),Qt rows i j=some c->w.cell? ⟨b,off+i*sz+j,none⟩=some (cv i j)/\γ.ro b (off+i*sz+j)/\(cv i j).oneCell'=true)/\
  (∀(i j:Nat)(c:AV),Qt rows i j=some c->aB w γ.dg c (cv i j))/\tL w γ a rows.length cap sz rt:=by
 cases h with
 |@sl _ _ _ a cap b off sz cv h1 h2 h3 h4 h5 h6 h7=>exact⟨a,cap,b,off,sz,cv,rfl,h1,h2,h3,h4,h5,h6,h7⟩
end inv
def aB.gI{w:World}{γ:G}{a:AV}{v:Value}(h:aB w γ.dg a v):aB w γ a v:=
 h.fh ⟨zzab _,fun _ _ _ h=>⟨h,rfl⟩,fun _ _ h=>(by cases h),fun _=>zzbz _,fun _ _ h=>(by cases h),fun _ _ h=>(by cases h),fun _ _ _ h=>(by cases h),Sz.refl w⟩
def ak.agg{w:World}{γ:G}{cs:List AV}{vs:List Value}(h:ak w γ cs vs):aB w γ (.agg cs) (.agg vs.toArray):=
 .agg (by simpa using h.1) fun i c v h1 h2=>h.2 i c v h1 (by simpa using h2)
def ak.P5{w:World}{γ:G}{cs:List AV}{arr:Array Value}(h:ak w γ cs arr.toList):aB w γ (.agg cs) (.agg arr):=by
 have:=h.agg;simpa using this
def ak.take{w:World}{γ:G}{cs:List AV}{vs:List Value}(h:ak w γ cs vs)(n:Nat):ak w γ (cs.take n) (vs.take n):=
 ⟨by simp[h.1],fun i a v h1 h2=>by
  rw[zzbj]at h1 h2;split at h1<;>simp_all;exact h.2 i a v h1 h2⟩
def ak.drop{w:World}{γ:G}{cs:List AV}{vs:List Value}(h:ak w γ cs vs)(n:Nat):ak w γ (cs.drop n) (vs.drop n):=
 ⟨by simp[h.1],fun i a v h1 h2=>by
  rw[zzbk]at h1 h2;exact h.2 _ a v h1 h2⟩
def FW(r:Option Nat):Fence:={Fence.wide with round:=r}
section
variable {P:Program} {o:Oper} {a:Act} {w:World} {next:Act->World->Prop} {Q:Exit->Act->World->Prop} {r:Option Nat}
def VV{x:Next}{w':World}(h:(execOp a.eval o).run P w=.ok x w')(hx:∀d,x≠.defer d):∀c,o.op≠.defer c:=by
 intro c hc;unfold execOp at h;simp only[hc,Sem.run_bind]at h;cases hr:(resolve a.eval c o.type).run P w with
 |ok d zk=>rw[hr]at h;simp at h;exact hx d h.1.symm
 |halt e zk=>rw[hr]at h;simp at h
def wp_run{x:Next}{w':World}(h:(execOp a.eval o).run P w=.ok x w')(hx:∀d,x≠.defer d)(hn:o.uponIn (FW r) 0 P a next Q (.ok x w')):o.wpIn (FW r) 0 P a w next Q:=by
 refine⟨fun f _=>trivial,?_⟩;rw[Oper.semAt_eq _ _ _ (VV h hx),h];exact hn
def Zp{v:Value}{w':World}(h:(execOp a.eval o).run P w=.ok (.value v) w')(hn:next (a.put o.dst v) w'):o.wpIn (FW r) 0 P a w next Q:=
 wp_run h (fun _ h=>by cases h) hn
def oJ{w':World}(h:(execOp a.eval o).run P w=.ok .skip w')(hn:next (a.put o.dst undef) w'):o.wpIn (FW r) 0 P a w next Q:=
 wp_run h (fun _ h=>by cases h) hn
def EV{f:FuncId}{args:Array Value}{w':World}(h:(execOp a.eval o).run P w=.ok (.enter f args) w')(hn:Calls P f args w' fun
   |.returned v,zk=>next (a.put o.dst v) zk
   |.panicked chain,zk=>Q (.panic chain) a zk
   |.outgrown,_=>LetsOut Q):o.wpIn (FW r) 0 P a w next Q:=
 wp_run h (fun _ h=>by cases h) ⟨fun h=>by simp[FW,Fence.wide]at h,callsIn_wide.2 hn⟩
end
def bw(b o n:Nat):(⟨b,o,none⟩:Addr).add n=⟨b,o+n,none⟩:=by
 unfold Addr.add;split<;>simp_all
def Qdr{P:Program}{w:World}{γ:G}{agg:Bool}{n b o:Nat}{t:TypeId}{i:TypeInfo}{d:TypeDesc}(hi:P.info? t=some i)(hd:P.underlying t=some d)(bD:Uq P t=agg)
  (hn:agg=true->n=i.size){cs:List AV}{cv:Nat->Value}(bM:∀(j:Nat)(c:AV),cs[j]?=some c->w.cell? ⟨b,o+j,none⟩=some (cv j))(zm:∀(j:Nat)(c:AV),cs[j]?=some c->aB w γ c (cv j))
  (hc:(Yf agg n cs).1):∃v,(Instr.loadAt t (.pointer (some ⟨b,o,none⟩))).run P w=.ok v w/\aB w γ (Yf agg n cs).2 v:=by
 obtain⟨h1,h2⟩:=hc;have aH:n<=cs.length:=by rw[zzaq]at h1;omega
 cases agg with
 |false=>
  have qM:=h2 rfl;subst qM;have hz:cs[0]?=some (cs.getD 0 .junk):=by simp[List.getD];cases cs<;>simp_all
  have hc0:=bM 0 _ hz;refine⟨cv 0,?_,?_⟩
  ·unfold Uq at bD;rw[hd]at bD;simp only[zzco]at hc0;cases d<;>simp at bD<;>simp[Instr.loadAt,Instr.sureAddr,loadVar,isAgg,run_underlying hd,hc0]
  simpa[Yf]using zm 0 _ hz
 |true=>
  have qM:=hn rfl;subst qM
  have hl:(loadCells ⟨b,o,none⟩ i.size).run P w=.ok ((List.range i.size).map cv).toArray w:=by
   refine run_loadCells w _ _ _ fun j hj=>?_;rw[bw];exact bM j _ (zzad (by omega))
  refine⟨.agg ((List.range i.size).map cv).toArray,?_,?_⟩
  ·unfold Uq at bD;rw[hd]at bD;cases d<;>simp at bD<;>simp[Instr.loadAt,Instr.sureAddr,loadVar,isAgg,run_underlying hd,sizeOf,typeInfo,hi,hl]
  simp only[Yf,if_true];refine ak.agg ⟨by simp;omega,fun j c v dU qo=>?_⟩;rw[zzbj]at dU;split at dU
  ·simp at qo;obtain⟨k,hk,rfl⟩:=qo;rename_i ai;rw[zzeh ai]at hk;cases hk;exact zm j c dU
  cases dU
open Go Go.RowKit
variable {N:Nat} {w0:iy} {aq:Nat->Nat->Prop} {γ:G} {w:World} {B:Nat->Option (List AV)} {L:Nat->Option Nat}
def uw{a:AV}{v:Value}(h:aB w γ a v)(hc:Qv a=true):v.oneCell'=true:=by
 cases a<;>simp[Qv]at hc<;>cases h<;>first|rfl|(rename_i p;cases p<;>rfl)
def ak.map{ro':Nat->Nat->Prop}{as:List AV}{vs:List Value}{f:AV->AV}(h:ak w γ as vs)(hf:∀a∈as,∀v,aB w γ a v->aB w (G0 ro') (f a) v):ak w (G0 ro') (as.map f) vs:=
 ⟨by simpa using h.1,fun i a v h1 h2=>by
  simp at h1;obtain⟨a',h3,rfl⟩:=h1;exact hf a' (zzac h3) v (h.2 i a' v h3 h2)⟩
def ak.vO{as:List AV}{p:AV->Bool}{a:AV}(ha:a∈as)(hp:p a=true):as.any p=true:=zzbx.2 ⟨a,ha,hp⟩
def Qej(sz:Nat):∀(n:Nat)(l:List AV),(aV sz n l).length=n
 |0,_=>rfl
 |n+1,l=>by simp[aV,Qej sz n]
def Ay{sz:Nat}:∀{n:Nat}{l:List AV}{row:List AV},n*sz<=l.length->row∈aV sz n l->row.length=sz
 |0,_,_,_,h=>by cases h
 |n+1,l,row,hl,h=>by
  rw[zzbp,zzdo]at hl;rcases zzaw.1 h with rfl|h
  ·simp;omega
  exact Ay (by simp;omega) h
def Wp{sz:Nat}{c:AV}:∀{n:Nat}{l:List AV}{i j:Nat},Qt (aV sz n l) i j=some c->i<n/\j<sz/\l[i*sz+j]?=some c
 |0,_,i,j,h=>by simp[Qt,aV]at h
 |n+1,l,0,j,h=>by
  simp only[Qt,aV,zzgu,zzcu]at h;rw[zzbj]at h;split at h
  ·rename_i hj;exact⟨by omega,hj,by simpa using h⟩
  cases h
 |n+1,l,i+1,j,h=>by
  have h':Qt (aV sz n (l.drop sz)) i j=some c:=by simpa[Qt,aV]using h
  obtain⟨h1,h2,h3⟩:=Wp h';rw[zzbk]at h3;refine⟨by omega,h2,?_⟩;rw[zzbp,zzdo,zzff (i*sz) sz,zzam];exact h3
def kU(hm:au N w0 aq γ w B L){m:AM}(hB:∀id cells,m.boxes[id]?=some cells->B id=some cells){ro':Nat->Nat->Prop}(dQ:∀b o,γ.ro b o->ro' b o):
  ∀(d:Nat)(a:AV)(v:Value),aB w γ a v->(Yk d a=true->∀id b,γ.β id=some b->∀o,ro' b o)->aB w (G0 ro') (bF m d a) v:=by
 have aqG:∀(a:AV)(v:Value),aB w γ.dg a v->aB w (G0 ro') a v:=fun a v h=>
  h.mono ⟨zzab _,fun b o _ h=>⟨dQ b o h,rfl⟩,fun _ _ h=>(by cases h),fun _=>zzab _,fun _ _ h=>(by cases h),rfl,fun _ _ _ h=>(by cases h),fun _ h=>h.elim,Sz.refl w⟩
 intro d;induction d with
 |zero=>exact fun _ _ _ _=>.junk _
 |succ d ih=>
  intro a v h hp;cases a with
  |junk=>exact .junk _
  |bool b=>rw[h.bA];exact .bool b
  |int k n=>rw[h.aG];exact .int k n
  |str s=>rw[h.cq];exact .str s
  |nilfn=>rw[h.P4];exact .nilfn
  |gd g a=>exact .junk _
  |yld l=>exact .junk _
  |mp id=>exact .junk _
  |nilv p=>cases h;exact .nilv p
  |it id=>exact .junk _
  |aJ kn kvs=>exact .junk _
  |mitr mid n s=>exact .junk _
  |agg cs=>
   obtain⟨arr,rfl,hr⟩:=h.gH;refine ak.P5 (hr.map fun a ha v hv=>ih a v hv fun jd=>hp ?_);simp only[Yk];exact ak.vO ha jd
  |aW cs=>
   obtain⟨arr,rfl,hr⟩:=h.Ct;have:=hr.map (ro':=ro') (f:=bF m d) fun a ha v hv=>ih a v hv fun jd=>hp (by simp only[Yk];exact ak.vO ha jd);exact .aW (by simpa using this.1) fun i c v h1 h2=>this.2 i c v h1 (by simpa using h2)
  |fn f first cap=>
   obtain⟨fa,ca,rfl,h1,h2⟩:=h.qL;have t1:=h1.map (ro':=ro') (f:=bF m d) fun a ha v hv=>ih a v hv fun jd=>hp (by simp only[Yk];rw[ak.vO ha jd];rfl);have t2:=h2.map (ro':=ro') (f:=bF m d) fun a ha v hv=>ih a v hv fun jd=>hp (by simp only[Yk];rw[ak.vO ha jd];simp);exact .fn (by simpa using t1.1) (fun i c v h1 h2=>t1.2 i c v h1 (by simpa using h2)) (by simpa using t2.1) fun i c v h1 h2=>t2.2 i c v h1 (by simpa using h2)
  |ep row o=>
   obtain⟨b,off,cv,rfl,hb,hc,hr⟩:=h.jc;exact .ep cv hb (fun j c hj=>⟨(hc j c hj).1,dQ _ _ (hc j c hj).2.1,(hc j c hj).2.2⟩) fun j c hj=>aqG _ _ (hr j c hj)
  |sl rt rows=>
   obtain⟨a,cap,b,off,sz,cv,rfl,h1,h2,h3,h4,h5,h6,h7⟩:=h.VU
   have key:∀fk,tL w (G0 ro') a rows.length cap sz fk->aB w (G0 ro') (.sl fk rows) (.slice a rows.length cap):=fun fk aS=>
    .sl b off sz cv h1 h2 h3 h4 (fun i j c hj=>⟨(h5 i j c hj).1,dQ _ _ (h5 i j c hj).2.1,(h5 i j c hj).2.2⟩) (fun i j c hj=>aqG _ _ (h6 i j c hj)) aS
   cases rt with
   |ro=>exact key .ro trivial
   |full=>exact key .full h7
   |nil=>exact key .nil h7
   |nn=>exact key .nn h7
   |own id gF=>exact key .ro trivial
  |bs id off len sz=>
   obtain⟨b,cap,arr,te,hb,rfl,hl,hh,hs⟩:=h.cM;have fE:=hp rfl;obtain⟨_,ai,_⟩:=hm.β id b hb;simp only[bF];cases hble:Nat.ble (off+len*sz) (m.boxes.getD id []).length with
   |false=>exact .junk _
   |true=>
    have bZ:=zzhg hble
    have cp:∀(k:Nat)(c:AV),(((m.boxes.getD id []).map (bF m d)).drop off)[k]?=some c->∃c' u,c=bF m d c'/\arr[off+k]?=some u/\arr.getD (off+k) undef=u/\aB w γ c' u/\u.oneCell'=true:=fun k c hk=>by
     rw[zzbk,zzbm]at hk;cases eD:m.boxes[id]? with
     |none=>simp[List.getD,eD]at hk
     |some cells=>
      have:m.boxes.getD id []=cells:=by simp[List.getD,eD]
      rw[this]at hk;obtain⟨bT,e',g2,g3,g4⟩:=hm.box id cells b (hB id cells eD) hb;rw[hh]at g2;cases g2;cases hc:cells[off+k]? with
      |none=>simp[hc]at hk
      |some c'=>
       simp[hc]at hk;have h1:=(zza.1 hc).1;have h2:=g3.1;have cB:off+k<arr.size:=by simp at h2;omega
       have hu:arr[off+k]?=some arr[off+k]:=zzai cB;exact⟨c',arr[off+k],hk.symm,hu,by simp[cB],g3.2 _ c' _ hc (by simp[cB]),g4 _ (by simp)⟩
    have aH:=Qej sz len (((m.boxes.getD id []).map (bF m d)).drop off)
    have hr:aB w (G0 ro') (.sl .ro (aV sz len (((m.boxes.getD id []).map (bF m d)).drop off))) (.slice (some ⟨b,off,none⟩) (aV sz len (((m.boxes.getD id []).map (bF m d)).drop off)).length cap):=by
     refine .sl b off sz (fun i j=>arr.getD (off+(i*sz+j)) undef) (by rw[aH];exact hl) (fun h=>by cases h) (fun _=>⟨rfl,ai⟩) (fun row ah=>?_) (fun i j c hc=>?_) (fun i j c hc=>?_) trivial
     ·exact Ay (by rw[zzcq,zzbf];omega) ah
     ·obtain⟨_,_,h3⟩:=Wp hc;obtain⟨c',u,rfl,h4,h5,h6,h7⟩:=cp _ _ h3;rw[aL hh,zzam,h5];exact⟨h4,fE id b hb _,h7⟩
     obtain⟨_,_,h3⟩:=Wp hc;obtain⟨c',u,rfl,h4,h5,h6,h7⟩:=cp _ _ h3;rw[VL,h5];exact ih c' u h6 fun _=>fE
    rw[aH]at hr;exact hr
  |ptr id o=>
   obtain⟨b,hb,rfl⟩:=h.dK;have fE:=hp rfl;obtain⟨_,ai,_⟩:=hm.β id b hb;simp only[bF];have hz:(.pointer (some ⟨b,o,none⟩):Value)=.pointer (some ⟨b,0+o,none⟩):=by rw[zzbu]
   rw[hz];cases eD:m.boxes[id]? with
   |none=>
    have:m.boxes.getD id []=[]:=by simp[List.getD,eD]
    rw[this];exact .ep (fun _=>undef) ai (fun j c hj=>by simp at hj) fun j c hj=>by simp at hj
   |some cells=>
    have:m.boxes.getD id []=cells:=by simp[List.getD,eD]
    rw[this];obtain⟨arr,e,g2,g3,g4⟩:=hm.box id cells b (hB id cells eD) hb
    have cp:∀(j:Nat)(c:AV),(cells.map (bF m d))[j]?=some c->∃c' u,cells[j]?=some c'/\c=bF m d c'/\arr[j]?=some u/\arr.getD j undef=u/\aB w γ c' u:=fun j c hj=>by
     simp at hj;obtain⟨c',h1,rfl⟩:=hj
     have cB:j<arr.size:=by
      have:=g3.1;rcases zzaa j cells.length with h|h
      ·simp at this;omega
      rw[zzau h]at h1;cases h1
     have hu:arr[j]?=some arr[j]:=zzai cB;exact⟨c',arr[j],h1,rfl,hu,by simp[cB],g3.2 j c' _ h1 (by simp[cB])⟩
    refine .ep (fun j=>arr.getD j undef) ai (fun j c hj=>?_) fun j c hj=>?_
    ·obtain⟨c',u,h1,h2,h3,h4,h5⟩:=cp j c hj;rw[zzbu,aL g2,h4];exact⟨h3,fE id b hb j,g4 u (by simpa using zzdc h3)⟩
    obtain⟨c',u,h1,rfl,h3,h4,h5⟩:=cp j c hj;rw[VL,h4];exact ih c' u h5 fun _=>fE
def VW{w':World}{γ':G}{r:AV}{v:Value}(hf:flat r=true)(h:aB w γ r v):aB w' γ' r v:=by
 have one:∀(a:AV)(v:Value),jb a=true->aB w γ a v->aB w' γ' a v:=fun a v hf h=>by
  cases a<;>simp[jb]at hf
  ·rw[h.bA];exact .bool _
  ·rw[h.aG];exact .int _ _
  rw[h.cq];exact .str _
 cases r with
 |aW cs=>
  obtain⟨arr,rfl,hr⟩:=h.Ct;simp only[flat]at hf;exact .aW (by simpa using hr.1) fun i c v h1 h2=>one c v (zzbh.1 hf c (zzac h1)) (hr.2 i c v h1 (by simpa using h2))
 |_=>exact one _ _ hf h
def JX{P:Program}{gl:Nat->AV}(hm:au N w0 aq γ w B L){m:AM}(hB:∀id cells,m.boxes[id]?=some cells->B id=some cells)(lT:∀g,aB w γ.dg (gl g) (.pointer (some ⟨g,0,none⟩)))
  {f:FuncId}{as:List AV}{vs:List Value}{r:AV}(hr:ak w γ as vs)(hp:Pure P gl f (as.map (bF m 6)) r)(fK:as.any (Yk 6)=true->flat r=true)
  {R:Ending->World->Prop}(hk:∀v w' γ',Ev w γ w' γ'->au N w0 aq γ' w' B L->aB w' γ' r v->R (.returned v) w'):Calls P f vs.toArray w R:=by
 let ro':Nat->Nat->Prop:=fun b o=>γ.ro b o\/(as.any (Yk 6)=true/\∃id,γ.β id=some b)
 have oK:ak w (G0 ro') (as.map (bF m 6)) vs:=hr.map fun a ha v hv=>kU hm hB (fun b o h=>.inl h) 6 a v hv fun jd id b hb o=>.inr ⟨ak.vO ha jd,id,hb⟩
 have avX:∀g,aB w (G0 ro') (gl g) (.pointer (some ⟨g,0,none⟩)):=fun g=>
  (lT g).mono ⟨zzab _,fun b o _ h=>⟨.inl h,rfl⟩,fun _ _ h=>(by cases h),fun _=>zzab _,fun _ _ h=>(by cases h),rfl,fun _ _ _ h=>(by cases h),fun _ h=>h.elim,Sz.refl w⟩
 refine(hp.2 ro' w vs avX oK).mono ?_;rintro e w' ⟨v,rfl,hb,hv⟩;refine hk v w' _ (hm.dw hb) (hm.grow hb) ?_;cases hany:as.any (Yk 6)with
 |true=>exact VW (fK hany) hv
 |false=>
  refine hv.fh ⟨zzab _,fun b o ai h=>⟨?_,rfl⟩,fun _ _ h=>(by cases h),fun _=>zzbz _,fun _ _ h=>(by cases h),fun _ _ h=>(by cases h),fun _ _ _ h=>(by cases h),Sz.refl w'⟩;obtain(h|⟨h,_⟩)|h:=h
  ·exact .inl h
  ·rw[hany]at h;cases h
  exact .inr ⟨h,ai⟩
open Go Go.RowKit
def Ve(n sz:Nat)(cv:Nat->Nat->Value):List Value:=(List.range (n*sz)).map fun k=>cv (k/sz) (k%sz)
def Zd(n sz:Nat)(cv:Nat->Nat->Value):(Ve n sz cv).length=n*sz:=by simp[Ve]
def qN{n sz:Nat}{cv:Nat->Nat->Value}{k:Nat}{u:Value}(h:(Ve n sz cv)[k]?=some u):k<n*sz/\u=cv (k/sz) (k%sz):=by
 simp only[Ve,zzbm]at h;rcases zzaa k (n*sz)with hk|hk
 ·rw[zzeh hk]at h;simp at h;exact⟨hk,h.symm⟩
 rw[zzau (by simpa using hk)]at h;simp at h
def vP(n sz:Nat)(cv:Nat->Nat->Value){i j:Nat}(hi:i<n)(hj:j<sz):(Ve n sz cv)[i*sz+j]?=some (cv i j):=by
 have hk:i*sz+j<n*sz:=by
  have:(i+1)*sz<=n*sz:=zzb _ hi;rw[zzbp,zzdo]at this;omega
 have h1:(i*sz+j)/sz=i:=by
  rw[zzed,Nat.mul_add_div (by omega),zzgo hj];rfl
 have h2:(i*sz+j)%sz=j:=by
  rw[zzed,Nat.mul_add_mod,zzgp hj]
 simp[Ve,zzeh hk,h1,h2]
def vQ{rows:List (List AV)}{sz k:Nat}(hsz:∀row∈rows,row.length=sz)(hk:k<rows.length*sz):∃c,Qt rows (k/sz) (k%sz)=some c:=by
 have h0:0<sz:=by
  rcases zzcl sz with h|h;· subst h;simp at hk
  · exact h
 have h1:k/sz<rows.length:=by rw[Nat.div_lt_iff_lt_mul h0];exact hk
 have h2:k%sz<(rows[k/sz]).length:=by rw[hsz _ (zzdj h1)];exact zzea _ h0
 exact⟨rows[k/sz][k%sz],by simp[Qt,h1,h2]⟩
structure qp (w:World) (γ:G) (rows:List (List AV)) (a:Option Addr) (cap b off sz:Nat) (cv:Nat->Nat->Value):Prop where
 hcap:rows.length<=cap
 hnil:a=none->cap=0
 at_:rows≠[]->a=some ⟨b,off,none⟩/\b<w.heap.size
 hsz:∀row∈rows,row.length=sz
 cell:∀(i j:Nat)(c:AV),Qt rows i j=some c->w.cell? ⟨b,off+i*sz+j,none⟩=some (cv i j)/\γ.ro b (off+i*sz+j)/\(cv i j).oneCell'=true
 rep:∀(i j:Nat)(c:AV),Qt rows i j=some c->aB w γ.dg c (cv i j)
def qp.mk'{w:World}{γ:G}{rows:List (List AV)}{a:Option Addr}{cap b off sz:Nat}{cv:Nat->Nat->Value}(h:qp w γ rows a cap b off sz cv){rt:Rt}(aS:tL w γ a rows.length cap sz rt):
  aB w γ (.sl rt rows) (.slice a rows.length cap):=.sl b off sz cv h.hcap h.hnil h.at_ h.hsz h.cell h.rep aS
def aB.b9{w:World}{γ:G}{v:Value}{rt:Rt}{rows:List (List AV)}(h:aB w γ (.sl rt rows) v):∃(a:Option Addr)(cap b off sz:Nat)(cv:Nat->Nat->Value),
  v=.slice a rows.length cap/\qp w γ rows a cap b off sz cv/\tL w γ a rows.length cap sz rt:=by
 obtain⟨a,cap,b,off,sz,cv,h0,h1,h2,h3,h4,h5,h6,h7⟩:=h.VU;exact⟨a,cap,b,off,sz,cv,h0,⟨h1,h2,h3,h4,h5,h6⟩,h7⟩
def qp.cells{w:World}{γ:G}{rows:List (List AV)}{a:Option Addr}{cap b off sz:Nat}{cv:Nat->Nat->Value}(h:qp w γ rows a cap b off sz cv):
  ∀k u,(Ve rows.length sz cv)[k]?=some u->w.cell? ((⟨b,off,none⟩:Addr).add k)=some u:=fun k u hu=>by
 obtain⟨hk,rfl⟩:=qN hu;obtain⟨c,hc⟩:=vQ h.hsz hk;have:=(h.cell _ _ c hc).1
 have h0:0<sz:=by
  rcases zzcl sz with h|h;· subst h;simp at hk
  · exact h
 rw[bw];rw[<- this]
 have e:off+k=off+k/sz*sz+k%sz:=by
  have:=zzgy k sz;rw[zzed]at this;omega
 rw[e]
def qp.one{w:World}{γ:G}{rows:List (List AV)}{a:Option Addr}{cap b off sz:Nat}{cv:Nat->Nat->Value}(h:qp w γ rows a cap b off sz cv):
  ∀u∈Ve rows.length sz cv,u.oneCell'=true:=fun u hu=>by
 obtain⟨k,hk⟩:=zzcd.1 hu;obtain⟨zn,rfl⟩:=qN hk;obtain⟨c,hc⟩:=vQ h.hsz zn;exact(h.cell _ _ c hc).2.2
def qp.first{P:Program}{w:World}{γ:G}{rows:List (List AV)}{a:Option Addr}{cap b off sz:Nat}{cv:Nat->Nat->Value}(h:qp w γ rows a cap b off sz cv){w':World}(hw:∀x,w'.cell? x=w.cell? x):
  (Builtin.firstCells sz rows.length (.slice a rows.length cap)).run P w'=.ok (Ve rows.length sz cv).toArray w':=by
 cases hr:rows with
 |nil=>
  subst hr;cases a with
  |none=>simp[Builtin.firstCells,Ve]
  |some a=>simp[Builtin.firstCells,loadCells,loadCellsFrom,Ve]
 |cons r rs=>
  rw[<- hr];obtain⟨rfl,_⟩:=h.at_ (by rw[hr];simp);exact run_firstCells_some w' sz rows.length _ rows.length cap _ (Zd _ _ _) fun j u hj=>by rw[hw];exact h.cells j u hj
def Qcw(n:Nat)(cv gJ:Nat->Nat->Value):Nat->Nat->Value:=fun i j=>if i<n then cv i j else gJ (i-n) j
def Us{rows aC:List (List AV)}{i j:Nat}{c:AV}(h:Qt (rows++aC) i j=some c):
  (i<rows.length/\Qt rows i j=some c)\/(rows.length<=i/\Qt aC (i-rows.length) j=some c):=by
 unfold Qt at*
 rcases zzaa i rows.length with hi|hi
 ·rw[zzag hi]at h;exact .inl ⟨hi,h⟩
 rw[zzan hi]at h;exact .inr ⟨hi,h⟩
def nx{rows:List (List AV)}{i j:Nat}{c:AV}(h:Qt rows i j=some c):∃hi:i<rows.length,j<rows[i].length:=by
 unfold Qt at h;cases hr:rows[i]? with
 |none=>simp[hr]at h
 |some row=>
  obtain⟨hi,rfl⟩:=zza.1 hr;simp[hr]at h;exact⟨hi,(zza.1 h).1⟩
def Az(n:Nat):∀(k c:Nat),c<n->Builtin.growBy n k c<=n+n/4+192
 |0,c,h=>by simp only[Builtin.growBy];omega
 |k+1,c,h=>by
  simp only[Builtin.growBy];rw[if_neg (by omega)];by_cases h2:c+(c+768)/4<n
  ·exact Az n k _ h2
  cases k with
  |zero=>simp only[Builtin.growBy];omega
  |succ k=>simp only[Builtin.growBy];rw[if_pos (by omega)];omega
def JY{n c:Nat}(h:c<n):2*Builtin.nextslicecap n c<=3*n+4000:=by
 unfold Builtin.nextslicecap;split
 ·omega
 split
 ·omega
 have:=Az n 4 c h;omega
section run
variable {P:Program} {w:World} {γ:G} {t ty e:TypeId} {i:TypeInfo} {z:Value} {rows aC:List (List AV)} {a a2:Option Addr} {cap b off cc b2 gG sz:Nat} {cv gJ:Nat->Nat->Value}
def Qec(ht:P.underlying t=some (.slice e))(hi:P.info? e=some i)(a2:Option Addr)(cc len:Nat)(hcap:len<=cap):
  (Builtin.append_ #[t,t] ty #[.slice a len cap,.slice a2 0 cc]).run P w=.ok (.slice a len cap) w:=by
 cases a<;>cases a2<;>simp[Builtin.append_,run_underlying ht,sizeOf,typeInfo,hi,Builtin.lenOf,hcap,Builtin.firstCells,loadCells,loadCellsFrom,storeCells]
def oM(ht:P.underlying t=some (.slice e))(hi:P.info? e=some i)(hz:i.zero=some z)(h:qp w γ rows a cap b off i.size cv){γ2:G}(h2:qp w γ2 aC a2 cc b2 gG i.size gJ)
  (hg:cap<rows.length+aC.length)(cH:(3*(rows.length+aC.length)+4000)*i.bytes<=562949953421312)(vR:rows.length+aC.length<=9223372036854775807):
  ∃aX,rows.length+aC.length<=aX/\(Builtin.append_ #[t,t] ty #[.slice a rows.length cap,.slice a2 aC.length cc]).run P w=
   .ok (.slice (some ⟨w.heap.size,0,none⟩) (rows.length+aC.length) aX)
    (w.drew.alloc (.cells ((Ve rows.length i.size cv).toArray++(Ve aC.length i.size gJ).toArray++Builtin.zeroCells z.cells (aX-(rows.length+aC.length))) e)):=by
 have hn:¬(rows.length+aC.length<=cap):=by omega
 have alz:¬(9223372036854775807<((rows.length:Int)+(aC.length:Int))):=by omega
 have bZ:=JY hg
 have alA:¬(281474976710656<Builtin.nextslicecap (rows.length+aC.length) cap*i.bytes):=by
  have:2*Builtin.nextslicecap (rows.length+aC.length) cap*i.bytes<=(3*(rows.length+aC.length)+4000)*i.bytes:=zzb _ (by omega);rw[Nat.mul_assoc]at this;omega
 have f1:=h.first (P:=P) (w':=w.drew) fun _=>rfl
 have f2:=h2.first (P:=P) (w':=w.drew) fun _=>rfl
 refine⟨grownCap w (rows.length+aC.length) cap e,grownCap_ge w _ _ _,?_⟩;simp[Builtin.append_,run_underlying ht,sizeOf,typeInfo,zeroValue,hi,hz,Builtin.lenOf,hn,alz,alA,Question.forced,f1,f2,newRow,grownCap];congr 2;apply Array.ext';simp[zzax]
def Cu(ht:P.underlying t=some (.slice e))(hi:P.info? e=some i)(h2:qp w γ aC a2 cc b2 gG i.size gJ){len:Nat}
  (cC:len+aC.length<=cap){arr:Array Value}{e':TypeId}(hh:w.heap[b]?=some (.cells arr e' (0,0)))(hsz:off+cap*i.size<=arr.size):
  (
   Builtin.append_ #[t,t] ty #[.slice (some ⟨b,off,none⟩) len cap,.slice a2 aC.length cc]).run P w=
   .ok (.slice (some ⟨b,off,none⟩) (len+aC.length) cap) (w.setCells b (off+len*i.size) (Ve aC.length i.size gJ)):=by
 have f2:=h2.first (P:=P) (w':=w) fun _=>rfl
 have bZ:(len+aC.length)*i.size<=cap*i.size:=zzb _ cC;rw[zzbp]at bZ
 have cm:=run_storeCells_cells (P:=P) b (off+len*i.size) (Ve aC.length i.size gJ) 0 w (fun j hj=>by
   rw[Zd]at hj;rw[aL hh,zzco,zzai (by omega)];rfl)
  (fun j hj=>Zo hh) h2.one
 simp only[zzco]at cm;simp[Builtin.append_,run_underlying ht,sizeOf,typeInfo,hi,Builtin.lenOf,cC,f2,bw,cm]
end run
open Go Go.RowKit
variable {N:Nat} {w0:iy} {aq:Nat->Nat->Prop} {γ:G} {w:World} {B:Nat->Option (List AV)} {L:Nat->Option Nat}
def qp.fix{rows:List (List AV)}{a:Option Addr}{cap b off sz gF:Nat}{cv:Nat->Nat->Value}(h:qp w γ rows a cap b off gF cv)(hr:∀row∈rows,row.length=sz):qp w γ rows a cap b off sz cv:=by
 cases eu:rows with
 |nil=>
  subst eu;exact⟨h.hcap,h.hnil,h.at_,hr,fun i j c hc=>by simp[Qt]at hc,fun i j c hc=>by simp[Qt]at hc⟩
 |cons r rs=>
  have e:gF=sz:=(h.hsz r (by simp[eu])).symm.trans (hr r (by simp[eu]));rw[<- eu];subst e;exact h
def qp.mono{rows:List (List AV)}{a:Option Addr}{cap b off sz:Nat}{cv:Nat->Nat->Value}(h:qp w γ rows a cap b off sz cv){w':World}{γ':G}(e:Ev w γ w' γ'):qp w' γ' rows a cap b off sz cv:=by
 obtain⟨a',ayd,b',ny,gF,cv',e0,h1,h2⟩:=((h.mk' (rt:=.ro) trivial).mono e).b9;refine⟨h.hcap,h.hnil,fun hn=>⟨(h.at_ hn).1,zzbb (h.at_ hn).2 e.size⟩,h.hsz,fun i j c hc=>?_,fun i j c hc=>(h.rep i j c hc).mono e.dg⟩;have hb:=(h.at_ (by rintro rfl;simp[Qt]at hc)).2;obtain⟨g1,g2,g3⟩:=h.cell i j c hc;exact⟨(e.ro _ _ hb g2).2.trans g1,(e.ro _ _ hb g2).1,g3⟩
def qp.EW{rows aC:List (List AV)}{a a2:Option Addr}{cap b off cc b2 gG sz:Nat}{cv gJ:Nat->Nat->Value}(h:qp w γ rows a cap b off sz cv){γ2:G}(h2:qp w γ2 aC a2 cc b2 gG sz gJ)(iz:∀i j c,Qt aC i j=some c->aB w γ.dg c (gJ i j))
  {w':World}{γ':G}(e:Ev w γ w' γ'){nb:Nat}{rest:Array Value}{te:TypeId}
  (hh:w'.heap[nb]?=some (.cells ((Ve rows.length sz cv).toArray++(Ve aC.length sz gJ).toArray++rest) te (0,0)))
  (dQ:∀o,o<(rows.length+aC.length)*sz->γ'.ro nb o){aX:Nat}(hcap:rows.length+aC.length<=aX):
  qp w' γ' (rows++aC) (some ⟨nb,0,none⟩) aX nb 0 sz (Qcw rows.length cv gJ):=by
 refine⟨by simpa using hcap,fun hn=>(by cases hn),fun _=>⟨rfl,aT hh⟩,fun row hr=>?_,fun i j c hc=>?_,fun i j c hc=>?_⟩
 ·rcases zzao.1 hr with hr|hr
  ·exact h.hsz row hr
  exact h2.hsz row hr
 ·obtain⟨hi,hj⟩:=nx hc
  have N1:j<sz:=by
   rcases zzao.1 (zzdj hi)with hr|hr
   ·rw[h.hsz _ hr]at hj;exact hj
   rw[h2.hsz _ hr]at hj;exact hj
  have ai:i*sz+j<(rows.length+aC.length)*sz:=by
   have:(i+1)*sz<=(rows.length+aC.length)*sz:=zzb _ (by simp at hi;omega);rw[zzbp,zzdo]at this;omega
  rw[zzbu];refine⟨?_,dQ _ ai,?_⟩
  ·rw[aL hh];rcases Us hc with⟨h1,h3⟩|⟨h1,h3⟩
   ·have:=vP rows.length sz cv h1 N1;have hl:i*sz+j<(Ve rows.length sz cv).length:=(zza.1 this).1;rw[Array.append_assoc,zzey (by simpa using hl)];simp[Qcw,h1,this]
   have h4:i-rows.length<aC.length:=(nx h3).1;have:=vP aC.length sz gJ h4 N1
   have e1:i*sz+j=rows.length*sz+((i-rows.length)*sz+j):=by
    rw[Nat.sub_mul];have:rows.length*sz<=i*sz:=zzb _ h1;omega
   have hl:(i-rows.length)*sz+j<(Ve aC.length sz gJ).length:=(zza.1 this).1;rw[Array.append_assoc,Array.getElem?_append_right (by simp[Zd];omega)];rw[zzey (by simp[Zd]at hl |-;omega)];have e2:i*sz+j-rows.length*sz=(i-rows.length)*sz+j:=by omega
   simp only[zzem,Zd,e2,List.getElem?_toArray,this,Qcw,if_neg (zzbl.2 h1)]
  unfold Qcw;rcases Us hc with⟨h1,h3⟩|⟨h1,h3⟩
  ·rw[if_pos h1];exact(h.cell i j c h3).2.2
  rw[if_neg (zzbl.2 h1)];exact(h2.cell _ j c h3).2.2
 unfold Qcw;rcases Us hc with⟨h1,h3⟩|⟨h1,h3⟩
 ·rw[if_pos h1];exact(h.rep i j c h3).mono e.dg
 rw[if_neg (zzbl.2 h1)];exact(iz _ j c h3).mono e.dg
def Yi(w:World)(o:Obj):(w.drew.alloc o).heap[w.heap.size]?=some o:=by
 show(w.heap.push o)[w.heap.size]?=some o;simp
def tN(w:World)(o:Obj):w.heap.size<(w.drew.alloc o).heap.size:=by
 show _<(w.heap.push o).size;simp
def qO(w:World)(o:Obj):Below w.heap.size w (w.drew.alloc o):=
 ((Below.refl w.heap.size w).drew).alloc (zzab _) o
section
variable {P:Program} {t ty e:TypeId} {i:TypeInfo} {z:Value} {rows aC:List (List AV)} {rt JZ:Rt} {v1 v2:Value}
def alB(hm:au N w0 aq γ w B L)(ht:P.underlying t=some (.slice e))(hi:P.info? e=some i)(hz:i.zero=some z)(h1:aB w γ (.sl .full rows) v1)(h2:aB w γ (.sl JZ aC) v2)
  (hr:∀row∈rows++aC,row.length=i.size)(cH:(3*(rows.length+aC.length)+4000)*i.bytes<=562949953421312)(vR:rows.length+aC.length<=9223372036854775807):
  ∃v w' γ',(Builtin.append_ #[t,t] ty #[v1,v2]).run P w=.ok v w'/\Ev w γ w' γ'/\au N w0 aq γ' w' B L/\aB w' γ' (.sl .ro (rows++aC)) v:=by
 obtain⟨a,cap,b,off,sz,cv,rfl,s1,r1⟩:=h1.b9;obtain⟨a2,cc,b2,gG,sz2,gJ,rfl,s2,r2⟩:=h2.b9;replace s1:=s1.fix (sz:=i.size) fun row h=>hr row (by simp[h]);replace s2:=s2.fix (sz:=i.size) fun row h=>hr row (by simp[h]);by_cases hn:aC=[]
 ·subst hn;refine⟨_,w,γ,Qec ht hi _ _ _ s1.hcap,Ev.refl _ _,hm,?_⟩;rw[zzat];exact s1.mk' trivial
 have eZ:0<aC.length:=zzcw.2 hn;have hcap:cap=rows.length:=r1;obtain⟨aX,bZ,aZ⟩:=oM (P:=P) (ty:=ty) ht hi hz s1 s2 (by omega) cH vR;have hb:=qO w (.cells ((Ve rows.length i.size cv).toArray++(Ve aC.length i.size gJ).toArray++Builtin.zeroCells z.cells (aX-(rows.length+aC.length))) e);refine⟨_,_,_,aZ,hm.dw hb,hm.grow hb,?_⟩;have hj:=s1.EW s2 s2.rep (hm.dw hb) (nb:=w.heap.size) (te:=e) (Yi w _) (fun o _=>.inr ⟨zzab _,tN w _⟩) bZ;have:=hj.mk' (rt:=.ro) trivial;rwa [zzah]at this
def G.mark(γ:G)(id n:Nat):G:={γ with cur:=fun i=>if i=id then n else γ.cur i}
def au.oN(hm:au N w0 aq γ w B L){id n:Nat}(hn:γ.cur id<=n)(h0:γ.cur id=n\/γ.own id=none):Ev w γ w (γ.mark id n) where
 size:=zzab _
 ro _ _ _ h:=⟨h,rfl⟩
 β _ _ h:=h
 cur j:=by simp only[G.mark];split<;>simp_all
 mm _ _ h:=h
 lp:=rfl
 own j b _ ho:=⟨ho,fun arr _ h=>⟨arr,h,zzab _⟩,fun _ h=>h⟩
 sp _ h:=⟨h,rfl⟩
 ss:=Sz.refl w
def au.mark(hm:au N w0 aq γ w B L){id n:Nat}(hn:γ.cur id<=n)(h0:γ.cur id=n\/γ.own id=none):au N w0 aq (γ.mark id n) w B (fun i=>if i=id then some n else L i) where
 bs:=w0.st _ _ _ _ hm.bs ⟨rfl,rfl,rfl,zzab _,fun _ _ _=>rfl,fun _ _ _ h=>⟨h,rfl⟩,fun _ hb=>.inl hb,fun _ _ h=>.inl h⟩
 hN:=hm.hN
 aq:=hm.aq
 robd:=hm.robd
 box j cs b hb h1:=by
  obtain⟨arr,e,h2,h3,h4⟩:=hm.box j cs b hb h1;exact⟨arr,e,h2,h3.mono (hm.oN hn h0),h4⟩
 β:=hm.β
 inj:=hm.inj
 own j b hb:=by
  obtain⟨h1,h2,k,hk⟩:=hm.own j b hb;refine⟨h1,h2,?_⟩;by_cases hj:j=id
  ·exact⟨n,by simp[hj]⟩
  exact⟨k,by simp[hj,hk]⟩
 oinj:=hm.oinj
 sp:=hm.sp
 mm i b hb:=by
  obtain⟨h1,h2,h3,h4,h5,h6,h8,h7⟩:=hm.mm i b hb;exact⟨h1,h2,h3,h4,h5,h6,h8,h7.mono (hm.oN hn h0).dJ.D8 rfl⟩
 minj:=hm.minj
 len j k hj:=by
  by_cases h:j=id
  ·simp[h]at hj;simp[G.mark,h,hj]
  simp[h]at hj;simp[G.mark,h,hm.len j k hj]
 cur0 j hj:=by
  by_cases h:j=id
  ·simp[h]at hj
  simp[h]at hj;simp[G.mark,h,hm.cur0 j hj]
def vS(hm:au N w0 aq γ w B L)(ht:P.underlying t=some (.slice e))(hi:P.info? e=some i)(hz:i.zero=some z)(Cv:z.cells.size=i.size){id:Nat}
  (h1:(aB w γ (.sl .full rows) v1/\L id=none)\/(aB w γ (.sl (.own id i.size) rows) v1/\L id=some rows.length)){γ2:G}{a2:Option Addr}{cc b2 gG:Nat}{gJ:Nat->Nat->Value}(s2:qp w γ2 aC a2 cc b2 gG i.size gJ)(iz:∀i j c,Qt aC i j=some c->aB w γ.dg c (gJ i j))
  (hr:∀row∈rows++aC,row.length=i.size)(cH:(3*(rows.length+aC.length)+4000)*i.bytes<=562949953421312)(vR:rows.length+aC.length<=9223372036854775807):
  ∃v w' γ',(Builtin.append_ #[t,t] ty #[v1,.slice a2 aC.length cc]).run P w=.ok v w'/\Ev w γ w' γ'/\au N w0 aq γ' w' B (fun j=>if j=id then some (rows.length+aC.length)else L j)/\aB w' γ' (.sl (.own id i.size) (rows++aC)) v:=by
 have key:∃a cap b off cv,v1=.slice a rows.length cap/\qp w γ rows a cap b off i.size cv/\γ.cur id<=rows.length/\(γ.cur id=rows.length\/γ.own id=none)/\(cap=rows.length\/(mC w γ a id rows.length cap i.size/\γ.cur id=rows.length)):=by
  obtain⟨h1,hL⟩|⟨h1,hL⟩:=h1
  ·obtain⟨a,cap,b,off,sz,cv,rfl,s1,r1⟩:=h1.b9
   have eY:γ.own id=none:=by
    cases ho:γ.own id with
    |none=>rfl
    |some b=>obtain⟨_,_,n,hn⟩:=hm.own id b ho;rw[hL]at hn;cases hn
   exact⟨a,cap,b,off,cv,rfl,s1.fix fun row h=>hr row (by simp[h]),by rw[hm.cur0 id hL];exact zzbz _,.inr eY,.inl r1⟩
  obtain⟨a,cap,b,off,sz,cv,rfl,s1,r1,r2,r3⟩:=h1.b9;subst r1;have hc:=hm.len id _ hL;exact⟨a,cap,b,off,cv,rfl,s1,by omega,.inl hc,(r3 hc.symm).imp_right fun h=>⟨h,hc⟩⟩
 obtain⟨a,cap,b,off,cv,rfl,s1,aew,dA,dm⟩:=key;by_cases hn:aC=[]
 ·subst hn;refine⟨_,w,γ.mark id rows.length,Qec ht hi _ _ _ s1.hcap,hm.oN aew dA,by simpa using hm.mark aew dA,?_⟩;rw[zzat];refine(s1.mono (hm.oN aew dA)).mk' ⟨rfl,by simp[G.mark],fun _=>?_⟩;obtain h|⟨h,hc⟩:=dm
  ·exact .inl h
  refine .inr (h.mono (hm.oN aew dA) ?_);simp[G.mark,hc]
 have eZ:0<aC.length:=zzcw.2 hn;by_cases cC:rows.length+aC.length<=cap
 ·
  obtain h|⟨⟨b',ny,arr,te,ha,ho,hh,hsz,ja⟩,hc⟩:=dm
  ·omega
  subst ha;have aZ:=Cu (P:=P) (ty:=ty) (off:=ny) ht hi s2 cC hh hsz;have hq:ny+(rows.length+aC.length)*i.size=ny+rows.length*i.size+(Ve aC.length i.size gJ).length:=by rw[Zd,zzbp];omega
  have cw:=hm.kT (vs:=Ve aC.length i.size gJ) (n:=rows.length+aC.length) ho (by omega) (fun h=>by omega) hq ja;refine⟨_,_,_,aZ,cw,hm.extend ho (by omega) (fun h=>by omega) hq ja,?_⟩;have hb:b'<w.heap.size:=aT hh;have bZ:(rows.length+aC.length)*i.size<=cap*i.size:=zzb _ cC
  have IA:rows≠[]->b=b'/\off=ny:=fun h=>by
   obtain⟨h1,_⟩:=s1.at_ h;injection h1 with h1;injection h1 with h1 h2;exact⟨h1.symm,h2.symm⟩
  have bJ:∀j(hj:j<(Ve aC.length i.size gJ).length),(w.setCells b' (ny+rows.length*i.size) (Ve aC.length i.size gJ)).cell? ⟨b',ny+rows.length*i.size+j,none⟩=some (Ve aC.length i.size gJ)[j]:=
   World.cell?_setCells_in b' _ _ w fun j hj=>by
    rw[Zd]at hj;rw[aL hh,zzai (by rw[zzbp]at bZ;omega)];rfl
  have hj:qp (w.setCells b' (ny+rows.length*i.size) (Ve aC.length i.size gJ)) (γ.extend id b' (ny+rows.length*i.size) (ny+(rows.length+aC.length)*i.size) (rows.length+aC.length))
    (rows++aC) (some ⟨b',ny,none⟩) cap b' ny i.size (Qcw rows.length cv gJ):=by
   refine⟨by simpa using cC,fun hn=>(by cases hn),fun _=>⟨rfl,by rw[aF];exact hb⟩,hr,fun j k c hc=>?_,fun j k c hc=>?_⟩
   ·rcases Us hc with⟨P6,h3⟩|⟨h1,h3⟩
    ·obtain⟨rfl,rfl⟩:=IA (by rintro rfl;simp at P6);obtain⟨g1,g2,g3⟩:=(s1.mono cw).cell j k c h3;have ej:Qcw rows.length cv gJ j k=cv j k:=by unfold Qcw;rw[if_pos P6]
     rw[ej];exact⟨g1,g2,g3⟩
    obtain⟨hi4,hj4⟩:=nx h3;have hk:k<i.size:=by rw[s2.hsz _ (zzdj hi4)]at hj4;exact hj4
    have hf:=vP aC.length i.size gJ hi4 hk;obtain⟨ai,cD⟩:=zza.1 hf
    have e1:ny+j*i.size+k=ny+rows.length*i.size+((j-rows.length)*i.size+k):=by
     rw[Nat.sub_mul];have:rows.length*i.size<=j*i.size:=zzb _ h1;omega
    simp only[Qcw,if_neg (zzbl.2 h1)];refine⟨?_,?_,(s2.cell _ _ c h3).2.2⟩
    ·rw[e1,bJ _ ai,cD]
    rw[Zd]at ai;exact .inr ⟨rfl,by rw[e1];omega,by rw[e1,zzbp];omega⟩
   unfold Qcw;rcases Us hc with⟨h1,h3⟩|⟨h1,h3⟩
   ·rw[if_pos h1];exact(s1.rep j k c h3).mono cw.dg
   rw[if_neg (zzbl.2 h1)];exact(iz _ k c h3).mono cw.dg
  have:=hj.mk' (rt:=.own id i.size) ⟨rfl,by simp[G.extend],fun _=>.inr ⟨b',ny,_,te,rfl,ho,Xb b' _ _ w arr te _ hh,by rw[Vd];exact hsz,fun o dz dQ=>?_⟩⟩
  ·rwa [zzah]at this
  rw[zzah]at dz;obtain dQ|⟨_,_,h4⟩:=dQ
  ·refine ja o ?_ dQ;have:rows.length*i.size<=(rows.length+aC.length)*i.size:=zzb _ (by omega);omega
  omega
 ·
  obtain⟨aX,bZ,aZ⟩:=oM (P:=P) (ty:=ty) ht hi hz s1 s2 (by omega) cH vR;have IB:=hm.drew;have aK:γ.cur id=rows.length+aC.length->γ.own id=none:=fun h=>by omega
  have hcn:γ.cur id<=rows.length+aC.length:=by omega
  have cw:Ev w γ _ _:=(Ev.drew w γ).trans (IB.fW (q:=(rows.length+aC.length)*i.size) hcn aK (.cells ((Ve rows.length i.size cv).toArray++(Ve aC.length i.size gJ).toArray++Builtin.zeroCells z.cells (aX-(rows.length+aC.length))) e));refine⟨_,_,_,aZ,cw,IB.renew hcn aK _,?_⟩
  have hh:(w.drew.alloc (.cells ((Ve rows.length i.size cv).toArray++(Ve aC.length i.size gJ).toArray++Builtin.zeroCells z.cells (aX-(rows.length+aC.length))) e)).heap[w.heap.size]?=some (.cells ((Ve rows.length i.size cv).toArray++(Ve aC.length i.size gJ).toArray++Builtin.zeroCells z.cells (aX-(rows.length+aC.length))) e (0,0)):=by
   exact Yi w _
  have hj:=s1.EW s2 iz cw (nb:=w.heap.size) hh (fun o ho=>.inr ⟨rfl,ho⟩) bZ;have:=hj.mk' (rt:=.own id i.size) ⟨rfl,by simp[G.renew],fun _=>?_⟩
  ·rwa [zzah]at this
  by_cases hz0:aX=rows.length+aC.length
  ·exact .inl (by simp[hz0])
  refine .inr ⟨w.heap.size,0,_,e,rfl,by simp[G.renew],hh,?_,fun o ho dQ=>?_⟩
  ·simp only[zzen,zzem,Zd,size_zeroCells]
   have P7:aX*i.size=rows.length*i.size+aC.length*i.size+(aX-(rows.length+aC.length))*i.size:=by
    rw[<- zzbp,<- zzbp];congr 1;omega
   rw[Cv,P7];omega
  simp only[zzah,zzbu]at ho;obtain dQ|⟨_,dQ⟩:=dQ
  ·have:=hm.robd _ _ dQ;omega
  omega
def N2(hm:au N w0 aq γ w B L)(ht:P.underlying t=some (.slice e))(hi:P.info? e=some i)(hz:i.zero=some z)(Cv:z.cells.size=i.size){id:Nat}
  (h1:(aB w γ (.sl .full rows) v1/\L id=none)\/(aB w γ (.sl (.own id i.size) rows) v1/\L id=some rows.length))(h2:aB w γ (.sl JZ aC) v2)
  (hr:∀row∈rows++aC,row.length=i.size)(cH:(3*(rows.length+aC.length)+4000)*i.bytes<=562949953421312)(vR:rows.length+aC.length<=9223372036854775807):
  ∃v w' γ',(Builtin.append_ #[t,t] ty #[v1,v2]).run P w=.ok v w'/\Ev w γ w' γ'/\au N w0 aq γ' w' B (fun j=>if j=id then some (rows.length+aC.length)else L j)/\aB w' γ' (.sl (.own id i.size) (rows++aC)) v:=by
 obtain⟨a2,cc,b2,gG,sz2,gJ,rfl,s2,r2⟩:=h2.b9;exact vS hm ht hi hz Cv h1 (s2.fix (sz:=i.size) fun row h=>hr row (by simp[h])) s2.rep hr cH vR
end
open Go Go.RowKit
def Step(N:Nat)(w0:iy)(aq:Nat->Nat->Prop)(P:Program)(o:Oper)(a:Act)(γ:G)(w:World)(B:Nat->Option (List AV))(L:Nat->Option Nat)(r:AV):Prop:=
 ∀(rd:Option Nat)(next:Act->World->Prop)(Q:Exit->Act->World->Prop),(∀v w' γ',Ev w γ w' γ'->au N w0 aq γ' w' B L->aB w' γ' r v->next (a.put o.dst v) w')->o.wpIn (FW rd) 0 P a w next Q
section
variable {N:Nat} {w0:iy} {aq:Nat->Nat->Prop} {γ:G} {w:World} {B:Nat->Option (List AV)} {L:Nat->Option Nat} {P:Program} {o:Oper} {a:Act} {r:AV}
def Qr(hm:au N w0 aq γ w B L){v:Value}(h:(execOp a.eval o).run P w=.ok (.value v) w)(hr:aB w γ r v):Step N w0 aq P o a γ w B L r:=
 fun _ _ _ hk=>Zp h (hk v w γ (Ev.refl _ _) hm hr)
def AA{v:Value}{w':World}{γ':G}(hm:au N w0 aq γ' w' B L)(e:Ev w γ w' γ')(h:(execOp a.eval o).run P w=.ok (.value v) w')(hr:aB w' γ' r v):Step N w0 aq P o a γ w B L r:=
 fun _ _ _ hk=>Zp h (hk v w' γ' e hm hr)
variable {dst:Option Tmp} {ty:TypeId} {pos:String} {after:Array Edge} {guard:Option (Nat×Bool)} {gl:Nat->AV} {orc:Nat->FuncId->List AV->AV} {e:bL->AV} {m:AM}
def Cw{x:AV}{v:Value}{g b:Bool}(h:asB x=some (g,b))(hr:aB w γ x v)(hg:g=true):v=.bool b:=by
 cases x<;>simp[asB]at h
 ·obtain⟨rfl,rfl⟩:=h;exact hr.bA
 rename_i g' y;obtain⟨h1,rfl⟩:=h;rw[hg]at h1;cases g' with
 |false=>cases h1
 |true=>
  cases y<;>simp[isB]at h1;exact(hr.Cs rfl).bA
def P8(hm:au N w0 aq γ w B L){c x y:Operand}(h1:aB w γ (e (aA c)) (a.eval c))(h2:aB w γ (e (aA x)) (a.eval x))(h3:aB w γ (e (aA y)) (a.eval y))
  (hc:(rop P gl orc e m dst (.pick (aA c) (aA x) (aA y))).1):
  Step N w0 aq P ⟨dst,.pick c x y,ty,pos,after,guard⟩ a γ w B L (rop P gl orc e m dst (.pick (aA c) (aA x) (aA y))).2:=by
 simp only[rop]at hc |-
 split at hc
 ·rename_i g0 c' g1 x' g2 y' e1 e2 e3;try simp only[e1,e2,e3]
  obtain⟨hc0,fL,Cx⟩:=hc;have h1:=Cw e1 h1 hc0;cases c' with
  |true=>
   have:=Cw e2 h2 (fL rfl);exact Qr hm (v:=.bool x') (by simp[execOp,h1,asBool,this]) (.bool _)
  |false=>
   have:=Cw e3 h3 (Cx rfl);exact Qr hm (v:=.bool y') (by simp[execOp,h1,asBool,this]) (.bool _)
 exact hc.elim
def P9(hm:au N w0 aq γ w B L)(hB:∀id cells,m.boxes[id]?=some cells->B id=some cells){t:TypeId}{x:Operand}(h1:aB w γ (e (aA x)) (a.eval x))
  (hc:(rop P gl orc e m dst (tr P ⟨dst,.load t x,ty,pos,after,guard⟩)).1):
  Step N w0 aq P ⟨dst,.load t x,ty,pos,after,guard⟩ a γ w B L (rop P gl orc e m dst (tr P ⟨dst,.load t x,ty,pos,after,guard⟩)).2:=by
 simp only[tr]at hc |-
 split at hc
 case h_2=>exact hc.elim
 rename_i i d hi hd;try simp only[hi,hd]
 have main:∀(agg:Bool)(n:Nat),Uq P t=agg->(agg=true->n=i.size)->(rop P gl orc e m dst (.load agg n (aA x))).1->
   Step N w0 aq P ⟨dst,.load t x,ty,pos,after,guard⟩ a γ w B L (rop P gl orc e m dst (.load agg n (aA x))).2:=by
  intro agg n bD hn hc;simp only[rop]at hc |-
  split at hc
  ·rename_i id o' he;try simp only[he]
   rw[he]at h1;obtain⟨b,hb,hv⟩:=h1.dK;cases eD:m.boxes[id]? with
   |none=>
    have e0:m.boxes.getD id []=[]:=by simp[List.getD,eD]
    rw[e0]at hc |-
    obtain⟨v,h2,h3⟩:=Qdr (P:=P) (w:=w) (γ:=γ) (b:=b) (o:=o') (cv:=fun _=>undef) hi hd bD hn (fun j c hj=>by simp at hj) (fun j c hj=>by simp at hj) hc;exact Qr hm (by simp[execOp,hv,h2]) h3
   |some cells=>
    have e0:m.boxes.getD id []=cells:=by simp[List.getD,eD]
    rw[e0]at hc |-
    obtain⟨arr,te,g2,g3,g4⟩:=hm.box id cells b (hB id cells eD) hb
    have cp:∀(j:Nat)(c:AV),(cells.drop o')[j]?=some c->arr[o'+j]?=some (arr.getD (o'+j) undef)/\aB w γ c (arr.getD (o'+j) undef):=fun j c hj=>by
     rw[zzbk]at hj
     have ai:o'+j<arr.size:=by
      have:=(zza.1 hj).1;have h0:=g3.1;simp at h0;omega
     have hu:arr[o'+j]?=some (arr.getD (o'+j) undef):=by simp[ai]
     exact⟨hu,g3.2 _ _ _ hj (by simpa using hu)⟩
    obtain⟨v,h2,h3⟩:=Qdr (P:=P) (w:=w) (γ:=γ) (b:=b) (o:=o') (cv:=fun j=>arr.getD (o'+j) undef) hi hd bD hn (fun j c hj=>by rw[aL g2];exact(cp j c hj).1) (fun j c hj=>(cp j c hj).2) hc;exact Qr hm (by simp[execOp,hv,h2]) h3
  ·rename_i row o' he;try simp only[he]
   rw[he]at h1;obtain⟨b,off,cv,hv,hb,bM,zm⟩:=h1.jc;have cp:∀(j:Nat)(c:AV),(row.drop o')[j]?=some c->row[o'+j]?=some c:=fun j c hj=>by rw[zzbk]at hj;exact hj
   obtain⟨v,h2,h3⟩:=Qdr (P:=P) (w:=w) (γ:=γ) (b:=b) (o:=off+o') (cv:=fun j=>cv (o'+j)) hi hd bD hn
    (fun j c hj=>by rw[zzam];exact(bM _ _ (cp j c hj)).1) (fun j c hj=>(zm _ _ (cp j c hj)).gI) hc
   exact Qr hm (by simp[execOp,hv,h2]) h3
  exact hc.elim
 cases bD:Uq P t with
 |true=>simp only[bD,if_true]at hc |-;exact main true _ bD (fun _=>rfl) hc
 |false=>simp only[bD]at hc |-;exact main false 1 bD (fun h=>by cases h) hc
def J1(hm:au N w0 aq γ w B L){t:TypeId}{x:Operand}{f:Nat}(h1:aB w γ (e (aA x)) (a.eval x))
  (hc:(rop P gl orc e m dst (tr P ⟨dst,.fieldAddr t x f,ty,pos,after,guard⟩)).1):
  Step N w0 aq P ⟨dst,.fieldAddr t x f,ty,pos,after,guard⟩ a γ w B L (rop P gl orc e m dst (tr P ⟨dst,.fieldAddr t x f,ty,pos,after,guard⟩)).2:=by
 simp only[tr]at hc |-
 split at hc
 case h_2=>exact hc.elim
 rename_i fields hu;try simp only[hu]
 split at hc
 case h_2=>exact hc.elim
 rename_i fl fK;try simp only[fK]
 split at hc
 case h_2=>exact hc.elim
 rename_i i hi;try simp only[hi]
 split at hc
 case isTrue=>exact hc.elim
 rename_i hsz;try rw[if_neg hsz]
 simp only[rop]at hc |-
 have aqH:i.size≠0:=by simpa using hsz
 split at hc
 ·rename_i id o' he;try simp only[he]
  rw[he]at h1;obtain⟨b,hb,hv⟩:=h1.dK;exact Qr hm (v:=.pointer (some ⟨b,o'+fl.offset,none⟩)) (by simp[execOp,hv,Instr.fieldAt,run_underlying hu,fK,Instr.sureAddr,fieldPlace,sizeOf,typeInfo,hi,aqH,bw]) (.ptr hb)
 ·rename_i row o' he;try simp only[he]
  rw[he]at h1;obtain⟨b,off,cv,hv,hb,bM,zm⟩:=h1.jc;refine Qr hm (v:=.pointer (some ⟨b,off+(o'+fl.offset),none⟩)) (by simp[execOp,hv,Instr.fieldAt,run_underlying hu,fK,Instr.sureAddr,fieldPlace,sizeOf,typeInfo,hi,aqH,bw,zzam]) (.ep cv hb bM zm)
 exact hc.elim
def J2(hm:au N w0 aq γ w B L){t:TypeId}{x y:Operand}(h1:aB w γ (e (aA x)) (a.eval x))(h2:aB w γ (e (aA y)) (a.eval y))
  (hc:(rop P gl orc e m dst (tr P ⟨dst,.indexAddr t x y,ty,pos,after,guard⟩)).1):
  Step N w0 aq P ⟨dst,.indexAddr t x y,ty,pos,after,guard⟩ a γ w B L (rop P gl orc e m dst (tr P ⟨dst,.indexAddr t x y,ty,pos,after,guard⟩)).2:=by
 simp only[tr]at hc |-
 split at hc
 ·rename_i te hu;try simp only[hu]
  split at hc
  case h_2=>exact hc.elim
  rename_i i hi;try simp only[hi]
  simp only[rop]at hc |-
  split at hc
  case h_3=>exact hc.elim
  case h_2=>
   rename_i id off len gF k n e1 e2;try simp only[e1,e2]
   rw[e1]at h1;rw[e2]at h2;obtain⟨b,cap,arr,J3,hb,hv,hl,hh,hs⟩:=h1.cM;obtain⟨⟨eV,qM⟩,rfl⟩:=hc;refine Qr hm (v:=.pointer (some ⟨b,off+n.toNat*i.size,none⟩)) ?_ (.ptr hb);simp[execOp,hv,h2.aG,Instr.indexAt,run_underlying hu,asIntOf,eV,qM,sizeOf,typeInfo,hi,bw]
  rename_i rt rows k n e1 e2;try simp only[e1,e2]
  rw[e1]at h1;rw[e2]at h2;obtain⟨a',cap,b,off,sz,cv,hv,s,_⟩:=h1.b9;obtain⟨⟨eV,qM⟩,aH⟩:=hc;have ai:n.toNat<rows.length:=by omega
  have cU:rows.getD n.toNat []∈rows:=by simp[List.getD,ai]
  have hsz:sz=i.size:=(s.hsz _ cU).symm.trans aH;subst hsz;obtain⟨ha,hb⟩:=s.at_ (by rintro rfl;simp at ai)
  have oz:∀(j:Nat)(c:AV),(rows.getD n.toNat [])[j]?=some c->Qt rows n.toNat j=some c:=fun j c hj=>by
   simp[Qt,List.getD,ai]at hj |-;exact hj
  refine Qr hm (v:=.pointer (some ⟨b,(off+n.toNat*i.size)+0,none⟩)) ?_ (.ep (off:=off+n.toNat*i.size) (cv n.toNat) hb (fun j c hj=>s.cell _ j c (oz j c hj)) fun j c hj=>s.rep _ j c (oz j c hj));have nA:n<(rows.length:Int):=qM;simp[execOp,hv,h2.aG,ha,Instr.indexAt,run_underlying hu,asIntOf,eV,nA,sizeOf,typeInfo,hi,bw]
 ·rename_i len te hu;try simp only[hu]
  split at hc
  case h_2=>exact hc.elim
  rename_i i hi;try simp only[hi]
  simp only[rop]at hc |-
  split at hc
  ·rename_i id o' k n e1 e2;try simp only[e1,e2]
   rw[e1]at h1;rw[e2]at h2;obtain⟨b,hb,hv⟩:=h1.dK;obtain⟨eV,qM⟩:=hc;refine Qr hm (v:=.pointer (some ⟨b,o'+n.toNat*i.size,none⟩)) ?_ (.ptr hb);simp[execOp,hv,h2.aG,Instr.indexAt,Instr.sureAddr,run_underlying hu,asIntOf,eV,qM,sizeOf,typeInfo,hi,bw]
  ·rename_i row o' k n e1 e2;try simp only[e1,e2]
   rw[e1]at h1;rw[e2]at h2;obtain⟨b,off,cv,hv,hb,bM,zm⟩:=h1.jc;obtain⟨eV,qM⟩:=hc;refine Qr hm (v:=.pointer (some ⟨b,off+(o'+n.toNat*i.size),none⟩)) ?_ (.ep cv hb bM zm);simp[execOp,hv,h2.aG,Instr.indexAt,Instr.sureAddr,run_underlying hu,asIntOf,eV,qM,sizeOf,typeInfo,hi,bw,zzam]
  exact hc.elim
 exact hc.elim
end
end Go.Abs
