import Derived.Test.YtfliagpjbbkijaaGreatDoorVAMA
set_option linter.all false
namespace Go.Abs
open Go Go.RowKit
section inv
variable {w:World} {γ:G} {v:Value}
def au.bz{b:Bool}(h:au w γ (.bool b) v):v=.bool b:=by cases h;rfl
def au.aI{k:IntKind}{n:Int}(h:au w γ (.int k n) v):v=.int k n:=by cases h;rfl
def au.cE{s:ByteArray}(h:au w γ (.str s) v):v=.string s:=by cases h;rfl
def au.PI(h:au w γ .nilfn v):v=.nilFunc:=by cases h;rfl
def au.dN{id o:Nat}(h:au w γ (.ptr id o) v):∃b,γ.β id=some b/\v=.pointer (some ⟨b,o,none⟩):=by cases h with|ptr h=>exact⟨_,h,rfl⟩
def au.dg{id off len sz:Nat}(h:au w γ (.bs id off len sz) v):∃(b cap:Nat)(arr:PP)(e:TypeId),γ.β id=some b/\v=.slice (some ⟨b,off,none⟩) len cap/\len<=cap/\
  w.heap[b]?=some (.cells arr e (0,0))/\off+cap*sz<=arr.size:=by
 cases h with|bs h hl hh hs=>exact⟨_,_,_,_,h,rfl,hl,hh,hs⟩
def au.CS{g:Bool}{a:AV}(h:au w γ (.gd g a) v)(hg:g=true):au w γ a v:=by cases h with|gd h _=>exact h hg
def au.NO{a:AV}(h:au w γ (.gd false a) v):v=undef:=by cases h with|gd _ h=>exact h rfl
def au.dO{cs:PQ}(h:au w γ (.agg cs) v):∃arr:PP,v=.agg arr/\ak w γ cs arr.toList:=by
 cases h with
 |@agg _ _ arr hl h=>exact⟨arr,rfl,Pi hl,fun i a v h1 h2=>h i a v h1 (Pi h2)⟩
def au.CT{cs:PQ}(h:au w γ (.aQ cs) v):∃arr:PP,v=.tuple arr/\ak w γ cs arr.toList:=by
 cases h with
 |@aQ _ _ arr hl h=>exact⟨arr,rfl,Pi hl,fun i a v h1 h2=>h i a v h1 (Pi h2)⟩
def au.mX{f:FuncId}{first cap:PQ}(h:au w γ (.fn f first cap) v):∃fa ca:PP,v=.func (.func f) fa ca/\ak w γ first fa.toList/\ak w γ cap ca.toList:=by
 cases h with
 |@fn _ _ _ _ fa ca hl h fG h'=>exact⟨fa,ca,rfl,⟨Pi hl,fun i a v h1 h2=>h i a v h1 (Pi h2)⟩,⟨Pi fG,fun i a v h1 h2=>h' i a v h1 (Pi h2)⟩⟩
def au.gE{row:PQ}{o:Nat}(h:au w γ (.ep row o) v):∃(b off:Nat)(cv:Nat->Value),v=.pointer (some ⟨b,off+o,none⟩)/\b<w.heap.size/\
  (∀(j:Nat)(c:AV),row[j]?=some c->w.cell? ⟨b,off+j,none⟩=some (cv j)/\γ.ro b (off+j)/\(cv j).oneCell'=true)/\(∀(j:Nat)(c:AV),row[j]?=some c->au w γ.cW c (cv j)):=by
 cases h with
 |@ep _ _ _ b off cv hb hc h=>exact⟨b,off,cv,rfl,hb,hc,h⟩
def au.JY{rt:Rt}{rows:X2}(h:au w γ (.sl rt rows) v):∃(a:Option Addr)(cap b off sz:Nat)(cv:Nat->Nat->Value),v=.slice a rows.length cap/\
  rows.length<=cap/\(a=none->cap=0)/\(rows≠[]->a=some ⟨b,off,none⟩/\b<w.heap.size)/\(∀row∈rows,row.length=sz)/\
  (∀(i j:Nat)(c:AV),Qs rows i j=some c->w.cell? ⟨b,off+i*sz+j,none⟩=some (cv i j)/\γ.ro b (off+i*sz+j)/\(cv i j).oneCell'=true)/\
  (∀(i j:Nat)(c:AV),Qs rows i j=some c->au w γ.cW c (cv i j))/\tL w γ a rows.length cap sz rt:=by
 cases h with
 |@sl _ _ _ a cap b off sz cv h1 h2 h3 h4 h5 h6 h7=>exact⟨a,cap,b,off,sz,cv,rfl,h1,h2,h3,h4,h5,h6,h7⟩
end inv
def au.gF{w:World}{γ:G}{a:AV}{v:Value}(h:au w γ.cW a v):au w γ a v:=
 h.eu ⟨zzaa _,fun _ _ _ h=>⟨h,rfl⟩,fun _ _ h=>(by cases h),fun _=>zzbi _,fun _ _ h=>(by cases h),fun _ _ h=>(by cases h),fun _ _ _ h=>(by cases h),Sz.refl w⟩
def ak.agg{w:World}{γ:G}{cs:PQ}{vs:PH}(h:ak w γ cs vs):au w γ (.agg cs) (.agg vs.toArray):=
 .agg (Pi h.1) fun i c v h1 h2=>h.2 i c v h1 (Pi h2)
def ak.PJ{w:World}{γ:G}{cs:PQ}{arr:PP}(h:ak w γ cs arr.toList):au w γ (.agg cs) (.agg arr):=by
 have:=h.agg;simpa using this
def ak.take{w:World}{γ:G}{cs:PQ}{vs:PH}(h:ak w γ cs vs)(n:Nat):ak w γ (cs.take n) (vs.take n):=
 ⟨by simp[h.1],fun i a v h1 h2=>by
  rw[zzbk]at h1 h2;split at h1<;>simp_all;exact h.2 i a v h1 h2⟩
def ak.drop{w:World}{γ:G}{cs:PQ}{vs:PH}(h:ak w γ cs vs)(n:Nat):ak w γ (cs.drop n) (vs.drop n):=
 ⟨by simp[h.1],fun i a v h1 h2=>by
  rw[zzbo]at h1 h2;exact h.2 _ a v h1 h2⟩
def FW(r:Option Nat):Fence:={Fence.wide with round:=r}
section
variable {P:Program} {o:Oper} {a:Act} {w:World} {next:Act->World->Prop} {Q:QR} {r:Option Nat}
def U3{x:Next}{w':World}(h:(execOp a.eval o).run P w=.ok x w')(hx:∀d,x≠.defer d):∀c,o.op≠.defer c:=by
 intro c hc;unfold execOp at h;simp only[hc,Sem.run_bind]at h;cases hr:(resolve a.eval c o.type).run P w with
 |ok d iy=>rw[hr]at h;simp at h;exact hx d h.1.symm
 |halt e iy=>rw[hr]at h;simp at h
def wp_run{x:Next}{w':World}(h:(execOp a.eval o).run P w=.ok x w')(hx:∀d,x≠.defer d)(hn:o.uponIn (FW r) 0 P a next Q (.ok x w')):o.wpIn (FW r) 0 P a w next Q:=by
 refine⟨fun f _=>trivial,?_⟩;rw[Oper.semAt_eq _ _ _ (U3 h hx),h];exact hn
def Zj{v:Value}{w':World}(h:(execOp a.eval o).run P w=.ok (.value v) w')(hn:next (a.put o.dst v) w'):o.wpIn (FW r) 0 P a w next Q:=
 wp_run h (fun _ h=>by cases h) hn
def oM{w':World}(h:(execOp a.eval o).run P w=.ok .skip w')(hn:next (a.put o.dst undef) w'):o.wpIn (FW r) 0 P a w next Q:=
 wp_run h (fun _ h=>by cases h) hn
def Ff{f:FuncId}{args:PP}{w':World}(h:(execOp a.eval o).run P w=.ok (.enter f args) w')(hn:Calls P f args w' fun
   |.returned v,iy=>next (a.put o.dst v) iy
   |.panicked chain,iy=>Q (.panic chain) a iy
   |.outgrown,_=>LetsOut Q):o.wpIn (FW r) 0 P a w next Q:=
 wp_run h (fun _ h=>by cases h) ⟨fun h=>by simp[FW,Fence.wide]at h,callsIn_wide.2 hn⟩
end
def bq(b o n:Nat):(⟨b,o,none⟩:Addr).add n=⟨b,o+n,none⟩:=by
 unfold Addr.add;split<;>simp_all
def Qdd{P:Program}{w:World}{γ:G}{agg:Bool}{n b o:Nat}{t:TypeId}{i:TypeInfo}{d:TypeDesc}(hi:P.info? t=some i)(hd:P.underlying t=some d)(bH:Jh P t=agg)
  (hn:agg=true->n=i.size){cs:PQ}{cv:Nat->Value}(bO:∀(j:Nat)(c:AV),cs[j]?=some c->w.cell? ⟨b,o+j,none⟩=some (cv j))(oN:∀(j:Nat)(c:AV),cs[j]?=some c->au w γ c (cv j))
  (hc:(Ya agg n cs).1):∃v,(Instr.loadAt t (.pointer (some ⟨b,o,none⟩))).run P w=.ok v w/\au w γ (Ya agg n cs).2 v:=by
 obtain⟨h1,h2⟩:=hc;have aH:n<=cs.length:=by rw[zzaq]at h1;omega
 cases agg with
 |false=>
  have qM:=h2 rfl;subst qM;have hz:cs[0]?=some (cs.getD 0 .junk):=by simp[List.getD];cases cs<;>simp_all
  have hc0:=bO 0 _ hz;refine⟨cv 0,?_,?_⟩
  ·unfold Jh at bH;rw[hd]at bH;simp only[zzcl]at hc0;cases d<;>simp at bH<;>simp[Instr.loadAt,Instr.sureAddr,loadVar,isAgg,run_underlying hd,hc0]
  simpa[Ya]using oN 0 _ hz
 |true=>
  have qM:=hn rfl;subst qM
  have hl:(loadCells ⟨b,o,none⟩ i.size).run P w=.ok ((List.range i.size).map cv).toArray w:=by
   refine run_loadCells w _ _ _ fun j hj=>?_;rw[bq];exact bO j _ (zzad zE)
  refine⟨.agg ((List.range i.size).map cv).toArray,?_,?_⟩
  ·unfold Jh at bH;rw[hd]at bH;cases d<;>simp at bH<;>simp[Instr.loadAt,Instr.sureAddr,loadVar,isAgg,run_underlying hd,sizeOf,typeInfo,hi,hl]
  simp only[Ya,if_true];refine ak.agg ⟨by simp;omega,fun j c v dL ot=>?_⟩;rw[zzbk]at dL;split at dL
  ·simp at ot;obtain⟨k,hk,rfl⟩:=ot;rename_i aa;rw[zzel aa]at hk;cases hk;exact oN j c dL
  cases dL
variable {N:Nat} {w0:fc} {an:Nat->Nat->Prop} {γ:G} {w:World} {B:Nat->QQ} {L:Nat->Option Nat}
def uv{a:AV}{v:Value}(h:au w γ a v)(hc:Qw a=true):v.oneCell'=true:=by
 cases a<;>simp[Qw]at hc<;>cases h<;>first|rfl|(rename_i p;cases p<;>rfl)
def ak.map{ro':Nat->Nat->Prop}{as':PQ}{vs:PH}{f:AV->AV}(h:ak w γ as' vs)(hf:∀a∈as',∀v,au w γ a v->au w (G0 ro') (f a) v):ak w (G0 ro') (as'.map f) vs:=
 ⟨Pi h.1,fun i a v h1 h2=>by
  simp at h1;obtain⟨a',h3,rfl⟩:=h1;exact hf a' (zzac h3) v (h.2 i a' v h3 h2)⟩
def ak.vQ{as':PQ}{p:AV->Bool}{a:AV}(ha:a∈as')(hp:p a=true):as'.any p=true:=zzbv.2 ⟨a,ha,hp⟩
def Qdu(sz:Nat):∀(n:Nat)(l:PQ),(aW sz n l).length=n
 |0,_=>rfl
 |n+1,l=>by simp[aW,Qdu sz n]
def AY{sz:Nat}:∀{n:Nat}{l:PQ}{row:PQ},n*sz<=l.length->row∈aW sz n l->row.length=sz
 |0,_,_,_,h=>by cases h
 |n+1,l,row,hl,h=>by
  rw[zzbl,zzdl]at hl;rcases zzao.1 h with rfl|h
  ·simp;omega
  exact AY (by simp;omega) h
def Wi{sz:Nat}{c:AV}:∀{n:Nat}{l:PQ}{i j:Nat},Qs (aW sz n l) i j=some c->i<n/\j<sz/\l[i*sz+j]?=some c
 |0,_,i,j,h=>by simp[Qs,aW]at h
 |n+1,l,0,j,h=>by
  simp only[Qs,aW,List.getElem?_cons_zero,zzcw]at h;rw[zzbk]at h;split at h
  ·rename_i hj;exact⟨zE,hj,Pi h⟩
  cases h
 |n+1,l,i+1,j,h=>by
  have h':Qs (aW sz n (l.drop sz)) i j=some c:=by simpa[Qs,aW]using h
  obtain⟨h1,h2,h3⟩:=Wi h';rw[zzbo]at h3;refine⟨zE,h2,?_⟩;rw[zzbl,zzdl,zzer (i*sz) sz,zzan];exact h3
def Qeb(hm:aq N w0 an γ w B L){m:AM}(hB:∀id cells,m.boxes[id]?=some cells->B id=some cells){ro':Nat->Nat->Prop}(gC:∀b o,γ.ro b o->ro' b o):
  ∀(d:Nat)(a:AV)(v:Value),au w γ a v->(Yf d a=true->∀id b,γ.β id=some b->∀o,ro' b o)->au w (G0 ro') (bE m d a) v:=by
 have aq6:∀(a:AV)(v:Value),au w γ.cW a v->au w (G0 ro') a v:=fun a v h=>
  h.mono ⟨zzaa _,fun b o _ h=>⟨gC b o h,rfl⟩,fun _ _ h=>(by cases h),fun _=>zzaa _,fun _ _ h=>(by cases h),rfl,fun _ _ _ h=>(by cases h),fun _ h=>h.elim,Sz.refl w⟩
 intro d;induction d with
 |zero=>exact fun _ _ _ _=>.junk _
 |succ d ih=>
  intro a v h hp;cases a with
  |junk=>exact .junk _
  |er t a=>cases h with|er hh=>exact .er hh
  |bool b=>rw[h.bz];exact .bool b
  |int k n=>rw[h.aI];exact .int k n
  |str s=>rw[h.cE];exact .str s
  |nilfn=>rw[h.PI];exact .nilfn
  |gd g a=>exact .junk _
  |yld l=>exact .junk _
  |mp id=>exact .junk _
  |nilv p=>cases h;exact .nilv p
  |it id=>exact .junk _
  |aL kn kvs=>exact .junk _
  |mitr mid n s=>exact .junk _
  |agg cs=>
   obtain⟨arr,rfl,hr⟩:=h.dO;refine ak.PJ (hr.map fun a ha v hv=>ih a v hv fun kz=>hp ?_);simp only[Yf];exact ak.vQ ha kz
  |aQ cs=>
   obtain⟨arr,rfl,hr⟩:=h.CT;have:=hr.map (ro':=ro') (f:=bE m d) fun a ha v hv=>ih a v hv fun kz=>hp (by simp only[Yf];exact ak.vQ ha kz);exact .aQ (Pi this.1) fun i c v h1 h2=>this.2 i c v h1 (Pi h2)
  |fn f first cap=>
   obtain⟨fa,ca,rfl,h1,h2⟩:=h.mX;have t1:=h1.map (ro':=ro') (f:=bE m d) fun a ha v hv=>ih a v hv fun kz=>hp (by simp only[Yf];rw[ak.vQ ha kz];rfl);have t2:=h2.map (ro':=ro') (f:=bE m d) fun a ha v hv=>ih a v hv fun kz=>hp (by simp only[Yf];rw[ak.vQ ha kz];simp);exact .fn (Pi t1.1) (fun i c v h1 h2=>t1.2 i c v h1 (Pi h2)) (Pi t2.1) fun i c v h1 h2=>t2.2 i c v h1 (Pi h2)
  |ep row o=>
   obtain⟨b,off,cv,rfl,hb,hc,hr⟩:=h.gE;exact .ep cv hb (fun j c hj=>⟨(hc j c hj).1,gC _ _ (hc j c hj).2.1,(hc j c hj).2.2⟩) fun j c hj=>aq6 _ _ (hr j c hj)
  |sl rt rows=>
   obtain⟨a,cap,b,off,sz,cv,rfl,h1,h2,h3,h4,h5,h6,h7⟩:=h.JY
   have key:∀AZ,tL w (G0 ro') a rows.length cap sz AZ->au w (G0 ro') (.sl AZ rows) (.slice a rows.length cap):=fun AZ bk=>
    .sl b off sz cv h1 h2 h3 h4 (fun i j c hj=>⟨(h5 i j c hj).1,gC _ _ (h5 i j c hj).2.1,(h5 i j c hj).2.2⟩) (fun i j c hj=>aq6 _ _ (h6 i j c hj)) bk
   cases rt with
   |ro=>exact key .ro trivial
   |full=>exact key .full h7
   |nil=>exact key .nil h7
   |nn=>exact key .nn h7
   |own id gA=>exact key .ro trivial
  |bs id off len sz=>
   obtain⟨b,cap,arr,te,hb,rfl,hl,hh,hs⟩:=h.dg;have fI:=hp rfl;obtain⟨_,aa,_⟩:=hm.β id b hb;simp only[bE];cases hble:Nat.ble (off+len*sz) (m.boxes.getD id []).length with
   |false=>exact .junk _
   |true=>
    have cR:=zzhd hble
    have cB:∀(k:Nat)(c:AV),(((m.boxes.getD id []).map (bE m d)).drop off)[k]?=some c->∃c' u,c=bE m d c'/\arr[off+k]?=some u/\arr.getD (off+k) undef=u/\au w γ c' u/\u.oneCell'=true:=fun k c hk=>by
     rw[zzbo,zzbf]at hk;cases gV:m.boxes[id]? with
     |none=>simp[List.getD,gV]at hk
     |some cells=>
      have:m.boxes.getD id []=cells:=by simp[List.getD,gV]
      rw[this]at hk;obtain⟨bN,e',g2,g3,g4⟩:=hm.box id cells b (hB id cells gV) hb;rw[hh]at g2;cases g2;cases hc:cells[off+k]? with
      |none=>simp[hc]at hk
      |some c'=>
       simp[hc]at hk;have h1:=(zza.1 hc).1;have h2:=g3.1;have bK:off+k<arr.size:=by simp at h2;omega
       have hu:arr[off+k]?=some arr[off+k]:=zzag bK;exact⟨c',arr[off+k],hk.symm,hu,by simp[bK],g3.2 _ c' _ hc (by simp[bK]),g4 _ zd⟩
    have aH:=Qdu sz len (((m.boxes.getD id []).map (bE m d)).drop off)
    have hr:au w (G0 ro') (.sl .ro (aW sz len (((m.boxes.getD id []).map (bE m d)).drop off))) (.slice (some ⟨b,off,none⟩) (aW sz len (((m.boxes.getD id []).map (bE m d)).drop off)).length cap):=by
     refine .sl b off sz (fun i j=>arr.getD (off+(i*sz+j)) undef) (by rw[aH];exact hl) (fun h=>by cases h) (fun _=>⟨rfl,aa⟩) (fun row ai=>?_) (fun i j c hc=>?_) (fun i j c hc=>?_) trivial
     ·exact AY (by rw[zzcb,zzbu];omega) ai
     ·obtain⟨_,_,h3⟩:=Wi hc;obtain⟨c',u,rfl,h4,h5,h6,h7⟩:=cB _ _ h3;rw[aN hh,zzan,h5];exact⟨h4,fI id b hb _,h7⟩
     obtain⟨_,_,h3⟩:=Wi hc;obtain⟨c',u,rfl,h4,h5,h6,h7⟩:=cB _ _ h3;rw[UW,h5];exact ih c' u h6 fun _=>fI
    rw[aH]at hr;exact hr
  |ptr id o=>
   obtain⟨b,hb,rfl⟩:=h.dN;have fI:=hp rfl;obtain⟨_,aa,_⟩:=hm.β id b hb;simp only[bE];have hz:(.pointer (some ⟨b,o,none⟩):Value)=.pointer (some ⟨b,0+o,none⟩):=by rw[zzbm]
   rw[hz];cases gV:m.boxes[id]? with
   |none=>
    have:m.boxes.getD id []=[]:=by simp[List.getD,gV]
    rw[this];exact .ep (fun _=>undef) aa (fun j c hj=>by simp at hj) fun j c hj=>by simp at hj
   |some cells=>
    have:m.boxes.getD id []=cells:=by simp[List.getD,gV]
    rw[this];obtain⟨arr,e,g2,g3,g4⟩:=hm.box id cells b (hB id cells gV) hb
    have cB:∀(j:Nat)(c:AV),(cells.map (bE m d))[j]?=some c->∃c' u,cells[j]?=some c'/\c=bE m d c'/\arr[j]?=some u/\arr.getD j undef=u/\au w γ c' u:=fun j c hj=>by
     simp at hj;obtain⟨c',h1,rfl⟩:=hj
     have bK:j<arr.size:=by
      have:=g3.1;rcases zzab j cells.length with h|h
      ·simp at this;omega
      rw[zzau h]at h1;cases h1
     have hu:arr[j]?=some arr[j]:=zzag bK;exact⟨c',arr[j],h1,rfl,hu,by simp[bK],g3.2 j c' _ h1 (by simp[bK])⟩
    refine .ep (fun j=>arr.getD j undef) aa (fun j c hj=>?_) fun j c hj=>?_
    ·obtain⟨c',u,h1,h2,h3,h4,h5⟩:=cB j c hj;rw[zzbm,aN g2,h4];exact⟨h3,fI id b hb j,g4 u (by simpa using zzcx h3)⟩
    obtain⟨c',u,h1,rfl,h3,h4,h5⟩:=cB j c hj;rw[UW,h4];exact ih c' u h5 fun _=>fI
def U4{w':World}{γ':G}{r:AV}{v:Value}(hf:flat r=true)(h:au w γ r v):au w' γ' r v:=by
 have one:∀(a:AV)(v:Value),iU a=true->au w γ a v->au w' γ' a v:=fun a v hf h=>by
  cases a<;>simp[iU]at hf
  ·rw[h.bz];exact .bool _
  ·rw[h.aI];exact .int _ _
  rw[h.cE];exact .str _
 cases r with
 |aQ cs=>
  obtain⟨arr,rfl,hr⟩:=h.CT;simp only[flat]at hf;exact .aQ (Pi hr.1) fun i c v h1 h2=>one c v (zzbe.1 hf c (zzac h1)) (hr.2 i c v h1 (Pi h2))
 |_=>exact one _ _ hf h
def JZ{P:Program}{gl:Nat->AV}(hm:aq N w0 an γ w B L){m:AM}(hB:∀id cells,m.boxes[id]?=some cells->B id=some cells)(eG:∀g,au w γ.cW (gl g) (.pointer (some ⟨g,0,none⟩)))
  {f:FuncId}{as':PQ}{vs:PH}{r:AV}(hr:ak w γ as' vs)(hp:Pure P gl f (as'.map (bE m 6)) r)(gG:as'.any (Yf 6)=true->flat r=true)
  {R:Ending->World->Prop}(hk:∀v w' γ',Ev w γ w' γ'->aq N w0 an γ' w' B L->au w' γ' r v->R (.returned v) w'):Calls P f vs.toArray w R:=by
 let ro':Nat->Nat->Prop:=fun b o=>γ.ro b o\/(as'.any (Yf 6)=true/\∃id,γ.β id=some b)
 have iV:ak w (G0 ro') (as'.map (bE m 6)) vs:=hr.map fun a ha v hv=>Qeb hm hB (fun b o h=>.inl h) 6 a v hv fun kz id b hb o=>.inr ⟨ak.vQ ha kz,id,hb⟩
 have awJ:∀g,au w (G0 ro') (gl g) (.pointer (some ⟨g,0,none⟩)):=fun g=>
  (eG g).mono ⟨zzaa _,fun b o _ h=>⟨.inl h,rfl⟩,fun _ _ h=>(by cases h),fun _=>zzaa _,fun _ _ h=>(by cases h),rfl,fun _ _ _ h=>(by cases h),fun _ h=>h.elim,Sz.refl w⟩
 refine(hp.2 ro' w vs awJ iV).mono ?_;rintro e w' ⟨v,rfl,hb,hv⟩;refine hk v w' _ (hm.cG hb) (hm.grow hb) ?_;cases hany:as'.any (Yf 6)with
 |true=>exact U4 (gG hany) hv
 |false=>
  refine hv.eu ⟨zzaa _,fun b o aa h=>⟨?_,rfl⟩,fun _ _ h=>(by cases h),fun _=>zzbi _,fun _ _ h=>(by cases h),fun _ _ h=>(by cases h),fun _ _ _ h=>(by cases h),Sz.refl w'⟩;obtain(h|⟨h,_⟩)|h:=h
  ·exact .inl h
  ·rw[hany]at h;cases h
  exact .inr ⟨h,aa⟩
def Ve(n sz:Nat)(cv:Nat->Nat->Value):PH:=(List.range (n*sz)).map fun k=>cv (k/sz) (k%sz)
def Zd(n sz:Nat)(cv:Nat->Nat->Value):(Ve n sz cv).length=n*sz:=by simp[Ve]
def qN{n sz:Nat}{cv:Nat->Nat->Value}{k:Nat}{u:Value}(h:(Ve n sz cv)[k]?=some u):k<n*sz/\u=cv (k/sz) (k%sz):=by
 simp only[Ve,zzbf]at h;rcases zzab k (n*sz)with hk|hk
 ·rw[zzel hk]at h;simp at h;exact⟨hk,h.symm⟩
 rw[zzau (Pi hk)]at h;simp at h
def vR(n sz:Nat)(cv:Nat->Nat->Value){i j:Nat}(hi:i<n)(hj:j<sz):(Ve n sz cv)[i*sz+j]?=some (cv i j):=by
 have hk:i*sz+j<n*sz:=by
  have:(i+1)*sz<=n*sz:=zzbb _ hi;rw[zzbl,zzdl]at this;omega
 have h1:(i*sz+j)/sz=i:=by
  rw[zzct,Nat.mul_add_div zE,zzgt hj];rfl
 have h2:(i*sz+j)%sz=j:=by
  rw[zzct,Nat.mul_add_mod,zzdx hj]
 simp[Ve,zzel hk,h1,h2]
def vS{rows:X2}{sz k:Nat}(hsz:∀row∈rows,row.length=sz)(hk:k<rows.length*sz):∃c,Qs rows (k/sz) (k%sz)=some c:=by
 have h0:0<sz:=by
  rcases zzcc sz with h|h;· subst h;simp at hk
  · exact h
 have h1:k/sz<rows.length:=by rw[Nat.div_lt_iff_lt_mul h0];exact hk
 have h2:k%sz<(rows[k/sz]).length:=by rw[hsz _ (zzdg h1)];exact zzds _ h0
 exact⟨rows[k/sz][k%sz],by simp[Qs,h1,h2]⟩
structure qB (w:World) (γ:G) (rows:X2) (a:Option Addr) (cap b off sz:Nat) (cv:Nat->Nat->Value):Prop where
 hcap:rows.length<=cap
 hnil:a=none->cap=0
 at_:rows≠[]->a=some ⟨b,off,none⟩/\b<w.heap.size
 hsz:∀row∈rows,row.length=sz
 cell:∀(i j:Nat)(c:AV),Qs rows i j=some c->w.cell? ⟨b,off+i*sz+j,none⟩=some (cv i j)/\γ.ro b (off+i*sz+j)/\(cv i j).oneCell'=true
 rep:∀(i j:Nat)(c:AV),Qs rows i j=some c->au w γ.cW c (cv i j)
def qB.mk'{w:World}{γ:G}{rows:X2}{a:Option Addr}{cap b off sz:Nat}{cv:Nat->Nat->Value}(h:qB w γ rows a cap b off sz cv){rt:Rt}(bk:tL w γ a rows.length cap sz rt):
  au w γ (.sl rt rows) (.slice a rows.length cap):=.sl b off sz cv h.hcap h.hnil h.at_ h.hsz h.cell h.rep bk
def au.cr{w:World}{γ:G}{v:Value}{rt:Rt}{rows:X2}(h:au w γ (.sl rt rows) v):∃(a:Option Addr)(cap b off sz:Nat)(cv:Nat->Nat->Value),
  v=.slice a rows.length cap/\qB w γ rows a cap b off sz cv/\tL w γ a rows.length cap sz rt:=by
 obtain⟨a,cap,b,off,sz,cv,h0,h1,h2,h3,h4,h5,h6,h7⟩:=h.JY;exact⟨a,cap,b,off,sz,cv,h0,⟨h1,h2,h3,h4,h5,h6⟩,h7⟩
def qB.cells{w:World}{γ:G}{rows:X2}{a:Option Addr}{cap b off sz:Nat}{cv:Nat->Nat->Value}(h:qB w γ rows a cap b off sz cv):
  ∀k u,(Ve rows.length sz cv)[k]?=some u->w.cell? ((⟨b,off,none⟩:Addr).add k)=some u:=fun k u hu=>by
 obtain⟨hk,rfl⟩:=qN hu;obtain⟨c,hc⟩:=vS h.hsz hk;have:=(h.cell _ _ c hc).1
 have h0:0<sz:=by
  rcases zzcc sz with h|h;· subst h;simp at hk
  · exact h
 rw[bq];rw[<- this]
 have e:off+k=off+k/sz*sz+k%sz:=by
  have:=zzgx k sz;rw[zzct]at this;omega
 rw[e]
def qB.one{w:World}{γ:G}{rows:X2}{a:Option Addr}{cap b off sz:Nat}{cv:Nat->Nat->Value}(h:qB w γ rows a cap b off sz cv):
  ∀u∈Ve rows.length sz cv,u.oneCell'=true:=fun u hu=>by
 obtain⟨k,hk⟩:=zzcq.1 hu;obtain⟨zk,rfl⟩:=qN hk;obtain⟨c,hc⟩:=vS h.hsz zk;exact(h.cell _ _ c hc).2.2
def qB.first{P:Program}{w:World}{γ:G}{rows:X2}{a:Option Addr}{cap b off sz:Nat}{cv:Nat->Nat->Value}(h:qB w γ rows a cap b off sz cv){w':World}(hw:∀x,w'.cell? x=w.cell? x):
  (Builtin.firstCells sz rows.length (.slice a rows.length cap)).run P w'=.ok (Ve rows.length sz cv).toArray w':=by
 cases hr:rows with
 |nil=>
  subst hr;cases a with
  |none=>simp[Builtin.firstCells,Ve]
  |some a=>simp[Builtin.firstCells,loadCells,loadCellsFrom,Ve]
 |cons r rs=>
  rw[<- hr];obtain⟨rfl,_⟩:=h.at_ (by rw[hr];simp);exact run_firstCells_some w' sz rows.length _ rows.length cap _ (Zd _ _ _) fun j u hj=>by rw[hw];exact h.cells j u hj
def Qcn(n:Nat)(cv gH:Nat->Nat->Value):Nat->Nat->Value:=fun i j=>if i<n then cv i j else gH (i-n) j
def Uj{rows aC:X2}{i j:Nat}{c:AV}(h:Qs (rows++aC) i j=some c):
  (i<rows.length/\Qs rows i j=some c)\/(rows.length<=i/\Qs aC (i-rows.length) j=some c):=by
 unfold Qs at*
 rcases zzab i rows.length with hi|hi
 ·rw[zzak hi]at h;exact .inl ⟨hi,h⟩
 rw[zzat hi]at h;exact .inr ⟨hi,h⟩
def mY{rows:X2}{i j:Nat}{c:AV}(h:Qs rows i j=some c):∃hi:i<rows.length,j<rows[i].length:=by
 unfold Qs at h;cases hr:rows[i]? with
 |none=>simp[hr]at h
 |some row=>
  obtain⟨hi,rfl⟩:=zza.1 hr;simp[hr]at h;exact⟨hi,(zza.1 h).1⟩
def A0(n:Nat):∀(k c:Nat),c<n->Builtin.growBy n k c<=n+n/4+192
 |0,c,h=>by simp only[Builtin.growBy];omega
 |k+1,c,h=>by
  simp only[Builtin.growBy];rw[if_neg zE];by_cases h2:c+(c+768)/4<n
  ·exact A0 n k _ h2
  cases k with
  |zero=>simp only[Builtin.growBy];omega
  |succ k=>simp only[Builtin.growBy];rw[if_pos zE];omega
def J1{n c:Nat}(h:c<n):2*Builtin.nextslicecap n c<=3*n+4000:=by
 unfold Builtin.nextslicecap;split
 ·omega
 split
 ·omega
 have:=A0 n 4 c h;omega
section run
variable {P:Program} {w:World} {γ:G} {t ty e:TypeId} {i:TypeInfo} {z:Value} {rows aC:X2} {a a2:Option Addr} {cap b off ct b2 gD sz:Nat} {cv gH:Nat->Nat->Value}
def Qdp(ht:P.underlying t=some (.slice e))(hi:P.info? e=some i)(a2:Option Addr)(ct len:Nat)(hcap:len<=cap):
  (Builtin.append_ #[t,t] ty #[.slice a len cap,.slice a2 0 ct]).run P w=.ok (.slice a len cap) w:=by
 cases a<;>cases a2<;>simp[Builtin.append_,run_underlying ht,sizeOf,typeInfo,hi,Builtin.lenOf,hcap,Builtin.firstCells,loadCells,loadCellsFrom,storeCells]
def oO(ht:P.underlying t=some (.slice e))(hi:P.info? e=some i)(hz:i.zero=some z)(h:qB w γ rows a cap b off i.size cv){γ2:G}(h2:qB w γ2 aC a2 ct b2 gD i.size gH)
  (hg:cap<rows.length+aC.length)(cS:(3*(rows.length+aC.length)+4000)*i.bytes<=562949953421312)(vT:rows.length+aC.length<=9223372036854775807):
  ∃bn,rows.length+aC.length<=bn/\(Builtin.append_ #[t,t] ty #[.slice a rows.length cap,.slice a2 aC.length ct]).run P w=
   .ok (.slice (some ⟨w.heap.size,0,none⟩) (rows.length+aC.length) bn)
    (w.drew.alloc (.cells ((Ve rows.length i.size cv).toArray++(Ve aC.length i.size gH).toArray++Builtin.zeroCells z.cells (bn-(rows.length+aC.length))) e)):=by
 have hn:¬(rows.length+aC.length<=cap):=zE
 have alo:¬(9223372036854775807<((rows.length:Int)+(aC.length:Int))):=zE
 have cR:=J1 hg
 have alp:¬(281474976710656<Builtin.nextslicecap (rows.length+aC.length) cap*i.bytes):=by
  have:2*Builtin.nextslicecap (rows.length+aC.length) cap*i.bytes<=(3*(rows.length+aC.length)+4000)*i.bytes:=zzbb _ zE;rw[zzgi]at this;omega
 have f1:=h.first (P:=P) (w':=w.drew) fun _=>rfl
 have f2:=h2.first (P:=P) (w':=w.drew) fun _=>rfl
 refine⟨grownCap w (rows.length+aC.length) cap e,grownCap_ge w _ _ _,?_⟩;simp[Builtin.append_,run_underlying ht,sizeOf,typeInfo,zeroValue,hi,hz,Builtin.lenOf,hn,alo,alp,Question.forced,f1,f2,newRow,grownCap];congr 2;apply Array.ext';simp[zzaz]
def CU(ht:P.underlying t=some (.slice e))(hi:P.info? e=some i)(h2:qB w γ aC a2 ct b2 gD i.size gH){len:Nat}
  (cI:len+aC.length<=cap){arr:PP}{e':TypeId}(hh:w.heap[b]?=some (.cells arr e' (0,0)))(hsz:off+cap*i.size<=arr.size):
  (
   Builtin.append_ #[t,t] ty #[.slice (some ⟨b,off,none⟩) len cap,.slice a2 aC.length ct]).run P w=
   .ok (.slice (some ⟨b,off,none⟩) (len+aC.length) cap) (w.setCells b (off+len*i.size) (Ve aC.length i.size gH)):=by
 have f2:=h2.first (P:=P) (w':=w) fun _=>rfl
 have cR:(len+aC.length)*i.size<=cap*i.size:=zzbb _ cI;rw[zzbl]at cR
 have cc:=run_storeCells_cells (P:=P) b (off+len*i.size) (Ve aC.length i.size gH) 0 w (fun j hj=>by
   rw[Zd]at hj;rw[aN hh,zzcl,zzag zE];rfl)
  (fun j hj=>Zo hh) h2.one
 simp only[zzcl]at cc;simp[Builtin.append_,run_underlying ht,sizeOf,typeInfo,hi,Builtin.lenOf,cI,f2,bq,cc]
end run
variable {N:Nat} {w0:fc} {an:Nat->Nat->Prop} {γ:G} {w:World} {B:Nat->QQ} {L:Nat->Option Nat}
def qB.fix{rows:X2}{a:Option Addr}{cap b off sz gA:Nat}{cv:Nat->Nat->Value}(h:qB w γ rows a cap b off gA cv)(hr:∀row∈rows,row.length=sz):qB w γ rows a cap b off sz cv:=by
 cases ew:rows with
 |nil=>
  subst ew;exact⟨h.hcap,h.hnil,h.at_,hr,fun i j c hc=>by simp[Qs]at hc,fun i j c hc=>by simp[Qs]at hc⟩
 |cons r rs=>
  have e:gA=sz:=(h.hsz r (by simp[ew])).symm.trans (hr r (by simp[ew]));rw[<- ew];subst e;exact h
def qB.mono{rows:X2}{a:Option Addr}{cap b off sz:Nat}{cv:Nat->Nat->Value}(h:qB w γ rows a cap b off sz cv){w':World}{γ':G}(e:Ev w γ w' γ'):qB w' γ' rows a cap b off sz cv:=by
 obtain⟨a',aza,b',mZ,gA,cv',e0,h1,h2⟩:=((h.mk' (rt:=.ro) trivial).mono e).cr;refine⟨h.hcap,h.hnil,fun hn=>⟨(h.at_ hn).1,zzar (h.at_ hn).2 e.size⟩,h.hsz,fun i j c hc=>?_,fun i j c hc=>(h.rep i j c hc).mono e.cW⟩;have hb:=(h.at_ (by rintro rfl;simp[Qs]at hc)).2;obtain⟨g1,g2,g3⟩:=h.cell i j c hc;exact⟨(e.ro _ _ hb g2).2.trans g1,(e.ro _ _ hb g2).1,g3⟩
def qB.Fh{rows aC:X2}{a a2:Option Addr}{cap b off ct b2 gD sz:Nat}{cv gH:Nat->Nat->Value}(h:qB w γ rows a cap b off sz cv){γ2:G}(h2:qB w γ2 aC a2 ct b2 gD sz gH)(gX:∀i j c,Qs aC i j=some c->au w γ.cW c (gH i j))
  {w':World}{γ':G}(e:Ev w γ w' γ'){nb:Nat}{rest:PP}{te:TypeId}
  (hh:w'.heap[nb]?=some (.cells ((Ve rows.length sz cv).toArray++(Ve aC.length sz gH).toArray++rest) te (0,0)))
  (gC:∀o,o<(rows.length+aC.length)*sz->γ'.ro nb o){bn:Nat}(hcap:rows.length+aC.length<=bn):
  qB w' γ' (rows++aC) (some ⟨nb,0,none⟩) bn nb 0 sz (Qcn rows.length cv gH):=by
 refine⟨Pi hcap,fun hn=>(by cases hn),fun _=>⟨rfl,aS hh⟩,fun row hr=>?_,fun i j c hc=>?_,fun i j c hc=>?_⟩
 ·rcases zzap.1 hr with hr|hr
  ·exact h.hsz row hr
  exact h2.hsz row hr
 ·obtain⟨hi,hj⟩:=mY hc
  have NP:j<sz:=by
   rcases zzap.1 (zzdg hi)with hr|hr
   ·rw[h.hsz _ hr]at hj;exact hj
   rw[h2.hsz _ hr]at hj;exact hj
  have aa:i*sz+j<(rows.length+aC.length)*sz:=by
   have:(i+1)*sz<=(rows.length+aC.length)*sz:=zzbb _ (by simp at hi;omega);rw[zzbl,zzdl]at this;omega
  rw[zzbm];refine⟨?_,gC _ aa,?_⟩
  ·rw[aN hh];rcases Uj hc with⟨h1,h3⟩|⟨h1,h3⟩
   ·have:=vR rows.length sz cv h1 NP;have hl:i*sz+j<(Ve rows.length sz cv).length:=(zza.1 this).1;rw[Array.append_assoc,zzfd (Pi hl)];simp[Qcn,h1,this]
   have h4:i-rows.length<aC.length:=(mY h3).1;have:=vR aC.length sz gH h4 NP
   have e1:i*sz+j=rows.length*sz+((i-rows.length)*sz+j):=by
    rw[Nat.sub_mul];have:rows.length*sz<=i*sz:=zzbb _ h1;omega
   have hl:(i-rows.length)*sz+j<(Ve aC.length sz gH).length:=(zza.1 this).1;rw[Array.append_assoc,Array.getElem?_append_right (by simp[Zd];omega)];rw[zzfd (by simp[Zd]at hl |-;omega)];have e2:i*sz+j-rows.length*sz=(i-rows.length)*sz+j:=zE
   simp only[zzeo,Zd,e2,List.getElem?_toArray,this,Qcn,if_neg (zzbn.2 h1)]
  unfold Qcn;rcases Uj hc with⟨h1,h3⟩|⟨h1,h3⟩
  ·rw[if_pos h1];exact(h.cell i j c h3).2.2
  rw[if_neg (zzbn.2 h1)];exact(h2.cell _ j c h3).2.2
 unfold Qcn;rcases Uj hc with⟨h1,h3⟩|⟨h1,h3⟩
 ·rw[if_pos h1];exact(h.rep i j c h3).mono e.cW
 rw[if_neg (zzbn.2 h1)];exact(gX _ j c h3).mono e.cW
def Ye(w:World)(o:Obj):(w.drew.alloc o).heap[w.heap.size]?=some o:=by
 show(w.heap.push o)[w.heap.size]?=some o;simp
def tN(w:World)(o:Obj):w.heap.size<(w.drew.alloc o).heap.size:=by
 show _<(w.heap.push o).size;simp
def qO(w:World)(o:Obj):Below w.heap.size w (w.drew.alloc o):=
 ((Below.refl w.heap.size w).drew).alloc (zzaa _) o
section
variable {P:Program} {t ty e:TypeId} {i:TypeInfo} {z:Value} {rows aC:X2} {rt U5:Rt} {v1 v2:Value}
def alq(hm:aq N w0 an γ w B L)(ht:P.underlying t=some (.slice e))(hi:P.info? e=some i)(hz:i.zero=some z)(h1:au w γ (.sl .full rows) v1)(h2:au w γ (.sl U5 aC) v2)
  (hr:∀row∈rows++aC,row.length=i.size)(cS:(3*(rows.length+aC.length)+4000)*i.bytes<=562949953421312)(vT:rows.length+aC.length<=9223372036854775807):
  ∃v w' γ',(Builtin.append_ #[t,t] ty #[v1,v2]).run P w=.ok v w'/\Ev w γ w' γ'/\aq N w0 an γ' w' B L/\au w' γ' (.sl .ro (rows++aC)) v:=by
 obtain⟨a,cap,b,off,sz,cv,rfl,s1,r1⟩:=h1.cr;obtain⟨a2,ct,b2,gD,sz2,gH,rfl,s2,r2⟩:=h2.cr;replace s1:=s1.fix (sz:=i.size) fun row h=>hr row (by simp[h]);replace s2:=s2.fix (sz:=i.size) fun row h=>hr row (by simp[h]);by_cases hn:aC=[]
 ·subst hn;refine⟨_,w,γ,Qdp ht hi _ _ _ s1.hcap,Ev.refl _ _,hm,?_⟩;rw[zzas];exact s1.mk' trivial
 have iW:0<aC.length:=zzdf.2 hn;have hcap:cap=rows.length:=r1;obtain⟨bn,cR,aX⟩:=oO (P:=P) (ty:=ty) ht hi hz s1 s2 zE cS vT;have hb:=qO w (.cells ((Ve rows.length i.size cv).toArray++(Ve aC.length i.size gH).toArray++Builtin.zeroCells z.cells (bn-(rows.length+aC.length))) e);refine⟨_,_,_,aX,hm.cG hb,hm.grow hb,?_⟩;have hj:=s1.Fh s2 s2.rep (hm.cG hb) (nb:=w.heap.size) (te:=e) (Ye w _) (fun o _=>.inr ⟨zzaa _,tN w _⟩) cR;have:=hj.mk' (rt:=.ro) trivial;rwa [zzah]at this
def G.mark(γ:G)(id n:Nat):G:={γ with cur:=fun i=>if i=id then n else γ.cur i}
def aq.oP(hm:aq N w0 an γ w B L){id n:Nat}(hn:γ.cur id<=n)(h0:γ.cur id=n\/γ.own id=none):Ev w γ w (γ.mark id n) where
 size:=zzaa _
 ro _ _ _ h:=⟨h,rfl⟩
 β _ _ h:=h
 cur j:=by simp only[G.mark];split<;>simp_all
 mm _ _ h:=h
 lp:=rfl
 own j b _ ho:=⟨ho,fun arr _ h=>⟨arr,h,zzaa _⟩,fun _ h=>h⟩
 sp _ h:=⟨h,rfl⟩
 ss:=Sz.refl w
def aq.mark(hm:aq N w0 an γ w B L){id n:Nat}(hn:γ.cur id<=n)(h0:γ.cur id=n\/γ.own id=none):aq N w0 an (γ.mark id n) w B (fun i=>if i=id then some n else L i) where
 bs:=w0.st _ _ _ _ hm.bs ⟨rfl,rfl,rfl,zzaa _,fun _ _ _=>rfl,fun _ _ _ h=>⟨h,rfl⟩,fun _ hb=>.inl hb,fun _ _ h=>.inl h⟩
 hN:=hm.hN
 an:=hm.an
 robd:=hm.robd
 box j cs b hb h1:=by
  obtain⟨arr,e,h2,h3,h4⟩:=hm.box j cs b hb h1;exact⟨arr,e,h2,h3.mono (hm.oP hn h0),h4⟩
 β:=hm.β
 inj:=hm.inj
 own j b hb:=by
  obtain⟨h1,h2,k,hk⟩:=hm.own j b hb;refine⟨h1,h2,?_⟩;by_cases hj:j=id
  ·exact⟨n,by simp[hj]⟩
  exact⟨k,by simp[hj,hk]⟩
 oinj:=hm.oinj
 sp:=hm.sp
 mm i b hb:=by
  obtain⟨h1,h2,h3,h4,h5,h6,h8,h7⟩:=hm.mm i b hb;exact⟨h1,h2,h3,h4,h5,h6,h8,h7.mono (hm.oP hn h0).cL.AR rfl⟩
 minj:=hm.minj
 len j k hj:=by
  by_cases h:j=id
  ·simp[h]at hj;simp[G.mark,h,hj]
  simp[h]at hj;simp[G.mark,h,hm.len j k hj]
 cur0 j hj:=by
  by_cases h:j=id
  ·simp[h]at hj
  simp[h]at hj;simp[G.mark,h,hm.cur0 j hj]
def vU(hm:aq N w0 an γ w B L)(ht:P.underlying t=some (.slice e))(hi:P.info? e=some i)(hz:i.zero=some z)(CV:z.cells.size=i.size){id:Nat}
  (h1:(au w γ (.sl .full rows) v1/\L id=none)\/(au w γ (.sl (.own id i.size) rows) v1/\L id=some rows.length)){γ2:G}{a2:Option Addr}{ct b2 gD:Nat}{gH:Nat->Nat->Value}(s2:qB w γ2 aC a2 ct b2 gD i.size gH)(gX:∀i j c,Qs aC i j=some c->au w γ.cW c (gH i j))
  (hr:∀row∈rows++aC,row.length=i.size)(cS:(3*(rows.length+aC.length)+4000)*i.bytes<=562949953421312)(vT:rows.length+aC.length<=9223372036854775807):
  ∃v w' γ',(Builtin.append_ #[t,t] ty #[v1,.slice a2 aC.length ct]).run P w=.ok v w'/\Ev w γ w' γ'/\aq N w0 an γ' w' B (fun j=>if j=id then some (rows.length+aC.length)else L j)/\au w' γ' (.sl (.own id i.size) (rows++aC)) v:=by
 have key:∃a cap b off cv,v1=.slice a rows.length cap/\qB w γ rows a cap b off i.size cv/\γ.cur id<=rows.length/\(γ.cur id=rows.length\/γ.own id=none)/\(cap=rows.length\/(lW w γ a id rows.length cap i.size/\γ.cur id=rows.length)):=by
  obtain⟨h1,hL⟩|⟨h1,hL⟩:=h1
  ·obtain⟨a,cap,b,off,sz,cv,rfl,s1,r1⟩:=h1.cr
   have cq:γ.own id=none:=by
    cases ho:γ.own id with
    |none=>rfl
    |some b=>obtain⟨_,_,n,hn⟩:=hm.own id b ho;rw[hL]at hn;cases hn
   exact⟨a,cap,b,off,cv,rfl,s1.fix fun row h=>hr row (by simp[h]),by rw[hm.cur0 id hL];exact zzbi _,.inr cq,.inl r1⟩
  obtain⟨a,cap,b,off,sz,cv,rfl,s1,r1,r2,r3⟩:=h1.cr;subst r1;have hc:=hm.len id _ hL;exact⟨a,cap,b,off,cv,rfl,s1,zE,.inl hc,(r3 hc.symm).imp_right fun h=>⟨h,hc⟩⟩
 obtain⟨a,cap,b,off,cv,rfl,s1,aed,dw,dA⟩:=key;by_cases hn:aC=[]
 ·subst hn;refine⟨_,w,γ.mark id rows.length,Qdp ht hi _ _ _ s1.hcap,hm.oP aed dw,by simpa using hm.mark aed dw,?_⟩;rw[zzas];refine(s1.mono (hm.oP aed dw)).mk' ⟨rfl,by simp[G.mark],fun _=>?_⟩;obtain h|⟨h,hc⟩:=dA
  ·exact .inl h
  refine .inr (h.mono (hm.oP aed dw) ?_);simp[G.mark,hc]
 have iW:0<aC.length:=zzdf.2 hn;by_cases cI:rows.length+aC.length<=cap
 ·
  obtain h|⟨⟨b',mZ,arr,te,ha,ho,hh,hsz,oK⟩,hc⟩:=dA
  ·omega
  subst ha;have aX:=CU (P:=P) (ty:=ty) (off:=mZ) ht hi s2 cI hh hsz;have hq:mZ+(rows.length+aC.length)*i.size=mZ+rows.length*i.size+(Ve aC.length i.size gH).length:=by rw[Zd,zzbl];omega
  have bZ:=hm.ku (vs:=Ve aC.length i.size gH) (n:=rows.length+aC.length) ho zE (fun h=>zE) hq oK;refine⟨_,_,_,aX,bZ,hm.extend ho zE (fun h=>zE) hq oK,?_⟩;have hb:b'<w.heap.size:=aS hh;have cR:(rows.length+aC.length)*i.size<=cap*i.size:=zzbb _ cI
  have SP:rows≠[]->b=b'/\off=mZ:=fun h=>by
   obtain⟨h1,_⟩:=s1.at_ h;injection h1 with h1;injection h1 with h1 h2;exact⟨h1.symm,h2.symm⟩
  have bU:∀j(hj:j<(Ve aC.length i.size gH).length),(w.setCells b' (mZ+rows.length*i.size) (Ve aC.length i.size gH)).cell? ⟨b',mZ+rows.length*i.size+j,none⟩=some (Ve aC.length i.size gH)[j]:=
   World.cell?_setCells_in b' _ _ w fun j hj=>by
    rw[Zd]at hj;rw[aN hh,zzag (by rw[zzbl]at cR;omega)];rfl
  have hj:qB (w.setCells b' (mZ+rows.length*i.size) (Ve aC.length i.size gH)) (γ.extend id b' (mZ+rows.length*i.size) (mZ+(rows.length+aC.length)*i.size) (rows.length+aC.length))
    (rows++aC) (some ⟨b',mZ,none⟩) cap b' mZ i.size (Qcn rows.length cv gH):=by
   refine⟨Pi cI,fun hn=>(by cases hn),fun _=>⟨rfl,by rw[aG];exact hb⟩,hr,fun j k c hc=>?_,fun j k c hc=>?_⟩
   ·rcases Uj hc with⟨PK,h3⟩|⟨h1,h3⟩
    ·obtain⟨rfl,rfl⟩:=SP (by rintro rfl;simp at PK);obtain⟨g1,g2,g3⟩:=(s1.mono bZ).cell j k c h3;have ej:Qcn rows.length cv gH j k=cv j k:=by unfold Qcn;rw[if_pos PK]
     rw[ej];exact⟨g1,g2,g3⟩
    obtain⟨hi4,hj4⟩:=mY h3;have hk:k<i.size:=by rw[s2.hsz _ (zzdg hi4)]at hj4;exact hj4
    have hf:=vR aC.length i.size gH hi4 hk;obtain⟨aa,cU⟩:=zza.1 hf
    have e1:mZ+j*i.size+k=mZ+rows.length*i.size+((j-rows.length)*i.size+k):=by
     rw[Nat.sub_mul];have:rows.length*i.size<=j*i.size:=zzbb _ h1;omega
    simp only[Qcn,if_neg (zzbn.2 h1)];refine⟨?_,?_,(s2.cell _ _ c h3).2.2⟩
    ·rw[e1,bU _ aa,cU]
    rw[Zd]at aa;exact .inr ⟨rfl,by rw[e1];omega,by rw[e1,zzbl];omega⟩
   unfold Qcn;rcases Uj hc with⟨h1,h3⟩|⟨h1,h3⟩
   ·rw[if_pos h1];exact(s1.rep j k c h3).mono bZ.cW
   rw[if_neg (zzbn.2 h1)];exact(gX _ k c h3).mono bZ.cW
  have:=hj.mk' (rt:=.own id i.size) ⟨rfl,by simp[G.extend],fun _=>.inr ⟨b',mZ,_,te,rfl,ho,Qz b' _ _ w arr te _ hh,by rw[Vb];exact hsz,fun o dx gC=>?_⟩⟩
  ·rwa [zzah]at this
  rw[zzah]at dx;obtain gC|⟨_,_,h4⟩:=gC
  ·refine oK o ?_ gC;have:rows.length*i.size<=(rows.length+aC.length)*i.size:=zzbb _ zE;omega
  omega
 ·
  obtain⟨bn,cR,aX⟩:=oO (P:=P) (ty:=ty) ht hi hz s1 s2 zE cS vT;have hmd:=hm.drew;have aJ:γ.cur id=rows.length+aC.length->γ.own id=none:=fun h=>zE
  have hcn:γ.cur id<=rows.length+aC.length:=zE
  have bZ:Ev w γ _ _:=(Ev.drew w γ).trans (hmd.fT (q:=(rows.length+aC.length)*i.size) hcn aJ (.cells ((Ve rows.length i.size cv).toArray++(Ve aC.length i.size gH).toArray++Builtin.zeroCells z.cells (bn-(rows.length+aC.length))) e));refine⟨_,_,_,aX,bZ,hmd.renew hcn aJ _,?_⟩
  have hh:(w.drew.alloc (.cells ((Ve rows.length i.size cv).toArray++(Ve aC.length i.size gH).toArray++Builtin.zeroCells z.cells (bn-(rows.length+aC.length))) e)).heap[w.heap.size]?=some (.cells ((Ve rows.length i.size cv).toArray++(Ve aC.length i.size gH).toArray++Builtin.zeroCells z.cells (bn-(rows.length+aC.length))) e (0,0)):=by
   exact Ye w _
  have hj:=s1.Fh s2 gX bZ (nb:=w.heap.size) hh (fun o ho=>.inr ⟨rfl,ho⟩) cR;have:=hj.mk' (rt:=.own id i.size) ⟨rfl,by simp[G.renew],fun _=>?_⟩
  ·rwa [zzah]at this
  by_cases U6:bn=rows.length+aC.length
  ·exact .inl (by simp[U6])
  refine .inr ⟨w.heap.size,0,_,e,rfl,by simp[G.renew],hh,?_,fun o ho gC=>?_⟩
  ·simp only[zzep,zzeo,Zd,size_zeroCells]
   have PL:bn*i.size=rows.length*i.size+aC.length*i.size+(bn-(rows.length+aC.length))*i.size:=by
    rw[<- zzbl,<- zzbl];congr 1;omega
   rw[CV,PL];omega
  simp only[zzah,zzbm]at ho;obtain gC|⟨_,gC⟩:=gC
  ·have:=hm.robd _ _ gC;omega
  omega
def NQ(hm:aq N w0 an γ w B L)(ht:P.underlying t=some (.slice e))(hi:P.info? e=some i)(hz:i.zero=some z)(CV:z.cells.size=i.size){id:Nat}
  (h1:(au w γ (.sl .full rows) v1/\L id=none)\/(au w γ (.sl (.own id i.size) rows) v1/\L id=some rows.length))(h2:au w γ (.sl U5 aC) v2)
  (hr:∀row∈rows++aC,row.length=i.size)(cS:(3*(rows.length+aC.length)+4000)*i.bytes<=562949953421312)(vT:rows.length+aC.length<=9223372036854775807):
  ∃v w' γ',(Builtin.append_ #[t,t] ty #[v1,v2]).run P w=.ok v w'/\Ev w γ w' γ'/\aq N w0 an γ' w' B (fun j=>if j=id then some (rows.length+aC.length)else L j)/\au w' γ' (.sl (.own id i.size) (rows++aC)) v:=by
 obtain⟨a2,ct,b2,gD,sz2,gH,rfl,s2,r2⟩:=h2.cr;exact vU hm ht hi hz CV h1 (s2.fix (sz:=i.size) fun row h=>hr row (by simp[h])) s2.rep hr cS vT
end
def Step(N:Nat)(w0:fc)(an:Nat->Nat->Prop)(P:Program)(o:Oper)(a:Act)(γ:G)(w:World)(B:Nat->QQ)(L:Nat->Option Nat)(r:AV):Prop:=
 ∀(rd:Option Nat)(next:Act->World->Prop)(Q:QR),(∀v w' γ',Ev w γ w' γ'->aq N w0 an γ' w' B L->au w' γ' r v->next (a.put o.dst v) w')->o.wpIn (FW rd) 0 P a w next Q
section
variable {N:Nat} {w0:fc} {an:Nat->Nat->Prop} {γ:G} {w:World} {B:Nat->QQ} {L:Nat->Option Nat} {P:Program} {o:Oper} {a:Act} {r:AV}
def Qr(hm:aq N w0 an γ w B L){v:Value}(h:(execOp a.eval o).run P w=.ok (.value v) w)(hr:au w γ r v):Step N w0 an P o a γ w B L r:=
 fun _ _ _ hk=>Zj h (hk v w γ (Ev.refl _ _) hm hr)
def A1{v:Value}{w':World}{γ':G}(hm:aq N w0 an γ' w' B L)(e:Ev w γ w' γ')(h:(execOp a.eval o).run P w=.ok (.value v) w')(hr:au w' γ' r v):Step N w0 an P o a γ w B L r:=
 fun _ _ _ hk=>Zj h (hk v w' γ' e hm hr)
variable {dst:Option Tmp} {ty:TypeId} {pos:String} {after:Array Edge} {guard:Option (Nat×Bool)} {gl:Nat->AV} {orc:X1} {e:bM->AV} {m:AM}
def CW{x:AV}{v:Value}{g b:Bool}(h:asB x=some (g,b))(hr:au w γ x v)(hg:g=true):v=.bool b:=by
 cases x<;>simp[asB]at h
 ·obtain⟨rfl,rfl⟩:=h;exact hr.bz
 rename_i g' y;obtain⟨h1,rfl⟩:=h;rw[hg]at h1;cases g' with
 |false=>cases h1
 |true=>
  cases y<;>simp[isB]at h1;exact(hr.CS rfl).bz
def PM(hm:aq N w0 an γ w B L){c x y:Operand}(h1:au w γ (e (aB c)) (a.eval c))(h2:au w γ (e (aB x)) (a.eval x))(h3:au w γ (e (aB y)) (a.eval y))
  (hc:(rop P gl orc e m dst (.pick (aB c) (aB x) (aB y))).1):
  Step N w0 an P ⟨dst,.pick c x y,ty,pos,after,guard⟩ a γ w B L (rop P gl orc e m dst (.pick (aB c) (aB x) (aB y))).2:=by
 simp only[rop]at hc |-
 split at hc
 ·rename_i g0 c' g1 x' g2 y' e1 e2 e3;try simp only[e1,e2,e3]
  obtain⟨hc0,fe,zH⟩:=hc;have h1:=CW e1 h1 hc0;cases c' with
  |true=>
   have:=CW e2 h2 (fe rfl);exact Qr hm (v:=.bool x') (by simp[execOp,h1,asBool,this]) (.bool _)
  |false=>
   have:=CW e3 h3 (zH rfl);exact Qr hm (v:=.bool y') (by simp[execOp,h1,asBool,this]) (.bool _)
 exact hc.elim
def PN(hm:aq N w0 an γ w B L)(hB:∀id cells,m.boxes[id]?=some cells->B id=some cells){t:TypeId}{x:Operand}(h1:au w γ (e (aB x)) (a.eval x))
  (hc:(rop P gl orc e m dst (tr P ⟨dst,.load t x,ty,pos,after,guard⟩)).1):
  Step N w0 an P ⟨dst,.load t x,ty,pos,after,guard⟩ a γ w B L (rop P gl orc e m dst (tr P ⟨dst,.load t x,ty,pos,after,guard⟩)).2:=by
 simp only[tr]at hc |-
 split at hc
 case h_2=>exact hc.elim
 rename_i i d hi hd;try simp only[hi,hd]
 have main:∀(agg:Bool)(n:Nat),Jh P t=agg->(agg=true->n=i.size)->(rop P gl orc e m dst (.load agg n (aB x))).1->
   Step N w0 an P ⟨dst,.load t x,ty,pos,after,guard⟩ a γ w B L (rop P gl orc e m dst (.load agg n (aB x))).2:=by
  intro agg n bH hn hc;simp only[rop]at hc |-
  split at hc
  ·rename_i id o' he;try simp only[he]
   rw[he]at h1;obtain⟨b,hb,hv⟩:=h1.dN;cases gV:m.boxes[id]? with
   |none=>
    have e0:m.boxes.getD id []=[]:=by simp[List.getD,gV]
    rw[e0]at hc |-
    obtain⟨v,h2,h3⟩:=Qdd (P:=P) (w:=w) (γ:=γ) (b:=b) (o:=o') (cv:=fun _=>undef) hi hd bH hn (fun j c hj=>by simp at hj) (fun j c hj=>by simp at hj) hc;exact Qr hm (by simp[execOp,hv,h2]) h3
   |some cells=>
    have e0:m.boxes.getD id []=cells:=by simp[List.getD,gV]
    rw[e0]at hc |-
    obtain⟨arr,te,g2,g3,g4⟩:=hm.box id cells b (hB id cells gV) hb
    have cB:∀(j:Nat)(c:AV),(cells.drop o')[j]?=some c->arr[o'+j]?=some (arr.getD (o'+j) undef)/\au w γ c (arr.getD (o'+j) undef):=fun j c hj=>by
     rw[zzbo]at hj
     have aa:o'+j<arr.size:=by
      have:=(zza.1 hj).1;have h0:=g3.1;simp at h0;omega
     have hu:arr[o'+j]?=some (arr.getD (o'+j) undef):=by simp[aa]
     exact⟨hu,g3.2 _ _ _ hj (Pi hu)⟩
    obtain⟨v,h2,h3⟩:=Qdd (P:=P) (w:=w) (γ:=γ) (b:=b) (o:=o') (cv:=fun j=>arr.getD (o'+j) undef) hi hd bH hn (fun j c hj=>by rw[aN g2];exact(cB j c hj).1) (fun j c hj=>(cB j c hj).2) hc;exact Qr hm (by simp[execOp,hv,h2]) h3
  ·rename_i row o' he;try simp only[he]
   rw[he]at h1;obtain⟨b,off,cv,hv,hb,bO,oN⟩:=h1.gE;have cB:∀(j:Nat)(c:AV),(row.drop o')[j]?=some c->row[o'+j]?=some c:=fun j c hj=>by rw[zzbo]at hj;exact hj
   obtain⟨v,h2,h3⟩:=Qdd (P:=P) (w:=w) (γ:=γ) (b:=b) (o:=off+o') (cv:=fun j=>cv (o'+j)) hi hd bH hn
    (fun j c hj=>by rw[zzan];exact(bO _ _ (cB j c hj)).1) (fun j c hj=>(oN _ _ (cB j c hj)).gF) hc
   exact Qr hm (by simp[execOp,hv,h2]) h3
  exact hc.elim
 cases bH:Jh P t with
 |true=>simp only[bH,if_true]at hc |-;exact main true _ bH (fun _=>rfl) hc
 |false=>simp only[bH]at hc |-;exact main false 1 bH (fun h=>by cases h) hc
def J2(hm:aq N w0 an γ w B L){t:TypeId}{x:Operand}{f:Nat}(h1:au w γ (e (aB x)) (a.eval x))
  (hc:(rop P gl orc e m dst (tr P ⟨dst,.fieldAddr t x f,ty,pos,after,guard⟩)).1):
  Step N w0 an P ⟨dst,.fieldAddr t x f,ty,pos,after,guard⟩ a γ w B L (rop P gl orc e m dst (tr P ⟨dst,.fieldAddr t x f,ty,pos,after,guard⟩)).2:=by
 simp only[tr]at hc |-
 split at hc
 case h_2=>exact hc.elim
 rename_i fields hu;try simp only[hu]
 split at hc
 case h_2=>exact hc.elim
 rename_i fl gG;try simp only[gG]
 split at hc
 case h_2=>exact hc.elim
 rename_i i hi;try simp only[hi]
 split at hc
 case isTrue=>exact hc.elim
 rename_i hsz;try rw[if_neg hsz]
 simp only[rop]at hc |-
 have aq7:i.size≠0:=by simpa using hsz
 split at hc
 ·rename_i id o' he;try simp only[he]
  rw[he]at h1;obtain⟨b,hb,hv⟩:=h1.dN;exact Qr hm (v:=.pointer (some ⟨b,o'+fl.offset,none⟩)) (by simp[execOp,hv,Instr.fieldAt,run_underlying hu,gG,Instr.sureAddr,fieldPlace,sizeOf,typeInfo,hi,aq7,bq]) (.ptr hb)
 ·rename_i row o' he;try simp only[he]
  rw[he]at h1;obtain⟨b,off,cv,hv,hb,bO,oN⟩:=h1.gE;refine Qr hm (v:=.pointer (some ⟨b,off+(o'+fl.offset),none⟩)) (by simp[execOp,hv,Instr.fieldAt,run_underlying hu,gG,Instr.sureAddr,fieldPlace,sizeOf,typeInfo,hi,aq7,bq,zzan]) (.ep cv hb bO oN)
 exact hc.elim
def J3(hm:aq N w0 an γ w B L){t:TypeId}{x y:Operand}(h1:au w γ (e (aB x)) (a.eval x))(h2:au w γ (e (aB y)) (a.eval y))
  (hc:(rop P gl orc e m dst (tr P ⟨dst,.indexAddr t x y,ty,pos,after,guard⟩)).1):
  Step N w0 an P ⟨dst,.indexAddr t x y,ty,pos,after,guard⟩ a γ w B L (rop P gl orc e m dst (tr P ⟨dst,.indexAddr t x y,ty,pos,after,guard⟩)).2:=by
 simp only[tr]at hc |-
 split at hc
 ·rename_i te hu;try simp only[hu]
  split at hc
  case h_2=>exact hc.elim
  rename_i i hi;try simp only[hi]
  simp only[rop]at hc |-
  split at hc
  case h_3=>exact hc.elim
  case h_2=>
   rename_i id off len gA k n e1 e2;try simp only[e1,e2]
   rw[e1]at h1;rw[e2]at h2;obtain⟨b,cap,arr,zm,hb,hv,hl,hh,hs⟩:=h1.dg;obtain⟨⟨eO,qM⟩,rfl⟩:=hc;refine Qr hm (v:=.pointer (some ⟨b,off+n.toNat*i.size,none⟩)) ?_ (.ptr hb);simp[execOp,hv,h2.aI,Instr.indexAt,run_underlying hu,asIntOf,eO,qM,sizeOf,typeInfo,hi,bq]
  rename_i rt rows k n e1 e2;try simp only[e1,e2]
  rw[e1]at h1;rw[e2]at h2;obtain⟨a',cap,b,off,sz,cv,hv,s,_⟩:=h1.cr;obtain⟨⟨eO,qM⟩,aH⟩:=hc;have aa:n.toNat<rows.length:=zE
  have iB:rows.getD n.toNat []∈rows:=by simp[List.getD,aa]
  have hsz:sz=i.size:=(s.hsz _ iB).symm.trans aH;subst hsz;obtain⟨ha,hb⟩:=s.at_ (by rintro rfl;simp at aa)
  have ou:∀(j:Nat)(c:AV),(rows.getD n.toNat [])[j]?=some c->Qs rows n.toNat j=some c:=fun j c hj=>by
   simp[Qs,List.getD,aa]at hj |-;exact hj
  refine Qr hm (v:=.pointer (some ⟨b,(off+n.toNat*i.size)+0,none⟩)) ?_ (.ep (off:=off+n.toNat*i.size) (cv n.toNat) hb (fun j c hj=>s.cell _ j c (ou j c hj)) fun j c hj=>s.rep _ j c (ou j c hj));have eP:n<(rows.length:Int):=qM;simp[execOp,hv,h2.aI,ha,Instr.indexAt,run_underlying hu,asIntOf,eO,eP,sizeOf,typeInfo,hi,bq]
 ·rename_i len te hu;try simp only[hu]
  split at hc
  case h_2=>exact hc.elim
  rename_i i hi;try simp only[hi]
  simp only[rop]at hc |-
  split at hc
  ·rename_i id o' k n e1 e2;try simp only[e1,e2]
   rw[e1]at h1;rw[e2]at h2;obtain⟨b,hb,hv⟩:=h1.dN;obtain⟨eO,qM⟩:=hc;refine Qr hm (v:=.pointer (some ⟨b,o'+n.toNat*i.size,none⟩)) ?_ (.ptr hb);simp[execOp,hv,h2.aI,Instr.indexAt,Instr.sureAddr,run_underlying hu,asIntOf,eO,qM,sizeOf,typeInfo,hi,bq]
  ·rename_i row o' k n e1 e2;try simp only[e1,e2]
   rw[e1]at h1;rw[e2]at h2;obtain⟨b,off,cv,hv,hb,bO,oN⟩:=h1.gE;obtain⟨eO,qM⟩:=hc;refine Qr hm (v:=.pointer (some ⟨b,off+(o'+n.toNat*i.size),none⟩)) ?_ (.ep cv hb bO oN);simp[execOp,hv,h2.aI,Instr.indexAt,Instr.sureAddr,run_underlying hu,asIntOf,eO,qM,sizeOf,typeInfo,hi,bq,zzan]
  exact hc.elim
 exact hc.elim
end
end Go.Abs
