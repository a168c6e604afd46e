import Derived.Test.YthjppoincojfkaaGreatDoorRBCodeT
import Derived.Test.YthjppoincojfkaaGreatDoorRBEnD
import Derived.Laws.CopyOwn
import Derived.Test.YthjppoincojfkaaGreatDoorRBMH
set_option linter.all false
set_option maxRecDepth 100000
set_option maxHeartbeats 64000000
namespace Go.Proofs.YthjppoincojfkaaGreatDoor
open Go Go.Abs
def afR:List (Nat×(SC×List aF×Nat))->Nat->Option (SC×List aF×Nat)
 |[],_=>none
 |(k,x)::r,f=>bif Nat.beq f k then some x else afR r f
def OL{P:Program}:∀{l:List (Nat×(SC×List aF×Nat))},(∀y∈l,cZ P y.1 y.2.1 y.2.2.1 y.2.2.2)->wM P (afR l)
 |[],_,f,sc,rs,n,h=>by cases h
 |(k,x)::r,hl,f,sc,rs,n,h=>by
  rw[afR]at h;cases hb:Nat.beq f k with
  |true=>
   rw[hb]at h;cases h;obtain rfl:=zzdo hb;exact hl (f,(sc,rs,n)) zd
  |false=>
   rw[hb]at h;exact OL (fun y hy=>hl y (by simp[hy])) f sc rs n h
def anj:WQ:=afR [(22,(eV,eW,87)),(45,(abm,abn,9)),(46,(ajM,ajN,62)),(47,(qp,gX,75)),(48,(abo,fV,95)),(49,(tD,tE,51)),(69,(aoX,aoY,40)),(71,(aoZ,ao0,97)),(76,(aj8,ao1,94)),(96,(BM,BN,54)),(97,(abA,abB,11)),(98,(akD,akE,15)),(99,(abC,abD,10)),(100,(Ee,rU,59)),(124,(agw,agx,4)),(128,(agy,agz,27)),(129,(agB,agC,27)),(158,(MN,Eo,20)),(159,(TJ,TK,4)),(180,(ag7,ag8,19)),(182,(TQ,ag9,68)),(183,(aha,ahb,43)),(211,(M5,TZ,33))]
def Qcb:wM Tryz.prog anj:=OL fun y hy=>by
 simp only[zzaq,zzdl,or_false]at hy;obtain rfl|rfl|rfl|rfl|rfl|rfl|rfl|rfl|rfl|rfl|rfl|rfl|rfl|rfl|rfl|rfl|rfl|rfl|rfl|rfl|rfl|rfl|rfl:=hy
 ·exact SI
 ·exact SQ
 ·exact SR
 ·exact SS
 ·exact SU
 ·exact SV
 ·exact aj6
 ·exact aj7
 ·exact aj9
 ·exact Th
 ·exact Ti
 ·exact Tj
 ·exact Tk
 ·exact Mv
 ·exact abV
 ·exact abW
 ·exact abX
 ·exact MO
 ·exact MP
 ·exact acI
 ·exact acJ
 ·exact acK
 exact M6
open Go Go.Abs
def lvE:FuncId->Nat:=fun k=>if k=143 then 0 else 1
def glE(g:Nat):AV:=.junk
def aya:Pure Tryz.prog glE 69 [.int .i64 10] (.aS [.str ⟨#[20]⟩,.int .i64 0]):=Qcx Qcb lvE 300 4 (by kernel_rfl) rfl
open Go Go.RowKit Go.Lib
def atY{P:Program}{ops:Array Oper}{rest:List Oper}{o:Oper}{a:Act}{w:World}{Q:PP}(hg:o.guard=none)(t:TypeId)(x:Operand)(ho:o.op=.box t x)(cells:P1)(hx:(a.eval x).cells=cells)
  (h:wpList P ops Q rest (a.put o.dst (.pointer (some ⟨w.heap.size,0,none⟩))) (w.alloc (.cells cells t))):wpList P ops Q (o::rest) a w:=by
 subst hx;refine wpList_plain hg fun K hK=>?_;unfold Oper.wp execOp;simp only[ho,Sem.run_bind,Instr.box,newVar,newRow,run_newObj_alloc,Sem.run_pure,Result.andThen_ok];exact hK _ _ h
def aaI(arr:P1)(n0 n1 n2 n4 n5:Int)(b0 b1 b2 b3 b4 b5:UInt8)(w:World)(hsz:arr.size=26)
  (a0:arr[0]?=some (.int .i64 n0))(a1:arr[1]?=some (.int .i64 n1))(a2:arr[2]?=some (.int .i64 n2))(a3:arr[3]?=some (.int .i64 1))(a4:arr[4]?=some (.int .i64 n4))(a5:arr[5]?=some (.int .i64 n5))
  (h9:∀w:World,Calls Tryz.prog 22 #[.agg arr] w fun e w'=>e=.returned (.bool true)/\Below w.heap.size w w')
  (p0:∀w:World,Calls Tryz.prog 69 #[.int .i64 n0] w fun e w'=>e=.returned (.tuple #[.string (s1 b0),.int .i64 0])/\Below w.heap.size w w')
  (p1:∀w:World,Calls Tryz.prog 69 #[.int .i64 n1] w fun e w'=>e=.returned (.tuple #[.string (s1 b1),.int .i64 0])/\Below w.heap.size w w')
  (p2:∀w:World,Calls Tryz.prog 69 #[.int .i64 n2] w fun e w'=>e=.returned (.tuple #[.string (s1 b2),.int .i64 0])/\Below w.heap.size w w')
  (p3:∀w:World,Calls Tryz.prog 69 #[.int .i64 1] w fun e w'=>e=.returned (.tuple #[.string (s1 b3),.int .i64 0])/\Below w.heap.size w w')
  (p4:∀w:World,Calls Tryz.prog 69 #[.int .i64 n4] w fun e w'=>e=.returned (.tuple #[.string (s1 b4),.int .i64 0])/\Below w.heap.size w w')
  (p5:∀w:World,Calls Tryz.prog 69 #[.int .i64 n5] w fun e w'=>e=.returned (.tuple #[.string (s1 b5),.int .i64 0])/\Below w.heap.size w w'):
  Calls Tryz.prog 32 #[.agg arr] w fun e w'=>e=.returned (.tuple #[.string ⟨#[b0,b1,b2,b3,b4,b5]⟩,.int .i64 0])/\Below w.heap.size w w':=by
 have mixed:Tryz.prog.follows Departure.mixedOrders=true:=by kernel_rfl
 have e9:∀args w,(callFunc 22 args).run Tryz.prog w=.ok (.enter 22 args) w:=enters_of Tryz.func22 (by kernel_rfl) rfl;obtain⟨d,hd,hd2⟩:∃d,Tryz.prog.underlying 53=some d/\(match d with|.struct _|.array _ _=>true|_=>false)=true:=⟨_,Tryz.underlying53,rfl⟩;have hi:(Tryz.prog.info? 53).map (·.size)=some arr.size:=by rw[hsz];rfl
 have key:∀(Q:PP)(K2:Act->World->Prop)(w1:World)(x13 x14 x15 x16:Value),w1.heap[w.heap.size]?=some (.cells arr 53 (0,0))->Below w.heap.size w w1->(∀a w,Code.wp Tryz.prog I2 Q a w->K2 a w)->(∀(tm:P1)w',tm.getD 2 undef=.string ⟨#[b0,b1,b2,b3,b4,b5]⟩->tm.getD 3 undef=.int .i64 0->Below w.heap.size w w'->Q .ret ⟨tm,[]⟩ w')->K2 ⟨#[.agg arr,.pointer (some ⟨w.heap.size,0,none⟩),.string ⟨#[]⟩,.int .i64 0,undef,undef,undef,undef,undef,undef,undef,undef,undef,x13,x14,x15,x16,undef,undef,undef,undef,undef,undef,undef,undef,undef,undef,undef,undef,undef,undef,undef,undef,undef,undef,undef,undef,undef,undef,undef,undef,undef,undef,undef,undef,undef,undef,undef,undef,undef,undef,undef,undef,undef,undef,undef,undef,undef,undef,undef,undef,undef,undef,undef,undef,undef,undef,undef,undef,undef,undef,undef,undef,undef,undef,undef,undef,undef,undef,undef,undef,undef,undef,undef,undef,undef,undef],[]⟩ w1:=
  fun Q K2 w1 x13 x14 x15 x16 hob hb hK hQ=>hK _ _ (O8 _ w.heap.size _ _ x13 x14 x15 x16 n0 n1 n2 n4 n5 b0 b1 b2 b3 b4 b5 w1 hsz a0 a1 a2 a3 a4 a5 hob p0 p1 p2 p3 p4 p5 (fun tm w' h2 h3 h=>hQ tm w' h2 h3 (hb.trans (h.mono hb.size))))
 go_enter Tryz.func32,Tryz.ntmps32
 refine wp_seq_k fun K1 VE=>?_;refine wp_region_lit ?_;refine atY rfl 53 (.tmp 0) rfl arr rfl ?_;have ank:(w.alloc (.cells arr 53)).heap[w.heap.size]?=some (.cells arr 53 (0,0)):=heap_alloc_new w _;have ek:Below w.heap.size w (w.alloc (.cells arr 53)):=(Below.refl _ w).alloc (zzab _) _;have amr:w.heap.size<=(w.alloc (.cells arr 53)).heap.size:=ek.size;have aqD:=Nd ank;generalize w.alloc (.cells arr 53)=w0 at*
 go_wp2_with (first|refine wpList_load_row rfl 53 (.tmp 1) rfl w.heap.size rfl 53 arr (0,0) _ ank Tryz.underlying53 rfl hi ?_|(go_at_fn 22;refine(h9 _).mono ?_))
 rintro e w1 rfl dy;rename_i Q K2 a2 K1 a1 K0 a0;have ayb:=fun x13 x14 x15 x16=>key _ K2 w1 x13 x14 x15 x16 ((dy.block _ aqD).trans ank) (ek.trans (dy.mono amr)) a2 (fun tm w' h2 h3 hb=>bodyPost_ret (results_tmp2 rfl _ _ _) rfl (by rw[h2,h3];exact⟨rfl,hb⟩));clear a2 h9 p0 p1 p2 p3 p4 p5 key
 go_wp2
 exact ayb _ _ _ _
open Go Go.RowKit Go.Extern.Stop Go.Stop Go.Extern
def L8(p q:Addr)(w:World):
  CallsD Tryz.prog 74 #[.pointer (some p),.pointer (some q)] .returning w fun e u' w'=>e=.returned (.tuple #[])/\u'=.returning/\w'=w:=by
 refine callsD_of_wpS Tryz.func74 rfl fun c₀ cs hu=>?_;apply wpS_seq;apply wpS_region;simp[wpOpsS,go_sem,recoverD,hu,Tryz.ntmps74,Exit.thenS];apply wpS_seq;apply wpS_seq;apply wpS_region;simp[wpOpsS,go_sem,Exit.thenS];refine wpS_cond (t:=true) (by simp[Act.eval,Array.replicate]) ?_;simp only[if_true];refine wpS_of_wp (wp_ret ?_);cases c₀;simp_all[bodyPostS,results,Tryz.results74,Exit.thenS]
def th(w:World)(o1 o2 o3:Obj):(((w.alloc o1).alloc o2).alloc o3).heap.size=w.heap.size+3/\(((w.alloc o1).alloc o2).alloc o3).heap[w.heap.size]?=some o1/\(((w.alloc o1).alloc o2).alloc o3).heap[w.heap.size+1]?=some o2/\(((w.alloc o1).alloc o2).alloc o3).heap[w.heap.size+1+1]?=some o3/\Below w.heap.size w (((w.alloc o1).alloc o2).alloc o3):=by
 have h1:∀(w:World)(o:Obj),(w.alloc o).heap=w.heap.push o:=fun _ _=>rfl;have e1:∀(h:Array Obj)(o:Obj)(k:Nat),k<h.size->(h.push o)[k]?=h[k]?:=fun h o k hk=>by rw[Array.getElem?_push,if_neg zE]
 refine⟨by rw[h1,h1,h1];simp,?_,?_,?_,(((Below.refl _ w).alloc (zzab _) _).alloc (by rw[h1];simp) _).alloc (by rw[h1,h1];simp;omega) _⟩
 ·rw[h1,h1,h1,e1 _ _ _ (by simp;omega),e1 _ _ _ zd,zzee]
 ·rw[h1,h1,h1,e1 _ _ _ zd,show w.heap.size+1=(w.heap.push o1).size by simp,zzee]
 rw[h1,h1,h1,show w.heap.size+1+1=((w.heap.push o1).push o2).size by simp,zzee]
def anl{w:World}{k:Nat}{o:Obj}(h:w.heap[k]?=some o):k<w.heap.size:=by
 rcases zzaa k w.heap.size with h'|h'
 ·exact h'
 simp[zzbo h']at h
def zO:P1:=#[.int .i64 0,.int .i64 0,.int .i64 0,.int .i64 0,.int .i64 0,.int .i64 0,.int .i64 0,.int .i64 0,.int .i64 0,.int .i64 0,.int .i64 0,.int .i64 0,.slice none 0 0,.int .i64 0,.int .i64 0,.int .i64 0,.int .i64 0,.int .i64 0,.int .i64 0,.int .i64 0,.int .i64 0,.int .i64 0,.int .i64 0,.int .i64 0,.int .i64 0,.string ⟨#[]⟩]
def aaJ(arr:P1)(s:ByteArray)(hsz:arr.size=26)(Ie:arr.all (·.oneCell')=true)(w:World)
  (hO:∀(w:World)(b:Nat),w.heap[b]?=some (.cells #[.string s,.int .i64 0] 159 (0,0))->Calls Tryz.prog 76 #[.pointer (some ⟨b,0,none⟩)] w fun e w'=>e=.returned (.agg arr)/\Below b w w')
  (h22:∀w:World,Calls Tryz.prog 22 #[.agg arr] w fun e w'=>e=.returned (.bool true)/\Below w.heap.size w w'):
  Calls Tryz.prog 33 #[.string s] w fun e w'=>e=.returned (.tuple #[.agg arr,.int .i64 0])/\Below w.heap.size w w':=by
 have hmf:∀(fn:Fn)(first cap:P1)(w:World),(Instr.makeFunc fn first cap).run Tryz.prog w=.ok (.func fn first cap) w:=fun _ _ _ _=>rfl;have e76:∀args w,(callFunc 76 args).run Tryz.prog w=.ok (.enter 76 args) w:=enters_of Tryz.func76 (by kernel_rfl) rfl;have e22:∀args w,(callFunc 22 args).run Tryz.prog w=.ok (.enter 22 args) w:=enters_of Tryz.func22 (by kernel_rfl) rfl;have hi:(Tryz.prog.info? 53).map (·.size)=some arr.size:=by rw[hsz];rfl
 go_enter_defers Tryz.func33,Tryz.ntmps33
 go_wp2_with (go_at_fn 76;refine(hO _ (w.heap.size+1+1) (th _ _ _ _).2.2.2.1).mono ?_)
 rintro e w1 ⟨rfl,dy⟩;obtain⟨t1,t2,t3,t4,t5⟩:=th w (.cells zO 53) (.cells #[.int .i64 0] 81) (.cells #[.string s,.int .i64 0] 159);have dZ:=(dy.block w.heap.size zE).trans t2;have hbc:=(dy.block (w.heap.size+1) zE).trans t3;have vD:=t5.trans (dy.mono zE);have hs1:=zzay (Nat.lt_of_lt_of_eq (zzez (w.heap.size+2)) t1.symm) dy.size;clear dy t1 t2 t3 t4 t5;have bR:=setRow_heap (w1.alloc (.cells zO 53)) w1.heap.size zO arr 53 (0,0) (heap_alloc_new _ _);have A2:Below w1.heap.size w1 ((w1.alloc (.cells zO 53)).setRow w1.heap.size arr):=below_setRow ((Below.refl _ _).alloc (zzab _) _) (zzab _) arr
 go_wp2_with (first
  |refine wpList_store_row rfl 53 (.tmp 5) (.tmp 11) rfl w1.heap.size arr rfl rfl 53 zO (heap_alloc_new _ _) hi (by rw[hsz];rfl) Ie ?_
  |refine wpList_load_row rfl 53 (.tmp 5) rfl w1.heap.size rfl 53 arr (0,0) _ bR Tryz.underlying53 rfl hi ?_
  |(go_at_fn 22;refine(h22 _).mono ?_))
 rintro e w2 ⟨rfl,fT⟩;have ai:=anl bR;have PU:=(fT.block _ ai).trans bR;have Sj:=A2.trans (fT.mono (zzgs ai));have KA:=(Sj.block w.heap.size zE).trans dZ;have ayc:=(Sj.block (w.heap.size+1) zE).trans hbc;have FH:=vD.trans (Sj.mono zE);clear fT bR A2 dZ hbc vD Sj ai;have hc3:=(setRow_other w2 w.heap.size (w.heap.size+1) arr zE).trans ayc;have d:(w2.setRow w.heap.size arr).cell? ⟨w.heap.size+1,0,none⟩=some (.int .i64 0):=by rw[Lib.cell_of_heap hc3];rfl
 have fz:(w2.setRow w.heap.size arr).frozen? ⟨w.heap.size+1,0,none⟩=false:=Lib.frozen_of_heap hc3 0;have Om:=setRow_heap w2 w.heap.size zO arr 53 (0,0) KA;have hB4:Below w.heap.size w (w2.setRow w.heap.size arr):=below_setRow FH (zzab _) arr
 go_wp2_with (first
  |refine wpList_load_row rfl 53 (.tmp 5) rfl w1.heap.size rfl 53 arr (0,0) _ PU Tryz.underlying53 rfl hi ?_
  |refine wpList_store_row rfl 53 (.tmp 2) (.tmp 16) rfl w.heap.size arr rfl rfl 53 zO KA hi (by rw[hsz];rfl) Ie ?_)
 have hr5:=(Below.heap_setCell (w2.setRow w.heap.size arr) ⟨w.heap.size+1,0,none⟩ (.int .i64 0) w.heap.size zd).trans Om;have hc5:=setRow_heap _ _ _ ((#[.int .i64 0]:P1).setIfInBounds 0 (.int .i64 0)) _ _ hc3;rw[<- setCell_eq_setRow _ _ _ _ _ _ _ hc3]at hc5;have hB5:=hB4.setCell (p:=⟨w.heap.size+1,0,none⟩) (Nat.le_succ _) (.int .i64 0);generalize(w2.setRow w.heap.size arr).setCell ⟨w.heap.size+1,0,none⟩ (.int .i64 0)=W at*
 have d5:W.cell? ⟨w.heap.size+1,0,none⟩=some (.int .i64 0):=by rw[Lib.cell_of_heap hc5];rfl
 have hl:=run_loadVar_row (P:=Tryz.prog) W w.heap.size 53 53 arr (0,0) _ hr5 Tryz.underlying53 rfl hi;refine leaves_cons (f:=74) (args:=#[.pointer (some ⟨w.heap.size,0,none⟩),.pointer (some ⟨w.heap.size+1,0,none⟩)]) zd (by simp[go_sem]) ?_;refine(L8 ⟨w.heap.size,0,none⟩ ⟨w.heap.size+1,0,none⟩ _).mono ?_;rintro e u' qz ⟨rfl,rfl,rfl⟩;have CK:(loadVar 81 ⟨w.heap.size+1,0,none⟩).run Tryz.prog qz=.ok (.int .i64 0) qz:=by simp[go_sem,d5]
 simp[Leaves,settle,results,Tryz.results33,asAddr,hl,CK,hB5]
open Go Go.Abs Go.RowKit
def atZ(b:Nat)(w1:World):eS where
 p γ w:=Below b w1 w/\b<=w1.heap.size/\∀x,OI γ x->b<=x
 st γ w γ' w' h hc:=by
  obtain⟨h1,h2,h3⟩:=h;have hs:=h1.size;refine⟨h1.trans ⟨hc.os,hc.tape,hc.output,hc.size,fun k hk=>hc.same k zE fun ho=>?_⟩,h2,fun k hk=>?_⟩
  ·have:=h3 k ho;omega
  rcases hc.oi k hk with hk|hk
  ·exact h3 k hk
  omega
def RT{P:Program}{f:FuncId}{cells:P2}{K:So}(h:aB P (fun _=>.junk) Y0 f [.ptr 0 0] ⟨[cells],[],fun _=>.gone,0⟩ K)(w:World)(b:Nat)(arr:P1)(t:TypeId)
  (hb:w.heap[b]?=some (.cells arr t (0,0)))(hr:∀γ,ct w γ cells arr.toList)(h1:∀v∈arr.toList,v.oneCell'=true):
  Calls P f #[.pointer (some ⟨b,0,none⟩)] w fun e w'=>∃v γ' r m',e=.returned v/\Below b w w'/\aA w' γ' r v/\K r m':=by
 have ai:b<w.heap.size:=by
  rcases zzaa b w.heap.size with h|h
  ·exact h
  rw[zzbo h]at hb;cases hb
 let γ0:G:={G0 (fun _ _=>False)with β:=fun id=>if id=0 then some b else none}
 have hβ:∀id x,γ0.β id=some x->id=0/\x=b:=fun id x hx=>by
  by_cases hi:id=0
  ·refine⟨hi,?_⟩;have:γ0.β id=some b:=if_pos hi;rw[this]at hx;exact(Option.some.inj hx).symm
  have:γ0.β id=none:=if_neg hi;rw[this]at hx;cases hx
 have hm:au b (atZ b w) (fun _ _=>False) γ0 w (⟨[cells],[],fun _=>.gone,0⟩:AM).B (⟨[cells],[],fun _=>.gone,0⟩:AM).L:=by
  refine⟨⟨Below.refl _ _,zzgs ai,fun x hx=>?_⟩,zzgs ai,fun _ _ h=>h.elim,fun _ _ h=>h.elim,fun id cs x hB hx=>?_,fun id x hx=>?_,fun id id' x hx hy=>?_,fun id x h=>(by cases h),fun id id' x h=>(by cases h),fun x h=>h.elim,fun id x h=>(by cases h),fun id id' x h=>(by cases h),fun id n h=>by simp[AM.L]at h,fun _ _=>rfl⟩
  ·obtain⟨id,hx⟩|⟨_,hx⟩|hx|⟨_,hx⟩:=hx
   ·have:=(hβ id x hx).2;omega
   ·cases hx
   ·exact hx.elim
   cases hx
  ·obtain⟨rfl,rfl⟩:=hβ id x hx;have:cells=cs:=by simpa[AM.B]using hB
   subst this;exact⟨arr,t,hb,hr _,h1⟩
  ·obtain⟨rfl,rfl⟩:=hβ id x hx;exact⟨zzab _,ai,fun _ h=>h,fun id' h=>(by cases h),cells,by simp[AM.B]⟩
  exact .inr (.inr ((hβ id x hx).1.trans (hβ id' x hy).1.symm))
 have hv:ak w γ0 [.ptr 0 0] [.pointer (some ⟨b,0,none⟩)]:=⟨rfl,fun i a v ha hv=>by
  match i,ha,hv with
  |0,ha,hv=>cases ha;cases hv;exact .ptr rfl
  |i+1,ha,hv=>simp at ha⟩
 have lW:cS γ0 w (⟨[cells],[],fun _=>.gone,0⟩:AM):=⟨fun _=>.inl rfl,fun _ _=>rfl,fun _ _ _ h=>(by cases h),fun _ _ h=>(by cases h)⟩;refine(callsIn_wide (n:=0)).1 ?_;refine CallsIn.mono (h.2 b (atZ b w) _ γ0 w _ hm lW (fun g=>.junk _) (fun _ _ _ _ _ _ _ _ _ _ _ hY _ _=>hY.elim) hv) ?_;rintro e w' ⟨v,γ',r,m',rfl,_,h2,_,h4,h5⟩;exact⟨v,γ',r,m',rfl,h2.bs.1,h4,h5⟩
def valOf:AV->Value
 |.int k n=>.int k n
 |.str s=>.string s
 |_=>.slice none 0 0
def oa:AV->Bool
 |.int _ _=>true
 |.str _=>true
 |.sl .nil []=>true
 |_=>false
def HQ{w:World}{γ:G}{a:AV}{v:Value}(ha:oa a=true)(h:aA w γ a v):v=valOf a:=by
 cases h with
 |int k n=>rfl
 |str s=>rfl
 |sl b off sz cv hcap hnil hh hsz hc hr aX=>
  rename_i rt rows a cap;cases rt<;>cases rows<;>simp[oa]at ha;simp only[qx]at aX;subst aX;have:=hnil rfl;subst this;rfl
 |_=>simp[oa]at ha
def aaK{w:World}{γ:G}{cs:P2}{v:Value}(ha:cs.all oa=true)(h:aA w γ (.agg cs) v):v=.agg (cs.map valOf).toArray:=by
 cases h with
 |agg hl hc=>
  rename_i arr;congr 1;refine Array.ext (by simp[hl]) fun i h1 h2=>?_;have hi:i<cs.length:=zE
  have:=HQ (zzaw.1 ha _ (zzde hi)) (hc i cs[i] arr[i] (zzaf hi) (zzag h1));rw[this];simp
def lvO:FuncId->Nat:=fun k=>if k=999999 then 77 else if k=180 then 0 else if k=182 then 1 else 100
def oSL:P2:=[.int .i64 1,.int .i64 (-1),.int .i64 30,.int .i64 1,.int .i64 2,.int .i64 10,.int .i64 0,.int .i64 0,.int .i64 0,.int .i64 0,.int .i64 0,.int .i64 0,.sl .nil [],.int .i64 0,.int .i64 0,.int .i64 0,.int .i64 0,.int .i64 0,.int .i64 0,.int .i64 0,.int .i64 0,.int .i64 0,.int .i64 0,.int .i64 0,.int .i64 0,.str ⟨#[]⟩]
def oSV:P1:=#[.int .i64 1,.int .i64 (-1),.int .i64 30,.int .i64 1,.int .i64 2,.int .i64 10,.int .i64 0,.int .i64 0,.int .i64 0,.int .i64 0,.int .i64 0,.int .i64 0,.slice none 0 0,.int .i64 0,.int .i64 0,.int .i64 0,.int .i64 0,.int .i64 0,.int .i64 0,.int .i64 0,.int .i64 0,.int .i64 0,.int .i64 0,.int .i64 0,.int .i64 0,.string ⟨#[]⟩]
theorem L9:(oSL.map valOf).toArray=oSV:=rfl
def HR:((CT Tryz.prog (fun _=>.junk) (J2 Tryz.prog (fun _=>.junk) anj lvO 300 4) anj 300).fn .nil 76 [.ptr 0 0] ⟨[[.str ⟨#[2,1,60,2,4,20]⟩,.int .i64 0]],[],fun _=>.gone,0⟩).map (·.1)=some (.agg oSL):=by kernel_rfl
def HS:aB Tryz.prog (fun _=>.junk) Y0 76 [.ptr 0 0] ⟨[[.str ⟨#[2,1,60,2,4,20]⟩,.int .i64 0]],[],fun _=>.gone,0⟩ fun r _=>r=.agg oSL:=by
 have h:=HR;obtain⟨⟨r,m'⟩,hx,hr⟩:=zzby.1 h;exact(NL (uA Qcb lvO 300 4) Qcb 300).2 .nil _ _ _ _ _ hx _ hr
def afS(w:World)(b:Nat)(t:TypeId)(hb:w.heap[b]?=some (.cells #[.string ⟨#[2,1,60,2,4,20]⟩,.int .i64 0] t (0,0))):
  Calls Tryz.prog 76 #[.pointer (some ⟨b,0,none⟩)] w fun e w'=>e=.returned (.agg oSV)/\Below b w w':=by
 refine Calls.mono (RT HS w b _ t hb (fun γ=>⟨zzab _,fun i a v ha hv=>?_⟩) (fun v hv=>?_)) ?_
 ·match i,ha,hv with
  |0,ha,hv=>cases ha;cases hv;exact .str _
  |1,ha,hv=>cases ha;cases hv;exact .int _ _
  |i+2,ha,hv=>simp at ha
 ·simp at hv;rcases hv with rfl|rfl<;>rfl
 rintro e w' ⟨v,γ',r,m',rfl,h1,h2,rfl⟩;have:=aaK (by rfl) h2;rw[L9]at this;exact⟨by rw[this],h1⟩
open Go Go.Abs
def Ho:P2:=[I 24000,I 1001,I 24,I 0,I 24,I 1,I 24,I 0,I 25,I 1,I 25,I 0,I 30000,I 1001,I 30,I 2,I 30,I 1,I 30,I 0,I 50,I 1,I 50,I 0,I 60000,I 1001,I 60,I 4,I 60,I 1,I 60,I 0]
def aD:Nat->AV
 |2=>.ep Ho 0
 |_=>.junk
def Ze{α:Type}{l:List α}{i:Nat}{a:α}(h:l[i]?=some a):l.drop i=a::l.drop (i+1):=by
 obtain⟨h1,h2⟩:=zza.1 h;rw[zzah h1,h2]
structure Evt where
 id:Int
 it:Int
 st:Int
 fr:Int
 i:Int
 re:Int
 al:Option Int
def jT:Pure Tryz.prog aD 64 [.sl .nil []] (.sl .nil []):=by
 refine Qp IJ (fun _ _ _=>.junk) zd ?_;simp[abr,abt]
def nR(f:Int):Prop:= -1000000<=f/\f<=1000000
def wu(n:Int)(h:0<=n)(h':n<=2000000):IntKind.u64.wrap n=n:=by
 simp[IntKind.wrap,IntKind.bits,IntKind.signed];omega
def aiR:AV:=.aS [.agg [I 0,I 0,I 0,I 0,I 0,I 0,.sl .nil []],I 0,.bool false]
open Go Go.Abs Go.RowKit
def anm{w:World}{γ:G}:∀{a:AV},oa a=true->aA w γ a (valOf a)
 |.int k n,_=>.int k n
 |.str s,_=>.str s
 |.sl .nil [],_=>aA.sl 0 0 0 (fun _ _=>undef) (zzab _) (fun _=>rfl) (fun h=>(h rfl).elim) (fun r h=>by cases h) (fun i j c h=>by simp[Qv]at h) (fun i j c h=>by simp[Qv]at h) rfl
def aaL{w:World}{γ:G}{cs:P2}(h:cs.all oa=true):aA w γ (.agg cs) (.agg (cs.map valOf).toArray):=
 .agg zd fun i c v hc hv=>by
  have hp:=zzaw.1 h c (zzad hc);have:(cs.map valOf)[i]?=some v:=by simpa using hv
  rw[zzbm,hc]at this;cases this;exact anm hp
def ann{w:World}{γ:G}{cs:P2}{v:Value}(ha:cs.all oa=true)(h:aA w γ (.aS cs) v):v=.tuple (cs.map valOf).toArray:=by
 cases h with
 |aS hl hc=>
  rename_i arr;congr 1;refine Array.ext (by simp[hl]) fun i h1 h2=>?_;have hi:i<cs.length:=zE
  have:=HQ (zzaw.1 ha _ (zzde hi)) (hc i cs[i] arr[i] (zzaf hi) (zzag h1));rw[this];simp
def Qbc{n:Int}{b:UInt8}(h:Pure Tryz.prog glE 69 [.int .i64 n] (.aS [.str ⟨#[b]⟩,.int .i64 0]))(w:World):
  Calls Tryz.prog 69 #[.int .i64 n] w fun e w'=>e=.returned (.tuple #[.string (s1 b),.int .i64 0])/\Below w.heap.size w w':=by
 refine Calls.mono (h.2 (fun _ _=>False) w [.int .i64 n] (fun g=>.junk _) ⟨rfl,fun i a v ha hv=>?_⟩) ?_
 ·match i,ha,hv with
  |0,ha,hv=>cases ha;cases hv;exact .int _ _
  |i+1,ha,hv=>simp at ha
 rintro e w' ⟨v,rfl,h1,h2⟩;have:=ann (by rfl) h2;exact⟨by rw[this];rfl,h1⟩
def tj(w:World)(h:Pure Tryz.prog glE 22 [.agg oSL] (.bool true)):Calls Tryz.prog 22 #[.agg oSV] w fun e w'=>e=.returned (.bool true)/\Below w.heap.size w w':=by
 refine Calls.mono (h.2 (fun _ _=>False) w [.agg oSV] (fun g=>.junk _) ⟨rfl,fun i a v ha hv=>?_⟩) ?_
 ·match i,ha,hv with
  |0,ha,hv=>cases ha;cases hv;exact aaL (by rfl)
  |i+1,ha,hv=>simp at ha
 rintro e w' ⟨v,rfl,h1,h2⟩;cases h2;exact⟨rfl,h1⟩
def lvV:FuncId->Nat:=fun k=>100
def aja:Pure Tryz.prog glE 69 [.int .i64 1] (.aS [.str ⟨#[2]⟩,.int .i64 0]):=Qcx Qcb lvE 300 4 (by kernel_rfl) rfl
def ano:Pure Tryz.prog glE 69 [.int .i64 (-1)] (.aS [.str ⟨#[1]⟩,.int .i64 0]):=Qcx Qcb lvE 300 4 (by kernel_rfl) rfl
def anp:Pure Tryz.prog glE 69 [.int .i64 30] (.aS [.str ⟨#[60]⟩,.int .i64 0]):=Qcx Qcb lvE 300 4 (by kernel_rfl) rfl
def at1:Pure Tryz.prog glE 69 [.int .i64 2] (.aS [.str ⟨#[4]⟩,.int .i64 0]):=Qcx Qcb lvE 300 4 (by kernel_rfl) rfl
def aaM:Pure Tryz.prog glE 22 [.agg oSL] (.bool true):=Qcx Qcb lvV 300 4 (by kernel_rfl) rfl
def ajb{gl:Nat->AV}{f:FuncId}{x r:AV}{v u:Value}(hc:bw Tryz.prog f)(hx:∀{w:World}{γ:G}{y:Value},aA w γ x y->y=v)(hr:∀(w:World)(γ:G),aA w γ r u)
  (h:∀w:World,Calls Tryz.prog f #[v] w fun e w'=>e=.returned u/\Below w.heap.size w w'):Pure Tryz.prog gl f [x] r:=by
 refine⟨hc,fun ro w vs _ hv=>?_⟩;obtain⟨hl,hc⟩:=hv
 match vs,hl with
 |[y],_=>
  have:=hx (hc 0 x y rfl rfl);subst this;refine Calls.mono (h w) ?_;rintro e w' ⟨rfl,h1⟩;exact⟨_,rfl,h1,hr _ _⟩
def aaN{w:World}{γ:G}{a b:AV}{x y:Value}(h1:aA w γ a x)(h2:aA w γ b y):aA w γ (.aS [a,b]) (.tuple #[x,y]):=
 .aS rfl fun i c v hc hv=>by
  match i,hc,hv with
  |0,hc,hv=>cases hc;cases hv;exact h1
  |1,hc,hv=>cases hc;cases hv;exact h2
  |i+2,hc,hv=>simp at hc
def HT{gl:Nat->AV}:Pure Tryz.prog gl 32 [.agg oSL] (.aS [.str ⟨#[2,1,60,2,4,20]⟩,.int .i64 0]):=by
 refine ajb (v:=.agg oSV) (u:=.tuple #[.string ⟨#[2,1,60,2,4,20]⟩,.int .i64 0]) ⟨_,Tryz.func32,rfl,rfl⟩ (fun h=>?_) (fun w γ=>aaN (.str _) (.int _ _)) fun w=>?_
 ·have:=aaK (by rfl) h;rw[L9]at this;exact this
 exact aaI oSV 1 (-1) 30 2 10 2 1 60 2 4 20 w rfl rfl rfl rfl rfl rfl rfl (fun w=>tj w aaM) (Qbc aja) (Qbc ano) (Qbc anp) (Qbc aja) (Qbc at1) (Qbc aya)
def HU{gl:Nat->AV}:Pure Tryz.prog gl 33 [.str ⟨#[2,1,60,2,4,20]⟩] (.aS [.agg oSL,.int .i64 0]):=by
 refine ajb (v:=.string ⟨#[2,1,60,2,4,20]⟩) (u:=.tuple #[.agg oSV,.int .i64 0]) ⟨_,Tryz.func33,rfl,rfl⟩ (fun h=>?_) (fun w γ=>aaN ?_ (.int _ _)) fun w=>?_
 ·cases h;rfl
 ·have:=aaL (w:=w) (γ:=γ) (cs:=oSL) (by rfl);rw[L9]at this;exact this
 exact aaJ oSV _ rfl (by kernel_rfl) w (fun w b hb=>afS w b _ hb) (fun w=>tj w aaM)
