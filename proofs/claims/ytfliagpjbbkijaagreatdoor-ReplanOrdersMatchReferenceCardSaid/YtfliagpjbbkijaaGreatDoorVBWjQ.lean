import Derived.Test.YtfliagpjbbkijaaGreatDoorVBWjO
import Derived.Stop.Asserts
import Derived.Laws.CopyOwn
set_option linter.all false
set_option maxRecDepth 100000
set_option maxHeartbeats 64000000
namespace Go.Proofs.YtfliagpjbbkijaaGreatDoor
open Go Go.Abs Go.RowKit
def anW(b:Nat)(w1:World):fE where
 p γ w:=Below b w1 w/\b<=w1.heap.size/\∀x,OI γ x->b<=x
 st γ w γ' w' h hc:=by
  obtain⟨h1,h2,h3⟩:=h;have hs:=h1.size;refine⟨h1.trans ⟨hc.os,hc.tape,hc.output,hc.size,fun k hk=>hc.same k zE fun ho=>?_⟩,h2,fun k hk=>?_⟩
  ·have:=h3 k ho;omega
  rcases hc.oi k hk with hk|hk
  ·exact h3 k hk
  omega
def cH{ro:Nat->Nat->Prop}{w w':World}(h:Below w.heap.size w w'):Ev w (G0 ro) w' (G0 fun x o=>ro x o/\x<w.heap.size):=
 ⟨h.size,fun b o hb hr=>⟨⟨hr,hb⟩,cell_of_heap (h.block b hb)⟩,fun _ _ h=>(by cases h),fun _=>zzaa _,fun _ _ h=>(by cases h),rfl,fun _ _ _ h=>(by cases h),fun _ h=>h.elim,Sz.of_same fun b hb=>h.block b hb⟩
def Pc{gl:Nat->AV}{cells:P1}{ro:Nat->Nat->Prop}{B:Nat}(w:World)(b:Nat)(arr:PQ)(t:TypeId)(hB:B<=b)(fh:∀g,au w (G0 fun x o=>ro x o/\x<B) (gl g) (.pointer (some ⟨g,0,none⟩)))
  (hb:w.heap[b]?=some (.cells arr t (0,0)))(hr:∀γ,cG w γ cells arr.toList)(h1:∀v∈arr.toList,v.oneCell'=true):
  ∃γ0:G,aq b (anW b w) (fun x o=>ro x o/\x<B) γ0 w (⟨[cells],[],fun _=>.gone,0⟩:AM).B (⟨[cells],[],fun _=>.gone,0⟩:AM).L/\cB γ0 w (⟨[cells],[],fun _=>.gone,0⟩:AM)/\
   ak w γ0 [.ptr 0 0] [.pointer (some ⟨b,0,none⟩)]/\∀g,au w γ0.cQ (gl g) (.pointer (some ⟨g,0,none⟩)):=by
 have ah:b<w.heap.size:=by
  rcases zzab b w.heap.size with h|h
  ·exact h
  rw[zzbt h]at hb;cases hb
 let γ0:G:={G0 (fun x o=>ro x o/\x<B)with β:=fun id=>if id=0 then some b else none}
 have hβ:∀id x,γ0.β id=some x->id=0/\x=b:=fun id x hx=>by
  by_cases hi:id=0
  ·refine⟨hi,?_⟩;have:γ0.β id=some b:=if_pos hi;rw[this]at hx;exact(Option.some.inj hx).symm
  have:γ0.β id=none:=if_neg hi;rw[this]at hx;cases hx
 refine⟨γ0,⟨⟨Below.refl _ _,zzgs ah,fun x hx=>?_⟩,zzgs ah,fun _ _ h=>.inl h,fun x o h=>Nat.lt_trans (zzan h.2 hB) ah,fun id cs x yO hx=>?_,fun id x hx=>?_,fun id id' x hx hy=>?_,fun id x h=>(by cases h),fun id id' x h=>(by cases h),fun x h=>h.elim,fun id x h=>(by cases h),fun id id' x h=>(by cases h),fun id n h=>by simp[AM.L]at h,fun _ _=>rfl⟩,⟨fun _=>.inl rfl,fun _ _=>rfl,fun _ _ _ h=>(by cases h),fun _ _ h=>(by cases h)⟩,⟨rfl,fun i a v ha hv=>?_⟩,fun g=>fh g⟩
 ·obtain⟨id,hx⟩|⟨_,hx⟩|hx|⟨_,hx⟩:=hx
  ·have:=(hβ id x hx).2;omega
  ·cases hx
  ·exact hx.elim
  cases hx
 ·obtain⟨rfl,rfl⟩:=hβ id x hx;have:cells=cs:=by simpa[AM.B]using yO
  subst this;exact⟨arr,t,hb,hr _,h1⟩
 ·obtain⟨rfl,rfl⟩:=hβ id x hx;exact⟨zzaa _,ah,fun o h=>by have:=h.2;omega,fun id' h=>(by cases h),cells,by simp[AM.B]⟩
 ·exact .inr (.inr ((hβ id x hx).1.trans (hβ id' x hy).1.symm))
 match i,ha,hv with
 |0,ha,hv=>cases ha;cases hv;exact .ptr rfl
 |i+1,ha,hv=>simp at ha
def Sk{P:Program}{gl:Nat->AV}{f:FuncId}{cells:P1}{K:UV}(h:aF P gl Y0 f [.ptr 0 0] ⟨[cells],[],fun _=>.gone,0⟩ K){ro:Nat->Nat->Prop}{B:Nat}(w:World)(b:Nat)(arr:PQ)(t:TypeId)(hB:B<=b)
  (fh:∀g,au w (G0 fun x o=>ro x o/\x<B) (gl g) (.pointer (some ⟨g,0,none⟩)))(hb:w.heap[b]?=some (.cells arr t (0,0)))(hr:∀γ,cG w γ cells arr.toList)(h1:∀v∈arr.toList,v.oneCell'=true):
  Calls P f #[.pointer (some ⟨b,0,none⟩)] w fun e w'=>∃v r m',e=.returned v/\Below b w w'/\au w' (G0 fun x o=>(ro x o/\x<B)\/b<=x) (bG m' 6 r) v/\K r m':=by
 obtain⟨γ0,q1,q2,q3,q4⟩:=Pc w b arr t hB fh hb hr h1;refine(callsIn_wide (n:=0)).1 ?_;refine CallsIn.mono (h.2 b (anW b w) _ γ0 w _ q1 q2 q4 (fun _ _ _ _ _ _ _ _ _ _ _ hY _ _=>hY.elim) q3) ?_;rintro e w' ⟨v,γ',r,m',rfl,_,h2,_,h4,h5⟩;exact⟨v,r,m',rfl,h2.bs.1,Qel h2 (fun _ _ h=>h) h2.an 6 _ v h4 fun _ id b hb o=>.inr (h2.β id b hb).1,h5⟩
def yC{P:Program}{gl:Nat->AV}{f:FuncId}{cells:P1}{K:List PanicEntry->AM->Prop}(h:Fe P gl Y0 f [.ptr 0 0] ⟨[cells],[],fun _=>.gone,0⟩ K){ro:Nat->Nat->Prop}{B:Nat}(w:World)(b:Nat)(arr:PQ)(t:TypeId)(hB:B<=b)
  (fh:∀g,au w (G0 fun x o=>ro x o/\x<B) (gl g) (.pointer (some ⟨g,0,none⟩)))(hb:w.heap[b]?=some (.cells arr t (0,0)))(hr:∀γ,cG w γ cells arr.toList)(h1:∀v∈arr.toList,v.oneCell'=true):
  Calls P f #[.pointer (some ⟨b,0,none⟩)] w fun e w'=>∃ch m',e=.panicked ch/\Below b w w'/\K ch m':=by
 obtain⟨γ0,q1,q2,q3,q4⟩:=Pc w b arr t hB fh hb hr h1;refine(callsIn_wide (n:=0)).1 ?_;refine CallsIn.mono (h.2 b (anW b w) _ γ0 w _ q1 q2 q4 (fun _ _ _ _ _ _ _ _ _ _ _ hY _ _=>hY.elim) q3) ?_;rintro e w' ⟨ch,γ',m',rfl,_,h2,_,h5⟩;exact⟨ch,m',rfl,h2.bs.1,h5⟩
def age(m:AM)(o:Od)(rt:Rt):Wk (bG m 6 (.agg (bB o rt))) (.agg (bB o .ro)):=by
 have h:∃r',bG m 6 (.agg (bB o rt))=.agg (bB o r'):=by
  cases rt with
  |own i z=>exact⟨.ro,by simp[bB]⟩
  |ro=>exact⟨.ro,by simp[bB]⟩
  |full=>exact⟨.full,by simp[bB]⟩
  |nil=>exact⟨.nil,by simp[bB]⟩
  |nn=>exact⟨.nn,by simp[bB]⟩
 obtain⟨r',h⟩:=h;rw[h];exact Wq ⟨Ps,Ps,Ps,Ps,Ps,Ps,Ps,Ps,Ps,Ps,Ps,Ps,Wk.sl _ _,Ps,Ps,Ps,Ps,Ps,Ps,Ps,Ps,Ps,Ps,Ps,Ps,Ps,trivial⟩
def aaQ{a0 a1:Addr}{s:ByteArray}{o:Od}(hs:s.size<=1000000)(h:Zl (aU s)=.ok o):aF Tryz.prog (fT a0 a1) Y0 35 [.ptr 0 0] ⟨[[.str s,I 0]],[],fun _=>.gone,0⟩ fun r m=>∃rt,r=.agg (bB o rt):=by
 refine Xn IT DU zd (yA ⟨fun E m o' rt h' e2 hr=>?_,fun E m h'=>?_,fun E m h'=>?_⟩ hs)
 ·rw[h]at h';cases h';simp[apn,e2,hr,bB]
 ·rw[h]at h';cases h'
 rw[h]at h';cases h'
def Ml{a0 a1:Addr}{s:ByteArray}(hs:s.size<=1000000)(h:Zl (aU s)=.wire):Fe Tryz.prog (fT a0 a1) Y0 35 [.ptr 0 0] ⟨[[.str s,I 0]],[],fun _=>.gone,0⟩ fun ch m=>ch=chE a0:=by
 refine NX IT DU zd (yA ⟨fun E m o' rt h' e2 hr=>?_,fun E m h'=>rfl,fun E m h'=>?_⟩ hs)
 ·rw[h]at h';cases h'
 rw[h]at h';cases h'
def Sl{a0 a1:Addr}{s:ByteArray}(hs:s.size<=1000000)(h:Zl (aU s)=.rep):Fe Tryz.prog (fT a0 a1) Y0 35 [.ptr 0 0] ⟨[[.str s,I 0]],[],fun _=>.gone,0⟩ fun ch m=>ch=chE a1:=by
 refine NX IT DU zd (yA ⟨fun E m o' rt h' e2 hr=>?_,fun E m h'=>?_,fun E m h'=>rfl⟩ hs)
 ·rw[h]at h';cases h'
 rw[h]at h';cases h'
open Go.Extern.Stop Go.Stop Go.Extern
def HZ(v:Value)(w:World):(callFunc 72 #[.iface 376 v]).run Tryz.prog w=.ok (.value (.iface 214 (.agg #[.pointer (some ⟨3,376,none⟩)]))) w:=by
 rw[@run_callFunc_extern Tryz.prog 72 _ Extern.ReflectliteType.typeOf Tryz.func72 (by kernel_rfl) (by kernel_rfl) (by kernel_rfl) (by kernel_rfl)];kernel_rfl
def BN(w:World):(callFunc 305 #[.agg #[.pointer (some ⟨3,376,none⟩)]]).run Tryz.prog w=.ok (.value (.bool true)) w:=by
 rw[@run_callFunc_extern Tryz.prog 305 _ (Extern.ReflectliteType.method fun t=>do Rtype.noPackHeld "Comparable" t;pure (.bool (<- typeInfo t).comparable)) Tryz.func305 (by kernel_rfl) (by kernel_rfl) (by kernel_rfl) (by kernel_rfl)];kernel_rfl
def Qbc(v:Value)(w:World):(Go.method 510 214 v "Comparable").run Tryz.prog w=.ok (305,v) w:=by kernel_rfl
def aaR:(Tryz.prog.info? 376).map (·.comparable)=some true:=by kernel_rfl
def aaS:(Tryz.prog.info? 399).map (·.size)=some 1:=by kernel_rfl
def auT(v:Value)(xT:TypeId)(w:World):(Instr.typeAssert (.iface 376 v) xT 216 true).run Tryz.prog w=.ok (.tuple #[.nilIface,.bool false]) w:=run_typeAssert_lacksB Tryz.underlying216 (by kernel_rfl) (by kernel_rfl) v xT w
def Sm(v:Value)(xT:TypeId)(w:World):(Instr.typeAssert (.iface 376 v) xT 219 true).run Tryz.prog w=.ok (.tuple #[.nilIface,.bool false]) w:=run_typeAssert_lacksB Tryz.underlying219 (by kernel_rfl) (by kernel_rfl) v xT w
def Mm(v:Value)(xT:TypeId)(w:World):(Instr.typeAssert (.iface 376 v) xT 221 true).run Tryz.prog w=.ok (.tuple #[.nilIface,.bool false]) w:=run_typeAssert_lacksB Tryz.underlying221 (by kernel_rfl) (by kernel_rfl) v xT w
def anX(v:Value)(xT:TypeId)(w:World):(Instr.typeAssert (.iface 376 v) xT 76 true).run Tryz.prog w=.ok (.tuple #[.iface 376 v,.bool true]) w:=run_typeAssert_hasB Tryz.underlying76 (by kernel_rfl) v xT w
def agf(a:Addr)(w:World):Calls Tryz.prog 34 #[.iface 376 (.pointer (some a)),.iface 376 (.pointer (some a))] w fun e w'=>e=.returned (.bool true)/\w'=w:=by
 obtain⟨i,hi,anY⟩:=zzb.1 aaR;obtain⟨j,hj,ja⟩:=zzb.1 aaS;have tT:=HZ;have cT:=BN;have mR:=Qbc;have AF:=run_eql_iface_ptr_same (P:=Tryz.prog) w a Tryz.underlying76 Tryz.underlying376 hi anY hj
 go_enter Tryz.func34,Tryz.ntmps34
 go_wp2
 refine wp_loop_rounds 1 ?_;rw[rounds_succ]
 go_wp2
 go_ret
 exact⟨rfl,rfl⟩
def aaT(a b:Addr)(ca cb:PQ)(ta tb:TypeId)(w:World)(aK:a≠b)(ha:w.heap[a.block]?=some (.cells ca ta (0,0)))(hb:w.heap[b.block]?=some (.cells cb tb (0,0))):
  Calls Tryz.prog 34 #[.iface 376 (.pointer (some a)),.iface 376 (.pointer (some b))] w fun e w'=>e=.returned (.bool false)/\w'=w:=by
 obtain⟨i,hi,anY⟩:=zzb.1 aaR;obtain⟨j,hj,ja⟩:=zzb.1 aaS;have tT:=HZ;have cT:=BN;have mR:=Qbc;have nE:=auT;have uE:=Sm;have vE:=Mm;have AF:=run_eql_iface_ptr_other (P:=Tryz.prog) w Tryz.underlying76 Tryz.underlying376 hi anY hj (by rw[ja];decide) aK ha hb
 go_enter Tryz.func34,Tryz.ntmps34
 go_wp2
 refine wp_loop_rounds 1 ?_;rw[rounds_succ]
 go_wp2
 go_ret
 exact⟨rfl,rfl⟩
def Mn(p q:Addr)(w:World):
  CallsD Tryz.prog 33 #[.pointer (some p),.pointer (some q)] .returning w fun e u' w'=>e=.returned (.tuple #[])/\u'=.returning/\w'=w:=by
 refine callsD_of_wpS Tryz.func33 rfl fun c₀ cs hu=>?_;apply wpS_seq;apply wpS_region;simp[wpOpsS,go_sem,recoverD,hu,Tryz.ntmps33,Exit.thenS];apply wpS_seq;apply wpS_seq;apply wpS_region;simp[wpOpsS,go_sem,Exit.thenS];refine wpS_cond (t:=true) (by simp[Act.eval,Array.replicate]) ?_;simp only[if_true];refine wpS_of_wp (wp_ret ?_);cases c₀;simp_all[bodyPostS,results,Tryz.results33,Exit.thenS]
def zO:PQ:=#[.int .i64 0,.int .i64 0,.int .i64 0,.int .i64 0,.int .i64 0,.int .i64 0,.int .i64 0,.int .i64 0,.int .i64 0,.int .i64 0,.int .i64 0,.int .i64 0,.slice none 0 0,.int .i64 0,.int .i64 0,.int .i64 0,.int .i64 0,.int .i64 0,.int .i64 0,.int .i64 0,.int .i64 0,.int .i64 0,.int .i64 0,.int .i64 0,.int .i64 0,.string ⟨#[]⟩]
def auU{P:Program}{c:Code}{Q:PH}{T T':PQ}{d:List Deferred}{w:World}(h:T=T')(hh:Code.wp P c Q ⟨T',d⟩ w):Code.wp P c Q ⟨T,d⟩ w:=by subst h;exact hh
def chV(a:Addr)(r:Bool):List PanicEntry:=[{v:=.iface 376 (.pointer (some a)),recovered:=r}]
def Sn(p q:Nat)(a a0:Addr)(r:Bool)(w:World)(H6 zV:PQ)(aK:p≠q)(hp:w.heap[p]?=some (.cells H6 30 (0,0)))(hq:w.heap[q]?=some (.cells zV 33 (0,0)))(h26:H6.size=26)(hq0:zV.size=1)
  (QW:∀w':World,(∀x,x≠p->x≠q->w'.heap[x]?=w.heap[x]?)->w'.cell? ⟨0,0,none⟩=some (.iface 376 (.pointer (some a0))))
  (hIs:∀w':World,(∀x,x≠p->x≠q->w'.heap[x]?=w.heap[x]?)->Calls Tryz.prog 34 #[.iface 376 (.pointer (some a)),.iface 376 (.pointer (some a0))] w' fun e iw=>e=.returned (.bool r)/\iw=w'):
  CallsD Tryz.prog 33 #[.pointer (some ⟨p,0,none⟩),.pointer (some ⟨q,0,none⟩)] (.panicking (chV a false)) w fun e u' w'=>e=.returned (.tuple #[])/\u'=.panicking (chV a true)/\w'.heap.size=w.heap.size/\(w'.os=w.os/\w'.tape=w.tape/\w'.output=w.output)/\
   w'.heap[p]?=some (.cells zO 30 (0,0))/\w'.heap[q]?=some (.cells #[.int .i64 (if r then 10 else 110)] 33 (0,0))/\∀x,x≠p->x≠q->w'.heap[x]?=w.heap[x]?:=by
 refine callsD_of_wpS Tryz.func33 rfl fun c₀ cs hu=>?_;apply wpS_seq;apply wpS_region;simp[wpOpsS,go_sem,recoverD,hu,Tryz.ntmps33,Exit.thenS,chV];refine wpS_of_wp ?_;refine auU (T':=#[.pointer (some ⟨p,0,none⟩),.pointer (some ⟨q,0,none⟩),.iface 376 (.pointer (some a)),undef,undef,.iface 376 (.pointer (some a)),undef,undef,undef,undef,undef,undef,undef,undef,undef,undef,undef,undef,undef,undef]) (by kernel_rfl) ?_;have hi:(Tryz.prog.info? 30).map (·.size)=some zO.size:=rfl;have yI:zO.all (·.oneCell')=true:=by kernel_rfl
 have e34:∀args w,(callFunc 34 args).run Tryz.prog w=.ok (.enter 34 args) w:=enters_of Tryz.func34 (by kernel_rfl) rfl;have tA:=anX;have hq1:(w.setRow p zO).heap[q]?=some (.cells zV 33 (0,0)):=(setRow_other w p q zO (Ne.symm aK)).trans hq;have fz:(w.setRow p zO).frozen? ⟨q,0,none⟩=false:=Lib.frozen_of_heap hq1 0;have hp1:(w.setRow p zO).heap[p]?=some (.cells zO 30 (0,0)):=setRow_heap w p H6 zO 30 (0,0) hp;obtain⟨W2,FY⟩:∃W,W=(w.setRow p zO).setCell ⟨q,0,none⟩ (.int .i64 110):=⟨_,rfl⟩
 have hq2:W2.heap[q]?=some (.cells #[.int .i64 110] 33 (0,0)):=by
  rw[FY,setCell_eq_setRow _ _ _ _ _ _ _ hq1];have:=setRow_heap _ _ _ (zV.setIfInBounds 0 (.int .i64 110)) _ _ hq1;rw[this];obtain⟨x,rfl⟩:∃x,zV=#[x]:=zzhj.1 hq0;rfl
 have hp2:W2.heap[p]?=some (.cells zO 30 (0,0)):=by rw[FY];exact(Below.heap_setCell _ ⟨q,0,none⟩ _ p aK).trans hp1
 have ho2:∀x,x≠p->x≠q->W2.heap[x]?=w.heap[x]?:=fun x h1 h2=>by rw[FY];exact(Below.heap_setCell _ ⟨q,0,none⟩ _ x h2).trans (setRow_other w p x zO h1)
 have VE:W2.heap.size=w.heap.size:=by rw[FY];simp[World.setCell,World.setRow]
 have k0:=QW W2 ho2;have d2:W2.cell? ⟨q,0,none⟩=some (.int .i64 110):=by rw[Lib.cell_of_heap hq2];try rfl
 have fz2:W2.frozen? ⟨q,0,none⟩=false:=Lib.frozen_of_heap hq2 0;rw[FY]at k0 d2 fz2;have hI:=hIs W2 ho2;rw[FY]at hI;obtain⟨x0,hx0⟩:∃x,zV=#[x]:=zzhj.1 hq0;have d1:(w.setRow p zO).cell? ⟨q,0,none⟩=some x0:=by rw[Lib.cell_of_heap hq1,hx0];try rfl
 go_wp2_with (first|refine wpList_store_row rfl 30 (.tmp 0) (.tmp 8) rfl p zO rfl rfl 30 H6 hp hi h26 yI ?_|(go_at_fn 34;refine hI.mono ?_))
 rintro e w' ⟨rfl,rfl⟩;rw[<- FY];rw[<- FY]at d2 fz2;cases r with
 |true=>
  go_wp2
  subst FY;refine⟨rfl,_,rfl,.tuple #[],by simp[results,Tryz.results33],rfl,rfl,by rw[<- VE];simp[World.setCell],⟨rfl,rfl,rfl⟩,(Below.heap_setCell _ ⟨q,0,none⟩ _ p aK).trans hp2,?_,fun x h1 h2=>(Below.heap_setCell _ ⟨q,0,none⟩ _ x h2).trans (ho2 x h1 h2)⟩;rw[setCell_eq_setRow _ _ _ _ _ _ _ hq2];exact setRow_heap _ _ _ _ _ _ hq2
 |false=>
  go_wp2
  subst FY;exact⟨rfl,_,rfl,.tuple #[],by simp[results,Tryz.results33],rfl,rfl,VE,⟨rfl,rfl,rfl⟩,hp2,hq2,ho2⟩
def jX(w:World)(o1 o2 o3:Obj):(((w.alloc o1).alloc o2).alloc o3).heap.size=w.heap.size+3/\(((w.alloc o1).alloc o2).alloc o3).heap[w.heap.size]?=some o1/\(((w.alloc o1).alloc o2).alloc o3).heap[w.heap.size+1]?=some o2/\(((w.alloc o1).alloc o2).alloc o3).heap[w.heap.size+1+1]?=some o3/\Below w.heap.size w (((w.alloc o1).alloc o2).alloc o3):=by
 have h1:∀(w:World)(o:Obj),(w.alloc o).heap=w.heap.push o:=fun _ _=>rfl;have e1:∀(h:Array Obj)(o:Obj)(k:Nat),k<h.size->(h.push o)[k]?=h[k]?:=fun h o k hk=>by rw[Array.getElem?_push,if_neg zE]
 refine⟨by rw[h1,h1,h1];simp,?_,?_,?_,(((Below.refl _ w).alloc (zzaa _) _).alloc (by rw[h1];simp) _).alloc (by rw[h1,h1];simp;omega) _⟩
 ·rw[h1,h1,h1,e1 _ _ _ (by simp;omega),e1 _ _ _ zd,zzeh]
 ·rw[h1,h1,h1,e1 _ _ _ zd,show w.heap.size+1=(w.heap.push o1).size by simp,zzeh]
 rw[h1,h1,h1,show w.heap.size+1+1=((w.heap.push o1).push o2).size by simp,zzeh]
def r8{w:World}{k:Nat}{o:Obj}(h:w.heap[k]?=some o):k<w.heap.size:=by
 rcases zzab k w.heap.size with h'|h'
 ·exact h'
 simp[zzbt h']at h
structure Sq (a0 a1:Addr) (w:World):Prop where
 ne:a0≠a1
 c0:w.cell? ⟨0,0,none⟩=some (.iface 376 (.pointer (some a0)))
 c1:w.cell? ⟨1,0,none⟩=some (.iface 376 (.pointer (some a1)))
 l1:1<w.heap.size
 b0:∃arr t,w.heap[a0.block]?=some (.cells arr t (0,0))
 b1:∃arr t,w.heap[a1.block]?=some (.cells arr t (0,0))
def DX{w w':World}{b o:Nat}(h:w'.heap[b]?=w.heap[b]?):w'.cell? ⟨b,o,none⟩=w.cell? ⟨b,o,none⟩:=by simp[World.cell?,h]
def Sq.keep{a0 a1:Addr}{w w':World}(h:Sq a0 a1 w)(hs:w.heap.size<=w'.heap.size)(hk:∀x,x<w.heap.size->w'.heap[x]?=w.heap[x]?):Sq a0 a1 w':=by
 have hl:=h.l1;obtain⟨r0,t0,h0⟩:=h.b0;obtain⟨r1,t1,h1⟩:=h.b1;exact⟨h.ne,by rw[<- h.c0];exact DX (hk 0 zE),by rw[<- h.c1];exact DX (hk 1 zE),zE,⟨r0,t0,(hk _ (r8 h0)).trans h0⟩,⟨r1,t1,(hk _ (r8 h1)).trans h1⟩⟩
def BO{a0 a1 a:Addr}{r:Bool}(hr:a=a0/\r=true\/a=a1/\r=false){w w1:World}(he:Sq a0 a1 w)(hB:Below w.heap.size w w1){H6 zV:PQ}(hp:w1.heap[w.heap.size]?=some (.cells H6 30 (0,0)))(hq:w1.heap[w.heap.size+1]?=some (.cells zV 33 (0,0)))(h26:H6.size=26)(hq1:zV.size=1)
  (x0 x1 x4 x5 x6 x7 x8 x9 x10 x11 x12 zR zS zT zU:Value){R:Ending->World->Prop}(hR:∀W,Below w.heap.size w W->R (.returned (.tuple #[.agg zO,.int .i64 (if r then 10 else 110)])) W):
  Leaves Tryz.prog Tryz.f10 #[x0,x1,.pointer (some ⟨w.heap.size,0,none⟩),.pointer (some ⟨w.heap.size+1,0,none⟩),x4,x5,x6,x7,x8,x9,x10,x11,x12,zR,zS,zT,zU] R [{target:=.fn (.func 33) #[.pointer (some ⟨w.heap.size,0,none⟩),.pointer (some ⟨w.heap.size+1,0,none⟩)],args:=#[]}] (.panicking (chV a false)) w1:=by
 have hk:∀w':World,(∀x,x≠w.heap.size->x≠w.heap.size+1->w'.heap[x]?=w1.heap[x]?)->∀x,x<w.heap.size->w'.heap[x]?=w.heap[x]?:=fun w' h x hx=>(h x zE zE).trans (hB.block x hx);have hl:=he.l1;refine leaves_cons (f:=33) (args:=#[.pointer (some ⟨w.heap.size,0,none⟩),.pointer (some ⟨w.heap.size+1,0,none⟩)]) zd (by simp[go_sem]) ?_;refine(Sn w.heap.size (w.heap.size+1) a a0 r w1 H6 zV zE hp hq h26 hq1 (fun w' h=>by rw[<- he.c0];exact DX (hk w' h 0 zE)) (fun w' h=>?_)).mono ?_
 ·obtain⟨r0,t0,h0⟩:=he.b0;obtain⟨r1,t1,h1⟩:=he.b1;obtain⟨rfl,rfl⟩|⟨rfl,rfl⟩:=hr
  ·exact agf _ _
  exact aaT _ _ r1 r0 t1 t0 _ (Ne.symm he.ne) ((hk w' h _ (r8 h1)).trans h1) ((hk w' h _ (r8 h0)).trans h0)
 rintro e u' iw ⟨rfl,rfl,hz,⟨g1,g2,g3⟩,g4,g5,g6⟩;have hs:settle (.panicking (chV a true))=.returning:=by simp[settle,chV]
 have hi:(Tryz.prog.info? 30).map (·.size)=some zO.size:=rfl;have eR:=run_loadVar_row (P:=Tryz.prog) iw w.heap.size 30 30 zO (0,0) _ g4 Tryz.underlying30 rfl hi;have d:iw.cell? ⟨w.heap.size+1,0,none⟩=some (.int .i64 (if r then 10 else 110)):=by rw[Lib.cell_of_heap g5];try rfl
 have uq:(loadVar 33 ⟨w.heap.size+1,0,none⟩).run Tryz.prog iw=.ok (.int .i64 (if r then 10 else 110)) iw:=by simp[go_sem,d]
 have hBW:Below w.heap.size w iw:=⟨g1.trans hB.os,g2.trans hB.tape,g3.trans hB.output,by rw[hz];exact hB.size,fun x hx=>(g6 x zE zE).trans (hB.block x hx)⟩;have:=hR iw hBW;simp only[hs];simp[Leaves,results,Tryz.results10,asAddr,eR,uq,this]
def aaU{a0 a1:Addr}(s:ByteArray)(w:World)(he:Sq a0 a1 w)(R:Ending->World->Prop)(RO:PQ->World->Prop)
  (
   hO:∀w3:World,w3.heap[w.heap.size+1+1]?=some (.cells #[.string s,.int .i64 0] 96 (0,0))->Below w.heap.size w w3->Calls Tryz.prog 35 #[.pointer (some ⟨w.heap.size+1+1,0,none⟩)] w3 fun e w1=>Below (w.heap.size+1+1) w3 w1/\
   ((∃arr,e=.returned (.agg arr)/\arr.size=26/\arr.all (·.oneCell')=true/\RO arr w1)\/(∃a r,e=.panicked (chV a false)/\(a=a0/\r=true\/a=a1/\r=false)/\∀W,Below w.heap.size w W->R (.returned (.tuple #[.agg zO,.int .i64 (if r then 10 else 110)])) W)))
  (
   hV:∀arr w1 w2,RO arr w1->w1.heap.size<=w2.heap.size->(∀x,x<w1.heap.size->w2.heap[x]?=w1.heap[x]?)->Below w.heap.size w w2->Calls Tryz.prog 9 #[.agg arr] w2 fun e w'=>Below w2.heap.size w2 w'/\((e=.returned (.bool true)/\∀W rB,w1.heap[w.heap.size]?=some (.cells zO 30 (0,0))->w1.heap[w.heap.size+1]?=some (.cells #[.int .i64 0] 33 (0,0))->Below w.heap.size w W->w1.heap.size<=W.heap.size->W.heap[w.heap.size]?=some (.cells arr 30 (0,0))->W.heap[w.heap.size+1]?=some (.cells #[rB] 33 (0,0))->(∀x,x≠w.heap.size->x≠w.heap.size+1->x<w1.heap.size->W.heap[x]?=w1.heap[x]?)->R (.returned (.tuple #[.agg arr,.int .i64 0])) W)\/
   (e=.returned (.bool false)/\∀W,Below w.heap.size w W->R (.returned (.tuple #[.agg zO,.int .i64 110])) W))):
  Calls Tryz.prog 10 #[.string s] w R:=by
 have hmf:∀(fn:Fn)(first cap:PQ)(w:World),(Instr.makeFunc fn first cap).run Tryz.prog w=.ok (.func fn first cap) w:=fun _ _ _ _=>rfl;have e76:∀args w,(callFunc 35 args).run Tryz.prog w=.ok (.enter 35 args) w:=enters_of Tryz.func35 (by kernel_rfl) rfl;have e22:∀args w,(callFunc 9 args).run Tryz.prog w=.ok (.enter 9 args) w:=enters_of Tryz.func9 (by kernel_rfl) rfl
 go_enter_defers Tryz.func10,Tryz.ntmps10
 go_wp2_with (go_at_fn 35;refine(hO _ (jX _ _ _ _).2.2.2.1 (jX _ _ _ _).2.2.2.2).mono ?_)
 rintro e w1 ⟨dI,h⟩;obtain⟨t1,t2,t3,t4,t5⟩:=jX w (.cells zO 30) (.cells #[.int .i64 0] 33) (.cells #[.string s,.int .i64 0] 96);have di:=(dI.block w.heap.size zE).trans t2;have hbc:=(dI.block (w.heap.size+1) zE).trans t3;have wv:=t5.trans (dI.mono zE);have hs1:=zzan (Nat.lt_of_lt_of_eq (zzf (w.heap.size+2)) t1.symm) dI.size;clear dI t1 t2 t3 t4 t5;obtain⟨arr,rfl,hsz,yI,hRO⟩|⟨a,r,rfl,hr,hR⟩:=h
 ·have hi:(Tryz.prog.info? 30).map (·.size)=some arr.size:=by rw[hsz];try rfl
  have bQ:=setRow_heap (w1.alloc (.cells zO 30)) w1.heap.size zO arr 30 (0,0) (heap_alloc_new _ _);have yR:Below w1.heap.size w1 ((w1.alloc (.cells zO 30)).setRow w1.heap.size arr):=below_setRow ((Below.refl _ _).alloc (zzaa _) _) (zzaa _) arr
  go_wp2_with (first
   |refine wpList_store_row rfl 30 (.tmp 5) (.tmp 11) rfl w1.heap.size arr rfl rfl 30 zO (heap_alloc_new _ _) hi (by rw[hsz];try rfl) yI ?_
   |refine wpList_load_row rfl 30 (.tmp 5) rfl w1.heap.size rfl 30 arr (0,0) _ bQ Tryz.underlying30 rfl hi ?_
   |(go_at_fn 9;refine(hV arr w1 _ hRO yR.size yR.block (wv.trans (yR.mono zE))).mono ?_))
  rintro e w2 ⟨iI,h⟩;have ah:=r8 bQ;have QI:=(iI.block _ ah).trans bQ;have N3:=yR.trans (iI.mono (zzgs ah));have FZ:=(N3.block w.heap.size zE).trans di;have auV:=(N3.block (w.heap.size+1) zE).trans hbc;have wz:=wv.trans (N3.mono zE);have ho2:=N3.block;have VE:=N3.size;clear iI bQ yR wv N3 ah;obtain⟨rfl,hR⟩|⟨rfl,hR⟩:=h
  ·have hc3:=(setRow_other w2 w.heap.size (w.heap.size+1) arr zE).trans auV;have d:(w2.setRow w.heap.size arr).cell? ⟨w.heap.size+1,0,none⟩=some (.int .i64 0):=by rw[Lib.cell_of_heap hc3];try rfl
   have fz:(w2.setRow w.heap.size arr).frozen? ⟨w.heap.size+1,0,none⟩=false:=Lib.frozen_of_heap hc3 0;have Hs:=setRow_heap w2 w.heap.size zO arr 30 (0,0) FZ;have hB4:Below w.heap.size w (w2.setRow w.heap.size arr):=below_setRow wz (zzaa _) arr
   go_wp2_with (first
    |refine wpList_load_row rfl 30 (.tmp 5) rfl w1.heap.size rfl 30 arr (0,0) _ QI Tryz.underlying30 rfl hi ?_
    |refine wpList_store_row rfl 30 (.tmp 2) (.tmp 16) rfl w.heap.size arr rfl rfl 30 zO FZ hi (by rw[hsz];try rfl) yI ?_)
   have RI:=(Below.heap_setCell (w2.setRow w.heap.size arr) ⟨w.heap.size+1,0,none⟩ (.int .i64 0) w.heap.size zd).trans Hs;have hc5:=setRow_heap _ _ _ ((#[.int .i64 0]:PQ).setIfInBounds 0 (.int .i64 0)) _ _ hc3;rw[<- setCell_eq_setRow _ _ _ _ _ _ _ hc3]at hc5;have hB5:=hB4.setCell (p:=⟨w.heap.size+1,0,none⟩) (Nat.le_succ _) (.int .i64 0);have RH:∀x,x≠w.heap.size->x≠w.heap.size+1->x<w1.heap.size->((w2.setRow w.heap.size arr).setCell ⟨w.heap.size+1,0,none⟩ (.int .i64 0)).heap[x]?=w1.heap[x]?:=fun x h1 h2 h3=>(Below.heap_setCell _ ⟨w.heap.size+1,0,none⟩ _ x h2).trans ((setRow_other w2 w.heap.size x arr h1).trans (ho2 x h3));have hz5:w1.heap.size<=((w2.setRow w.heap.size arr).setCell ⟨w.heap.size+1,0,none⟩ (.int .i64 0)).heap.size:=by simpa[World.setCell,World.setRow]using VE
   generalize(w2.setRow w.heap.size arr).setCell ⟨w.heap.size+1,0,none⟩ (.int .i64 0)=W at*
   have d5:W.cell? ⟨w.heap.size+1,0,none⟩=some (.int .i64 0):=by rw[Lib.cell_of_heap hc5];try rfl
   have hl:=run_loadVar_row (P:=Tryz.prog) W w.heap.size 30 30 arr (0,0) _ RI Tryz.underlying30 rfl hi;have nx:=hR W (.int .i64 0) di hbc hB5 hz5 RI hc5 RH;refine leaves_cons (f:=33) (args:=#[.pointer (some ⟨w.heap.size,0,none⟩),.pointer (some ⟨w.heap.size+1,0,none⟩)]) zd (by simp[go_sem]) ?_;refine(Mn ⟨w.heap.size,0,none⟩ ⟨w.heap.size+1,0,none⟩ _).mono ?_;rintro e u' iw ⟨rfl,rfl,rfl⟩;have uq:(loadVar 33 ⟨w.heap.size+1,0,none⟩).run Tryz.prog iw=.ok (.int .i64 0) iw:=by simp[go_sem,d5]
   simp[Leaves,settle,results,Tryz.results10,asAddr,hl,uq,nx]
  have k1:=(he.keep wz.size wz.block).c1;have hpn:∀(t:TypeId)(v:Value)(w:World),(Instr.panic (.iface t v)).run Tryz.prog w=.halt (.panic (.iface t v)) w:=fun _ _ _=>rfl
  go_wp2
  simp only[bodyPostD];exact BO (r:=false) (.inr ⟨rfl,rfl⟩) he wz FZ auV rfl rfl _ _ _ _ _ _ _ _ _ _ _ _ _ _ _ hR
 simp only[bodyPostD];exact BO hr he wv di hbc rfl rfl _ _ _ _ _ _ _ _ _ _ _ _ _ _ _ hR
def valOf:AV->Value
 |.int k n=>.int k n
 |.str s=>.string s
 |_=>.slice none 0 0
def aaV:AV->Bool
 |.int _ _=>true
 |.str _=>true
 |.sl .nil []=>true
 |_=>false
def anZ{w:World}{γ:G}:∀{a:AV},aaV a=true->au w γ a (valOf a)
 |.int k n,_=>.int k n
 |.str s,_=>.str s
 |.sl .nil [],_=>au.sl 0 0 0 (fun _ _=>undef) (zzaa _) (fun _=>rfl) (fun h=>(h rfl).elim) (fun r h=>by cases h) (fun i j c h=>by simp[Qr]at h) (fun i j c h=>by simp[Qr]at h) rfl
def an0{w:World}{γ:G}{cs:P1}(h:cs.all aaV=true):au w γ (.agg cs) (.agg (cs.map valOf).toArray):=
 .agg zd fun i c v hc hv=>by
  have hp:=zzbf.1 h c (zzad hc);have:(cs.map valOf)[i]?=some v:=by simpa using hv
  rw[zzbc,hc]at this;cases this;exact anZ hp
def DY{w:World}{γ:G}{a b:AV}{x y:Value}(h1:au w γ a x)(h2:au w γ b y):au w γ (.aS [a,b]) (.tuple #[x,y]):=
 .aS rfl fun i c v hc hv=>by
  match i,hc,hv with
  |0,hc,hv=>cases hc;cases hv;exact h1
  |1,hc,hv=>cases hc;cases hv;exact h2
  |i+2,hc,hv=>simp at hc
def oZ:Od:=⟨0,0,0,0,0,0,dJ,eF,eG⟩
def Sr:DR->AV
 |.ok o=>.aS [.agg (bB o .ro),I 0]
 |.wire=>.aS [.agg (bB oZ .nil),I 10]
 |.rep=>.aS [.agg (bB oZ .nil),I 110]
def an1{w:World}{γ:G}:au w γ (.agg (bB oZ .nil)) (.agg zO):=an0 (cs:=bB oZ .nil) (by rfl)
def aaW{w:World}{ro:Nat->Nat->Prop}{t:TypeId}{a:Addr}{g:Nat}(h:au w (G0 ro) (.ep [.er t a] 0) (.pointer (some ⟨g,0,none⟩))):w.cell? ⟨g,0,none⟩=some (.iface t (.pointer (some a)))/\g<w.heap.size/\∃arr e,w.heap[a.block]?=some (.cells arr e (0,0)):=by
 obtain⟨b,off,cv,hv,hb,hc,hr⟩:=h.gE;simp only[Value.pointer.injEq,Option.some.injEq,Addr.mk.injEq]at hv;obtain⟨rfl,h0,-⟩:=hv;obtain rfl:off=0:=zE
 have h1:=(hc 0 _ rfl).1;have h2:=hr 0 _ rfl;generalize cv 0=v at h1 h2;cases h2 with
 |er hh=>exact⟨h1,hb,_,_,hh⟩
def agh{a0 a1:Addr}{w:World}{ro:Nat->Nat->Prop}(aK:a0≠a1)(h:∀g,au w (G0 ro) (fT a0 a1 g) (.pointer (some ⟨g,0,none⟩))):Sq a0 a1 w:=by
 obtain⟨p1,p2,p3⟩:=aaW (h 0);obtain⟨q1,q2,q3⟩:=aaW (h 1);exact⟨aK,p1,q1,q2,p3,q3⟩
def aaX{a0 a1:Addr}{w:World}{γ:G}(h:∀g,au w γ (fT a0 a1 g) (.pointer (some ⟨g,0,none⟩))):∀g,au w γ (aD g) (.pointer (some ⟨g,0,none⟩))
 |0=>.junk _
 |1=>.junk _
 |2=>h 2
 |g+3=>.junk _
def Pd:∀(k:Nat){l:P2}{a b:Nat}{ns:Pi},dF k l a=some (ns,b)->ns.length=k
 |0,l,a,b,ns,h=>by cases h;rfl
 |k+1,l,a,b,ns,h=>by
  rw[dF]at h;cases hr:fO l a with
  |none=>rw[hr]at h;cases h
  |some x=>
   rw[hr]at h;simp only at h;obtain⟨⟨ms,c⟩,h1,h2⟩:=zzb.1 h;cases h2;rw[zzba,Pd k h1]
def Mo(h ns:Pi)(al:List Sp)(tx:ByteArray):(gN h ns al tx).nw.al.length<=al.length:=by
 unfold gN;simp only;split
 ·exact zzaa _
 exact zzbe _
def Pe{l:P2}{o:Od}(h:Zl l=.ok o):o.nw.al.length<=7:=by
 unfold Zl at h;split at h
 ·cases h
 split at h
 ·cases h
 split at h
 ·cases h
 rename_i hd a _ _ _ ns b _;unfold yz at h;split at h
 ·unfold rd3 at h;split at h
  ·cases h
  split at h
  ·cases h
  split at h
  ·cases h
  rename_i c d _ hc _ zs e hr;split at h
  ·cases h;have:=Mo hd ns (zQ zs) eB;have h1:=(BM _ _ (Pd _ hr)).2;omega
  cases h
 split at h
 ·unfold rd5 at h;split at h
  ·cases h
  split at h
  ·cases h;exact zzaz (Mo hd ns [] _) (zzbe _)
  cases h
 split at h
 ·cases h;exact zzaz (Mo hd ns [] _) (zzbe _)
 cases h
def auW{w:World}{γ:G}{a:AV}{v:Value}(ha:Qw a=true)(h:au w γ a v):v.oneCell'=true:=by
 cases a<;>first|(simp at ha;done)|(cases h<;>first|rfl|(rename_i p;cases p<;>rfl))
def tw{a0 a1:Addr}(aK:a0≠a1)(s:ByteArray)(hs:s.size<=1000000):Pure Tryz.prog (fT a0 a1) 10 [.str s] (Sr (Ka (aU s))):=by
 refine⟨⟨_,Tryz.func10,rfl,rfl⟩,fun ro w vs fh hr=>?_⟩;obtain⟨hl,hc⟩:=hr
 match vs,hl with
 |[y],_=>
 have hy:=hc 0 _ y rfl rfl;cases hy;have he:=agh aK fh
 have hz:∀(W:World)(c:Int)(d:DR),Ka (aU s)=d->Sr d=.aS [.agg (bB oZ .nil),I c]->Below w.heap.size w W->∃v,Ending.returned (.tuple #[.agg zO,.int .i64 c])=.returned v/\Below w.heap.size w W/\au W (G0 fun b o=>ro b o\/w.heap.size<=b) (Sr (Ka (aU s))) v:=fun W c d hd hr hB=>
  ⟨_,rfl,hB,by rw[hd,hr];exact DY an1 (.int _ _)⟩
 have hg3:∀w3:World,Below w.heap.size w w3->∀g,au w3 (G0 fun x o=>ro x o/\x<w.heap.size) (fT a0 a1 g) (.pointer (some ⟨g,0,none⟩)):=fun w3 h3 g=>(fh g).mono (cH h3);refine aaU (a0:=a0) (a1:=a1) s w he _ (fun arr w1=>∃o,Zl (aU s)=.ok o/\au w1 (G0 fun x o=>(ro x o/\x<w.heap.size)\/w.heap.size+1+1<=x) (.agg (bB o .ro)) (.agg arr)) (fun w3 h3 SS=>?_) (fun arr w1 w2⟨o,hS,oA⟩hsz FB yR=>?_)
 ·have hrB:∀γ,cG w3 γ [.str s,I 0] (#[Value.string s,.int .i64 0]:PQ).toList:=fun γ=>⟨zzaa _,fun i a v ha hv=>by
   match i,ha,hv with
   |0,ha,hv=>cases ha;cases hv;exact .str _
   |1,ha,hv=>cases ha;cases hv;exact .int _ _
   |i+2,ha,hv=>simp at ha⟩
  have yI:∀v∈(#[Value.string s,.int .i64 0]:PQ).toList,v.oneCell'=true:=fun v hv=>by
   simp at hv;rcases hv with rfl|rfl<;>rfl
  cases hS:Zl (aU s)with
  |ok o=>
   refine(Sk (aaQ (a0:=a0) (a1:=a1) hs hS) (ro:=ro) (B:=w.heap.size) w3 (w.heap.size+1+1) _ 96 zE (hg3 w3 SS) h3 hrB yI).mono ?_;rintro e w' ⟨v,r,m',rfl,cU,yK,rt,rfl⟩;have dB:=age m' o rt _ _ _ yK;refine⟨cU,.inl ?_⟩;obtain⟨arr,rfl,fk⟩:=dB.dP;refine⟨arr,rfl,?_,?_,o,rfl,dB⟩
   ·have:=fk.1;simp[bB]at this;exact this.symm
   rw[Array.all_eq_true];intro i hi;have aH:=fk.1;have dm:i<(bB o .ro).length:=by rw[aH];simpa using hi
   refine auW (a:=(bB o .ro)[i]) ?_ (fk.2 i _ _ (zzac dm) (by simp[hi]));have:∀x∈bB o .ro,Qw x=true:=by simp[bB]
   exact this _ (zzdc _)
  |wire=>
   refine(yC (Ml (a0:=a0) (a1:=a1) hs hS) (ro:=ro) (B:=w.heap.size) w3 (w.heap.size+1+1) _ 96 zE (hg3 w3 SS) h3 hrB yI).mono ?_;rintro e w' ⟨ch,m',rfl,cU,rfl⟩;exact⟨cU,.inr ⟨a0,true,rfl,.inl ⟨rfl,rfl⟩,fun W hW=>hz W 10 .wire (by unfold Ka;rw[hS]) rfl hW⟩⟩
  |rep=>
   refine(yC (Sl (a0:=a0) (a1:=a1) hs hS) (ro:=ro) (B:=w.heap.size) w3 (w.heap.size+1+1) _ 96 zE (hg3 w3 SS) h3 hrB yI).mono ?_;rintro e w' ⟨ch,m',rfl,cU,rfl⟩;exact⟨cU,.inr ⟨a1,false,rfl,.inr ⟨rfl,rfl⟩,fun W hW=>hz W 110 .rep (by unfold Ka;rw[hS]) rfl hW⟩⟩
 have ev2:∀W:World,w1.heap.size<=W.heap.size->(∀x,x<w1.heap.size->W.heap[x]?=w1.heap[x]?)->Ev w1 (G0 fun x o=>(ro x o/\x<w.heap.size)\/w.heap.size+1+1<=x) W (G0 fun x o=>(ro x o/\x<w.heap.size)\/w.heap.size+1+1<=x):=fun W h1 h2=>
  ⟨h1,fun b o hb hr=>⟨hr,cell_of_heap (h2 b hb)⟩,fun _ _ h=>(by cases h),fun _=>zzaa _,fun _ _ h=>(by cases h),rfl,fun _ _ _ h=>(by cases h),fun _ h=>h.elim,Sz.of_same h2⟩
 have azq:=aaX (hg3 w2 yR);have auX:∀g,au w2 (G0 fun x o=>(ro x o/\x<w.heap.size)\/w.heap.size+1+1<=x) (aD g) (.pointer (some ⟨g,0,none⟩)):=fun g=>(azq g).mono ⟨zzaa _,fun b o hb hr=>⟨.inl hr,rfl⟩,fun _ _ h=>(by cases h),fun _=>zzaa _,fun _ _ h=>(by cases h),rfl,fun _ _ _ h=>(by cases h),fun _ h=>h.elim,Sz.refl w2⟩;have Fa:=oA.mono (ev2 w2 hsz FB);refine((Wj o (by have:=Pe hS;omega)).2 _ w2 [.agg arr] auX ⟨rfl,fun i a v ha hv=>?_⟩).mono ?_
 ·match i,ha,hv with
  |0,ha,hv=>cases ha;cases hv;exact Fa
  |i+1,ha,hv=>simp at ha
 rintro e w' ⟨v,rfl,cU,hv⟩;refine⟨cU,?_⟩;cases hv;cases AG:Xp o with
 |true=>
  left;refine⟨rfl,fun W rB z1 z2 hBW hzW RI hc5 RH=>⟨_,rfl,hBW,?_⟩⟩;have hd:Ka (aU s)=.ok o:=by unfold Ka;rw[hS];simp only;rw[if_pos AG]
  rw[hd]
  have auY:arr.size=26:=by
   obtain⟨bU,h1,fk⟩:=oA.dP;cases h1;have:=fk.1;simp[bB]at this;exact this.symm
  refine DY (oA.mono ⟨hzW,fun b o hb hr=>?_,fun _ _ h=>(by cases h),fun _=>zzaa _,fun _ _ h=>(by cases h),rfl,fun _ _ _ h=>(by cases h),fun _ h=>h.elim,fun b ar t f hb=>?_⟩) (.int _ _)
  ·obtain⟨hr,ah⟩|bu:=hr
   ·exact⟨.inl hr,cell_of_heap (RH b zE zE hb)⟩
   exact⟨.inr zE,cell_of_heap (RH b zE zE hb)⟩
  by_cases e1:b=w.heap.size
  ·subst e1;rw[z1]at hb;cases hb;exact⟨arr,RI,by rw[auY];try rfl⟩
  by_cases e2:b=w.heap.size+1
  ·subst e2;rw[z2]at hb;cases hb;exact⟨_,hc5,rfl⟩
  exact⟨ar,(RH b e1 e2 (r8 hb)).trans hb,rfl⟩
 |false=>
  right;exact⟨rfl,fun W hW=>hz W 110 .rep (by unfold Ka;rw[hS];simp only;rw[if_neg (by rw[AG];decide)]) rfl hW⟩
open Go.Lib
def Mp(t:ByteArray)(ht:t.size<=600)(w:World):Calls Tryz.prog 26 #[.string t] w fun e w'=>e=.returned (.tuple #[.string (dh (Abs.aN t.size++aU t)),.int .i64 0])/\Below w.heap.size w w':=by
 refine Calls.mono ((yx (gl:=fun _=>.junk) t zE).2 (fun _ _=>False) w [.string t] (fun g=>.junk _) ⟨rfl,fun i a v ha hv=>?_⟩) ?_
 ·match i,ha,hv with
  |0,ha,hv=>cases ha;cases hv;exact .str _
  |i+1,ha,hv=>simp at ha
 rintro e w' ⟨v,rfl,h1,h2⟩;exact⟨by rw[Pa h2],h1⟩
def an2{b:Nat}{w0:World}{ks:List (Nat×PQ×TypeId)}{c:Nat}{l:P2}{W:World}(h:fe b w0 ks c l W)(m:P2)(d:Nat)(hm:m.length<=9*d)(hl:c+d<=1000):
  Calls Tryz.prog 24 #[.pointer (some ⟨b,0,none⟩),.string (dh m)] W fun e W'=>e=.returned (.tuple #[.int .i64 (dh m).size,.nilIface])/\fe b w0 ks (c+d) (l++m) W':=by
 obtain⟨hc,v,⟨p,hp,Sf,lB,cp,aK⟩,g2,g3,g4⟩:=h;refine(tu b b _ (dh m) p v W hp Sf lB cp aK (by rw[Uo,Lib.strCells_length,Uo];omega) g3).mono ?_;rintro e W' ⟨rfl,v',q1,q2,q3,q4,q5⟩;rw[qm]at q2;refine⟨rfl,by rw[zzal];omega,v',⟨_,.inr rfl,Sf,q1,q2,q3⟩,g2.trans q4,zzaz g3 q4.size,fun x hx=>⟨(g4 x hx).1,(g4 x hx).2.1,?_⟩⟩;have hx3:=(g4 x hx).2.2;exact(q5 _ (Qec hx3) (g4 x hx).1 (Lib.ownBlock_ne cp hx3 (g4 x hx).2.1)).trans hx3
def agi(Q:PH)(ob:Nat)(o:Od)(sl:Value)(x0 zR zS zT zU:Value)(w:World)(hk:¬(o.ki<1\/5<o.ki))(hn:∀n∈dH o,Abs.bw n)(eL:∀n∈cM o,Abs.bw n)
  (qn:w.heap[ob]?=some (.cells (yY o sl) 30 (0,0)))(aaO:o.ki=5\/False)(ht:o.cu.tx.size<=600)
  (hQ:∀(tm:PQ)w',tm.getD 2 undef=.string (dh (Ya o))->tm.getD 3 undef=.int .i64 0->Below w.heap.size w w'->Q .ret ⟨tm,[]⟩ w'):
  Code.wp Tryz.prog tv Q ⟨#[x0,.pointer (some ⟨ob,0,none⟩),.string ⟨#[]⟩,.int .i64 0,undef,undef,undef,undef,undef,undef,undef,undef,undef,zR,zS,zT,zU,undef,undef,undef,undef,undef,undef,undef,undef,undef,undef,undef,undef,undef,undef,undef,undef,undef,undef,undef,undef,undef,undef,undef,undef,undef,undef,undef,undef,undef,undef,undef,undef,undef,undef,undef,undef,undef,undef,undef,undef,undef,undef,undef,undef,undef,undef,undef,undef,undef,undef,undef,undef,undef,undef,undef,undef,undef,undef,undef,undef,undef,undef,undef,undef,undef,undef,undef,undef,undef,undef],[]⟩ w:=by
 have mixed:Tryz.prog.follows Departure.mixedOrders=true:=by kernel_rfl
 have ah:ob<w.heap.size:=Qec qn;have e36:∀args w,(callFunc 22 args).run Tryz.prog w=.ok (.enter 22 args) w:=enters_of Tryz.func22 (by kernel_rfl) rfl;have e39:∀args w,(callFunc 25 args).run Tryz.prog w=.ok (.enter 25 args) w:=enters_of Tryz.func25 (by kernel_rfl) rfl;have e26:∀args w,(callFunc 26 args).run Tryz.prog w=.ok (.enter 26 args) w:=enters_of Tryz.func26 (by kernel_rfl) rfl;have e24:∀args w,(callFunc 24 args).run Tryz.prog w=.ok (.enter 24 args) w:=enters_of Tryz.func24 (by kernel_rfl) rfl;have e41:∀args w,(callFunc 27 args).run Tryz.prog w=.ok (.enter 27 args) w:=enters_of Tryz.func27 (by kernel_rfl) rfl;have c0:w.cell? ⟨ob,0,none⟩=some (.int .i64 o.sq):=by rw[Lib.cell_of_heap qn];try rfl
 have c1:w.cell? ⟨ob,1,none⟩=some (.int .i64 o.ch):=by rw[Lib.cell_of_heap qn];try rfl
 have c2:w.cell? ⟨ob,2,none⟩=some (.int .i64 o.fr):=by rw[Lib.cell_of_heap qn];try rfl
 have c3:w.cell? ⟨ob,3,none⟩=some (.int .i64 o.ki):=by rw[Lib.cell_of_heap qn];try rfl
 dsimp only;simp only[tv,aaN,Tryz.f8,Option.getD]
 go_wp2
 obtain⟨hzW,lB,fQ,wv⟩:=rZ w (Obj.cells #[Value.pointer none,Value.slice none 0 0] 73) (Obj.cells #[Value.int IntKind.i64 o.sq,Value.int IntKind.i64 o.ch,Value.int IntKind.i64 o.fr,Value.int IntKind.i64 o.ki] 3);have HX:=(wv.block ob ah).trans qn;clear c0 c1 c2 c3;generalize(w.alloc (Obj.cells #[Value.pointer none,Value.slice none 0 0] 73)).alloc (Obj.cells #[Value.int IntKind.i64 o.sq,Value.int IntKind.i64 o.ch,Value.int IntKind.i64 o.fr,Value.int IntKind.i64 o.ki] 3)=W at*
 generalize w.heap.size=b at*
 have hE:fe b w [(b+1,#[.int .i64 o.sq,.int .i64 o.ch,.int .i64 o.fr,.int .i64 o.ki],3),(ob,yY o sl,30)] 0 [] W:=by
  refine⟨zzaa _,.slice none 0 0,⟨.pointer none,.inl rfl,zzaa _,lB,World.ownsRow_nil _ _ _ _,by simp[Value.ownBlock]⟩,wv,zE,fun x hx=>?_⟩;simp only[zzao,zzcm,or_false]at hx;obtain rfl|rfl:=hx
  ·exact⟨zd,zd,fQ⟩
  exact⟨by simp only;omega,zd,HX⟩
 have hnb:ob≠b:=zE
 clear ah lB hzW fQ HX wv qn;have d:W.cell? ⟨b+1,0,none⟩=some (.int .i64 o.sq):=hE.cell (.head _) 0;refine wp_loop_rounds 5 ?_;rw[rounds_succ]
 go_wp2_with (go_at_fn 22;refine(Uf hE (hn _ (by simp[dH])) zE).mono ?_)
 rintro e W0 ⟨rfl,hE0⟩;clear d hE;have d:W0.cell? ⟨b+1,1,none⟩=some (.int .i64 o.ch):=hE0.cell (.head _) 1
 go_wp2
 rw[rounds_succ]
 go_wp2_with (go_at_fn 22;refine(Uf hE0 (hn _ (by simp[dH])) zE).mono ?_)
 rintro e W1 ⟨rfl,hE1⟩;clear d hE0;have d:W1.cell? ⟨b+1,2,none⟩=some (.int .i64 o.fr):=hE1.cell (.head _) 2
 go_wp2
 rw[rounds_succ]
 go_wp2_with (go_at_fn 22;refine(Uf hE1 (hn _ (by simp[dH])) zE).mono ?_)
 rintro e W2 ⟨rfl,Mj⟩;clear d hE1;have d:W2.cell? ⟨b+1,3,none⟩=some (.int .i64 o.ki):=Mj.cell (.head _) 3
 go_wp2
 rw[rounds_succ]
 go_wp2_with (go_at_fn 22;refine(Uf Mj (hn _ (by simp[dH])) zE).mono ?_)
 rintro e W3 ⟨rfl,hE3⟩;clear d Mj;have d:W3.cell? ⟨b+1,3,none⟩=some (.int .i64 o.ki):=hE3.cell (.head _) 3
 go_wp2
 rw[rounds_succ]
 go_wp2_with (go_at_fn 25;refine(yB ob (yY o sl) _ o.ki hk (hE3.at (.tail _ (.head _))) rfl (zzaa _)).mono ?_)
 rintro e Y ⟨rfl,hpt,hY⟩
 have hF:=(hE3.own hY).more (W3.heap.size,jW ob o.ki,83) (by
  obtain⟨_,v,g1,_⟩:=hE3;have:=g1.lt;simp only;omega) zd hpt
 clear d hE3 hpt hY;generalize W3.heap.size=sp at*
 obtain h1|h1:=aaO
 ·have hp:jW ob o.ki=#[.pointer (some ⟨ob,21,none⟩),.pointer (some ⟨ob,22,none⟩),.pointer (some ⟨ob,23,none⟩),.pointer (some ⟨ob,24,none⟩)]:=by rw[h1];try rfl
  have hl:(uP o.ki).length=4:=by rw[h1];try rfl
  rw[hp]at hF;rw[hl];have d:Y.cell? ⟨sp,0,none⟩=some (.pointer (some ⟨ob,21,none⟩)):=hF.cell (.head _) 0;have d1:Y.cell? ⟨ob,21,none⟩=some (.int .i64 o.cu.id):=hF.cell (.tail _ (.tail _ (.head _))) 21
  go_wp2
  refine wp_loop_rounds 5 ?_;rw[rounds_succ]
  go_wp2_with (go_at_fn 22;refine(Uf hF (eL _ (by simp[cM,h1])) zE).mono ?_)
  rintro e Y0 ⟨rfl,ey⟩;clear d d1 hF;have d:Y0.cell? ⟨sp,1,none⟩=some (.pointer (some ⟨ob,22,none⟩)):=ey.cell (.head _) 1;have d1:Y0.cell? ⟨ob,22,none⟩=some (.int .i64 o.cu.fr):=ey.cell (.tail _ (.tail _ (.head _))) 22
  go_wp2
  rw[rounds_succ]
  go_wp2_with (go_at_fn 22;refine(Uf ey (eL _ (by simp[cM,h1])) zE).mono ?_)
  rintro e Y1 ⟨rfl,mj⟩;clear d d1 ey;have d:Y1.cell? ⟨sp,2,none⟩=some (.pointer (some ⟨ob,23,none⟩)):=mj.cell (.head _) 2;have d1:Y1.cell? ⟨ob,23,none⟩=some (.int .i64 o.cu.to):=mj.cell (.tail _ (.tail _ (.head _))) 23
  go_wp2
  rw[rounds_succ]
  go_wp2_with (go_at_fn 22;refine(Uf mj (eL _ (by simp[cM,h1])) zE).mono ?_)
  rintro e Y2 ⟨rfl,gL⟩;clear d d1 mj;have d:Y2.cell? ⟨sp,3,none⟩=some (.pointer (some ⟨ob,24,none⟩)):=gL.cell (.head _) 3;have d1:Y2.cell? ⟨ob,24,none⟩=some (.int .i64 o.cu.pr):=gL.cell (.tail _ (.tail _ (.head _))) 24
  go_wp2
  rw[rounds_succ]
  go_wp2_with (go_at_fn 22;refine(Uf gL (eL _ (by simp[cM,h1])) zE).mono ?_)
  rintro e Y3 ⟨rfl,hF3⟩;clear d d1 gL;have d:Y3.cell? ⟨sp,3,none⟩=some (.pointer (some ⟨ob,24,none⟩)):=hF3.cell (.head _) 3;have d1:Y3.cell? ⟨ob,3,none⟩=some (.int .i64 5):=by rw[<- h1];exact hF3.cell (.tail _ (.tail _ (.head _))) 3
  go_wp2
  rw[rounds_succ];have d2:Y3.cell? ⟨ob,25,none⟩=some (.string o.cu.tx):=hF3.cell (.tail _ (.tail _ (.head _))) 25
  go_wp2_with (go_at_fn 26;refine(Mp (o.cu.tx) ht _).mono ?_)
  rintro e Z0 ⟨rfl,hZ0⟩;have hG:=hF3.own hZ0;clear d d1 d2 hF3
  go_wp2_with (go_at_fn 24;refine(an2 hG (Abs.aN o.cu.tx.size++aU o.cu.tx) 80 (by rw[zzal,Xo];have:=Qbw 9 (Abs.iK o.cu.tx.size);unfold Abs.aN;omega) zE).mono ?_)
  rintro e Z1 ⟨rfl,hG1⟩;clear hG
  go_wp2_with (go_at_fn 27;refine(Qav hG1 (zzco _ (List.append_ne_nil_of_left_ne_nil (kZ _) _))).mono ?_)
  rintro e Z ⟨rfl,hZ⟩
  go_wp2
  refine hQ _ _ ?_ rfl hZ;have Mk:Ya o=Abs.aN o.sq++(Abs.aN o.ch++(Abs.aN o.fr++(Abs.aN 5++(Abs.aN o.cu.id++(Abs.aN o.cu.fr++(Abs.aN o.cu.to++(Abs.aN o.cu.pr++(Abs.aN o.cu.tx.size++aU o.cu.tx)))))))):=by simp[Ya,dH,cM,lM,yX,Abs.aR,h1]
  rw[Mk];try rfl
 exact h1.elim
def ajJ{P:Program}{ops:Array Oper}{rest:List Oper}{o:Oper}{a:Act}{w:World}{Q:PH}(hg:o.guard=none)(t:TypeId)(x:Operand)(ho:o.op=.box t x)(cells:PQ)(hx:(a.eval x).cells=cells)
  (h:wpList P ops Q rest (a.put o.dst (.pointer (some ⟨w.heap.size,0,none⟩))) (w.alloc (.cells cells t))):wpList P ops Q (o::rest) a w:=by
 subst hx;refine wpList_plain hg fun K hK=>?_;unfold Oper.wp execOp;simp only[ho,Sem.run_bind,Instr.box,newVar,newRow,run_newObj_alloc,Sem.run_pure,Result.andThen_ok];exact hK _ _ h
def auZ(x0:Value)(ob:Nat)(zR zS zT zU:Value):Act:=⟨#[x0,.pointer (some ⟨ob,0,none⟩),.string ⟨#[]⟩,.int .i64 0,undef,undef,undef,undef,undef,undef,undef,undef,undef,zR,zS,zT,zU,undef,undef,undef,undef,undef,undef,undef,undef,undef,undef,undef,undef,undef,undef,undef,undef,undef,undef,undef,undef,undef,undef,undef,undef,undef,undef,undef,undef,undef,undef,undef,undef,undef,undef,undef,undef,undef,undef,undef,undef,undef,undef,undef,undef,undef,undef,undef,undef,undef,undef,undef,undef,undef,undef,undef,undef,undef,undef,undef,undef,undef,undef,undef,undef,undef,undef,undef,undef,undef,undef],[]⟩
def agj(o:Od)(sl:Value)(w:World)(h9:∀w1:World,Below w.heap.size w w1->Calls Tryz.prog 9 #[.agg (yY o sl)] w1 fun e w'=>e=.returned (.bool true)/\Below w1.heap.size w1 w')
  (iG:∀(Q:PH)(zR zS zT zU:Value)(w1:World),Below w.heap.size w w1->w1.heap[w.heap.size]?=some (.cells (yY o sl) 30 (0,0))->(∀(tm:PQ)w',tm.getD 2 undef=.string (dh (Ya o))->tm.getD 3 undef=.int .i64 0->Below w1.heap.size w1 w'->Q .ret ⟨tm,[]⟩ w')->Code.wp Tryz.prog tv Q (auZ (.agg (yY o sl)) w.heap.size zR zS zT zU) w1):
  Calls Tryz.prog 8 #[.agg (yY o sl)] w fun e w'=>e=.returned (.tuple #[.string (dh (Ya o)),.int .i64 0])/\Below w.heap.size w w':=by
 have mixed:Tryz.prog.follows Departure.mixedOrders=true:=by kernel_rfl
 have e9:∀args w,(callFunc 9 args).run Tryz.prog w=.ok (.enter 9 args) w:=enters_of Tryz.func9 (by kernel_rfl) rfl;obtain⟨arr,dD⟩:∃arr,arr=yY o sl:=⟨_,rfl⟩;have hsz:arr.size=26:=by rw[dD];try rfl
 rw[<- dD]at h9 iG |-
 have hi:(Tryz.prog.info? 30).map (·.size)=some arr.size:=by rw[hsz];try rfl
 have key:∀(Q:PH)(K2:Act->World->Prop)(w1:World)(zR zS zT zU:Value),w1.heap[w.heap.size]?=some (.cells arr 30 (0,0))->Below w.heap.size w w1->(∀a w,Code.wp Tryz.prog tv Q a w->K2 a w)->(∀(tm:PQ)w',tm.getD 2 undef=.string (dh (Ya o))->tm.getD 3 undef=.int .i64 0->Below w.heap.size w w'->Q .ret ⟨tm,[]⟩ w')->K2 (auZ (.agg arr) w.heap.size zR zS zT zU) w1:=
  fun Q K2 w1 zR zS zT zU qn hb hK hQ=>hK _ _ (iG _ zR zS zT zU w1 hb qn (fun tm w' h2 h3 h=>hQ tm w' h2 h3 (hb.trans (h.mono hb.size))))
 clear iG dD
 go_enter Tryz.func8,Tryz.ntmps8
 refine wp_seq_k fun K1 SM=>?_;refine wp_region_lit ?_;refine ajJ rfl 30 (.tmp 0) rfl arr rfl ?_;have aaY:(w.alloc (.cells arr 30)).heap[w.heap.size]?=some (.cells arr 30 (0,0)):=heap_alloc_new w _;have gI:Below w.heap.size w (w.alloc (.cells arr 30)):=(Below.refl _ w).alloc (zzaa _) _;have an3:w.heap.size<=(w.alloc (.cells arr 30)).heap.size:=gI.size;have auP:=Qec aaY;generalize w.alloc (.cells arr 30)=w0 at*
 go_wp2_with (first|refine wpList_load_row rfl 30 (.tmp 1) rfl w.heap.size rfl 30 arr (0,0) _ aaY Tryz.underlying30 rfl hi ?_|(go_at_fn 9;refine(h9 _ gI).mono ?_))
 rintro e w1 ⟨rfl,dI⟩;rename_i Q K2 a2 K1 a1 K0 a0;have azr:=fun zR zS zT zU=>key _ K2 w1 zR zS zT zU ((dI.block _ auP).trans aaY) (gI.trans (dI.mono an3)) a2 (fun tm w' h2 h3 hb=>bodyPost_ret (results_tmp2 rfl _ _ _) rfl (by rw[h2,h3];exact⟨rfl,hb⟩));clear a2 h9 key
 go_wp2
 exact azr _ _ _ _
def Mq(o:Od)(sl:Value)(w:World)(h9:∀w1:World,Below w.heap.size w w1->Calls Tryz.prog 9 #[.agg (yY o sl)] w1 fun e w'=>e=.returned (.bool false)/\Below w1.heap.size w1 w'):
  Calls Tryz.prog 8 #[.agg (yY o sl)] w fun e w'=>e=.returned (.tuple #[.string ⟨#[]⟩,.int .i64 110])/\Below w.heap.size w w':=by
 have mixed:Tryz.prog.follows Departure.mixedOrders=true:=by kernel_rfl
 have e9:∀args w,(callFunc 9 args).run Tryz.prog w=.ok (.enter 9 args) w:=enters_of Tryz.func9 (by kernel_rfl) rfl;obtain⟨arr,dD⟩:∃arr,arr=yY o sl:=⟨_,rfl⟩;have hsz:arr.size=26:=by rw[dD];try rfl
 rw[<- dD]at h9 |-
 have hi:(Tryz.prog.info? 30).map (·.size)=some arr.size:=by rw[hsz];try rfl
 clear dD
 go_enter Tryz.func8,Tryz.ntmps8
 refine wp_seq_k fun K1 SM=>?_;refine wp_region_lit ?_;refine ajJ rfl 30 (.tmp 0) rfl arr rfl ?_;have aaY:(w.alloc (.cells arr 30)).heap[w.heap.size]?=some (.cells arr 30 (0,0)):=heap_alloc_new w _;have gI:Below w.heap.size w (w.alloc (.cells arr 30)):=(Below.refl _ w).alloc (zzaa _) _;have an3:w.heap.size<=(w.alloc (.cells arr 30)).heap.size:=gI.size;generalize w.alloc (.cells arr 30)=w0 at*
 go_wp2_with (first|refine wpList_load_row rfl 30 (.tmp 1) rfl w.heap.size rfl 30 arr (0,0) _ aaY Tryz.underlying30 rfl hi ?_|(go_at_fn 9;refine(h9 _ gI).mono ?_))
 rintro e w1 ⟨rfl,dI⟩;have iI:=gI.trans (dI.mono an3);clear h9
 go_wp2
 exact bodyPost_ret (results_tmp2 rfl _ _ _) rfl ⟨rfl,iI⟩
def Va{w:World}{γ:G}{n:Int}{v:Value}(h:au w γ (I n) v):v=.int .i64 n:=by cases h;rfl
def an4{w:World}{γ:G}{s:ByteArray}{v:Value}(h:au w γ (.str s) v):v=.string s:=by cases h;rfl
def au0(T:PQ)(h:T.size=26):T=#[T.getD 0 undef,T.getD 1 undef,T.getD 2 undef,T.getD 3 undef,T.getD 4 undef,T.getD 5 undef,T.getD 6 undef,T.getD 7 undef,T.getD 8 undef,T.getD 9 undef,T.getD 10 undef,T.getD 11 undef,T.getD 12 undef,T.getD 13 undef,T.getD 14 undef,T.getD 15 undef,T.getD 16 undef,T.getD 17 undef,T.getD 18 undef,T.getD 19 undef,T.getD 20 undef,T.getD 21 undef,T.getD 22 undef,T.getD 23 undef,T.getD 24 undef,T.getD 25 undef]:=by
 have:T=((List.range 26).map fun i=>T.getD i undef).toArray:=Array.ext (by simp[h]) fun i h1 h2=>by simp[h1]
 exact this
def an5{w:World}{γ:G}{o:Od}{v:Value}(h:au w γ (.agg (bB o .ro)) v):∃(adr:Option Addr)(cap ab off:Nat),v=.agg (yY o (.slice adr o.nw.al.length cap))/\o.nw.al.length<=cap/\
  ∀(i:Nat)(s:Int×Int),o.nw.al[i]?=some s->adr=some ⟨ab,off,none⟩/\ab<w.heap.size/\w.cell? ⟨ab,off+i*2,none⟩=some (.int .i64 s.1)/\w.cell? ⟨ab,off+i*2+1,none⟩=some (.int .i64 s.2):=by
 obtain⟨arr,rfl,fk⟩:=h.dP;have hsz:arr.size=26:=by have:=fk.1;simp[bB]at this;exact this.symm
 have hg:∀(i:Nat)(a:AV),(bB o .ro)[i]?=some a->au w γ a (arr.getD i undef):=fun i a ha=>by
  have hi:i<arr.size:=by rw[hsz];exact(zza.1 ha).1
  have:=fk.2 i a (arr.getD i undef) ha (by simp[hi]);exact this
 obtain⟨a,cap,b,off,sz,cv,oe,h1,h2,h3,h4,h5,h6,h7⟩:=(hg 12 _ rfl).JK;refine⟨a,cap,b,off,?_,Nm h1,fun i s hs=>?_⟩
 ·congr 1;rw[au0 arr hsz,Va (hg 0 _ rfl),Va (hg 1 _ rfl),Va (hg 2 _ rfl),Va (hg 3 _ rfl),Va (hg 4 _ rfl),Va (hg 5 _ rfl),Va (hg 6 _ rfl),Va (hg 7 _ rfl),Va (hg 8 _ rfl),Va (hg 9 _ rfl),Va (hg 10 _ rfl),Va (hg 11 _ rfl),oe,Va (hg 13 _ rfl),Va (hg 14 _ rfl),Va (hg 15 _ rfl),Va (hg 16 _ rfl),Va (hg 17 _ rfl),Va (hg 18 _ rfl),Va (hg 19 _ rfl),Va (hg 20 _ rfl),Va (hg 21 _ rfl),Va (hg 22 _ rfl),Va (hg 23 _ rfl),Va (hg 24 _ rfl),an4 (hg 25 _ rfl)];simp[yY]
 have ai:(o.nw.al.map Qe)[i]?=some [I s.1,I s.2]:=by rw[zzbc,hs];try rfl
 have aK:o.nw.al.map Qe≠[]:=by rintro hn;rw[hn]at ai;simp at ai
 have azs:2=sz:=h4 _ (zzad ai);subst azs;have c0:Qr (o.nw.al.map Qe) i 0=some (I s.1):=by simp only[Qr,ai];rfl
 have c1:Qr (o.nw.al.map Qe) i 1=some (I s.2):=by simp only[Qr,ai];rfl
 obtain⟨g1,g2⟩:=h3 aK;refine⟨g1,g2,?_,?_⟩
 ·rw[<- Va (h6 i 0 _ c0)];exact(h5 i 0 _ c0).1
 rw[<- Va (h6 i 1 _ c1)];exact(h5 i 1 _ c1).1
def Mr(o:Od):AV:=if Xp o=true then .aS [.str (dh (Ya o)),I 0]else .aS [.str ⟨#[]⟩,I 110]
def Pf{ro:Nat->Nat->Prop}{w w':World}(h:Below w.heap.size w w'):Ev w (G0 ro) w' (G0 ro):=
 ⟨h.size,fun b o hb hr=>⟨hr,cell_of_heap (h.block b hb)⟩,fun _ _ h=>(by cases h),fun _=>zzaa _,fun _ _ h=>(by cases h),rfl,fun _ _ _ h=>(by cases h),fun _ h=>h.elim,Sz.of_same fun b hb=>h.block b hb⟩
def tB(o:Od)(ht:o.cu.tx.size<=600)(fc:o.nw.al.length<=1000):Pure Tryz.prog aD 8 [.agg (bB o .ro)] (Mr o):=by
 refine⟨⟨_,Tryz.func8,rfl,rfl⟩,fun ro w vs fh hr=>?_⟩;obtain⟨hl,hc⟩:=hr
 match vs,hl with
 |[y],_=>
 have hy:=hc 0 _ y rfl rfl;obtain⟨adr,cap,ab,off,rfl,hcap,hA⟩:=an5 hy
 have h9:∀w1:World,Below w.heap.size w w1->Calls Tryz.prog 9 #[.agg (yY o (.slice adr o.nw.al.length cap))] w1 fun e w'=>e=.returned (.bool (Xp o))/\Below w1.heap.size w1 w':=fun w1 hb=>by
  refine((Wj o zE).2 ro w1 [_] (fun g=>(fh g).mono (Pf hb)) ⟨rfl,fun i a v ha hv=>?_⟩).mono ?_
  ·match i,ha,hv with
   |0,ha,hv=>cases ha;cases hv;exact hy.mono (Pf hb)
   |i+1,ha,hv=>simp at ha
  rintro e w' ⟨v,rfl,h1,h2⟩;cases h2;exact⟨rfl,h1⟩
 unfold Mr;cases hv:Xp o with
 |false=>
  rw[hv]at h9;rw[if_neg (by decide)];refine(Mq o _ w h9).mono ?_;rintro e w' ⟨rfl,hb⟩;exact⟨_,rfl,hb,DY (.str _) (.int _ _)⟩
 |true=>
  rw[hv]at h9;rw[if_pos rfl];obtain⟨v1,v2,v3,v4,v5,v6⟩:=Mh hv zE;obtain⟨-,hk,-⟩:=vO5 hv;refine(agj o _ w h9 fun Q zR zS zT zU w1 hb qn hQ=>?_).mono ?_
  ·rcases(show(o.ki=1\/o.ki=2\/o.ki=4)\/o.ki=3\/o.ki=5 by omega)with h|h|h
   ·exact Sh Q _ o _ _ zR zS zT zU w1 zE v1 v2 qn h hQ
   ·exact agd Q _ o _ _ zR zS zT zU w1 zE v1 v2 qn (.inl h) rfl (v4 h) hcap (ab:=ab) (off:=off) (fun i s hs=>by
     obtain⟨g1,g2,g3,g4⟩:=hA i s hs;exact⟨g1,zzan g2 hb.size,by rw[<- g3];exact cell_of_heap (hb.block _ g2),by rw[<- g4];exact cell_of_heap (hb.block _ g2)⟩) v3 hQ
   exact agi Q _ o _ _ zR zS zT zU w1 zE v1 v2 qn (.inl h) ht hQ
  rintro e w' ⟨rfl,hb⟩;exact⟨_,rfl,hb,DY (.str _) (.int _ _)⟩
def H7{a0 a1:Addr}{f:FuncId}{xs:P1}{r:AV}(h:Pure Tryz.prog aD f xs r):Pure Tryz.prog (fT a0 a1) f xs r:=⟨h.1,fun ro w vs fh hr=>h.2 ro w vs (aaX fh) hr⟩
