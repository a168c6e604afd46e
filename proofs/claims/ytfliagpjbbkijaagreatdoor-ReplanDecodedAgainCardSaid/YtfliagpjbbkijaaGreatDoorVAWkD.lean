import Derived.Stop.Asserts
import Derived.Laws.CopyOwn
import Derived.Test.YtfliagpjbbkijaaGreatDoorVASnB
set_option linter.all false
set_option maxRecDepth 100000
set_option maxHeartbeats 64000000
namespace Go.Proofs.YtfliagpjbbkijaaGreatDoor
noncomputable section
open Go Go.Abs Go.RowKit
def an6(b:Nat)(w1:World):fc where
 p γ w:=Below b w1 w/\b<=w1.heap.size/\∀x,OI γ x->b<=x
 st γ w γ' w' h hc:=by
  obtain⟨h1,h2,h3⟩:=h;have hs:=h1.size;refine⟨h1.trans ⟨hc.os,hc.tape,hc.output,hc.size,fun k hk=>hc.same k zE fun ho=>?_⟩,h2,fun k hk=>?_⟩
  ·have:=h3 k ho;omega
  rcases hc.oi k hk with hk|hk
  ·exact h3 k hk
  omega
def cG{ro:Nat->Nat->Prop}{w w':World}(h:Below w.heap.size w w'):Ev w (G0 ro) w' (G0 fun x o=>ro x o/\x<w.heap.size):=
 ⟨h.size,fun b o hb hr=>⟨⟨hr,hb⟩,cell_of_heap (h.block b hb)⟩,fun _ _ h=>(by cases h),fun _=>zzaa _,fun _ _ h=>(by cases h),rfl,fun _ _ _ h=>(by cases h),fun _ h=>h.elim,Sz.of_same fun b hb=>h.block b hb⟩
def Pr{gl:Nat->AV}{cells:PQ}{ro:Nat->Nat->Prop}{B:Nat}(w:World)(b:Nat)(arr:PP)(t:TypeId)(hB:B<=b)(eG:∀g,au w (G0 fun x o=>ro x o/\x<B) (gl g) (.pointer (some ⟨g,0,none⟩)))
  (hb:w.heap[b]?=some (.cells arr t (0,0)))(hr:∀γ,cp w γ cells arr.toList)(h1:∀v∈arr.toList,v.oneCell'=true):
  ∃γ0:G,aq b (an6 b w) (fun x o=>ro x o/\x<B) γ0 w (⟨[cells],[],fun _=>.gone,0⟩:AM).B (⟨[cells],[],fun _=>.gone,0⟩:AM).L/\cD γ0 w (⟨[cells],[],fun _=>.gone,0⟩:AM)/\
   ak w γ0 [.ptr 0 0] [.pointer (some ⟨b,0,none⟩)]/\∀g,au w γ0.cW (gl g) (.pointer (some ⟨g,0,none⟩)):=by
 have aa:b<w.heap.size:=by
  rcases zzab b w.heap.size with h|h
  ·exact h
  rw[zzbt h]at hb;cases hb
 let γ0:G:={G0 (fun x o=>ro x o/\x<B)with β:=fun id=>if id=0 then some b else none}
 have hβ:∀id x,γ0.β id=some x->id=0/\x=b:=fun id x hx=>by
  by_cases hi:id=0
  ·refine⟨hi,?_⟩;have:γ0.β id=some b:=if_pos hi;rw[this]at hx;exact(Option.some.inj hx).symm
  have:γ0.β id=none:=if_neg hi;rw[this]at hx;cases hx
 refine⟨γ0,⟨⟨Below.refl _ _,zzfn aa,fun x hx=>?_⟩,zzfn aa,fun _ _ h=>.inl h,fun x o h=>Nat.lt_trans (zzar h.2 hB) aa,fun id cs x zu hx=>?_,fun id x hx=>?_,fun id id' x hx hy=>?_,fun id x h=>(by cases h),fun id id' x h=>(by cases h),fun x h=>h.elim,fun id x h=>(by cases h),fun id id' x h=>(by cases h),fun id n h=>by simp[AM.L]at h,fun _ _=>rfl⟩,⟨fun _=>.inl rfl,fun _ _=>rfl,fun _ _ _ h=>(by cases h),fun _ _ h=>(by cases h)⟩,⟨rfl,fun i a v ha hv=>?_⟩,fun g=>eG g⟩
 ·obtain⟨id,hx⟩|⟨_,hx⟩|hx|⟨_,hx⟩:=hx
  ·have:=(hβ id x hx).2;omega
  ·cases hx
  ·exact hx.elim
  cases hx
 ·obtain⟨rfl,rfl⟩:=hβ id x hx;have:cells=cs:=by simpa[AM.B]using zu
  subst this;exact⟨arr,t,hb,hr _,h1⟩
 ·obtain⟨rfl,rfl⟩:=hβ id x hx;exact⟨zzaa _,aa,fun o h=>by have:=h.2;omega,fun id' h=>(by cases h),cells,by simp[AM.B]⟩
 ·exact .inr (.inr ((hβ id x hx).1.trans (hβ id' x hy).1.symm))
 match i,ha,hv with
 |0,ha,hv=>cases ha;cases hv;exact .ptr rfl
 |i+1,ha,hv=>simp at ha
def SH{P:Program}{gl:Nat->AV}{f:FuncId}{cells:PQ}{K:UV}(h:aA P gl Y0 f [.ptr 0 0] ⟨[cells],[],fun _=>.gone,0⟩ K){ro:Nat->Nat->Prop}{B:Nat}(w:World)(b:Nat)(arr:PP)(t:TypeId)(hB:B<=b)
  (eG:∀g,au w (G0 fun x o=>ro x o/\x<B) (gl g) (.pointer (some ⟨g,0,none⟩)))(hb:w.heap[b]?=some (.cells arr t (0,0)))(hr:∀γ,cp w γ cells arr.toList)(h1:∀v∈arr.toList,v.oneCell'=true):
  Calls P f #[.pointer (some ⟨b,0,none⟩)] w fun e w'=>∃v r m',e=.returned v/\Below b w w'/\au w' (G0 fun x o=>(ro x o/\x<B)\/b<=x) (bE m' 6 r) v/\K r m':=by
 obtain⟨γ0,q1,q2,q3,q4⟩:=Pr w b arr t hB eG hb hr h1;refine(callsIn_wide (n:=0)).1 ?_;refine CallsIn.mono (h.2 b (an6 b w) _ γ0 w _ q1 q2 q4 (fun _ _ _ _ _ _ _ _ _ _ _ hY _ _=>hY.elim) q3) ?_;rintro e w' ⟨v,γ',r,m',rfl,_,h2,_,h4,h5⟩;exact⟨v,r,m',rfl,h2.bs.1,Qeb h2 (fun _ _ h=>h) h2.an 6 _ v h4 fun _ id b hb o=>.inr (h2.β id b hb).1,h5⟩
def zh{P:Program}{gl:Nat->AV}{f:FuncId}{cells:PQ}{K:List PanicEntry->AM->Prop}(h:Fv P gl Y0 f [.ptr 0 0] ⟨[cells],[],fun _=>.gone,0⟩ K){ro:Nat->Nat->Prop}{B:Nat}(w:World)(b:Nat)(arr:PP)(t:TypeId)(hB:B<=b)
  (eG:∀g,au w (G0 fun x o=>ro x o/\x<B) (gl g) (.pointer (some ⟨g,0,none⟩)))(hb:w.heap[b]?=some (.cells arr t (0,0)))(hr:∀γ,cp w γ cells arr.toList)(h1:∀v∈arr.toList,v.oneCell'=true):
  Calls P f #[.pointer (some ⟨b,0,none⟩)] w fun e w'=>∃ch m',e=.panicked ch/\Below b w w'/\K ch m':=by
 obtain⟨γ0,q1,q2,q3,q4⟩:=Pr w b arr t hB eG hb hr h1;refine(callsIn_wide (n:=0)).1 ?_;refine CallsIn.mono (h.2 b (an6 b w) _ γ0 w _ q1 q2 q4 (fun _ _ _ _ _ _ _ _ _ _ _ hY _ _=>hY.elim) q3) ?_;rintro e w' ⟨ch,γ',m',rfl,_,h2,_,h5⟩;exact⟨ch,m',rfl,h2.bs.1,h5⟩
def agL(m:AM)(o:Od)(rt:Rt):Wk (bE m 6 (.agg (bT o rt))) (.agg (bT o .ro)):=by
 have h:∃r',bE m 6 (.agg (bT o rt))=.agg (bT o r'):=by
  cases rt with
  |own i z=>exact⟨.ro,by simp[bT]⟩
  |ro=>exact⟨.ro,by simp[bT]⟩
  |full=>exact⟨.full,by simp[bT]⟩
  |nil=>exact⟨.nil,by simp[bT]⟩
  |nn=>exact⟨.nn,by simp[bT]⟩
 obtain⟨r',h⟩:=h;rw[h];exact Qch ⟨Pa,Pa,Pa,Pa,Pa,Pa,Pa,Pa,Pa,Pa,Pa,Pa,Wk.sl _ _,Pa,Pa,Pa,Pa,Pa,Pa,Pa,Pa,Pa,Pa,Pa,Pa,Pa,trivial⟩
def abo{a0 a1:Addr}{s:ByteArray}{o:Od}(hs:s.size<=1000000)(h:Vw (bS s)=.ok o):aA Tryz.prog (eL a0 a1) Y0 35 [.ptr 0 0] ⟨[[.str s,I 0]],[],fun _=>.gone,0⟩ fun r m=>∃rt,r=.agg (bT o rt):=by
 refine Xh I9 Es zd (zf ⟨fun E m o' rt h' e2 hr=>?_,fun E m h'=>?_,fun E m h'=>?_⟩ hs)
 ·rw[h]at h';cases h';simp[apa,e2,hr,bT]
 ·rw[h]at h';cases h'
 rw[h]at h';cases h'
def MK{a0 a1:Addr}{s:ByteArray}(hs:s.size<=1000000)(h:Vw (bS s)=.wire):Fv Tryz.prog (eL a0 a1) Y0 35 [.ptr 0 0] ⟨[[.str s,I 0]],[],fun _=>.gone,0⟩ fun ch m=>ch=chE a0:=by
 refine Pc I9 Es zd (zf ⟨fun E m o' rt h' e2 hr=>?_,fun E m h'=>rfl,fun E m h'=>?_⟩ hs)
 ·rw[h]at h';cases h'
 rw[h]at h';cases h'
def SI{a0 a1:Addr}{s:ByteArray}(hs:s.size<=1000000)(h:Vw (bS s)=.rep):Fv Tryz.prog (eL a0 a1) Y0 35 [.ptr 0 0] ⟨[[.str s,I 0]],[],fun _=>.gone,0⟩ fun ch m=>ch=chE a1:=by
 refine Pc I9 Es zd (zf ⟨fun E m o' rt h' e2 hr=>?_,fun E m h'=>?_,fun E m h'=>rfl⟩ hs)
 ·rw[h]at h';cases h'
 rw[h]at h';cases h'
open Go.Extern.Stop Go.Stop Go.Extern
def IC(v:Value)(w:World):(callFunc 72 #[.iface 376 v]).run Tryz.prog w=.ok (.value (.iface 214 (.agg #[.pointer (some ⟨3,376,none⟩)]))) w:=by
 rw[@run_callFunc_extern Tryz.prog 72 _ Extern.ReflectliteType.typeOf Tryz.func72 (by kernel_rfl) (by kernel_rfl) (by kernel_rfl) (by kernel_rfl)];kernel_rfl
def Cj(w:World):(callFunc 305 #[.agg #[.pointer (some ⟨3,376,none⟩)]]).run Tryz.prog w=.ok (.value (.bool true)) w:=by
 rw[@run_callFunc_extern Tryz.prog 305 _ (Extern.ReflectliteType.method fun t=>do Rtype.noPackHeld "Comparable" t;pure (.bool (<- typeInfo t).comparable)) Tryz.func305 (by kernel_rfl) (by kernel_rfl) (by kernel_rfl) (by kernel_rfl)];kernel_rfl
def Qbf(v:Value)(w:World):(Go.method 510 214 v "Comparable").run Tryz.prog w=.ok (305,v) w:=by kernel_rfl
def abp:(Tryz.prog.info? 376).map (·.comparable)=some true:=by kernel_rfl
def abq:(Tryz.prog.info? 399).map (·.size)=some 1:=by kernel_rfl
def auJ(v:Value)(xT:TypeId)(w:World):(Instr.typeAssert (.iface 376 v) xT 216 true).run Tryz.prog w=.ok (.tuple #[.nilIface,.bool false]) w:=run_typeAssert_lacksB Tryz.underlying216 (by kernel_rfl) (by kernel_rfl) v xT w
def SJ(v:Value)(xT:TypeId)(w:World):(Instr.typeAssert (.iface 376 v) xT 219 true).run Tryz.prog w=.ok (.tuple #[.nilIface,.bool false]) w:=run_typeAssert_lacksB Tryz.underlying219 (by kernel_rfl) (by kernel_rfl) v xT w
def ML(v:Value)(xT:TypeId)(w:World):(Instr.typeAssert (.iface 376 v) xT 221 true).run Tryz.prog w=.ok (.tuple #[.nilIface,.bool false]) w:=run_typeAssert_lacksB Tryz.underlying221 (by kernel_rfl) (by kernel_rfl) v xT w
def an7(v:Value)(xT:TypeId)(w:World):(Instr.typeAssert (.iface 376 v) xT 76 true).run Tryz.prog w=.ok (.tuple #[.iface 376 v,.bool true]) w:=run_typeAssert_hasB Tryz.underlying76 (by kernel_rfl) v xT w
def agM(a:Addr)(w:World):Calls Tryz.prog 34 #[.iface 376 (.pointer (some a)),.iface 376 (.pointer (some a))] w fun e w'=>e=.returned (.bool true)/\w'=w:=by
 obtain⟨i,hi,an8⟩:=zzbd.1 abp;obtain⟨j,hj,jc⟩:=zzbd.1 abq;have tT:=IC;have cT:=Cj;have mR:=Qbf;have A6:=run_eql_iface_ptr_same (P:=Tryz.prog) w a Tryz.underlying76 Tryz.underlying376 hi an8 hj
 go_enter Tryz.func34,Tryz.ntmps34
 go_wp2
 refine wp_loop_rounds 1 ?_;rw[rounds_succ]
 go_wp2
 go_ret
 exact⟨rfl,rfl⟩
def abr(a b:Addr)(ca cb:PP)(ta tb:TypeId)(w:World)(aJ:a≠b)(ha:w.heap[a.block]?=some (.cells ca ta (0,0)))(hb:w.heap[b.block]?=some (.cells cb tb (0,0))):
  Calls Tryz.prog 34 #[.iface 376 (.pointer (some a)),.iface 376 (.pointer (some b))] w fun e w'=>e=.returned (.bool false)/\w'=w:=by
 obtain⟨i,hi,an8⟩:=zzbd.1 abp;obtain⟨j,hj,jc⟩:=zzbd.1 abq;have tT:=IC;have cT:=Cj;have mR:=Qbf;have nE:=auJ;have uE:=SJ;have vE:=ML;have A6:=run_eql_iface_ptr_other (P:=Tryz.prog) w Tryz.underlying76 Tryz.underlying376 hi an8 hj (by rw[jc];decide) aJ ha hb
 go_enter Tryz.func34,Tryz.ntmps34
 go_wp2
 refine wp_loop_rounds 1 ?_;rw[rounds_succ]
 go_wp2
 go_ret
 exact⟨rfl,rfl⟩
def MM(p q:Addr)(w:World):
  CallsD Tryz.prog 33 #[.pointer (some p),.pointer (some q)] .returning w fun e u' w'=>e=.returned (.tuple #[])/\u'=.returning/\w'=w:=by
 refine callsD_of_wpS Tryz.func33 rfl fun c₀ cs hu=>?_;apply wpS_seq;apply wpS_region;simp[wpOpsS,go_sem,recoverD,hu,Tryz.ntmps33,Exit.thenS];apply wpS_seq;apply wpS_seq;apply wpS_region;simp[wpOpsS,go_sem,Exit.thenS];refine wpS_cond (t:=true) (by simp[Act.eval,Array.replicate]) ?_;simp only[if_true];refine wpS_of_wp (wp_ret ?_);cases c₀;simp_all[bodyPostS,results,Tryz.results33,Exit.thenS]
def zO:PP:=#[.int .i64 0,.int .i64 0,.int .i64 0,.int .i64 0,.int .i64 0,.int .i64 0,.int .i64 0,.int .i64 0,.int .i64 0,.int .i64 0,.int .i64 0,.int .i64 0,.slice none 0 0,.int .i64 0,.int .i64 0,.int .i64 0,.int .i64 0,.int .i64 0,.int .i64 0,.int .i64 0,.int .i64 0,.int .i64 0,.int .i64 0,.int .i64 0,.int .i64 0,.string ⟨#[]⟩]
def auK{P:Program}{c:Code}{Q:QR}{T T':PP}{d:List Deferred}{w:World}(h:T=T')(hh:Code.wp P c Q ⟨T',d⟩ w):Code.wp P c Q ⟨T,d⟩ w:=by subst h;exact hh
def chV(a:Addr)(r:Bool):List PanicEntry:=[{v:=.iface 376 (.pointer (some a)),recovered:=r}]
def SK(p q:Nat)(a a0:Addr)(r:Bool)(w:World)(rowP As:PP)(aJ:p≠q)(hp:w.heap[p]?=some (.cells rowP 30 (0,0)))(hq:w.heap[q]?=some (.cells As 33 (0,0)))(h26:rowP.size=26)(hq0:As.size=1)
  (hg0:∀w':World,(∀x,x≠p->x≠q->w'.heap[x]?=w.heap[x]?)->w'.cell? ⟨0,0,none⟩=some (.iface 376 (.pointer (some a0))))
  (hIs:∀w':World,(∀x,x≠p->x≠q->w'.heap[x]?=w.heap[x]?)->Calls Tryz.prog 34 #[.iface 376 (.pointer (some a)),.iface 376 (.pointer (some a0))] w' fun e iy=>e=.returned (.bool r)/\iy=w'):
  CallsD Tryz.prog 33 #[.pointer (some ⟨p,0,none⟩),.pointer (some ⟨q,0,none⟩)] (.panicking (chV a false)) w fun e u' w'=>e=.returned (.tuple #[])/\u'=.panicking (chV a true)/\w'.heap.size=w.heap.size/\(w'.os=w.os/\w'.tape=w.tape/\w'.output=w.output)/\
   w'.heap[p]?=some (.cells zO 30 (0,0))/\w'.heap[q]?=some (.cells #[.int .i64 (if r then 10 else 110)] 33 (0,0))/\∀x,x≠p->x≠q->w'.heap[x]?=w.heap[x]?:=by
 refine callsD_of_wpS Tryz.func33 rfl fun c₀ cs hu=>?_;apply wpS_seq;apply wpS_region;simp[wpOpsS,go_sem,recoverD,hu,Tryz.ntmps33,Exit.thenS,chV];refine wpS_of_wp ?_;refine auK (T':=#[.pointer (some ⟨p,0,none⟩),.pointer (some ⟨q,0,none⟩),.iface 376 (.pointer (some a)),undef,undef,.iface 376 (.pointer (some a)),undef,undef,undef,undef,undef,undef,undef,undef,undef,undef,undef,undef,undef,undef]) (by kernel_rfl) ?_;have hi:(Tryz.prog.info? 30).map (·.size)=some zO.size:=rfl;have zj:zO.all (·.oneCell')=true:=by kernel_rfl
 have e34:∀args w,(callFunc 34 args).run Tryz.prog w=.ok (.enter 34 args) w:=enters_of Tryz.func34 (by kernel_rfl) rfl;have tA:=an7;have hq1:(w.setRow p zO).heap[q]?=some (.cells As 33 (0,0)):=(setRow_other w p q zO (Ne.symm aJ)).trans hq;have fz:(w.setRow p zO).frozen? ⟨q,0,none⟩=false:=Lib.frozen_of_heap hq1 0;have hp1:(w.setRow p zO).heap[p]?=some (.cells zO 30 (0,0)):=setRow_heap w p rowP zO 30 (0,0) hp;obtain⟨W2,uL⟩:∃W,W=(w.setRow p zO).setCell ⟨q,0,none⟩ (.int .i64 110):=⟨_,rfl⟩
 have hq2:W2.heap[q]?=some (.cells #[.int .i64 110] 33 (0,0)):=by
  rw[uL,setCell_eq_setRow _ _ _ _ _ _ _ hq1];have:=setRow_heap _ _ _ (As.setIfInBounds 0 (.int .i64 110)) _ _ hq1;rw[this];obtain⟨x,rfl⟩:∃x,As=#[x]:=zzhm.1 hq0;rfl
 have hp2:W2.heap[p]?=some (.cells zO 30 (0,0)):=by rw[uL];exact(Below.heap_setCell _ ⟨q,0,none⟩ _ p aJ).trans hp1
 have ho2:∀x,x≠p->x≠q->W2.heap[x]?=w.heap[x]?:=fun x h1 h2=>by rw[uL];exact(Below.heap_setCell _ ⟨q,0,none⟩ _ x h2).trans (setRow_other w p x zO h1)
 have hz2:W2.heap.size=w.heap.size:=by rw[uL];simp[World.setCell,World.setRow]
 have k0:=hg0 W2 ho2;have d2:W2.cell? ⟨q,0,none⟩=some (.int .i64 110):=by rw[Lib.cell_of_heap hq2];rfl
 have fz2:W2.frozen? ⟨q,0,none⟩=false:=Lib.frozen_of_heap hq2 0;rw[uL]at k0 d2 fz2;have hI:=hIs W2 ho2;rw[uL]at hI;obtain⟨x0,hx0⟩:∃x,As=#[x]:=zzhm.1 hq0;have d1:(w.setRow p zO).cell? ⟨q,0,none⟩=some x0:=by rw[Lib.cell_of_heap hq1,hx0];rfl
 go_wp2_with (first|refine wpList_store_row rfl 30 (.tmp 0) (.tmp 8) rfl p zO rfl rfl 30 rowP hp hi h26 zj ?_|(go_at_fn 34;refine hI.mono ?_))
 rintro e w' ⟨rfl,rfl⟩;rw[<- uL];rw[<- uL]at d2 fz2;cases r with
 |true=>
  go_wp2
  subst uL;refine⟨rfl,_,rfl,.tuple #[],by simp[results,Tryz.results33],rfl,rfl,by rw[<- hz2];simp[World.setCell],⟨rfl,rfl,rfl⟩,(Below.heap_setCell _ ⟨q,0,none⟩ _ p aJ).trans hp2,?_,fun x h1 h2=>(Below.heap_setCell _ ⟨q,0,none⟩ _ x h2).trans (ho2 x h1 h2)⟩;rw[setCell_eq_setRow _ _ _ _ _ _ _ hq2];exact setRow_heap _ _ _ _ _ _ hq2
 |false=>
  go_wp2
  subst uL;exact⟨rfl,_,rfl,.tuple #[],by simp[results,Tryz.results33],rfl,rfl,hz2,⟨rfl,rfl,rfl⟩,hp2,hq2,ho2⟩
def ko(w:World)(o1 o2 o3:Obj):(((w.alloc o1).alloc o2).alloc o3).heap.size=w.heap.size+3/\(((w.alloc o1).alloc o2).alloc o3).heap[w.heap.size]?=some o1/\(((w.alloc o1).alloc o2).alloc o3).heap[w.heap.size+1]?=some o2/\(((w.alloc o1).alloc o2).alloc o3).heap[w.heap.size+1+1]?=some o3/\Below w.heap.size w (((w.alloc o1).alloc o2).alloc o3):=by
 have h1:∀(w:World)(o:Obj),(w.alloc o).heap=w.heap.push o:=fun _ _=>rfl;have e1:∀(h:Array Obj)(o:Obj)(k:Nat),k<h.size->(h.push o)[k]?=h[k]?:=fun h o k hk=>by rw[Array.getElem?_push,if_neg zE]
 refine⟨by rw[h1,h1,h1];simp,?_,?_,?_,(((Below.refl _ w).alloc (zzaa _) _).alloc (by rw[h1];simp) _).alloc (by rw[h1,h1];simp;omega) _⟩
 ·rw[h1,h1,h1,e1 _ _ _ (by simp;omega),e1 _ _ _ zd,zzek]
 ·rw[h1,h1,h1,e1 _ _ _ zd,show w.heap.size+1=(w.heap.push o1).size by simp,zzek]
 rw[h1,h1,h1,show w.heap.size+1+1=((w.heap.push o1).push o2).size by simp,zzek]
def sy{w:World}{k:Nat}{o:Obj}(h:w.heap[k]?=some o):k<w.heap.size:=by
 rcases zzab k w.heap.size with h'|h'
 ·exact h'
 simp[zzbt h']at h
structure SL (a0 a1:Addr) (w:World):Prop where
 ne:a0≠a1
 c0:w.cell? ⟨0,0,none⟩=some (.iface 376 (.pointer (some a0)))
 c1:w.cell? ⟨1,0,none⟩=some (.iface 376 (.pointer (some a1)))
 l1:1<w.heap.size
 b0:∃arr t,w.heap[a0.block]?=some (.cells arr t (0,0))
 b1:∃arr t,w.heap[a1.block]?=some (.cells arr t (0,0))
def Ew{w w':World}{b o:Nat}(h:w'.heap[b]?=w.heap[b]?):w'.cell? ⟨b,o,none⟩=w.cell? ⟨b,o,none⟩:=by simp[World.cell?,h]
def SL.keep{a0 a1:Addr}{w w':World}(h:SL a0 a1 w)(hs:w.heap.size<=w'.heap.size)(hk:∀x,x<w.heap.size->w'.heap[x]?=w.heap[x]?):SL a0 a1 w':=by
 have hl:=h.l1;obtain⟨r0,t0,h0⟩:=h.b0;obtain⟨r1,t1,h1⟩:=h.b1;exact⟨h.ne,by rw[<- h.c0];exact Ew (hk 0 zE),by rw[<- h.c1];exact Ew (hk 1 zE),zE,⟨r0,t0,(hk _ (sy h0)).trans h0⟩,⟨r1,t1,(hk _ (sy h1)).trans h1⟩⟩
def Ck{a0 a1 a:Addr}{r:Bool}(hr:a=a0/\r=true\/a=a1/\r=false){w w1:World}(he:SL a0 a1 w)(hB:Below w.heap.size w w1){rowP As:PP}(hp:w1.heap[w.heap.size]?=some (.cells rowP 30 (0,0)))(hq:w1.heap[w.heap.size+1]?=some (.cells As 33 (0,0)))(h26:rowP.size=26)(hq1:As.size=1)
  (x0 x1 x4 x5 x6 x7 x8 x9 x10 x11 x12 Ao Ap Aq Ar:Value){R:Ending->World->Prop}(hR:∀W,Below w.heap.size w W->R (.returned (.tuple #[.agg zO,.int .i64 (if r then 10 else 110)])) W):
  Leaves Tryz.prog Tryz.f10 #[x0,x1,.pointer (some ⟨w.heap.size,0,none⟩),.pointer (some ⟨w.heap.size+1,0,none⟩),x4,x5,x6,x7,x8,x9,x10,x11,x12,Ao,Ap,Aq,Ar] R [{target:=.fn (.func 33) #[.pointer (some ⟨w.heap.size,0,none⟩),.pointer (some ⟨w.heap.size+1,0,none⟩)],args:=#[]}] (.panicking (chV a false)) w1:=by
 have hk:∀w':World,(∀x,x≠w.heap.size->x≠w.heap.size+1->w'.heap[x]?=w1.heap[x]?)->∀x,x<w.heap.size->w'.heap[x]?=w.heap[x]?:=fun w' h x hx=>(h x zE zE).trans (hB.block x hx);have hl:=he.l1;refine leaves_cons (f:=33) (args:=#[.pointer (some ⟨w.heap.size,0,none⟩),.pointer (some ⟨w.heap.size+1,0,none⟩)]) zd (by simp[go_sem]) ?_;refine(SK w.heap.size (w.heap.size+1) a a0 r w1 rowP As zE hp hq h26 hq1 (fun w' h=>by rw[<- he.c0];exact Ew (hk w' h 0 zE)) (fun w' h=>?_)).mono ?_
 ·obtain⟨r0,t0,h0⟩:=he.b0;obtain⟨r1,t1,h1⟩:=he.b1;obtain⟨rfl,rfl⟩|⟨rfl,rfl⟩:=hr
  ·exact agM _ _
  exact abr _ _ r1 r0 t1 t0 _ (Ne.symm he.ne) ((hk w' h _ (sy h1)).trans h1) ((hk w' h _ (sy h0)).trans h0)
 rintro e u' iy ⟨rfl,rfl,hz,⟨g1,g2,g3⟩,g4,g5,g6⟩;have hs:settle (.panicking (chV a true))=.returning:=by simp[settle,chV]
 have hi:(Tryz.prog.info? 30).map (·.size)=some zO.size:=rfl;have gr:=run_loadVar_row (P:=Tryz.prog) iy w.heap.size 30 30 zO (0,0) _ g4 Tryz.underlying30 rfl hi;have d:iy.cell? ⟨w.heap.size+1,0,none⟩=some (.int .i64 (if r then 10 else 110)):=by rw[Lib.cell_of_heap g5];rfl
 have uF:(loadVar 33 ⟨w.heap.size+1,0,none⟩).run Tryz.prog iy=.ok (.int .i64 (if r then 10 else 110)) iy:=by simp[go_sem,d]
 have hBW:Below w.heap.size w iy:=⟨g1.trans hB.os,g2.trans hB.tape,g3.trans hB.output,by rw[hz];exact hB.size,fun x hx=>(g6 x zE zE).trans (hB.block x hx)⟩;have:=hR iy hBW;simp only[hs];simp[Leaves,results,Tryz.results10,asAddr,gr,uF,this]
def abt{a0 a1:Addr}(s:ByteArray)(w:World)(he:SL a0 a1 w)(R:Ending->World->Prop)(RO:PP->World->Prop)
  (
   hO:∀w3:World,w3.heap[w.heap.size+1+1]?=some (.cells #[.string s,.int .i64 0] 96 (0,0))->Below w.heap.size w w3->Calls Tryz.prog 35 #[.pointer (some ⟨w.heap.size+1+1,0,none⟩)] w3 fun e w1=>Below (w.heap.size+1+1) w3 w1/\
   ((∃arr,e=.returned (.agg arr)/\arr.size=26/\arr.all (·.oneCell')=true/\RO arr w1)\/(∃a r,e=.panicked (chV a false)/\(a=a0/\r=true\/a=a1/\r=false)/\∀W,Below w.heap.size w W->R (.returned (.tuple #[.agg zO,.int .i64 (if r then 10 else 110)])) W)))
  (
   hV:∀arr w1 w2,RO arr w1->w1.heap.size<=w2.heap.size->(∀x,x<w1.heap.size->w2.heap[x]?=w1.heap[x]?)->Below w.heap.size w w2->Calls Tryz.prog 9 #[.agg arr] w2 fun e w'=>Below w2.heap.size w2 w'/\((e=.returned (.bool true)/\∀W rB,w1.heap[w.heap.size]?=some (.cells zO 30 (0,0))->w1.heap[w.heap.size+1]?=some (.cells #[.int .i64 0] 33 (0,0))->Below w.heap.size w W->w1.heap.size<=W.heap.size->W.heap[w.heap.size]?=some (.cells arr 30 (0,0))->W.heap[w.heap.size+1]?=some (.cells #[rB] 33 (0,0))->(∀x,x≠w.heap.size->x≠w.heap.size+1->x<w1.heap.size->W.heap[x]?=w1.heap[x]?)->R (.returned (.tuple #[.agg arr,.int .i64 0])) W)\/
   (e=.returned (.bool false)/\∀W,Below w.heap.size w W->R (.returned (.tuple #[.agg zO,.int .i64 110])) W))):
  Calls Tryz.prog 10 #[.string s] w R:=by
 have hmf:∀(fn:Fn)(first cap:PP)(w:World),(Instr.makeFunc fn first cap).run Tryz.prog w=.ok (.func fn first cap) w:=fun _ _ _ _=>rfl;have e76:∀args w,(callFunc 35 args).run Tryz.prog w=.ok (.enter 35 args) w:=enters_of Tryz.func35 (by kernel_rfl) rfl;have e22:∀args w,(callFunc 9 args).run Tryz.prog w=.ok (.enter 9 args) w:=enters_of Tryz.func9 (by kernel_rfl) rfl
 go_enter_defers Tryz.func10,Tryz.ntmps10
 go_wp2_with (go_at_fn 35;refine(hO _ (ko _ _ _ _).2.2.2.1 (ko _ _ _ _).2.2.2.2).mono ?_)
 rintro e w1 ⟨di,h⟩;obtain⟨t1,t2,t3,t4,t5⟩:=ko w (.cells zO 30) (.cells #[.int .i64 0] 33) (.cells #[.string s,.int .i64 0] 96);have dG:=(di.block w.heap.size zE).trans t2;have hbc:=(di.block (w.heap.size+1) zE).trans t3;have Bs:=t5.trans (di.mono zE);have hs1:=zzar (Nat.lt_of_lt_of_eq (zzf (w.heap.size+2)) t1.symm) di.size;clear di t1 t2 t3 t4 t5;obtain⟨arr,rfl,hsz,zj,hRO⟩|⟨a,r,rfl,hr,hR⟩:=h
 ·have hi:(Tryz.prog.info? 30).map (·.size)=some arr.size:=by rw[hsz];rfl
  have bW:=setRow_heap (w1.alloc (.cells zO 30)) w1.heap.size zO arr 30 (0,0) (heap_alloc_new _ _);have tQ:Below w1.heap.size w1 ((w1.alloc (.cells zO 30)).setRow w1.heap.size arr):=below_setRow ((Below.refl _ _).alloc (zzaa _) _) (zzaa _) arr
  go_wp2_with (first
   |refine wpList_store_row rfl 30 (.tmp 5) (.tmp 11) rfl w1.heap.size arr rfl rfl 30 zO (heap_alloc_new _ _) hi (by rw[hsz];rfl) zj ?_
   |refine wpList_load_row rfl 30 (.tmp 5) rfl w1.heap.size rfl 30 arr (0,0) _ bW Tryz.underlying30 rfl hi ?_
   |(go_at_fn 9;refine(hV arr w1 _ hRO tQ.size tQ.block (Bs.trans (tQ.mono zE))).mono ?_))
  rintro e w2 ⟨fO,h⟩;have aa:=sy bW;have QS:=(fO.block _ aa).trans bW;have Oh:=tQ.trans (fO.mono (zzfn aa));have Gs:=(Oh.block w.heap.size zE).trans dG;have auL:=(Oh.block (w.heap.size+1) zE).trans hbc;have xq:=Bs.trans (Oh.mono zE);have ho2:=Oh.block;have hz2:=Oh.size;clear fO bW tQ Bs Oh aa;obtain⟨rfl,hR⟩|⟨rfl,hR⟩:=h
  ·have hc3:=(setRow_other w2 w.heap.size (w.heap.size+1) arr zE).trans auL;have d:(w2.setRow w.heap.size arr).cell? ⟨w.heap.size+1,0,none⟩=some (.int .i64 0):=by rw[Lib.cell_of_heap hc3];rfl
   have fz:(w2.setRow w.heap.size arr).frozen? ⟨w.heap.size+1,0,none⟩=false:=Lib.frozen_of_heap hc3 0;have OO:=setRow_heap w2 w.heap.size zO arr 30 (0,0) Gs;have hB4:Below w.heap.size w (w2.setRow w.heap.size arr):=below_setRow xq (zzaa _) arr
   go_wp2_with (first
    |refine wpList_load_row rfl 30 (.tmp 5) rfl w1.heap.size rfl 30 arr (0,0) _ QS Tryz.underlying30 rfl hi ?_
    |refine wpList_store_row rfl 30 (.tmp 2) (.tmp 16) rfl w.heap.size arr rfl rfl 30 zO Gs hi (by rw[hsz];rfl) zj ?_)
   have R6:=(Below.heap_setCell (w2.setRow w.heap.size arr) ⟨w.heap.size+1,0,none⟩ (.int .i64 0) w.heap.size zd).trans OO;have hc5:=setRow_heap _ _ _ ((#[.int .i64 0]:PP).setIfInBounds 0 (.int .i64 0)) _ _ hc3;rw[<- setCell_eq_setRow _ _ _ _ _ _ _ hc3]at hc5;have hB5:=hB4.setCell (p:=⟨w.heap.size+1,0,none⟩) (Nat.le_succ _) (.int .i64 0);have R5:∀x,x≠w.heap.size->x≠w.heap.size+1->x<w1.heap.size->((w2.setRow w.heap.size arr).setCell ⟨w.heap.size+1,0,none⟩ (.int .i64 0)).heap[x]?=w1.heap[x]?:=fun x h1 h2 h3=>(Below.heap_setCell _ ⟨w.heap.size+1,0,none⟩ _ x h2).trans ((setRow_other w2 w.heap.size x arr h1).trans (ho2 x h3));have hz5:w1.heap.size<=((w2.setRow w.heap.size arr).setCell ⟨w.heap.size+1,0,none⟩ (.int .i64 0)).heap.size:=by simpa[World.setCell,World.setRow]using hz2
   generalize(w2.setRow w.heap.size arr).setCell ⟨w.heap.size+1,0,none⟩ (.int .i64 0)=W at*
   have d5:W.cell? ⟨w.heap.size+1,0,none⟩=some (.int .i64 0):=by rw[Lib.cell_of_heap hc5];rfl
   have hl:=run_loadVar_row (P:=Tryz.prog) W w.heap.size 30 30 arr (0,0) _ R6 Tryz.underlying30 rfl hi;have ud:=hR W (.int .i64 0) dG hbc hB5 hz5 R6 hc5 R5;refine leaves_cons (f:=33) (args:=#[.pointer (some ⟨w.heap.size,0,none⟩),.pointer (some ⟨w.heap.size+1,0,none⟩)]) zd (by simp[go_sem]) ?_;refine(MM ⟨w.heap.size,0,none⟩ ⟨w.heap.size+1,0,none⟩ _).mono ?_;rintro e u' iy ⟨rfl,rfl,rfl⟩;have uF:(loadVar 33 ⟨w.heap.size+1,0,none⟩).run Tryz.prog iy=.ok (.int .i64 0) iy:=by simp[go_sem,d5]
   simp[Leaves,settle,results,Tryz.results10,asAddr,hl,uF,ud]
  have k1:=(he.keep xq.size xq.block).c1;have hpn:∀(t:TypeId)(v:Value)(w:World),(Instr.panic (.iface t v)).run Tryz.prog w=.halt (.panic (.iface t v)) w:=fun _ _ _=>rfl
  go_wp2
  simp only[bodyPostD];exact Ck (r:=false) (.inr ⟨rfl,rfl⟩) he xq Gs auL rfl rfl _ _ _ _ _ _ _ _ _ _ _ _ _ _ _ hR
 simp only[bodyPostD];exact Ck hr he Bs dG hbc rfl rfl _ _ _ _ _ _ _ _ _ _ _ _ _ _ _ hR
def valOf:AV->Value
 |.int k n=>.int k n
 |.str s=>.string s
 |_=>.slice none 0 0
def abu:AV->Bool
 |.int _ _=>true
 |.str _=>true
 |.sl .nil []=>true
 |_=>false
def an9{w:World}{γ:G}:∀{a:AV},abu a=true->au w γ a (valOf a)
 |.int k n,_=>.int k n
 |.str s,_=>.str s
 |.sl .nil [],_=>au.sl 0 0 0 (fun _ _=>undef) (zzaa _) (fun _=>rfl) (fun h=>(h rfl).elim) (fun r h=>by cases h) (fun i j c h=>by simp[Qs]at h) (fun i j c h=>by simp[Qs]at h) rfl
def aoa{w:World}{γ:G}{cs:PQ}(h:cs.all abu=true):au w γ (.agg cs) (.agg (cs.map valOf).toArray):=
 .agg zd fun i c v hc hv=>by
  have hp:=zzbe.1 h c (zzac hc);have:(cs.map valOf)[i]?=some v:=by simpa using hv
  rw[zzbf,hc]at this;cases this;exact an9 hp
def Ex{w:World}{γ:G}{a b:AV}{x y:Value}(h1:au w γ a x)(h2:au w γ b y):au w γ (.aQ [a,b]) (.tuple #[x,y]):=
 .aQ rfl fun i c v hc hv=>by
  match i,hc,hv with
  |0,hc,hv=>cases hc;cases hv;exact h1
  |1,hc,hv=>cases hc;cases hv;exact h2
  |i+2,hc,hv=>simp at hc
def oZ:Od:=⟨0,0,0,0,0,0,Ah,BM,BN⟩
def IE:DR->AV
 |.ok o=>.aQ [.agg (bT o .ro),I 0]
 |.wire=>.aQ [.agg (bT oZ .nil),I 10]
 |.rep=>.aQ [.agg (bT oZ .nil),I 110]
def aob{w:World}{γ:G}:au w γ (.agg (bT oZ .nil)) (.agg zO):=aoa (cs:=bT oZ .nil) (by rfl)
def abv{w:World}{ro:Nat->Nat->Prop}{t:TypeId}{a:Addr}{g:Nat}(h:au w (G0 ro) (.ep [.er t a] 0) (.pointer (some ⟨g,0,none⟩))):w.cell? ⟨g,0,none⟩=some (.iface t (.pointer (some a)))/\g<w.heap.size/\∃arr e,w.heap[a.block]?=some (.cells arr e (0,0)):=by
 obtain⟨b,off,cv,hv,hb,hc,hr⟩:=h.gE;simp only[Value.pointer.injEq,Option.some.injEq,Addr.mk.injEq]at hv;obtain⟨rfl,h0,-⟩:=hv;obtain rfl:off=0:=zE
 have h1:=(hc 0 _ rfl).1;have h2:=hr 0 _ rfl;generalize cv 0=v at h1 h2;cases h2 with
 |er hh=>exact⟨h1,hb,_,_,hh⟩
def agN{a0 a1:Addr}{w:World}{ro:Nat->Nat->Prop}(aJ:a0≠a1)(h:∀g,au w (G0 ro) (eL a0 a1 g) (.pointer (some ⟨g,0,none⟩))):SL a0 a1 w:=by
 obtain⟨p1,p2,p3⟩:=abv (h 0);obtain⟨q1,q2,q3⟩:=abv (h 1);exact⟨aJ,p1,q1,q2,p3,q3⟩
def abw{a0 a1:Addr}{w:World}{γ:G}(h:∀g,au w γ (eL a0 a1 g) (.pointer (some ⟨g,0,none⟩))):∀g,au w γ (aD g) (.pointer (some ⟨g,0,none⟩))
 |0=>.junk _
 |1=>.junk _
 |2=>h 2
 |g+3=>.junk _
def Pt:∀(k:Nat){l:P1}{a b:Nat}{ns:P2},gq k l a=some (ns,b)->ns.length=k
 |0,l,a,b,ns,h=>by cases h;rfl
 |k+1,l,a,b,ns,h=>by
  rw[gq]at h;cases hr:tE l a with
  |none=>rw[hr]at h;cases h
  |some x=>
   rw[hr]at h;simp only at h;obtain⟨⟨ms,c⟩,h1,h2⟩:=zzbd.1 h;cases h2;rw[zzav,Pt k h1]
def MN(h ns:P2)(al:List Sp)(tx:ByteArray):(dJ h ns al tx).nw.al.length<=al.length:=by
 unfold dJ;simp only;split
 ·exact zzaa _
 exact zzbi _
def Pu{l:P1}{o:Od}(h:Vw l=.ok o):o.nw.al.length<=7:=by
 unfold Vw at h;split at h
 ·cases h
 split at h
 ·cases h
 split at h
 ·cases h
 rename_i hd a _ _ _ ns b _;unfold Iv at h;split at h
 ·unfold rd3 at h;split at h
  ·cases h
  split at h
  ·cases h
  split at h
  ·cases h
  rename_i c d _ hc _ zs e hr;split at h
  ·cases h;have:=MN hd ns (sk zs) eB;have h1:=(sv _ _ (Pt _ hr)).2;omega
  cases h
 split at h
 ·unfold rd5 at h;split at h
  ·cases h
  split at h
  ·cases h;exact zzb (MN hd ns [] _) (zzbi _)
  cases h
 split at h
 ·cases h;exact zzb (MN hd ns [] _) (zzbi _)
 cases h
def auM{w:World}{γ:G}{a:AV}{v:Value}(ha:Qw a=true)(h:au w γ a v):v.oneCell'=true:=by
 cases a<;>first|(simp at ha;done)|(cases h<;>first|rfl|(rename_i p;cases p<;>rfl))
def Qce{a0 a1:Addr}(aJ:a0≠a1)(s:ByteArray)(hs:s.size<=1000000):Pure Tryz.prog (eL a0 a1) 10 [.str s] (IE (j9 (bS s))):=by
 refine⟨⟨_,Tryz.func10,rfl,rfl⟩,fun ro w vs eG hr=>?_⟩;obtain⟨hl,hc⟩:=hr
 match vs,hl with
 |[y],_=>
 have hy:=hc 0 _ y rfl rfl;cases hy;have he:=agN aJ eG
 have hz:∀(W:World)(c:Int)(d:DR),j9 (bS s)=d->IE d=.aQ [.agg (bT oZ .nil),I c]->Below w.heap.size w W->∃v,Ending.returned (.tuple #[.agg zO,.int .i64 c])=.returned v/\Below w.heap.size w W/\au W (G0 fun b o=>ro b o\/w.heap.size<=b) (IE (j9 (bS s))) v:=fun W c d hd hr hB=>
  ⟨_,rfl,hB,by rw[hd,hr];exact Ex aob (.int _ _)⟩
 have hg3:∀w3:World,Below w.heap.size w w3->∀g,au w3 (G0 fun x o=>ro x o/\x<w.heap.size) (eL a0 a1 g) (.pointer (some ⟨g,0,none⟩)):=fun w3 h3 g=>(eG g).mono (cG h3);refine abt (a0:=a0) (a1:=a1) s w he _ (fun arr w1=>∃o,Vw (bS s)=.ok o/\au w1 (G0 fun x o=>(ro x o/\x<w.heap.size)\/w.heap.size+1+1<=x) (.agg (bT o .ro)) (.agg arr)) (fun w3 h3 Og=>?_) (fun arr w1 w2⟨o,hS,oN⟩hsz FP tQ=>?_)
 ·have hrB:∀γ,cp w3 γ [.str s,I 0] (#[Value.string s,.int .i64 0]:PP).toList:=fun γ=>⟨zzaa _,fun i a v ha hv=>by
   match i,ha,hv with
   |0,ha,hv=>cases ha;cases hv;exact .str _
   |1,ha,hv=>cases ha;cases hv;exact .int _ _
   |i+2,ha,hv=>simp at ha⟩
  have zj:∀v∈(#[Value.string s,.int .i64 0]:PP).toList,v.oneCell'=true:=fun v hv=>by
   simp at hv;rcases hv with rfl|rfl<;>rfl
  cases hS:Vw (bS s)with
  |ok o=>
   refine(SH (abo (a0:=a0) (a1:=a1) hs hS) (ro:=ro) (B:=w.heap.size) w3 (w.heap.size+1+1) _ 96 zE (hg3 w3 Og) h3 hrB zj).mono ?_;rintro e w' ⟨v,r,m',rfl,cA,IJ,rt,rfl⟩;have gX:=agL m' o rt _ _ _ IJ;refine⟨cA,.inl ?_⟩;obtain⟨arr,rfl,eX⟩:=gX.dO;refine⟨arr,rfl,?_,?_,o,rfl,gX⟩
   ·have:=eX.1;simp[bT]at this;exact this.symm
   rw[Array.all_eq_true];intro i hi;have aH:=eX.1;have dn:i<(bT o .ro).length:=by rw[aH];simpa using hi
   refine auM (a:=(bT o .ro)[i]) ?_ (eX.2 i _ _ (zzad dn) (by simp[hi]));have:∀x∈bT o .ro,Qw x=true:=by simp[bT]
   exact this _ (zzdg _)
  |wire=>
   refine(zh (MK (a0:=a0) (a1:=a1) hs hS) (ro:=ro) (B:=w.heap.size) w3 (w.heap.size+1+1) _ 96 zE (hg3 w3 Og) h3 hrB zj).mono ?_;rintro e w' ⟨ch,m',rfl,cA,rfl⟩;exact⟨cA,.inr ⟨a0,true,rfl,.inl ⟨rfl,rfl⟩,fun W hW=>hz W 10 .wire (by unfold j9;rw[hS]) rfl hW⟩⟩
  |rep=>
   refine(zh (SI (a0:=a0) (a1:=a1) hs hS) (ro:=ro) (B:=w.heap.size) w3 (w.heap.size+1+1) _ 96 zE (hg3 w3 Og) h3 hrB zj).mono ?_;rintro e w' ⟨ch,m',rfl,cA,rfl⟩;exact⟨cA,.inr ⟨a1,false,rfl,.inr ⟨rfl,rfl⟩,fun W hW=>hz W 110 .rep (by unfold j9;rw[hS]) rfl hW⟩⟩
 have ev2:∀W:World,w1.heap.size<=W.heap.size->(∀x,x<w1.heap.size->W.heap[x]?=w1.heap[x]?)->Ev w1 (G0 fun x o=>(ro x o/\x<w.heap.size)\/w.heap.size+1+1<=x) W (G0 fun x o=>(ro x o/\x<w.heap.size)\/w.heap.size+1+1<=x):=fun W h1 h2=>
  ⟨h1,fun b o hb hr=>⟨hr,cell_of_heap (h2 b hb)⟩,fun _ _ h=>(by cases h),fun _=>zzaa _,fun _ _ h=>(by cases h),rfl,fun _ _ _ h=>(by cases h),fun _ h=>h.elim,Sz.of_same h2⟩
 have ayP:=abw (hg3 w2 tQ);have auN:∀g,au w2 (G0 fun x o=>(ro x o/\x<w.heap.size)\/w.heap.size+1+1<=x) (aD g) (.pointer (some ⟨g,0,none⟩)):=fun g=>(ayP g).mono ⟨zzaa _,fun b o hb hr=>⟨.inl hr,rfl⟩,fun _ _ h=>(by cases h),fun _=>zzaa _,fun _ _ h=>(by cases h),rfl,fun _ _ _ h=>(by cases h),fun _ h=>h.elim,Sz.refl w2⟩;have Fs:=oN.mono (ev2 w2 hsz FP);refine((Jt o (by have:=Pu hS;omega)).2 _ w2 [.agg arr] auN ⟨rfl,fun i a v ha hv=>?_⟩).mono ?_
 ·match i,ha,hv with
  |0,ha,hv=>cases ha;cases hv;exact Fs
  |i+1,ha,hv=>simp at ha
 rintro e w' ⟨v,rfl,cA,hv⟩;refine⟨cA,?_⟩;cases hv;cases A7:Xm o with
 |true=>
  left;refine⟨rfl,fun W rB z1 z2 hBW hzW R6 hc5 R5=>⟨_,rfl,hBW,?_⟩⟩;have hd:j9 (bS s)=.ok o:=by unfold j9;rw[hS];simp only;rw[if_pos A7]
  rw[hd]
  have auO:arr.size=26:=by
   obtain⟨bN,h1,eX⟩:=oN.dO;cases h1;have:=eX.1;simp[bT]at this;exact this.symm
  refine Ex (oN.mono ⟨hzW,fun b o hb hr=>?_,fun _ _ h=>(by cases h),fun _=>zzaa _,fun _ _ h=>(by cases h),rfl,fun _ _ _ h=>(by cases h),fun _ h=>h.elim,fun b ar t f hb=>?_⟩) (.int _ _)
  ·obtain⟨hr,aa⟩|bu:=hr
   ·exact⟨.inl hr,cell_of_heap (R5 b zE zE hb)⟩
   exact⟨.inr zE,cell_of_heap (R5 b zE zE hb)⟩
  by_cases e1:b=w.heap.size
  ·subst e1;rw[z1]at hb;cases hb;exact⟨arr,R6,by rw[auO];rfl⟩
  by_cases e2:b=w.heap.size+1
  ·subst e2;rw[z2]at hb;cases hb;exact⟨_,hc5,rfl⟩
  exact⟨ar,(R5 b e1 e2 (sy hb)).trans hb,rfl⟩
 |false=>
  right;exact⟨rfl,fun W hW=>hz W 110 .rep (by unfold j9;rw[hS];simp only;rw[if_neg (by rw[A7];decide)]) rfl hW⟩
open Go.Lib
def MO(t:ByteArray)(ht:t.size<=600)(w:World):Calls Tryz.prog 26 #[.string t] w fun e w'=>e=.returned (.tuple #[.string (fq (Abs.aU t.size++bS t)),.int .i64 0])/\Below w.heap.size w w':=by
 refine Calls.mono ((y8 (gl:=fun _=>.junk) t zE).2 (fun _ _=>False) w [.string t] (fun g=>.junk _) ⟨rfl,fun i a v ha hv=>?_⟩) ?_
 ·match i,ha,hv with
  |0,ha,hv=>cases ha;cases hv;exact .str _
  |i+1,ha,hv=>simp at ha
 rintro e w' ⟨v,rfl,h1,h2⟩;exact⟨by rw[Pp h2],h1⟩
def aoc{b:Nat}{w0:World}{ks:List (Nat×PP×TypeId)}{c:Nat}{l:P1}{W:World}(h:eV b w0 ks c l W)(m:P1)(d:Nat)(hm:m.length<=9*d)(hl:c+d<=1000):
  Calls Tryz.prog 24 #[.pointer (some ⟨b,0,none⟩),.string (fq m)] W fun e W'=>e=.returned (.tuple #[.int .i64 (fq m).size,.nilIface])/\eV b w0 ks (c+d) (l++m) W':=by
 obtain⟨hc,v,⟨p,hp,SB,lJ,cq,aJ⟩,g2,g3,g4⟩:=h;refine(tI b b _ (fq m) p v W hp SB lJ cq aJ (by rw[Qbe,Lib.strCells_length,Qbe];omega) g3).mono ?_;rintro e W' ⟨rfl,v',q1,q2,q3,q4,q5⟩;rw[qw]at q2;refine⟨rfl,by rw[zzah];omega,v',⟨_,.inr rfl,SB,q1,q2,q3⟩,g2.trans q4,zzb g3 q4.size,fun x hx=>⟨(g4 x hx).1,(g4 x hx).2.1,?_⟩⟩;have hx3:=(g4 x hx).2.2;exact(q5 _ (Qdt hx3) (g4 x hx).1 (Lib.ownBlock_ne cq hx3 (g4 x hx).2.1)).trans hx3
def agO(Q:QR)(ob:Nat)(o:Od)(sl:Value)(x0 Ao Ap Aq Ar:Value)(w:World)(hk:¬(o.ki<1\/5<o.ki))(hn:∀n∈dI o,Abs.bA n)(eP:∀n∈cK o,Abs.bA n)
  (qx:w.heap[ob]?=some (.cells (zG o sl) 30 (0,0)))(abm:o.ki=5\/False)(ht:o.cu.tx.size<=600)
  (hQ:∀(tm:PP)w',tm.getD 2 undef=.string (fq (Zw o))->tm.getD 3 undef=.int .i64 0->Below w.heap.size w w'->Q .ret ⟨tm,[]⟩ w'):
  Code.wp Tryz.prog tJ Q ⟨#[x0,.pointer (some ⟨ob,0,none⟩),.string ⟨#[]⟩,.int .i64 0,undef,undef,undef,undef,undef,undef,undef,undef,undef,Ao,Ap,Aq,Ar,undef,undef,undef,undef,undef,undef,undef,undef,undef,undef,undef,undef,undef,undef,undef,undef,undef,undef,undef,undef,undef,undef,undef,undef,undef,undef,undef,undef,undef,undef,undef,undef,undef,undef,undef,undef,undef,undef,undef,undef,undef,undef,undef,undef,undef,undef,undef,undef,undef,undef,undef,undef,undef,undef,undef,undef,undef,undef,undef,undef,undef,undef,undef,undef,undef,undef,undef,undef,undef,undef],[]⟩ w:=by
 have mixed:Tryz.prog.follows Departure.mixedOrders=true:=by kernel_rfl
 have aa:ob<w.heap.size:=Qdt qx;have e36:∀args w,(callFunc 22 args).run Tryz.prog w=.ok (.enter 22 args) w:=enters_of Tryz.func22 (by kernel_rfl) rfl;have e39:∀args w,(callFunc 25 args).run Tryz.prog w=.ok (.enter 25 args) w:=enters_of Tryz.func25 (by kernel_rfl) rfl;have e26:∀args w,(callFunc 26 args).run Tryz.prog w=.ok (.enter 26 args) w:=enters_of Tryz.func26 (by kernel_rfl) rfl;have e24:∀args w,(callFunc 24 args).run Tryz.prog w=.ok (.enter 24 args) w:=enters_of Tryz.func24 (by kernel_rfl) rfl;have e41:∀args w,(callFunc 27 args).run Tryz.prog w=.ok (.enter 27 args) w:=enters_of Tryz.func27 (by kernel_rfl) rfl;have c0:w.cell? ⟨ob,0,none⟩=some (.int .i64 o.sq):=by rw[Lib.cell_of_heap qx];rfl
 have c1:w.cell? ⟨ob,1,none⟩=some (.int .i64 o.ch):=by rw[Lib.cell_of_heap qx];rfl
 have c2:w.cell? ⟨ob,2,none⟩=some (.int .i64 o.fr):=by rw[Lib.cell_of_heap qx];rfl
 have c3:w.cell? ⟨ob,3,none⟩=some (.int .i64 o.ki):=by rw[Lib.cell_of_heap qx];rfl
 dsimp only;simp only[tJ,abl,Tryz.f8,Option.getD]
 go_wp2
 obtain⟨hzW,lJ,iZ,Bs⟩:=sx w (Obj.cells #[Value.pointer none,Value.slice none 0 0] 73) (Obj.cells #[Value.int IntKind.i64 o.sq,Value.int IntKind.i64 o.ch,Value.int IntKind.i64 o.fr,Value.int IntKind.i64 o.ki] 3);have IA:=(Bs.block ob aa).trans qx;clear c0 c1 c2 c3;generalize(w.alloc (Obj.cells #[Value.pointer none,Value.slice none 0 0] 73)).alloc (Obj.cells #[Value.int IntKind.i64 o.sq,Value.int IntKind.i64 o.ch,Value.int IntKind.i64 o.fr,Value.int IntKind.i64 o.ki] 3)=W at*
 generalize w.heap.size=b at*
 have hE:eV b w [(b+1,#[.int .i64 o.sq,.int .i64 o.ch,.int .i64 o.fr,.int .i64 o.ki],3),(ob,zG o sl,30)] 0 [] W:=by
  refine⟨zzaa _,.slice none 0 0,⟨.pointer none,.inl rfl,zzaa _,lJ,World.ownsRow_nil _ _ _ _,by simp[Value.ownBlock]⟩,Bs,zE,fun x hx=>?_⟩;simp only[zzao,zzcn,or_false]at hx;obtain rfl|rfl:=hx
  ·exact⟨zd,zd,iZ⟩
  exact⟨by simp only;omega,zd,IA⟩
 have hnb:ob≠b:=zE
 clear aa lJ hzW iZ IA Bs qx;have d:W.cell? ⟨b+1,0,none⟩=some (.int .i64 o.sq):=hE.cell (.head _) 0;refine wp_loop_rounds 5 ?_;rw[rounds_succ]
 go_wp2_with (go_at_fn 22;refine(Ug hE (hn _ (by simp[dI])) zE).mono ?_)
 rintro e W0 ⟨rfl,hE0⟩;clear d hE;have d:W0.cell? ⟨b+1,1,none⟩=some (.int .i64 o.ch):=hE0.cell (.head _) 1
 go_wp2
 rw[rounds_succ]
 go_wp2_with (go_at_fn 22;refine(Ug hE0 (hn _ (by simp[dI])) zE).mono ?_)
 rintro e W1 ⟨rfl,hE1⟩;clear d hE0;have d:W1.cell? ⟨b+1,2,none⟩=some (.int .i64 o.fr):=hE1.cell (.head _) 2
 go_wp2
 rw[rounds_succ]
 go_wp2_with (go_at_fn 22;refine(Ug hE1 (hn _ (by simp[dI])) zE).mono ?_)
 rintro e W2 ⟨rfl,MI⟩;clear d hE1;have d:W2.cell? ⟨b+1,3,none⟩=some (.int .i64 o.ki):=MI.cell (.head _) 3
 go_wp2
 rw[rounds_succ]
 go_wp2_with (go_at_fn 22;refine(Ug MI (hn _ (by simp[dI])) zE).mono ?_)
 rintro e W3 ⟨rfl,hE3⟩;clear d MI;have d:W3.cell? ⟨b+1,3,none⟩=some (.int .i64 o.ki):=hE3.cell (.head _) 3
 go_wp2
 rw[rounds_succ]
 go_wp2_with (go_at_fn 25;refine(zg ob (zG o sl) _ o.ki hk (hE3.at (.tail _ (.head _))) rfl (zzaa _)).mono ?_)
 rintro e Y ⟨rfl,hpt,hY⟩
 have hF:=(hE3.own hY).more (W3.heap.size,kj ob o.ki,83) (by
  obtain⟨_,v,g1,_⟩:=hE3;have:=g1.lt;simp only;omega) zd hpt
 clear d hE3 hpt hY;generalize W3.heap.size=sp at*
 obtain h1|h1:=abm
 ·have hp:kj ob o.ki=#[.pointer (some ⟨ob,21,none⟩),.pointer (some ⟨ob,22,none⟩),.pointer (some ⟨ob,23,none⟩),.pointer (some ⟨ob,24,none⟩)]:=by rw[h1];rfl
  have hl:(u6 o.ki).length=4:=by rw[h1];rfl
  rw[hp]at hF;rw[hl];have d:Y.cell? ⟨sp,0,none⟩=some (.pointer (some ⟨ob,21,none⟩)):=hF.cell (.head _) 0;have d1:Y.cell? ⟨ob,21,none⟩=some (.int .i64 o.cu.id):=hF.cell (.tail _ (.tail _ (.head _))) 21
  go_wp2
  refine wp_loop_rounds 5 ?_;rw[rounds_succ]
  go_wp2_with (go_at_fn 22;refine(Ug hF (eP _ (by simp[cK,h1])) zE).mono ?_)
  rintro e Y0 ⟨rfl,dW⟩;clear d d1 hF;have d:Y0.cell? ⟨sp,1,none⟩=some (.pointer (some ⟨ob,22,none⟩)):=dW.cell (.head _) 1;have d1:Y0.cell? ⟨ob,22,none⟩=some (.int .i64 o.cu.fr):=dW.cell (.tail _ (.tail _ (.head _))) 22
  go_wp2
  rw[rounds_succ]
  go_wp2_with (go_at_fn 22;refine(Ug dW (eP _ (by simp[cK,h1])) zE).mono ?_)
  rintro e Y1 ⟨rfl,mA⟩;clear d d1 dW;have d:Y1.cell? ⟨sp,2,none⟩=some (.pointer (some ⟨ob,23,none⟩)):=mA.cell (.head _) 2;have d1:Y1.cell? ⟨ob,23,none⟩=some (.int .i64 o.cu.to):=mA.cell (.tail _ (.tail _ (.head _))) 23
  go_wp2
  rw[rounds_succ]
  go_wp2_with (go_at_fn 22;refine(Ug mA (eP _ (by simp[cK,h1])) zE).mono ?_)
  rintro e Y2 ⟨rfl,gL⟩;clear d d1 mA;have d:Y2.cell? ⟨sp,3,none⟩=some (.pointer (some ⟨ob,24,none⟩)):=gL.cell (.head _) 3;have d1:Y2.cell? ⟨ob,24,none⟩=some (.int .i64 o.cu.pr):=gL.cell (.tail _ (.tail _ (.head _))) 24
  go_wp2
  rw[rounds_succ]
  go_wp2_with (go_at_fn 22;refine(Ug gL (eP _ (by simp[cK,h1])) zE).mono ?_)
  rintro e Y3 ⟨rfl,hF3⟩;clear d d1 gL;have d:Y3.cell? ⟨sp,3,none⟩=some (.pointer (some ⟨ob,24,none⟩)):=hF3.cell (.head _) 3;have d1:Y3.cell? ⟨ob,3,none⟩=some (.int .i64 5):=by rw[<- h1];exact hF3.cell (.tail _ (.tail _ (.head _))) 3
  go_wp2
  rw[rounds_succ];have d2:Y3.cell? ⟨ob,25,none⟩=some (.string o.cu.tx):=hF3.cell (.tail _ (.tail _ (.head _))) 25
  go_wp2_with (go_at_fn 26;refine(MO (o.cu.tx) ht _).mono ?_)
  rintro e Z0 ⟨rfl,hZ0⟩;have hG:=hF3.own hZ0;clear d d1 d2 hF3
  go_wp2_with (go_at_fn 24;refine(aoc hG (Abs.aU o.cu.tx.size++bS o.cu.tx) 80 (by rw[zzah,Yu];have:=qt 9 (Abs.uq o.cu.tx.size);unfold Abs.aU;omega) zE).mono ?_)
  rintro e Z1 ⟨rfl,hG1⟩;clear hG
  go_wp2_with (go_at_fn 27;refine(Qaz hG1 (zzcv _ (List.append_ne_nil_of_left_ne_nil (lE _) _))).mono ?_)
  rintro e Z ⟨rfl,hZ⟩
  go_wp2
  refine hQ _ _ ?_ rfl hZ;have MJ:Zw o=Abs.aU o.sq++(Abs.aU o.ch++(Abs.aU o.fr++(Abs.aU 5++(Abs.aU o.cu.id++(Abs.aU o.cu.fr++(Abs.aU o.cu.to++(Abs.aU o.cu.pr++(Abs.aU o.cu.tx.size++bS o.cu.tx)))))))):=by simp[Zw,dI,cK,gP,qF,Abs.aT,h1]
  rw[MJ];rfl
 exact h1.elim
def aj8{P:Program}{ops:Array Oper}{rest:List Oper}{o:Oper}{a:Act}{w:World}{Q:QR}(hg:o.guard=none)(t:TypeId)(x:Operand)(ho:o.op=.box t x)(cells:PP)(hx:(a.eval x).cells=cells)
  (h:wpList P ops Q rest (a.put o.dst (.pointer (some ⟨w.heap.size,0,none⟩))) (w.alloc (.cells cells t))):wpList P ops Q (o::rest) a w:=by
 subst hx;refine wpList_plain hg fun K hK=>?_;unfold Oper.wp execOp;simp only[ho,Sem.run_bind,Instr.box,newVar,newRow,run_newObj_alloc,Sem.run_pure,Result.andThen_ok];exact hK _ _ h
def auP(x0:Value)(ob:Nat)(Ao Ap Aq Ar:Value):Act:=⟨#[x0,.pointer (some ⟨ob,0,none⟩),.string ⟨#[]⟩,.int .i64 0,undef,undef,undef,undef,undef,undef,undef,undef,undef,Ao,Ap,Aq,Ar,undef,undef,undef,undef,undef,undef,undef,undef,undef,undef,undef,undef,undef,undef,undef,undef,undef,undef,undef,undef,undef,undef,undef,undef,undef,undef,undef,undef,undef,undef,undef,undef,undef,undef,undef,undef,undef,undef,undef,undef,undef,undef,undef,undef,undef,undef,undef,undef,undef,undef,undef,undef,undef,undef,undef,undef,undef,undef,undef,undef,undef,undef,undef,undef,undef,undef,undef,undef,undef,undef],[]⟩
def agP(o:Od)(sl:Value)(w:World)(h9:∀w1:World,Below w.heap.size w w1->Calls Tryz.prog 9 #[.agg (zG o sl)] w1 fun e w'=>e=.returned (.bool true)/\Below w1.heap.size w1 w')
  (iJ:∀(Q:QR)(Ao Ap Aq Ar:Value)(w1:World),Below w.heap.size w w1->w1.heap[w.heap.size]?=some (.cells (zG o sl) 30 (0,0))->(∀(tm:PP)w',tm.getD 2 undef=.string (fq (Zw o))->tm.getD 3 undef=.int .i64 0->Below w1.heap.size w1 w'->Q .ret ⟨tm,[]⟩ w')->Code.wp Tryz.prog tJ Q (auP (.agg (zG o sl)) w.heap.size Ao Ap Aq Ar) w1):
  Calls Tryz.prog 8 #[.agg (zG o sl)] w fun e w'=>e=.returned (.tuple #[.string (fq (Zw o)),.int .i64 0])/\Below w.heap.size w w':=by
 have mixed:Tryz.prog.follows Departure.mixedOrders=true:=by kernel_rfl
 have e9:∀args w,(callFunc 9 args).run Tryz.prog w=.ok (.enter 9 args) w:=enters_of Tryz.func9 (by kernel_rfl) rfl;obtain⟨arr,dD⟩:∃arr,arr=zG o sl:=⟨_,rfl⟩;have hsz:arr.size=26:=by rw[dD];rfl
 rw[<- dD]at h9 iJ |-
 have hi:(Tryz.prog.info? 30).map (·.size)=some arr.size:=by rw[hsz];rfl
 have key:∀(Q:QR)(K2:Act->World->Prop)(w1:World)(Ao Ap Aq Ar:Value),w1.heap[w.heap.size]?=some (.cells arr 30 (0,0))->Below w.heap.size w w1->(∀a w,Code.wp Tryz.prog tJ Q a w->K2 a w)->(∀(tm:PP)w',tm.getD 2 undef=.string (fq (Zw o))->tm.getD 3 undef=.int .i64 0->Below w.heap.size w w'->Q .ret ⟨tm,[]⟩ w')->K2 (auP (.agg arr) w.heap.size Ao Ap Aq Ar) w1:=
  fun Q K2 w1 Ao Ap Aq Ar qx hb hK hQ=>hK _ _ (iJ _ Ao Ap Aq Ar w1 hb qx (fun tm w' h2 h3 h=>hQ tm w' h2 h3 (hb.trans (h.mono hb.size))))
 clear iJ dD
 go_enter Tryz.func8,Tryz.ntmps8
 refine wp_seq_k fun K1 SS=>?_;refine wp_region_lit ?_;refine aj8 rfl 30 (.tmp 0) rfl arr rfl ?_;have abx:(w.alloc (.cells arr 30)).heap[w.heap.size]?=some (.cells arr 30 (0,0)):=heap_alloc_new w _;have eW:Below w.heap.size w (w.alloc (.cells arr 30)):=(Below.refl _ w).alloc (zzaa _) _;have Z6:w.heap.size<=(w.alloc (.cells arr 30)).heap.size:=eW.size;have auD:=Qdt abx;generalize w.alloc (.cells arr 30)=w0 at*
 go_wp2_with (first|refine wpList_load_row rfl 30 (.tmp 1) rfl w.heap.size rfl 30 arr (0,0) _ abx Tryz.underlying30 rfl hi ?_|(go_at_fn 9;refine(h9 _ eW).mono ?_))
 rintro e w1 ⟨rfl,di⟩;rename_i Q K2 a2 K1 a1 K0 a0;have ayQ:=fun Ao Ap Aq Ar=>key _ K2 w1 Ao Ap Aq Ar ((di.block _ auD).trans abx) (eW.trans (di.mono Z6)) a2 (fun tm w' h2 h3 hb=>bodyPost_ret (results_tmp2 rfl _ _ _) rfl (by rw[h2,h3];exact⟨rfl,hb⟩));clear a2 h9 key
 go_wp2
 exact ayQ _ _ _ _
def MP(o:Od)(sl:Value)(w:World)(h9:∀w1:World,Below w.heap.size w w1->Calls Tryz.prog 9 #[.agg (zG o sl)] w1 fun e w'=>e=.returned (.bool false)/\Below w1.heap.size w1 w'):
  Calls Tryz.prog 8 #[.agg (zG o sl)] w fun e w'=>e=.returned (.tuple #[.string ⟨#[]⟩,.int .i64 110])/\Below w.heap.size w w':=by
 have mixed:Tryz.prog.follows Departure.mixedOrders=true:=by kernel_rfl
 have e9:∀args w,(callFunc 9 args).run Tryz.prog w=.ok (.enter 9 args) w:=enters_of Tryz.func9 (by kernel_rfl) rfl;obtain⟨arr,dD⟩:∃arr,arr=zG o sl:=⟨_,rfl⟩;have hsz:arr.size=26:=by rw[dD];rfl
 rw[<- dD]at h9 |-
 have hi:(Tryz.prog.info? 30).map (·.size)=some arr.size:=by rw[hsz];rfl
 clear dD
 go_enter Tryz.func8,Tryz.ntmps8
 refine wp_seq_k fun K1 SS=>?_;refine wp_region_lit ?_;refine aj8 rfl 30 (.tmp 0) rfl arr rfl ?_;have abx:(w.alloc (.cells arr 30)).heap[w.heap.size]?=some (.cells arr 30 (0,0)):=heap_alloc_new w _;have eW:Below w.heap.size w (w.alloc (.cells arr 30)):=(Below.refl _ w).alloc (zzaa _) _;have Z6:w.heap.size<=(w.alloc (.cells arr 30)).heap.size:=eW.size;generalize w.alloc (.cells arr 30)=w0 at*
 go_wp2_with (first|refine wpList_load_row rfl 30 (.tmp 1) rfl w.heap.size rfl 30 arr (0,0) _ abx Tryz.underlying30 rfl hi ?_|(go_at_fn 9;refine(h9 _ eW).mono ?_))
 rintro e w1 ⟨rfl,di⟩;have fO:=eW.trans (di.mono Z6);clear h9
 go_wp2
 exact bodyPost_ret (results_tmp2 rfl _ _ _) rfl ⟨rfl,fO⟩
def Zz{w:World}{γ:G}{n:Int}{v:Value}(h:au w γ (I n) v):v=.int .i64 n:=by cases h;rfl
def aod{w:World}{γ:G}{s:ByteArray}{v:Value}(h:au w γ (.str s) v):v=.string s:=by cases h;rfl
def auQ(T:PP)(h:T.size=26):T=#[T.getD 0 undef,T.getD 1 undef,T.getD 2 undef,T.getD 3 undef,T.getD 4 undef,T.getD 5 undef,T.getD 6 undef,T.getD 7 undef,T.getD 8 undef,T.getD 9 undef,T.getD 10 undef,T.getD 11 undef,T.getD 12 undef,T.getD 13 undef,T.getD 14 undef,T.getD 15 undef,T.getD 16 undef,T.getD 17 undef,T.getD 18 undef,T.getD 19 undef,T.getD 20 undef,T.getD 21 undef,T.getD 22 undef,T.getD 23 undef,T.getD 24 undef,T.getD 25 undef]:=by
 have:T=((List.range 26).map fun i=>T.getD i undef).toArray:=Array.ext (by simp[h]) fun i h1 h2=>by simp[h1]
 exact this
def aoe{w:World}{γ:G}{o:Od}{v:Value}(h:au w γ (.agg (bT o .ro)) v):∃(adr:Option Addr)(cap ab off:Nat),v=.agg (zG o (.slice adr o.nw.al.length cap))/\o.nw.al.length<=cap/\
  ∀(i:Nat)(s:Int×Int),o.nw.al[i]?=some s->adr=some ⟨ab,off,none⟩/\ab<w.heap.size/\w.cell? ⟨ab,off+i*2,none⟩=some (.int .i64 s.1)/\w.cell? ⟨ab,off+i*2+1,none⟩=some (.int .i64 s.2):=by
 obtain⟨arr,rfl,eX⟩:=h.dO;have hsz:arr.size=26:=by have:=eX.1;simp[bT]at this;exact this.symm
 have hg:∀(i:Nat)(a:AV),(bT o .ro)[i]?=some a->au w γ a (arr.getD i undef):=fun i a ha=>by
  have hi:i<arr.size:=by rw[hsz];exact(zza.1 ha).1
  have:=eX.2 i a (arr.getD i undef) ha (by simp[hi]);exact this
 obtain⟨a,cap,b,off,sz,cv,oA,h1,h2,h3,h4,h5,h6,h7⟩:=(hg 12 _ rfl).JY;refine⟨a,cap,b,off,?_,Pi h1,fun i s hs=>?_⟩
 ·congr 1;rw[auQ arr hsz,Zz (hg 0 _ rfl),Zz (hg 1 _ rfl),Zz (hg 2 _ rfl),Zz (hg 3 _ rfl),Zz (hg 4 _ rfl),Zz (hg 5 _ rfl),Zz (hg 6 _ rfl),Zz (hg 7 _ rfl),Zz (hg 8 _ rfl),Zz (hg 9 _ rfl),Zz (hg 10 _ rfl),Zz (hg 11 _ rfl),oA,Zz (hg 13 _ rfl),Zz (hg 14 _ rfl),Zz (hg 15 _ rfl),Zz (hg 16 _ rfl),Zz (hg 17 _ rfl),Zz (hg 18 _ rfl),Zz (hg 19 _ rfl),Zz (hg 20 _ rfl),Zz (hg 21 _ rfl),Zz (hg 22 _ rfl),Zz (hg 23 _ rfl),Zz (hg 24 _ rfl),aod (hg 25 _ rfl)];simp[zG]
 have ai:(o.nw.al.map Qe)[i]?=some [I s.1,I s.2]:=by rw[zzbf,hs];rfl
 have aJ:o.nw.al.map Qe≠[]:=by rintro hn;rw[hn]at ai;simp at ai
 have ayR:2=sz:=h4 _ (zzac ai);subst ayR;have c0:Qs (o.nw.al.map Qe) i 0=some (I s.1):=by simp only[Qs,ai];rfl
 have c1:Qs (o.nw.al.map Qe) i 1=some (I s.2):=by simp only[Qs,ai];rfl
 obtain⟨g1,g2⟩:=h3 aJ;refine⟨g1,g2,?_,?_⟩
 ·rw[<- Zz (h6 i 0 _ c0)];exact(h5 i 0 _ c0).1
 rw[<- Zz (h6 i 1 _ c1)];exact(h5 i 1 _ c1).1
def uu(o:Od):AV:=if Xm o=true then .aQ [.str (fq (Zw o)),I 0]else .aQ [.str ⟨#[]⟩,I 110]
def Pv{ro:Nat->Nat->Prop}{w w':World}(h:Below w.heap.size w w'):Ev w (G0 ro) w' (G0 ro):=
 ⟨h.size,fun b o hb hr=>⟨hr,cell_of_heap (h.block b hb)⟩,fun _ _ h=>(by cases h),fun _=>zzaa _,fun _ _ h=>(by cases h),rfl,fun _ _ _ h=>(by cases h),fun _ h=>h.elim,Sz.of_same fun b hb=>h.block b hb⟩
def Qcb(o:Od)(ht:o.cu.tx.size<=600)(fk:o.nw.al.length<=1000):Pure Tryz.prog aD 8 [.agg (bT o .ro)] (uu o):=by
 refine⟨⟨_,Tryz.func8,rfl,rfl⟩,fun ro w vs eG hr=>?_⟩;obtain⟨hl,hc⟩:=hr
 match vs,hl with
 |[y],_=>
 have hy:=hc 0 _ y rfl rfl;obtain⟨adr,cap,ab,off,rfl,hcap,hA⟩:=aoe hy
 have h9:∀w1:World,Below w.heap.size w w1->Calls Tryz.prog 9 #[.agg (zG o (.slice adr o.nw.al.length cap))] w1 fun e w'=>e=.returned (.bool (Xm o))/\Below w1.heap.size w1 w':=fun w1 hb=>by
  refine((Jt o zE).2 ro w1 [_] (fun g=>(eG g).mono (Pv hb)) ⟨rfl,fun i a v ha hv=>?_⟩).mono ?_
  ·match i,ha,hv with
   |0,ha,hv=>cases ha;cases hv;exact hy.mono (Pv hb)
   |i+1,ha,hv=>simp at ha
  rintro e w' ⟨v,rfl,h1,h2⟩;cases h2;exact⟨rfl,h1⟩
 unfold uu;cases hv:Xm o with
 |false=>
  rw[hv]at h9;rw[if_neg (by decide)];refine(MP o _ w h9).mono ?_;rintro e w' ⟨rfl,hb⟩;exact⟨_,rfl,hb,Ex (.str _) (.int _ _)⟩
 |true=>
  rw[hv]at h9;rw[if_pos rfl];obtain⟨v1,v2,v3,v4,v5,v6⟩:=abd hv zE;obtain⟨-,hk,-⟩:=vO5 hv;refine(agP o _ w h9 fun Q Ao Ap Aq Ar w1 hb qx hQ=>?_).mono ?_
  ·rcases(show(o.ki=1\/o.ki=2\/o.ki=4)\/o.ki=3\/o.ki=5 by omega)with h|h|h
   ·exact SE Q _ o _ _ Ao Ap Aq Ar w1 zE v1 v2 qx h hQ
   ·exact agK Q _ o _ _ Ao Ap Aq Ar w1 zE v1 v2 qx (.inl h) rfl (v4 h) hcap (ab:=ab) (off:=off) (fun i s hs=>by
     obtain⟨g1,g2,g3,g4⟩:=hA i s hs;exact⟨g1,zzar g2 hb.size,by rw[<- g3];exact cell_of_heap (hb.block _ g2),by rw[<- g4];exact cell_of_heap (hb.block _ g2)⟩) v3 hQ
   exact agO Q _ o _ _ Ao Ap Aq Ar w1 zE v1 v2 qx (.inl h) ht hQ
  rintro e w' ⟨rfl,hb⟩;exact⟨_,rfl,hb,Ex (.str _) (.int _ _)⟩
def IF{a0 a1:Addr}{f:FuncId}{xs:PQ}{r:AV}(h:Pure Tryz.prog aD f xs r):Pure Tryz.prog (eL a0 a1) f xs r:=⟨h.1,fun ro w vs eG hr=>h.2 ro w vs (abw eG) hr⟩
def aby(e:En×Rt):PQ:=[I e.1.id,I e.1.it,I e.1.fr,I e.1.ea,I e.1.la,I e.1.bo,.sl e.2 (e.1.al.map Qe)]
def aof(l:List (En×Rt))(rt:Rt):Wk (.sl rt (l.map aby)) (.sl .ro ((l.map (·.1)).map Qd)):=by
 refine Wk.trans (Wk.sl _ _) ?_;rw[zzdc];refine Wk.rows l aby (Qd ∘ (·.1)) (fun _=>rfl) fun a j c' h=>?_
 match j,h with
 |0,h=>exact⟨_,rfl,by cases h;exact Pa⟩
 |1,h=>exact⟨_,rfl,by cases h;exact Pa⟩
 |2,h=>exact⟨_,rfl,by cases h;exact Pa⟩
 |3,h=>exact⟨_,rfl,by cases h;exact Pa⟩
 |4,h=>exact⟨_,rfl,by cases h;exact Pa⟩
 |5,h=>exact⟨_,rfl,by cases h;exact Pa⟩
 |6,h=>exact⟨_,rfl,by cases h;exact Wk.sl _ _⟩
 |j+7,h=>simp[Qd]at h
def abz:PQ:=[I 0,I 25,I 1,I 0,.sl .nil [],I 0,I 1,I 200,I 1,.sl .full [[I 1,I 5,I 50,I 0,I 0],[I 2,I 2,I 20,I 0,I 0],[I 3,I 4,I 100,I 0,I 0]],
 .sl .full [[I 1,I 2,I 20,I 0,I 0,I 0,.sl .nil []],[I 2,I 3,I 40,I 20,I 50,I 0,.sl .nil []]],.sl .nil [],
 .sl .full [[I 1,I 2,I 0,I 1000,I 255,I 0,I 0,I 0],[I 1,I 3,I 0,I 1000,I 255,I 0,I 0,I 0]]]
def MQ:Pure Tryz.prog aD 17 [] (.agg abz):=by
 refine Qn ake (fun _ _ _=>.junk) zd ?_;simp[ao2,ao3,abz]
def SM:Pure Tryz.prog aD 17 [] (.agg (Qa um)):=
 Zx MQ (Qch ⟨Pa,Pa,Pa,Pa,Wk.sl _ _,Pa,Pa,Pa,Pa,Wk.sl _ _,aof [(⟨1,2,20,0,0,0,[]⟩,.nil),(⟨2,3,40,20,50,0,[]⟩,.nil)] .full,Wk.sl _ _,Wk.sl _ _,trivial⟩)
def MR:af2 um:=⟨by decide,by decide,by decide,by decide,by decide,by decide⟩
def abA:PlL um:=⟨MR,by decide,by decide⟩
def oq:dV 0 bI:=by rw[<- ajF];exact(af3 MR ajE).H6
def aog:dV 1 Tb:=by rw[<- ajG];exact(Cb oq zE).H6
def aoh:dV 1 exK:=by rw[<- ajH];exact(Cb oq zE).H6
def agQ:Pure Tryz.prog aD 16 [.agg (Qa um)] (.aQ [.agg (Qo bI),.sl .ro [],I 0]):=by
 have k:=Si um (atm MR abA.al abA.ea)
 have e:amZ um=.aQ [.agg (Qo bI),.sl .ro [],I 0]:=by
  unfold amZ Ee;rw[ajE,aaR,aaQ,<- B9,ajF];rfl
 rw[e]at k;exact k
def qy(q c f k e n:Int):PQ:=[I q,I c,I f,I k,I e,I n,I 0,I 0,I 0,I 0,I 0,I 0,.sl .nil [],I 0,I 0,I 0,I 0,I 0,I 0,I 0,I 0,I 0,I 0,I 0,I 0,.str ⟨#[]⟩]
def Cm(q c f k e n:Int):Wk (.agg (qy q c f k e n)) (.agg (Qu ⟨q,c,f,k,e,n,Ah,BM,BN⟩)):=
 Qch ⟨Pa,Pa,Pa,Pa,Pa,Pa,Pa,Pa,Pa,Pa,Pa,Pa,Wk.sl _ _,Pa,Pa,Pa,Pa,Pa,Pa,Pa,Pa,Pa,Pa,Pa,Pa,Pa,trivial⟩
def Pw(q c f k e n:Int):af6 ⟨q,c,f,k,e,n,Ah,BM,BN⟩:=by simp[af6,Ah]
def aoi:Pure Tryz.prog aD 18 [.agg (Qo bI),.agg (qy 1 (-1) 30 1 2 10)] (.agg (Qo Tb)):=by
 have k:=yT bI oL (O3 oq zE (Pw _ _ _ _ _ _));rw[<- yX,ajG]at k;exact Xp k ⟨Pa,Cm _ _ _ _ _ _,trivial⟩
def aoj:Pure Tryz.prog aD 18 [.agg (Qo bI),.agg (qy 1 0 20 2 2 0)] (.agg (Qo exK)):=by
 have k:=yT bI oD (O3 oq zE (Pw _ _ _ _ _ _));rw[<- yX,ajH]at k;exact Xp k ⟨Pa,Cm _ _ _ _ _ _,trivial⟩
def ayS:Pure Tryz.prog aD 20 [.agg (Qo bI),.agg (qy 1 0 20 2 2 0)] (.bool true):=by
 have k:=Cc bI oD (O3 oq zE (Pw _ _ _ _ _ _));rw[ann]at k;exact Xp k ⟨Pa,Cm _ _ _ _ _ _,trivial⟩
def ayT:Pure Tryz.prog aD 20 [.agg (Qo bI),.agg (qy 1 0 20 2 1 0)] (.bool false):=by
 have k:=Cc bI oX (O3 oq zE (Pw _ _ _ _ _ _));rw[ano]at k;exact Xp k ⟨Pa,Cm _ _ _ _ _ _,trivial⟩
def ayU:Pure Tryz.prog aD 9 [.agg (qy 1 0 20 2 2 0)] (.bool true):=by
 have k:=Jt oD (by decide);rw[atC]at k;exact Xp k ⟨Cm _ _ _ _ _ _,trivial⟩
def agR:Pure Tryz.prog aD 21 [.agg (Qo bI),.agg (Qo bI)] (.bool true):=am8 bI (oq.sm zE)
def agS(g h:Pg)(hv:g.ve≠h.ve):Pure Tryz.prog aD 21 [.agg (Qo g),.agg (Qo h)] (.bool false):=by
 refine Qn Te (fun _ _ _=>.bool true) zd ?_;by_cases he:g.ed=h.ed
 ·simp[abM,abN,Qo,Qa,he,hv]
 simp[abM,abN,Qo,Qa,he,hv]
def ayV:Pure Tryz.prog aD 19 [.sl .ro (Tb.ev.map Qf),I 69] (.aQ [.agg [I 2,I 3,I 30,I 40,I 10,I 1,.sl .ro []],I 49,.bool true]):=by
 have k:=H8 Tb.ev 69 (by decide) aog.small.2 zE;have e:xZ 69 (DM 69 Tb.ev)=.aQ [.agg [I 2,I 3,I 30,I 40,I 10,I 1,.sl .ro []],I 49,.bool true]:=by cbv
 rw[e]at k;exact k
def ayW:Pure Tryz.prog aD 19 [.sl .ro (exK.ev.map Qf),I 30] (.aQ [.agg [I 0,I 1,I 20,I 50,I 0,I 1,.sl .ro []],I 10,.bool true]):=by
 have k:=H8 exK.ev 30 (by decide) aoh.small.2 zE;have e:xZ 30 (DM 30 exK.ev)=.aQ [.agg [I 0,I 1,I 20,I 50,I 0,I 1,.sl .ro []],I 10,.bool true]:=by cbv
 rw[e]at k;exact k
def Ey(q c f k e n:Int):PQ:=[I q,I c,I f,I k,I e,I n,I 0,I 0,I 0,I 0,I 0,I 0,.sl .ro [],I 0,I 0,I 0,I 0,I 0,I 0,I 0,I 0,I 0,I 0,I 0,I 0,.str ⟨#[]⟩]
def auR:Zw oL=[2,1,60,2,4,20]:=by decide
def IG:Pure Tryz.prog aD 8 [.agg (qy 1 (-1) 30 1 2 10)] (.aQ [.str ⟨#[2,1,60,2,4,20]⟩,I 0]):=by
 have k:=Qcb oL (by decide) (by decide);unfold uu at k;rw[if_pos ank,auR]at k;exact Xp k ⟨Cm _ _ _ _ _ _,trivial⟩
def II{a0 a1:Addr}(aJ:a0≠a1):Pure Tryz.prog (eL a0 a1) 10 [.str ⟨#[2,1,60,2,4,20]⟩] (.aQ [.agg (Ey 1 (-1) 30 1 2 10),I 0]):=by
 have k:=Qce aJ ⟨#[2,1,60,2,4,20]⟩ (by decide);rw[show bS ⟨#[2,1,60,2,4,20]⟩=Zw oL from by rw[auR];rfl,qv ank (by decide)]at k;exact k
def abB:X1:=fun d f _=>if f=17 then .agg (Qa um)else if f=16 then .aQ [.agg (Qo bI),.sl .ro [],I 0]else if f=18 then(if d=29 then .agg (Qo Tb)else .agg (Qo exK))
 else if f=8 then .aQ [.str ⟨#[2,1,60,2,4,20]⟩,I 0]else if f=10 then .aQ [.agg (Ey 1 (-1) 30 1 2 10),I 0]
 else if f=19 then(if d=46 then .aQ [.agg [I 2,I 3,I 30,I 40,I 10,I 1,.sl .ro []],I 49,.bool true]else .aQ [.agg [I 0,I 1,I 20,I 50,I 0,I 1,.sl .ro []],I 10,.bool true])
 else if f=20 then .bool (decide (d≠59))else if f=9 then .bool true else if f=21 then .bool (decide (d=130))else .junk
def abC{a0 a1:Addr}(aJ:a0≠a1):Pure Tryz.prog (eL a0 a1) 6 [] (.bool true):=by
 have h1:Qg (bI.ev.map Qf) 1=[I 2,I 3,I 20,I 40,I 0,I 1,.sl .ro []]:=rfl;have h2:bI.ev.length=5:=rfl;have h3:Tb.ve=1:=rfl;have k1:=IF (a0:=a0) (a1:=a1) SM;have k2:=IF (a0:=a0) (a1:=a1) agQ;have k3:=IF (a0:=a0) (a1:=a1) aoi;have k4:=IF (a0:=a0) (a1:=a1) aoj;have k5:=IF (a0:=a0) (a1:=a1) IG;have k6:=II aJ;have k7:=IF (a0:=a0) (a1:=a1) ayV;have k8:=IF (a0:=a0) (a1:=a1) ayW;have k9:=IF (a0:=a0) (a1:=a1) ayT;have Al:=IF (a0:=a0) (a1:=a1) ayU;have k11:=IF (a0:=a0) (a1:=a1) ayS;have k12:=IF (a0:=a0) (a1:=a1) agR;have k13:=IF (a0:=a0) (a1:=a1) (agS bI Tb (by decide));simp only[Qo,Qa,qy,Ey,zzae,zzaj]at k1 k2 k3 k4 k5 k6 k7 k8 k9 Al k11 k12 k13;refine Qn aoX abB zd ?_;simp[sc6,rs6,abB,Qo,Qa,qy,Ey,h1,h2,h3];exact⟨k1,k2,k3,k4,k5,k6,k7,k8,k9,Al,k11,k12,k13⟩
def aok(a b:List Sp)(f:Nat->AV)(m:AM):Prop:=∃i:Nat,f 5=I i/\i<=a.length/\(∀j,j<i->a[j]?=b[j]?)/\m=⟨[],[],fun _=>.gone,0⟩
def aol{gl:Nat->AV}(a b:List Sp)(ha:a.length<=8796093022208)(hb:b.length<=8796093022208)(r:Bool)(hr:r=true<->a=b):Pure Tryz.prog gl 129 [.sl .ro (a.map Qe),.sl .ro (b.map Qe)] (.bool r):=by
 refine Qn acs (fun _ _ _=>.junk) zd ?_;by_cases hl:a.length=b.length
 ·have hli:((a.length:Int) !=b.length)=false:=by simp[hl]
  simp[M8,hl];refine Qj vo (aok a b) (fun f _=>a.length-(numOf (f 5)).toNat) ?_ ?_
  ·exact⟨0,zd,zE,fun j h=>zE,rfl⟩
  rintro f m ⟨i,f5,hi,hq,rfl⟩;rcases zzab i a.length with aa|bu
  ·obtain⟨s,hs⟩:=aY aa;obtain⟨t,ht⟩:∃t,b[i]?=some t:=⟨_,zzad zE⟩;have h1:Qg (a.map Qe) i=Qe s:=Qv (by simp[hs]);have h2:Qg (b.map Qe) i=Qe t:=Qv (by simp[ht]);have ah:(i:Int)<(b.length:Int):=zE
   have hw:=bR i zE;by_cases cc:s=t
   ·subst cc;simp[f5,vo,hl,ah,hw,h1,h2,Qe];refine⟨aR,⟨i+1,zd,zE,fun j hj=>?_,rfl⟩,zE⟩
    ·rcases zzab j i with h|h
     ·exact hq j h
     obtain rfl:j=i:=zE
     rw[hs,ht]
   obtain rfl:r=false:=by
    cases r
    ·rfl
    have:=hr.1 rfl;rw[this,ht]at hs;exact(cc (by cases hs;rfl)).elim
   have ayX:¬(s.1=t.1/\s.2=t.2):=fun h=>cc (Prod.ext h.1 h.2);by_cases he:s.1=t.1
   ·have ZS:¬s.2=t.2:=fun h=>ayX ⟨he,h⟩;simp[f5,vo,hl,ah,hw,h1,h2,Qe,he,ZS,EP]
   simp[f5,vo,hl,ah,hw,h1,h2,Qe,he,EP]
  obtain rfl:i=a.length:=zE
  obtain rfl:r=true:=hr.2 (zzcz fun j=>by
   rcases zzab j a.length with h|h
   ·exact hq j h
   rw[zzau h,zzau zE])
  simp[f5,vo,EP,hl]
 obtain rfl:r=false:=by
  cases r
  ·rfl
  exact(hl (by rw[hr.1 rfl])).elim
 have hli:¬((a.length:Int)=b.length):=zE
 simp[M8,hli,EP]
def enV(e:En)(rt:Rt):PQ:=[I e.id,I e.it,I e.fr,I e.ea,I e.la,I e.bo,.sl rt (e.al.map Qe)]
def aom{gl:Nat->AV}(a b:En)(ha:a.al.length<=8796093022208)(hb:b.al.length<=8796093022208)(r:Bool)(hr:r=true<->a=b):Pure Tryz.prog gl 76 [.agg (enV a .ro),.agg (enV b .ro)] (.bool r):=by
 have k:=aol (gl:=gl) a.al b.al ha hb (decide (a.al=b.al)) zd;refine Qn akZ (fun _ _ _=>.bool (decide (a.al=b.al))) zd ?_;simp[apr,aps,enV];refine⟨k,?_⟩;rw[zzcs,hr];cases a;cases b;simp only[zzai,decide_eq_true_eq,beq_iff_eq,En.mk.injEq];constructor<;>(intro h;simp_all)
open Classical in
def abD{gl:Nat->AV}(a b:Od)(ha:a.nw.al.length<=8796093022208)(hb:b.nw.al.length<=8796093022208)(r:Bool)(hr:r=true<->a=b):Pure Tryz.prog gl 36 [.agg (bT a .ro),.agg (bT b .ro)] (.bool r):=by
 obtain⟨q,hq⟩:∃q:Bool,q=true<->a.nw=b.nw:=⟨decide (a.nw=b.nw),zd⟩;have k:=aom (gl:=gl) a.nw b.nw ha hb q hq;refine Qn akv (fun _ _ _=>.bool q) zd ?_;simp[apb,apc,bT];refine⟨k,?_⟩;rw[zzcs,hr];obtain⟨a1,a2,a3,a4,a5,a6,a7,⟨a8,a9,a10,a11,a12,a13,a14,a15⟩,⟨a16,a17,a18,a19,⟨⟨a20⟩⟩⟩⟩:=a;obtain⟨b1,b2,b3,b4,b5,b6,b7,⟨b8,b9,b10,b11,b12,b13,b14,b15⟩,⟨b16,b17,b18,b19,⟨⟨b20⟩⟩⟩⟩:=b;simp only[zzai,hq,beq_iff_eq,Od.mk.injEq,Cl.mk.injEq,Cue.mk.injEq,ByteArray.toList_eq,ByteArray.mk.injEq,Array.mk.injEq];constructor<;>(intro h;simp_all)
def MS{gl:Nat->AV}(a b:Od)(ha:a.nw.al.length<=8796093022208)(hb:b.nw.al.length<=8796093022208)(r:Bool)(hr:r=true<->a=b):Pure Tryz.prog gl 12 [.agg (bT a .ro),.agg (bT b .ro)] (.bool r):=by
 have k:=abD (gl:=gl) a b ha hb r hr;refine Qn akd (fun _ _ _=>.bool r) zd ?_;simp only[bT]at k;simp[ao0,ao1,bT];exact k
def Px:∀(k z:Nat),∀x∈zF k z,x<256
 |0,z,x,h=>by simp[zF]at h
 |k+1,z,x,h=>by
  rw[zF]at h;split at h
  ·simp at h;omega
  rcases zzao.1 h with rfl|h
  ·omega
  exact Px k _ x h
def zi(l:P2):∀x∈aT l,x<256:=fun x h=>by
 obtain⟨n,_,h⟩:=zzgv.1 h;exact Px _ _ x h
def qz:∀l:P2,(aT l).length<=9*l.length
 |[]=>by simp[aT]
 |n::r=>by
  have h1:=qz r;have h2:(aU n).length<=9:=qt _ _;have h3:aT (n::r)=aU n++aT r:=rfl;rw[h3,zzah,zzav];omega
def qA(o:Od):∀x∈Zw o,x<256:=fun x h=>by
 unfold Zw at h;rcases zzap.1 h with h|h
 ·exact zi _ x h
 rcases zzap.1 h with h|h
 ·exact zi _ x h
 rcases zzap.1 h with h|h
 ·exact zi _ x h
 unfold qF at h;split at h
 ·exact Qed _ x h
 cases h
def abE{o:Od}(ht:o.cu.tx.size<=300)(ha:o.nw.al.length<=1000):(Zw o).length<=100000:=by
 have h1:=qz (dI o);have h2:=qz (cK o);have h3:=qz (gP o);have h4:(dI o).length=4:=rfl;have h5:(cK o).length<=8:=by unfold cK;(repeat' split)<;>simp
 have h6:(gP o).length<=2001:=by
  unfold gP;split
  ·rw[zzav,Er];omega
  split<;>simp
 have h7:(qF o).length<=300:=by
  unfold qF;split
  ·rw[Yu];exact ht
  simp
 unfold Zw;simp only[zzah];omega
def abF(o:Od):0<(Zw o).length:=by
 have h:0<(aU o.sq).length:=by
  unfold aU;rw[zF];split<;>simp
 have:Zw o=aU o.sq++(aT [o.ch,o.fr,o.ki]++(aT (cK o)++(aT (gP o)++qF o))):=by
  unfold Zw;rw[show aT (dI o)=aU o.sq++aT [o.ch,o.fr,o.ki]from rfl,zzaz]
 rw[this,zzah];omega
def aon{l k:P1}(hl:∀x∈l,x<256)(hk:∀x∈k,x<256)(h:fq l=fq k):l=k:=by
 rw[<- qs hl,h,qs hk]
def aoo{o p:Od}(ho:Xm o=true)(hp:Xm p=true)(h1:o.cu.tx.size<=65536)(h2:p.cu.tx.size<=65536):fq (Zw o)=fq (Zw p)<->o=p:=by
 constructor
 ·intro h;have h:=aon (qA _) (qA _) h;have k1:=qv ho h1;rw[h,qv hp h2]at k1;cases k1;rfl
 rintro rfl;rfl
def Py(o:Od):(Uc o).cu.tx.size<=300/\(Uc o).nw.al.length<=9:=by
 constructor
 ·show(o.cu.tx.extract 0 _).size<=300;rw[zzfp];split<;>omega
 show(o.nw.al.take 9).length<=9;rw[zzaq];omega
open Classical in
def Cn(a b:Od)(va vb:AV)(n:Int):X1:=fun d f _=>if f=6 then .bool true else if f=7 then(if d=18 then .agg (bT (Uc a) .ro)else .agg (bT (Uc b) .ro))else
 if f=8 then(if d=23 then va else vb)else if f=9 then .bool (Xm (Uc a))else if f=10 then(if d=61 then .aQ [.agg (bT (Uc a) .ro),I 0]else .aQ [.agg (bT oZ .nil),I 10])else
 if f=11 then I n else if f=12 then(if d=82 then .bool true else .bool (decide (Uc a=Uc b)))else .junk
open Classical in
def law3{a0 a1:Addr}(aJ:a0≠a1)(a b:Od)(v:Int)(hv: -9223372036854775808<=v/\v<=9223372036854775807):Pure Tryz.prog (eL a0 a1) 3 [.agg (bT a .ro),.agg (bT b .ro),I v] (.bool true):=by
 obtain⟨ga1,ga2⟩:=Py a;obtain⟨gb1,gb2⟩:=Py b;have k6:=abC aJ;have ka7:=atE (gl:=eL a0 a1) a;have kb7:=atE (gl:=eL a0 a1) b;have ka8:=IF (a0:=a0) (a1:=a1) (Qcb (Uc a) zE zE);have kb8:=IF (a0:=a0) (a1:=a1) (Qcb (Uc b) zE zE);have k9:=IF (a0:=a0) (a1:=a1) (Jt (Uc a) zE);have kaa:=MS (gl:=eL a0 a1) (Uc a) (Uc a) zE zE true zd;have kab:=MS (gl:=eL a0 a1) (Uc a) (Uc b) zE zE (decide (Uc a=Uc b)) zd;have hr:Qu (Uc a)=bT (Uc a) .ro:=rfl;rw[hr]at k9;cases hva:Xm (Uc a)with
 |false=>
  rw[hva]at k9;have ea:uu (Uc a)=.aQ [.str ⟨#[]⟩,I 110]:=by unfold uu;rw[if_neg (by rw[hva];decide)]
  rw[ea]at ka8
  obtain⟨tb,cb,eb⟩:∃tb cb,uu (Uc b)=.aQ [.str tb,I cb]:=by
   unfold uu;split<;>exact⟨_,_,rfl⟩
  rw[eb]at kb8;refine Qn agW (Cn a b (.aQ [.str ⟨#[]⟩,I 110]) (.aQ [.str tb,I cb]) 0) zd ?_;simp only[bT]at ka7 kb7 ka8 kb8 k9;simp[sc3,rs3,bT,Cn,hva];repeat' first|exact k6|exact ka7|exact kb7|exact ka8|exact kb8|exact k9|refine And.intro ?_ ?_
 |true=>
  rw[hva]at k9;obtain⟨s,hs⟩:∃s,s=fq (Zw (Uc a)):=⟨_,rfl⟩;have ic:bS s=Zw (Uc a):=by rw[hs,qs (qA _)]
  have hsz:s.size=(Zw (Uc a)).length:=by rw[hs,Qbe]
  have iW:=abF (Uc a);have aH:=abE (o:=Uc a) zE zE;have ea:uu (Uc a)=.aQ [.str s,I 0]:=by unfold uu;rw[if_pos hva,hs]
  rw[ea]at ka8;have hk:=atF (v:=v) (n:=(s.size:Int)) zE;obtain⟨j,hj⟩:∃j:Nat,pk v s.size=j:=⟨(pk v s.size).toNat,zE⟩;have k11:=anp (gl:=eL a0 a1) v s.size hv zE;rw[hj]at k11 hk;have Al:=Qce aJ s zE;rw[ic,qv hva zE,IE]at Al;have kp:=Qce aJ (s.extract 0 j) (by rw[zzfp];omega)
  have hp:bS (s.extract 0 j)=(Zw (Uc a)).take j:=by
   have:=Pb s 0 j zE;rw[zzbm]at this;rw[this,zzd,ic,qs];exact fun x hx=>qA _ x (zzce hx)
  have fV:bT oZ .nil=[I 0,I 0,I 0,I 0,I 0,I 0,I 0,I 0,I 0,I 0,I 0,I 0,.sl .nil [],I 0,I 0,I 0,I 0,I 0,I 0,I 0,I 0,I 0,I 0,I 0,I 0,.str ⟨#[]⟩]:=rfl;rw[hp,abf hva zE zE,IE,fV]at kp
  have hse:s.toList≠[]:=fun h=>by
   rw[ByteArray.toList_eq]at h
   have:s.size=0:=by
    obtain⟨⟨l⟩⟩:=s;simp only at h;subst h;rfl
   omega
  have dL:(j:Int)<=s.size:=zE
  have S3:0<s.size:=zE
  obtain⟨tb,cb,eb,VX⟩:∃tb cb,uu (Uc b)=.aQ [.str tb,I cb]/\(cb=0->((s.toList=tb.toList)<->Uc a=Uc b)):=by
   unfold uu;cases SX:Xm (Uc b)with
   |false=>rw[if_neg (by decide)];exact⟨_,_,rfl,fun h=>by cases h⟩
   |true=>
    rw[if_pos rfl];refine⟨_,_,rfl,fun _=>?_⟩;rw[<- aoo hva SX zE zE,<- hs,ByteArray.toList_eq,ByteArray.toList_eq];constructor
    ·intro h;exact ByteArray.ext (Array.toList_inj.1 h)
    intro h;rw[h]
  rw[eb]at kb8;refine Qn agW (Cn a b (.aQ [.str s,I 0]) (.aQ [.str tb,I cb]) j) zd ?_;simp only[bT]at ka7 kb7 ka8 kb8 k9 Al kaa kab;by_cases hc:cb=0
  ·have hbc:=VX hc;subst hc;by_cases C9:Uc a=Uc b
   ·have cc:=hbc.2 C9;simp only[C9,decide_true]at ka7 ka8 k9 Al kaa kab hva;rw[cc]at hse;simp[sc3,rs3,bT,Cn,hva,hse,dL,S3,cc,C9];repeat' first|exact k6|exact ka7|exact kb7|exact ka8|exact kb8|exact k9|exact Al|exact k11|exact kp|exact kaa|exact kab|refine And.intro ?_ ?_
   have cc:=mt hbc.1 C9;simp only[C9,decide_false]at kab;simp[sc3,rs3,bT,Cn,hva,hse,dL,S3,cc,C9];repeat' first|exact k6|exact ka7|exact kb7|exact ka8|exact kb8|exact k9|exact Al|exact k11|exact kp|exact kaa|exact kab|refine And.intro ?_ ?_
  simp[sc3,rs3,bT,Cn,hva,hse,dL,S3,hc];repeat' first|exact k6|exact ka7|exact kb7|exact ka8|exact kb8|exact k9|exact Al|exact k11|exact kp|exact kaa|exact kab|refine And.intro ?_ ?_
def MT(h ns:P2)(al:List Sp)(tx:ByteArray):(dJ h ns al tx).cu.tx.size<=tx.size:=by
 unfold dJ;simp only;split
 ·exact zzaa _
 exact zzbi _
def agT{l:P1}{o:Od}(h:Vw l=.ok o):o.cu.tx.size<=l.length:=by
 unfold Vw at h;split at h
 ·cases h
 split at h
 ·cases h
 split at h
 ·cases h
 rename_i hd a _ _ _ ns b _;unfold Iv at h;split at h
 ·unfold rd3 at h;split at h
  ·cases h
  split at h
  ·cases h
  split at h
  ·cases h
  split at h
  ·cases h;exact zzb (MT _ _ _ _) (zzbi _)
  cases h
 split at h
 ·unfold rd5 at h;split at h
  ·cases h
  rename_i t e hr;split at h
  ·cases h;refine zzb (MT _ _ _ _) ?_;rw[Qbe];unfold uo at hr;split at hr
   ·cases hr
   split at hr
   ·cases hr
   cases hr;rw[zzaq,zzcb];omega
  cases h
 split at h
 ·cases h;exact zzb (MT _ _ _ _) (zzbi _)
 cases h
def agU{l:P1}{o:Od}(h:j9 l=.ok o):o.cu.tx.size<=l.length/\o.nw.al.length<=7:=by
 have:Vw l=.ok o:=by
  unfold j9 at h;split at h
  ·rename_i p hp;split at h
   ·cases h;exact hp
   cases h
  rename_i x hx;exact h
 exact⟨agT this,Pu this⟩
def SN(s:ByteArray):ByteArray:=s.extract 0 (if 500<s.size then 500 else s.size)
def agV(s:ByteArray):(SN s).size<=500:=by
 unfold SN;rw[zzfp];split<;>omega
def aj9:Wk (.agg (bT oZ .nil)) (.agg (bT oZ .ro)):=
 Qch ⟨Pa,Pa,Pa,Pa,Pa,Pa,Pa,Pa,Pa,Pa,Pa,Pa,Wk.sl _ _,Pa,Pa,Pa,Pa,Pa,Pa,Pa,Pa,Pa,Pa,Pa,Pa,Pa,trivial⟩
def Co(dv ev:AV):X1:=fun d f _=>if f=6 then .bool true else if f=10 then dv else if f=8 then ev else if f=9 then .bool true else if f=12 then .bool true else .junk
def law4{a0 a1:Addr}(aJ:a0≠a1)(s:ByteArray):Pure Tryz.prog (eL a0 a1) 4 [.str s] (.bool true):=by
 have k6:=abC aJ;have a2:=ZZ (a:=s.size) 500;have b2:=Z2 (a:=s.size) 500
 have e2:(if(500:Int)<(s.size:Int)then(500:Int)else(s.size:Int)).toNat=if 500<s.size then 500 else s.size:=by
  by_cases h:500<s.size
  ·rw[if_pos h,if_pos zE];rfl
  rw[if_neg h,if_neg zE];omega
 simp at a2 b2;have hsz:=agV s;have Al:=Qce aJ (SN s) zE;have hx:s.extract 0 (if 500<s.size then 500 else s.size)=SN s:=rfl;have kzz:Pure Tryz.prog (eL a0 a1) 12 [.agg (bT oZ .nil),.agg (bT oZ .nil)] (.bool true):=Xp (MS (gl:=eL a0 a1) oZ oZ (by decide) (by decide) true zd) ⟨aj9,aj9,trivial⟩;have fV:bT oZ .nil=[I 0,I 0,I 0,I 0,I 0,I 0,I 0,I 0,I 0,I 0,I 0,I 0,.sl .nil [],I 0,I 0,I 0,I 0,I 0,I 0,I 0,I 0,I 0,I 0,I 0,I 0,.str ⟨#[]⟩]:=rfl;rw[fV]at kzz;cases hd:j9 (bS (SN s))with
 |wire=>
  rw[hd,IE,fV]at Al;refine Qn Td (Co (.aQ [.agg [I 0,I 0,I 0,I 0,I 0,I 0,I 0,I 0,I 0,I 0,I 0,I 0,.sl .nil [],I 0,I 0,I 0,I 0,I 0,I 0,I 0,I 0,I 0,I 0,I 0,I 0,.str ⟨#[]⟩],I 10]) .junk) zd ?_;simp[sc4,rs4,Co,a2,b2,e2,hx];exact⟨k6,Al,kzz⟩
 |rep=>
  rw[hd,IE,fV]at Al;refine Qn Td (Co (.aQ [.agg [I 0,I 0,I 0,I 0,I 0,I 0,I 0,I 0,I 0,I 0,I 0,I 0,.sl .nil [],I 0,I 0,I 0,I 0,I 0,I 0,I 0,I 0,I 0,I 0,I 0,I 0,.str ⟨#[]⟩],I 110]) .junk) zd ?_;simp[sc4,rs4,Co,a2,b2,e2,hx];exact⟨k6,Al,kzz⟩
 |ok o=>
  rw[hd,IE]at Al;obtain⟨h1,h2⟩:=agU hd;rw[Yu]at h1;obtain⟨hv,he⟩:=abh (Qed _) hd;have k8:=IF (a0:=a0) (a1:=a1) (Qcb o zE zE);have k9:=IF (a0:=a0) (a1:=a1) (Jt o zE);rw[show Qu o=bT o .ro from rfl,hv]at k9;unfold uu at k8;rw[if_pos hv,he,Ej]at k8;refine Qn Td (Co (.aQ [.agg (bT o .ro),I 0]) (.aQ [.str (SN s),I 0])) zd ?_;simp only[bT]at k8 k9 Al;simp[sc4,rs4,Co,a2,b2,e2,hx,bT];exact⟨k6,Al,k8,k9⟩
end
