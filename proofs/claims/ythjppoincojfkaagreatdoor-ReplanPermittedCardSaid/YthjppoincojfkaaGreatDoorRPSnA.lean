import Derived.Test.YthjppoincojfkaaGreatDoorRPCodeT
import Derived.Laws.CopyOwn
import Derived.Test.YthjppoincojfkaaGreatDoorRPMbW
set_option linter.all false
set_option maxRecDepth 100000
set_option maxHeartbeats 64000000
namespace Go.Proofs.YthjppoincojfkaaGreatDoor
noncomputable section
open Go Go.RowKit Go.Lib
def yS(b:Nat)(w:World)(h0:w.cell? ⟨b,0,none⟩=some (.pointer (some ⟨b,0,none⟩))):
  Calls Tryz.prog 125 #[.pointer (some ⟨b,0,none⟩)] w fun e w'=>e=.returned (.tuple #[])/\w'=w:=by
 obtain⟨j,hj,fP⟩:∃j,Tryz.prog.info? 142=some j/\j.size=2:=⟨_,rfl,rfl⟩;have mixed:Tryz.prog.follows Departure.mixedOrders=true:=by kernel_rfl
 go_enter Tryz.func125,Tryz.ntmps125
 go_wp2
 rw[Lib.run_neq_ptr_same w _ Tryz.underlying139 hj]
 go_wp2
 go_end0
 exact⟨rfl,rfl⟩
def ud(b:Nat)(w:World)(h0:w.cell? ⟨b,0,none⟩=some (.pointer none))(fA:w.shape? b=some (142,2))(hfz:w.frozen? ⟨b,0,none⟩=false):
  Calls Tryz.prog 125 #[.pointer (some ⟨b,0,none⟩)] w fun e w'=>e=.returned (.tuple #[])/\w'=w.setCell ⟨b,0,none⟩ (.pointer (some ⟨b,0,none⟩)):=by
 obtain⟨j,hj,fP⟩:∃j,Tryz.prog.info? 142=some j/\j.size=2:=⟨_,rfl,rfl⟩;have ayI:liesAt Tryz.prog Tryz.prog.depth 142 (2/Tryz.prog.cellsOf 142) 0 142 1=true:=by kernel_rfl
 have mixed:Tryz.prog.follows Departure.mixedOrders=true:=by kernel_rfl
 go_enter Tryz.func125,Tryz.ntmps125
 go_wp2
 rw[Lib.run_to_unsafe w ⟨b,0,none⟩ Tryz.underlying139 Tryz.underlying269 hj (by rw[fP];decide) fA (Nat.zero_lt_succ 1)];simp only[Result.andThen];rw[Oper.upon_value]
 go_wp2
 rw[run_callFunc_extern Tryz.func181 (by kernel_rfl) (by kernel_rfl) (by kernel_rfl) (e:=Extern.AbiNoEscape.same) (by kernel_rfl)];rw[Lib.run_noEscape];simp only[Result.andThen];rw[Oper.upon_value]
 go_wp2
 rw[Lib.run_from_unsafe w ⟨b,0,none⟩ Tryz.underlying269 Tryz.underlying139 hj fA ayI];simp only[Result.andThen];rw[Oper.upon_value]
 go_wp2
 go_end0
 exact⟨rfl,rfl⟩
def aa0(b:Nat)(v:Value)(w w':World):Prop:=∀k,k<w.heap.size->k≠b->v.ownBlock≠some k->w'.heap[k]?=w.heap[k]?
def H6(B b:Nat)(bs:List Value)(s:ByteArray)(p v:Value)(w:World)(hp:p=.pointer none\/p=.pointer (some ⟨b,0,none⟩))(hBb:B<=b)(Mj:w.heap[b]?=some (.cells #[p,v] 142 (0,0)))(ajw:w.ownsRow B 5 1 v bs.length bs)(lD:v.ownBlock≠some b)
  (aH:bs.length+s.size<=1000000)(hBw:B<=w.heap.size):
  Calls Tryz.prog 70 #[.pointer (some ⟨b,0,none⟩),.string s] w fun e w'=>e=.returned (.tuple #[.int .i64 s.size,.nilIface])/\
   ∃v',w'.heap[b]?=some (.cells #[.pointer (some ⟨b,0,none⟩),v'] 142 (0,0))/\w'.ownsRow B 5 1 v' (bs++Lib.strCells s).length (bs++Lib.strCells s)/\v'.ownBlock≠some b/\Below B w w'/\aa0 b v w w':=by
 obtain⟨i0,hi,hz0,hz1,hz2⟩:=info_parts (P:=Tryz.prog) (e:=5) (z:=.int .u8 0) (size:=1) (bytes:=1) (by rfl);have mixed:Tryz.prog.follows Departure.mixedOrders=true:=by kernel_rfl
 have auv:b<w.heap.size:=by
  rcases zzaa b w.heap.size with h'|h'
  ·exact h'
  simp[zzbo h']at Mj
 have cC:Calls Tryz.prog 125 #[.pointer (some ⟨b,0,none⟩)] w fun e w'=>e=.returned (.tuple #[])/\w'.heap[b]?=some (.cells #[.pointer (some ⟨b,0,none⟩),v] 142 (0,0))/\w'.ownsRow B 5 1 v bs.length bs/\w'.heap.size=w.heap.size/\Below B w w'/\∀k,k≠b->w'.heap[k]?=w.heap[k]?:=by
  obtain rfl|rfl:=hp
  ·refine(ud b w (by rw[Lib.cell_of_heap Mj];rfl) (by simp[World.shape?,Mj]) (Lib.frozen_of_heap Mj 0)).mono ?_;rintro e w' ⟨rfl,rfl⟩;refine⟨rfl,by simp[World.setCell,zzdn,Mj],?_,by simp[World.setCell],(Below.refl B w).setCell (p:=⟨b,0,none⟩) hBb _,fun k hk=>Below.heap_setCell _ _ _ _ hk⟩;exact ajw.kept (row:=some b) ⟨rfl,rfl,rfl,by simp[World.setCell],fun k _ hk=>Below.heap_setCell _ _ _ _ (fun e=>hk (by simp[e]))⟩ (Or.inr lD)
  refine(yS b w (by rw[Lib.cell_of_heap Mj];rfl)).mono ?_;rintro e w' ⟨rfl,rfl⟩;exact⟨rfl,Mj,ajw,rfl,Below.refl B _,fun _ _=>rfl⟩
 have e94:∀args w,(callFunc 125 args).run Tryz.prog w=.ok (.enter 125 args) w:=enters_of Tryz.func125 (by kernel_rfl) rfl
 go_enter Tryz.func70,Tryz.ntmps70
 go_wp2_with (go_at_fn 125;refine cC.mono ?_)
 rintro e w1 ⟨rfl,zy,ct,hsz,dx,V2⟩;have c0:w1.cell? ⟨b,0,none⟩=some (.pointer (some ⟨b,0,none⟩)):=by rw[Lib.cell_of_heap zy];rfl
 have c1:w1.cell? ⟨b,1,none⟩=some v:=by rw[Lib.cell_of_heap zy];rfl
 go_wp2_with (at_builtin;refine Lib.wpList_append_own_string _ rfl _ _ 140 9 rfl B 5 i0 Tryz.underlying140 Tryz.underlying9 hi hz0 hz1 hz2 _ _ _ rfl ct s rfl ?c3 ?c4 ?c5 ?_)
 case c3=>unfold maxLen;omega
 case c4=>omega
 case c5=>rw[hsz];exact hBw
 intro v' w2 aa1 H7 _;have ai:b<w1.heap.size:=zE
 have fR:w2.heap[b]?=some (.cells #[.pointer (some ⟨b,0,none⟩),v] 142 (0,0)):=by
  rw[H7.block b ai (fun e=>lD e.symm)];exact zy
 have d0:w2.cell? ⟨b,0,none⟩=some (.pointer (some ⟨b,0,none⟩)):=by rw[Lib.cell_of_heap fR];rfl
 have d1:w2.cell? ⟨b,1,none⟩=some v:=by rw[Lib.cell_of_heap fR];rfl
 have f1:w2.frozen? ⟨b,1,none⟩=false:=Lib.frozen_of_heap fR 1
 obtain⟨ao,n',cap,rfl⟩:∃ao n' cap,v'=.slice ao n' cap:=by
  rcases aa1.2 with⟨hv,_⟩|⟨g,cap,cur,hv,_⟩
  ·exact⟨_,_,_,hv⟩
  exact⟨_,_,_,hv⟩
 go_wp2
 go_ret2
 have fG:=Lib.ownBlock_ne aa1 fR (by decide);refine⟨rfl,.slice ao n' cap,by simp[World.setCell,zzdn,fR],?_,fG,?_,fun k hk hkb Si=>?_⟩
 ·have:=aa1.kept (w':=w2.setCell ⟨b,1,none⟩ (.slice ao n' cap)) (row:=some b) ⟨rfl,rfl,rfl,by simp[World.setCell],fun k _ hk=>Below.heap_setCell _ _ _ _ (fun e=>hk (by simp[e]))⟩ (Or.inr fG);simpa[Lib.strCells_length]using this
 ·exact(dx.grown H7 zE (fun k hk=>(ct.lt k hk).1)).setCell (p:=⟨b,1,none⟩) hBb _
 exact(Below.heap_setCell _ _ _ _ hkb).trans ((H7.block k zE (fun e=>Si e.symm)).trans (V2 k hkb))
open Go Go.RowKit Go.Lib
def Bld(B b:Nat)(bs:List Value)(v:Value)(w:World):Prop:=∃p,(p=.pointer none\/p=.pointer (some ⟨b,0,none⟩))/\B<=b/\w.heap[b]?=some (.cells #[p,v] 142 (0,0))/\w.ownsRow B 5 1 v bs.length bs/\v.ownBlock≠some b
def BL(B b:Nat)(bs:List Value)(v:Value)(n:Int)(s:ByteArray)(w:World)(h:Bld B b bs v w)(hB:B<=w.heap.size)(aH:bs.length+s.size<=1000000)
  (h37:∀w:World,Calls Tryz.prog 69 #[.int .i64 n] w fun e w'=>e=.returned (.tuple #[.string s,.int .i64 0])/\Below w.heap.size w w'):
  Calls Tryz.prog 68 #[.int .i64 n,.pointer (some ⟨b,0,none⟩)] w fun e w'=>e=.returned (.tuple #[])/\∃v',Bld B b (bs++Lib.strCells s) v' w'/\Below B w w'/\aa0 b v w w':=by
 have mixed:Tryz.prog.follows Departure.mixedOrders=true:=by kernel_rfl
 have e37:∀args w,(callFunc 69 args).run Tryz.prog w=.ok (.enter 69 args) w:=enters_of Tryz.func69 (by kernel_rfl) rfl;have e38:∀args w,(callFunc 70 args).run Tryz.prog w=.ok (.enter 70 args) w:=enters_of Tryz.func70 (by kernel_rfl) rfl;obtain⟨p,hp,hBb,zy,ct,aO⟩:=h
 go_enter Tryz.func68,Tryz.ntmps68
 go_wp2_with (go_at_fn 69;refine(h37 _).mono ?_)
 rintro e w1 ⟨rfl,dx⟩
 have ai:b<w.heap.size:=by
  rcases zzaa b w.heap.size with h'|h'
  ·exact h'
  simp[zzbo h']at zy
 have ayJ:w1.heap[b]?=some (.cells #[p,v] 142 (0,0)):=by rw[dx.block b ai];exact zy
 have auw:w1.ownsRow B 5 1 v bs.length bs:=ct.kept (row:=none) ⟨dx.os,dx.tape,dx.output,dx.size,fun k hk _=>dx.block k hk⟩ (by cases h:v.ownBlock with|none=>exact .inl rfl|some k=>exact .inr zd)
 go_wp2_with (go_at_fn 70;refine(H6 B b bs s p v w1 hp hBb ayJ auw aO aH (by have:=dx.size;omega)).mono ?_)
 rintro e w2 ⟨rfl,v',g1,g2,g3,g4,g5⟩
 go_wp2
 go_end0
 refine⟨rfl,v',⟨_,.inr rfl,hBb,g1,g2,g3⟩,?_,fun k hk hkb Si=>?_⟩
 ·exact Below.trans ⟨dx.os,dx.tape,dx.output,dx.size,fun k hk=>dx.block k zE⟩ g4
 exact(g5 k (zzba hk dx.size) hkb Si).trans (dx.block k hk)
open Go Go.RowKit Go.Lib
def R4(ob:Nat)(arr:Array Value)(w:World)(hb:w.heap[ob]?=some (.cells arr 53 (0,0)))(h3:arr[3]?=some (.int .i64 1))(hs:26<=arr.size):
  Calls Tryz.prog 71 #[.pointer (some ⟨ob,0,none⟩)] w fun e w'=>e=.returned (.slice (some ⟨w.heap.size,0,none⟩) 2 2)/\w'.heap[w.heap.size]?=some (.cells #[.pointer (some ⟨ob,4,none⟩),.pointer (some ⟨ob,5,none⟩)] 152 (0,0))/\Below w.heap.size w w':=by
 have mixed:Tryz.prog.follows Departure.mixedOrders=true:=by kernel_rfl
 have c3:w.cell? ⟨ob,3,none⟩=some (.int .i64 1):=by rw[Lib.cell_of_heap hb];exact h3
 go_enter Tryz.func71,Tryz.ntmps71
 go_wp2
 go_region_o
 go_wp2
 go_ret
 exact⟨rfl,heap_alloc_new w _,((Below.refl _ w).alloc (zzab _) _).drew⟩
def aa2(B b:Nat)(l:List UInt8)(v:Value)(w:World)(h:Bld B b (Lib.byteCells l) v w)(h0:l≠[]):
  Calls Tryz.prog 73 #[.pointer (some ⟨b,0,none⟩)] w fun e w'=>e=.returned (.string ⟨l.toArray⟩)/\Below B w w':=by
 have mixed:Tryz.prog.follows Departure.mixedOrders=true:=by kernel_rfl
 obtain⟨p,hp,hBb,zy,ct,aO⟩:=h;have qs:l.length≠0:=by simpa using h0
 rw[Lib.byteCells_length]at ct
 obtain⟨g,cap,cur,rfl,hbg,hg,hnc,hcm,fq,ay2⟩:∃g cap cur,v=.slice (some ⟨g,0,none⟩) l.length cap/\B<=g/\w.heap[g]?=some (.cells cur 5 (0,0))/\l.length<=cap/\cap<=maxLen/\cur.size=cap*1/\cur.toList.take (l.length*1)=Lib.byteCells l:=by
  rcases ct.2 with⟨_,hz⟩|⟨g,cap,cur,hv,r⟩
  ·exact absurd hz qs
  exact⟨g,cap,cur,hv,r⟩
 have c1:w.drew.cell? ⟨b,1,none⟩=some (.slice (some ⟨g,0,none⟩) l.length cap):=by
  have:w.drew.heap[b]?=some (.cells #[p,.slice (some ⟨g,0,none⟩) l.length cap] 142 (0,0)):=zy;rw[Lib.cell_of_heap this];rfl
 have hSD:(Builtin.unsafeSliceData_ #[140] 214 #[.slice (some ⟨g,0,none⟩) l.length cap]).run Tryz.prog w.drew=.ok (.pointer (some ⟨g,0,none⟩)) w.drew:=
  Lib.run_unsafeSliceData_row _ _ _ _ _ _ zE
 have hUS:(Builtin.unsafeString_ #[214,3] 9 #[.pointer (some ⟨g,0,none⟩),.int .i64 l.length]).run Tryz.prog w.drew=.ok (.string ⟨l.toArray⟩) (w.drew.freeze ⟨g,0,none⟩ l.length):=by
  refine Lib.run_unsafeString_row w.drew 214 3 9 5 Tryz.underlying214 (by kernel_rfl) g cur.size (by have hg':w.drew.heap[g]?=some (.cells cur 5 (0,0)):=hg;simp[World.shape?,hg']) l h0 zE (by unfold maxLen at hcm;omega) ?_;intro j x hx;have:=ct.cells (g:=g) rfl j (.int .u8 x.toNat) (by simp[Lib.byteCells,hx]);exact this
 go_enter Tryz.func73,Tryz.ntmps73
 go_wp2
 go_region_o
 all_goals(go_wp2;go_ret;exact⟨rfl,Lib.below_freeze (Below.drew (Below.refl B w)) (p:=⟨g,0,none⟩) hbg _⟩)
open Go Go.RowKit Go.Lib
def s1(b:UInt8):ByteArray:=⟨#[b]⟩
def anM:Code->Code
 |.seq _ b=>b
 |c=>c
def Kept(b:Nat)(w w':World):Prop:=∀k o ty l,k≠b->ty≠5->w.heap[k]?=some (.cells o ty l)->w'.heap[k]?=some (.cells o ty l)
def Bld.kept{B b:Nat}{bs:List Value}{v:Value}{w w':World}(h:Bld B b bs v w)(hs:aa0 b v w w'):Kept b w w':=by
 intro k o ty l hk ht hb;obtain⟨p,hp,hBb,zy,ct,aO⟩:=h
 have ai:k<w.heap.size:=by
  rcases zzaa k w.heap.size with h'|h'
  ·exact h'
  simp[zzbo h']at hb
 rw[hs k ai hk (Lib.ownBlock_ne ct hb ht)];exact hb
def R5(w:World)(o1 o2:Obj):((w.alloc o1).alloc o2).heap.size=w.heap.size+2/\((w.alloc o1).alloc o2).heap[w.heap.size]?=some o1/\((w.alloc o1).alloc o2).heap[w.heap.size+1]?=some o2/\Below w.heap.size w ((w.alloc o1).alloc o2):=by
 have h1:∀(w:World)(o:Obj),(w.alloc o).heap=w.heap.push o:=fun _ _=>rfl;refine⟨by rw[h1,h1];simp,by rw[h1,h1];simp[Array.getElem?_push],by rw[h1,h1,show w.heap.size+1=(w.heap.push o1).size by simp,zzei],((Below.refl _ w).alloc (zzab _) _).alloc (by rw[h1];simp) _⟩
def OW{w:World}{k:Nat}{o:Obj}(h:w.heap[k]?=some o):k<w.heap.size:=by
 rcases zzaa k w.heap.size with h'|h'
 ·exact h'
 simp[zzbo h']at h
def Bld.mono{B b:Nat}{bs:List Value}{v:Value}{w w':World}(h:Bld B b bs v w)(hb:Below w.heap.size w w'):Bld B b bs v w':=by
 obtain⟨p,hp,hBb,zy,ct,aO⟩:=h;refine⟨p,hp,hBb,by rw[hb.block b (OW zy)];exact zy,?_,aO⟩;exact ct.kept (row:=none) ⟨hb.os,hb.tape,hb.output,hb.size,fun k hk _=>hb.block k hk⟩ (by cases h:v.ownBlock with|none=>exact .inl rfl|some k=>exact .inr zd)
def Bld.lt{B b:Nat}{bs:List Value}{v:Value}{w:World}(h:Bld B b bs v w):b<w.heap.size:=by
 obtain⟨p,hp,hBb,zy,ct,aO⟩:=h;exact OW zy
def Mk:Code:=anM (anM (Tryz.f32.body.getD .skip))
def R6(Q:(Exit->Act->World->Prop))(ob:Nat)(arr:Array Value)(x0 x13 x14 x15 x16:Value)(n0 n1 n2 n4 n5:Int)(b0 b1 b2 b3 b4 b5:UInt8)(w:World)(hsz:arr.size=26)
  (a0:arr[0]?=some (.int .i64 n0))(a1:arr[1]?=some (.int .i64 n1))(a2:arr[2]?=some (.int .i64 n2))(a3:arr[3]?=some (.int .i64 1))(a4:arr[4]?=some (.int .i64 n4))(a5:arr[5]?=some (.int .i64 n5))
  (hob:w.heap[ob]?=some (.cells arr 53 (0,0)))
  (p0:∀w:World,Calls Tryz.prog 69 #[.int .i64 n0] w fun e w'=>e=.returned (.tuple #[.string (s1 b0),.int .i64 0])/\Below w.heap.size w w')
  (p1:∀w:World,Calls Tryz.prog 69 #[.int .i64 n1] w fun e w'=>e=.returned (.tuple #[.string (s1 b1),.int .i64 0])/\Below w.heap.size w w')
  (p2:∀w:World,Calls Tryz.prog 69 #[.int .i64 n2] w fun e w'=>e=.returned (.tuple #[.string (s1 b2),.int .i64 0])/\Below w.heap.size w w')
  (p3:∀w:World,Calls Tryz.prog 69 #[.int .i64 1] w fun e w'=>e=.returned (.tuple #[.string (s1 b3),.int .i64 0])/\Below w.heap.size w w')
  (p4:∀w:World,Calls Tryz.prog 69 #[.int .i64 n4] w fun e w'=>e=.returned (.tuple #[.string (s1 b4),.int .i64 0])/\Below w.heap.size w w')
  (p5:∀w:World,Calls Tryz.prog 69 #[.int .i64 n5] w fun e w'=>e=.returned (.tuple #[.string (s1 b5),.int .i64 0])/\Below w.heap.size w w')
  (hQ:∀(tm:Array Value)w',tm.getD 2 undef=.string ⟨#[b0,b1,b2,b3,b4,b5]⟩->tm.getD 3 undef=.int .i64 0->Below w.heap.size w w'->Q .ret ⟨tm,[]⟩ w'):
  Code.wp Tryz.prog Mk Q ⟨#[x0,.pointer (some ⟨ob,0,none⟩),.string ⟨#[]⟩,.int .i64 0,undef,undef,undef,undef,undef,undef,undef,undef,undef,x13,x14,x15,x16,undef,undef,undef,undef,undef,undef,undef,undef,undef,undef,undef,undef,undef,undef,undef,undef,undef,undef,undef,undef,undef,undef,undef,undef,undef,undef,undef,undef,undef,undef,undef,undef,undef,undef,undef,undef,undef,undef,undef,undef,undef,undef,undef,undef,undef,undef,undef,undef,undef,undef,undef,undef,undef,undef,undef,undef,undef,undef,undef,undef,undef,undef,undef,undef,undef,undef,undef,undef,undef,undef],[]⟩ w:=by
 have mixed:Tryz.prog.follows Departure.mixedOrders=true:=by kernel_rfl
 have ai:ob<w.heap.size:=by
  rcases zzaa ob w.heap.size with h'|h'
  ·exact h'
  simp[zzbo h']at hob
 have e36:∀args w,(callFunc 68 args).run Tryz.prog w=.ok (.enter 68 args) w:=enters_of Tryz.func68 (by kernel_rfl) rfl;have e39:∀args w,(callFunc 71 args).run Tryz.prog w=.ok (.enter 71 args) w:=enters_of Tryz.func71 (by kernel_rfl) rfl;have e41:∀args w,(callFunc 73 args).run Tryz.prog w=.ok (.enter 73 args) w:=enters_of Tryz.func73 (by kernel_rfl) rfl;have c0:w.cell? ⟨ob,0,none⟩=some (.int .i64 n0):=by rw[Lib.cell_of_heap hob];exact a0
 have c1:w.cell? ⟨ob,1,none⟩=some (.int .i64 n1):=by rw[Lib.cell_of_heap hob];exact a1
 have c2:w.cell? ⟨ob,2,none⟩=some (.int .i64 n2):=by rw[Lib.cell_of_heap hob];exact a2
 have c3:w.cell? ⟨ob,3,none⟩=some (.int .i64 1):=by rw[Lib.cell_of_heap hob];exact a3
 dsimp only;simp only[Mk,anM,Tryz.f32,Option.getD]
 go_wp2
 obtain⟨hzW,zy,iB,wO⟩:=R5 w (Obj.cells #[Value.pointer none,Value.slice none 0 0] 142) (Obj.cells #[Value.int IntKind.i64 n0,Value.int IntKind.i64 n1,Value.int IntKind.i64 n2,Value.int IntKind.i64 1] 3);have gE:=(wO.block ob ai).trans hob;clear c0 c1 c2 c3 hob;generalize(w.alloc (Obj.cells #[Value.pointer none,Value.slice none 0 0] 142)).alloc (Obj.cells #[Value.int IntKind.i64 n0,Value.int IntKind.i64 n1,Value.int IntKind.i64 n2,Value.int IntKind.i64 1] 3)=W at*
 generalize w.heap.size=b at*
 have ei:Bld b b [] (.slice none 0 0) W:=⟨.pointer none,.inl rfl,zzab _,zy,World.ownsRow_nil _ _ _ _,by simp[Value.ownBlock]⟩;have z6:b<=W.heap.size:=zE
 have Fs:ob≠b:=zE
 have Sk:b+1≠b:=zE
 clear ai zy hzW;have d:W.cell? ⟨b+1,0,none⟩=some (.int .i64 n0):=by rw[Lib.cell_of_heap iB];rfl
 refine wp_loop_rounds 5 ?_;rw[rounds_succ]
 go_wp2_with (go_at_fn 68;refine(BL b b _ _ _ _ _ ei z6 (by simp[s1,Lib.strCells,ByteArray.size]) p0).mono ?_)
 rintro e W0 ⟨rfl,v',hbd',eP,dK⟩;have hk:=ei.kept dK;replace wO:=wO.trans eP;replace gE:=hk _ _ _ _ Fs (by decide) gE;replace iB:=hk _ _ _ _ Sk (by decide) iB;replace z6:b<=W0.heap.size:=zzbd z6 eP.size;replace ei:=hbd';clear hk d dK eP hbd';have d:W0.cell? ⟨b+1,1,none⟩=some (.int .i64 n1):=by rw[Lib.cell_of_heap iB];rfl
 go_wp2
 rw[rounds_succ]
 go_wp2_with (go_at_fn 68;refine(BL b b _ _ _ _ _ ei z6 (by simp[s1,Lib.strCells,ByteArray.size]) p1).mono ?_)
 rintro e W1 ⟨rfl,v',hbd',eP,dK⟩;have hk:=ei.kept dK;replace wO:=wO.trans eP;replace gE:=hk _ _ _ _ Fs (by decide) gE;replace iB:=hk _ _ _ _ Sk (by decide) iB;replace z6:b<=W1.heap.size:=zzbd z6 eP.size;replace ei:=hbd';clear hk d dK eP hbd';have d:W1.cell? ⟨b+1,2,none⟩=some (.int .i64 n2):=by rw[Lib.cell_of_heap iB];rfl
 go_wp2
 rw[rounds_succ]
 go_wp2_with (go_at_fn 68;refine(BL b b _ _ _ _ _ ei z6 (by simp[s1,Lib.strCells,ByteArray.size]) p2).mono ?_)
 rintro e W2 ⟨rfl,v',hbd',eP,dK⟩;have hk:=ei.kept dK;replace wO:=wO.trans eP;replace gE:=hk _ _ _ _ Fs (by decide) gE;replace iB:=hk _ _ _ _ Sk (by decide) iB;replace z6:b<=W2.heap.size:=zzbd z6 eP.size;replace ei:=hbd';clear hk d dK eP hbd';have d:W2.cell? ⟨b+1,3,none⟩=some (.int .i64 1):=by rw[Lib.cell_of_heap iB];rfl
 go_wp2
 rw[rounds_succ]
 go_wp2_with (go_at_fn 68;refine(BL b b _ _ _ _ _ ei z6 (by simp[s1,Lib.strCells,ByteArray.size]) p3).mono ?_)
 rintro e W3 ⟨rfl,v',hbd',eP,dK⟩;have hk:=ei.kept dK;replace wO:=wO.trans eP;replace gE:=hk _ _ _ _ Fs (by decide) gE;replace iB:=hk _ _ _ _ Sk (by decide) iB;replace z6:b<=W3.heap.size:=zzbd z6 eP.size;replace ei:=hbd';clear hk d dK eP hbd';have d:W3.cell? ⟨b+1,3,none⟩=some (.int .i64 1):=by rw[Lib.cell_of_heap iB];rfl
 go_wp2
 rw[rounds_succ]
 go_wp2_with (go_at_fn 71;refine(R4 ob arr _ gE a3 zE).mono ?_)
 rintro e Y ⟨rfl,hpt,hY⟩;have fO:=ei.lt;replace ei:=ei.mono hY;replace gE:=(hY.block _ (OW gE)).trans gE;replace wO:=wO.trans (hY.mono z6);replace z6:b<=Y.heap.size:=zzbd z6 hY.size;generalize hz:W3.heap.size=sp at*
 have Sk:sp≠b:=zE
 clear iB d;have d:Y.cell? ⟨sp,0,none⟩=some (.pointer (some ⟨ob,4,none⟩)):=by rw[Lib.cell_of_heap hpt];rfl
 have d1:Y.cell? ⟨ob,4,none⟩=some (.int .i64 n4):=by rw[Lib.cell_of_heap gE];exact a4
 go_wp2
 refine wp_loop_rounds 3 ?_;rw[rounds_succ]
 go_wp2_with (go_at_fn 68;refine(BL b b _ _ _ _ _ ei z6 (by simp[s1,Lib.strCells,ByteArray.size]) p4).mono ?_)
 rintro e Y0 ⟨rfl,v',hbd',eP,dK⟩;have hk:=ei.kept dK;replace wO:=wO.trans eP;replace gE:=hk _ _ _ _ Fs (by decide) gE;replace hpt:=hk _ _ _ _ Sk (by decide) hpt;replace z6:b<=Y0.heap.size:=zzbd z6 eP.size;replace ei:=hbd';clear hk d d1 dK eP hbd';have d:Y0.cell? ⟨sp,1,none⟩=some (.pointer (some ⟨ob,5,none⟩)):=by rw[Lib.cell_of_heap hpt];rfl
 have d1:Y0.cell? ⟨ob,5,none⟩=some (.int .i64 n5):=by rw[Lib.cell_of_heap gE];exact a5
 go_wp2
 rw[rounds_succ]
 go_wp2_with (go_at_fn 68;refine(BL b b _ _ _ _ _ ei z6 (by simp[s1,Lib.strCells,ByteArray.size]) p5).mono ?_)
 rintro e Y1 ⟨rfl,v',hbd',eP,dK⟩;have hk:=ei.kept dK;replace wO:=wO.trans eP;replace gE:=hk _ _ _ _ Fs (by decide) gE;replace hpt:=hk _ _ _ _ Sk (by decide) hpt;replace z6:b<=Y1.heap.size:=zzbd z6 eP.size;replace ei:=hbd';clear hk d d1 dK eP hbd';have d:Y1.cell? ⟨sp,1,none⟩=some (.pointer (some ⟨ob,5,none⟩)):=by rw[Lib.cell_of_heap hpt];rfl
 have d1:Y1.cell? ⟨ob,3,none⟩=some (.int .i64 1):=by rw[Lib.cell_of_heap gE];exact a3
 go_wp2
 rw[rounds_succ]
 go_wp2_with (go_at_fn 73;refine(aa2 b b [b0,b1,b2,b3,b4,b5] _ _ ei zd).mono ?_)
 rintro e Z ⟨rfl,hZ⟩
 go_wp2
 exact hQ _ _ rfl rfl (wO.trans hZ)
open Go Go.Abs
def agk:List (Nat×(SC×List aF×Nat))->Nat->Option (SC×List aF×Nat)
 |[],_=>none
 |(k,x)::r,f=>bif Nat.beq f k then some x else agk r f
def OX{P:Program}:∀{l:List (Nat×(SC×List aF×Nat))},(∀y∈l,cZ P y.1 y.2.1 y.2.2.1 y.2.2.2)->wK P (agk l)
 |[],_,f,sc,rs,n,h=>by cases h
 |(k,x)::r,hl,f,sc,rs,n,h=>by
  rw[agk]at h;cases hb:Nat.beq f k with
  |true=>
   rw[hb]at h;cases h;obtain rfl:=zzdp hb;exact hl (f,(sc,rs,n)) zd
  |false=>
   rw[hb]at h;exact OX (fun y hy=>hl y (by simp[hy])) f sc rs n h
def anN:WT:=agk [(22,(eS,eT,87)),(45,(abB,abC,9)),(46,(aj8,aj9,62)),(47,(qx,gU,75)),(48,(abD,fT,95)),(49,(tD,tE,51)),(69,(aph,api,40)),(71,(apj,apk,97)),(76,(aku,apl,94)),(96,(BP,BQ,54)),(97,(abO,abP,11)),(98,(akZ,ak0,15)),(99,(abQ,abR,10)),(100,(Em,rX,59)),(124,(agR,agS,4)),(128,(agT,agU,27)),(129,(agV,agW,27)),(158,(MY,Ey,20)),(159,(TQ,TR,4)),(180,(ahr,ahs,19)),(182,(TX,aht,68)),(183,(ahu,ahv,43)),(211,(Nh,T8,33))]
def Qce:wK Tryz.prog anN:=OX fun y hy=>by
 simp only[zzap,zzdl,or_false]at hy;obtain rfl|rfl|rfl|rfl|rfl|rfl|rfl|rfl|rfl|rfl|rfl|rfl|rfl|rfl|rfl|rfl|rfl|rfl|rfl|rfl|rfl|rfl|rfl:=hy
 ·exact SQ
 ·exact SZ
 ·exact S0
 ·exact S1
 ·exact S2
 ·exact S3
 ·exact aks
 ·exact akt
 ·exact akv
 ·exact Tp
 ·exact Tq
 ·exact Tr
 ·exact Ts
 ·exact MG
 ·exact ab9
 ·exact acd
 ·exact ace
 ·exact MZ
 ·exact M0
 ·exact acW
 ·exact acX
 ·exact acY
 exact Ni
open Go Go.Abs
def lvE:FuncId->Nat:=fun k=>if k=143 then 0 else 1
def glE(g:Nat):AV:=.junk
def ayK:Pure Tryz.prog glE 69 [.int .i64 10] (.aS [.str ⟨#[20]⟩,.int .i64 0]):=Qdd Qce lvE 300 4 (by kernel_rfl) rfl
open Go Go.RowKit Go.Lib
def auy{P:Program}{ops:Array Oper}{rest:List Oper}{o:Oper}{a:Act}{w:World}{Q:PP}(hg:o.guard=none)(t:TypeId)(x:Operand)(ho:o.op=.box t x)(cells:P1)(hx:(a.eval x).cells=cells)
  (h:wpList P ops Q rest (a.put o.dst (.pointer (some ⟨w.heap.size,0,none⟩))) (w.alloc (.cells cells t))):wpList P ops Q (o::rest) a w:=by
 subst hx;refine wpList_plain hg fun K hK=>?_;unfold Oper.wp execOp;simp only[ho,Sem.run_bind,Instr.box,newVar,newRow,run_newObj_alloc,Sem.run_pure,Result.andThen_ok];exact hK _ _ h
def aa3(arr:P1)(n0 n1 n2 n4 n5:Int)(b0 b1 b2 b3 b4 b5:UInt8)(w:World)(hsz:arr.size=26)
  (a0:arr[0]?=some (.int .i64 n0))(a1:arr[1]?=some (.int .i64 n1))(a2:arr[2]?=some (.int .i64 n2))(a3:arr[3]?=some (.int .i64 1))(a4:arr[4]?=some (.int .i64 n4))(a5:arr[5]?=some (.int .i64 n5))
  (h9:∀w:World,Calls Tryz.prog 22 #[.agg arr] w fun e w'=>e=.returned (.bool true)/\Below w.heap.size w w')
  (p0:∀w:World,Calls Tryz.prog 69 #[.int .i64 n0] w fun e w'=>e=.returned (.tuple #[.string (s1 b0),.int .i64 0])/\Below w.heap.size w w')
  (p1:∀w:World,Calls Tryz.prog 69 #[.int .i64 n1] w fun e w'=>e=.returned (.tuple #[.string (s1 b1),.int .i64 0])/\Below w.heap.size w w')
  (p2:∀w:World,Calls Tryz.prog 69 #[.int .i64 n2] w fun e w'=>e=.returned (.tuple #[.string (s1 b2),.int .i64 0])/\Below w.heap.size w w')
  (p3:∀w:World,Calls Tryz.prog 69 #[.int .i64 1] w fun e w'=>e=.returned (.tuple #[.string (s1 b3),.int .i64 0])/\Below w.heap.size w w')
  (p4:∀w:World,Calls Tryz.prog 69 #[.int .i64 n4] w fun e w'=>e=.returned (.tuple #[.string (s1 b4),.int .i64 0])/\Below w.heap.size w w')
  (p5:∀w:World,Calls Tryz.prog 69 #[.int .i64 n5] w fun e w'=>e=.returned (.tuple #[.string (s1 b5),.int .i64 0])/\Below w.heap.size w w'):
  Calls Tryz.prog 32 #[.agg arr] w fun e w'=>e=.returned (.tuple #[.string ⟨#[b0,b1,b2,b3,b4,b5]⟩,.int .i64 0])/\Below w.heap.size w w':=by
 have mixed:Tryz.prog.follows Departure.mixedOrders=true:=by kernel_rfl
 have e9:∀args w,(callFunc 22 args).run Tryz.prog w=.ok (.enter 22 args) w:=enters_of Tryz.func22 (by kernel_rfl) rfl;obtain⟨d,hd,hd2⟩:∃d,Tryz.prog.underlying 53=some d/\(match d with|.struct _|.array _ _=>true|_=>false)=true:=⟨_,Tryz.underlying53,rfl⟩;have hi:(Tryz.prog.info? 53).map (·.size)=some arr.size:=by rw[hsz];rfl
 have key:∀(Q:PP)(K2:Act->World->Prop)(w1:World)(x13 x14 x15 x16:Value),w1.heap[w.heap.size]?=some (.cells arr 53 (0,0))->Below w.heap.size w w1->(∀a w,Code.wp Tryz.prog Mk Q a w->K2 a w)->(∀(tm:P1)w',tm.getD 2 undef=.string ⟨#[b0,b1,b2,b3,b4,b5]⟩->tm.getD 3 undef=.int .i64 0->Below w.heap.size w w'->Q .ret ⟨tm,[]⟩ w')->K2 ⟨#[.agg arr,.pointer (some ⟨w.heap.size,0,none⟩),.string ⟨#[]⟩,.int .i64 0,undef,undef,undef,undef,undef,undef,undef,undef,undef,x13,x14,x15,x16,undef,undef,undef,undef,undef,undef,undef,undef,undef,undef,undef,undef,undef,undef,undef,undef,undef,undef,undef,undef,undef,undef,undef,undef,undef,undef,undef,undef,undef,undef,undef,undef,undef,undef,undef,undef,undef,undef,undef,undef,undef,undef,undef,undef,undef,undef,undef,undef,undef,undef,undef,undef,undef,undef,undef,undef,undef,undef,undef,undef,undef,undef,undef,undef,undef,undef,undef,undef,undef,undef],[]⟩ w1:=
  fun Q K2 w1 x13 x14 x15 x16 hob hb hK hQ=>hK _ _ (R6 _ w.heap.size _ _ x13 x14 x15 x16 n0 n1 n2 n4 n5 b0 b1 b2 b3 b4 b5 w1 hsz a0 a1 a2 a3 a4 a5 hob p0 p1 p2 p3 p4 p5 (fun tm w' h2 h3 h=>hQ tm w' h2 h3 (hb.trans (h.mono hb.size))))
 go_enter Tryz.func32,Tryz.ntmps32
 refine wp_seq_k fun K1 VG=>?_;refine wp_region_lit ?_;refine auy rfl 53 (.tmp 0) rfl arr rfl ?_;have anO:(w.alloc (.cells arr 53)).heap[w.heap.size]?=some (.cells arr 53 (0,0)):=heap_alloc_new w _;have fO:Below w.heap.size w (w.alloc (.cells arr 53)):=(Below.refl _ w).alloc (zzab _) _;have amL:w.heap.size<=(w.alloc (.cells arr 53)).heap.size:=fO.size;have auv:=OW anO;generalize w.alloc (.cells arr 53)=w0 at*
 go_wp2_with (first|refine wpList_load_row rfl 53 (.tmp 1) rfl w.heap.size rfl 53 arr (0,0) _ anO Tryz.underlying53 rfl hi ?_|(go_at_fn 22;refine(h9 _).mono ?_))
 rintro e w1 rfl dx;rename_i Q K2 a2 K1 a1 K0 a0;have ayL:=fun x13 x14 x15 x16=>key _ K2 w1 x13 x14 x15 x16 ((dx.block _ auv).trans anO) (fO.trans (dx.mono amL)) a2 (fun tm w' h2 h3 hb=>bodyPost_ret (results_tmp2 rfl _ _ _) rfl (by rw[h2,h3];exact⟨rfl,hb⟩));clear a2 h9 p0 p1 p2 p3 p4 p5 key
 go_wp2
 exact ayL _ _ _ _
open Go Go.RowKit Go.Extern.Stop Go.Stop Go.Extern
def Ml(p q:Addr)(w:World):
  CallsD Tryz.prog 74 #[.pointer (some p),.pointer (some q)] .returning w fun e u' w'=>e=.returned (.tuple #[])/\u'=.returning/\w'=w:=by
 refine callsD_of_wpS Tryz.func74 rfl fun c₀ cs hu=>?_;apply wpS_seq;apply wpS_region;simp[wpOpsS,go_sem,recoverD,hu,Tryz.ntmps74,Exit.thenS];apply wpS_seq;apply wpS_seq;apply wpS_region;simp[wpOpsS,go_sem,Exit.thenS];refine wpS_cond (t:=true) (by simp[Act.eval,Array.replicate]) ?_;simp only[if_true];refine wpS_of_wp (wp_ret ?_);cases c₀;simp_all[bodyPostS,results,Tryz.results74,Exit.thenS]
def tj(w:World)(o1 o2 o3:Obj):(((w.alloc o1).alloc o2).alloc o3).heap.size=w.heap.size+3/\(((w.alloc o1).alloc o2).alloc o3).heap[w.heap.size]?=some o1/\(((w.alloc o1).alloc o2).alloc o3).heap[w.heap.size+1]?=some o2/\(((w.alloc o1).alloc o2).alloc o3).heap[w.heap.size+1+1]?=some o3/\Below w.heap.size w (((w.alloc o1).alloc o2).alloc o3):=by
 have h1:∀(w:World)(o:Obj),(w.alloc o).heap=w.heap.push o:=fun _ _=>rfl;have e1:∀(h:Array Obj)(o:Obj)(k:Nat),k<h.size->(h.push o)[k]?=h[k]?:=fun h o k hk=>by rw[Array.getElem?_push,if_neg zE]
 refine⟨by rw[h1,h1,h1];simp,?_,?_,?_,(((Below.refl _ w).alloc (zzab _) _).alloc (by rw[h1];simp) _).alloc (by rw[h1,h1];simp;omega) _⟩
 ·rw[h1,h1,h1,e1 _ _ _ (by simp;omega),e1 _ _ _ zd,zzei]
 ·rw[h1,h1,h1,e1 _ _ _ zd,show w.heap.size+1=(w.heap.push o1).size by simp,zzei]
 rw[h1,h1,h1,show w.heap.size+1+1=((w.heap.push o1).push o2).size by simp,zzei]
def anP{w:World}{k:Nat}{o:Obj}(h:w.heap[k]?=some o):k<w.heap.size:=by
 rcases zzaa k w.heap.size with h'|h'
 ·exact h'
 simp[zzbo h']at h
def zO:P1:=#[.int .i64 0,.int .i64 0,.int .i64 0,.int .i64 0,.int .i64 0,.int .i64 0,.int .i64 0,.int .i64 0,.int .i64 0,.int .i64 0,.int .i64 0,.int .i64 0,.slice none 0 0,.int .i64 0,.int .i64 0,.int .i64 0,.int .i64 0,.int .i64 0,.int .i64 0,.int .i64 0,.int .i64 0,.int .i64 0,.int .i64 0,.int .i64 0,.int .i64 0,.string ⟨#[]⟩]
def aa4(arr:P1)(s:ByteArray)(hsz:arr.size=26)(Is:arr.all (·.oneCell')=true)(w:World)
  (hO:∀(w:World)(b:Nat),w.heap[b]?=some (.cells #[.string s,.int .i64 0] 159 (0,0))->Calls Tryz.prog 76 #[.pointer (some ⟨b,0,none⟩)] w fun e w'=>e=.returned (.agg arr)/\Below b w w')
  (h22:∀w:World,Calls Tryz.prog 22 #[.agg arr] w fun e w'=>e=.returned (.bool true)/\Below w.heap.size w w'):
  Calls Tryz.prog 33 #[.string s] w fun e w'=>e=.returned (.tuple #[.agg arr,.int .i64 0])/\Below w.heap.size w w':=by
 have hmf:∀(fn:Fn)(first cap:P1)(w:World),(Instr.makeFunc fn first cap).run Tryz.prog w=.ok (.func fn first cap) w:=fun _ _ _ _=>rfl;have e76:∀args w,(callFunc 76 args).run Tryz.prog w=.ok (.enter 76 args) w:=enters_of Tryz.func76 (by kernel_rfl) rfl;have e22:∀args w,(callFunc 22 args).run Tryz.prog w=.ok (.enter 22 args) w:=enters_of Tryz.func22 (by kernel_rfl) rfl;have hi:(Tryz.prog.info? 53).map (·.size)=some arr.size:=by rw[hsz];rfl
 go_enter_defers Tryz.func33,Tryz.ntmps33
 go_wp2_with (go_at_fn 76;refine(hO _ (w.heap.size+1+1) (tj _ _ _ _).2.2.2.1).mono ?_)
 rintro e w1 ⟨rfl,dx⟩;obtain⟨t1,t2,t3,t4,t5⟩:=tj w (.cells zO 53) (.cells #[.int .i64 0] 81) (.cells #[.string s,.int .i64 0] 159);have dY:=(dx.block w.heap.size zE).trans t2;have hbc:=(dx.block (w.heap.size+1) zE).trans t3;have wO:=t5.trans (dx.mono zE);have hs1:=zzba (Nat.lt_of_lt_of_eq (zzey (w.heap.size+2)) t1.symm) dx.size;clear dx t1 t2 t3 t4 t5;have bR:=setRow_heap (w1.alloc (.cells zO 53)) w1.heap.size zO arr 53 (0,0) (heap_alloc_new _ _);have A4:Below w1.heap.size w1 ((w1.alloc (.cells zO 53)).setRow w1.heap.size arr):=below_setRow ((Below.refl _ _).alloc (zzab _) _) (zzab _) arr
 go_wp2_with (first
  |refine wpList_store_row rfl 53 (.tmp 5) (.tmp 11) rfl w1.heap.size arr rfl rfl 53 zO (heap_alloc_new _ _) hi (by rw[hsz];rfl) Is ?_
  |refine wpList_load_row rfl 53 (.tmp 5) rfl w1.heap.size rfl 53 arr (0,0) _ bR Tryz.underlying53 rfl hi ?_
  |(go_at_fn 22;refine(h22 _).mono ?_))
 rintro e w2 ⟨rfl,fR⟩;have ai:=anP bR;have PV:=(fR.block _ ai).trans bR;have Su:=A4.trans (fR.mono (zzgt ai));have KO:=(Su.block w.heap.size zE).trans dY;have ayM:=(Su.block (w.heap.size+1) zE).trans hbc;have FM:=wO.trans (Su.mono zE);clear fR bR A4 dY hbc wO Su ai;have hc3:=(setRow_other w2 w.heap.size (w.heap.size+1) arr zE).trans ayM;have d:(w2.setRow w.heap.size arr).cell? ⟨w.heap.size+1,0,none⟩=some (.int .i64 0):=by rw[Lib.cell_of_heap hc3];rfl
 have fz:(w2.setRow w.heap.size arr).frozen? ⟨w.heap.size+1,0,none⟩=false:=Lib.frozen_of_heap hc3 0;have Ov:=setRow_heap w2 w.heap.size zO arr 53 (0,0) KO;have hB4:Below w.heap.size w (w2.setRow w.heap.size arr):=below_setRow FM (zzab _) arr
 go_wp2_with (first
  |refine wpList_load_row rfl 53 (.tmp 5) rfl w1.heap.size rfl 53 arr (0,0) _ PV Tryz.underlying53 rfl hi ?_
  |refine wpList_store_row rfl 53 (.tmp 2) (.tmp 16) rfl w.heap.size arr rfl rfl 53 zO KO hi (by rw[hsz];rfl) Is ?_)
 have hr5:=(Below.heap_setCell (w2.setRow w.heap.size arr) ⟨w.heap.size+1,0,none⟩ (.int .i64 0) w.heap.size zd).trans Ov;have hc5:=setRow_heap _ _ _ ((#[.int .i64 0]:P1).setIfInBounds 0 (.int .i64 0)) _ _ hc3;rw[<- setCell_eq_setRow _ _ _ _ _ _ _ hc3]at hc5;have hB5:=hB4.setCell (p:=⟨w.heap.size+1,0,none⟩) (Nat.le_succ _) (.int .i64 0);generalize(w2.setRow w.heap.size arr).setCell ⟨w.heap.size+1,0,none⟩ (.int .i64 0)=W at*
 have d5:W.cell? ⟨w.heap.size+1,0,none⟩=some (.int .i64 0):=by rw[Lib.cell_of_heap hc5];rfl
 have hl:=run_loadVar_row (P:=Tryz.prog) W w.heap.size 53 53 arr (0,0) _ hr5 Tryz.underlying53 rfl hi;refine leaves_cons (f:=74) (args:=#[.pointer (some ⟨w.heap.size,0,none⟩),.pointer (some ⟨w.heap.size+1,0,none⟩)]) zd (by simp[go_sem]) ?_;refine(Ml ⟨w.heap.size,0,none⟩ ⟨w.heap.size+1,0,none⟩ _).mono ?_;rintro e u' qG ⟨rfl,rfl,rfl⟩;have CN:(loadVar 81 ⟨w.heap.size+1,0,none⟩).run Tryz.prog qG=.ok (.int .i64 0) qG:=by simp[go_sem,d5]
 simp[Leaves,settle,results,Tryz.results33,asAddr,hl,CN,hB5]
open Go Go.Abs Go.RowKit
def auz(b:Nat)(w1:World):eN where
 p γ w:=Below b w1 w/\b<=w1.heap.size/\∀x,OI γ x->b<=x
 st γ w γ' w' h hc:=by
  obtain⟨h1,h2,h3⟩:=h;have hs:=h1.size;refine⟨h1.trans ⟨hc.os,hc.tape,hc.output,hc.size,fun k hk=>hc.same k zE fun ho=>?_⟩,h2,fun k hk=>?_⟩
  ·have:=h3 k ho;omega
  rcases hc.oi k hk with hk|hk
  ·exact h3 k hk
  omega
def R7{P:Program}{f:FuncId}{cells:P2}{K:So}(h:aB P (fun _=>.junk) Y0 f [.ptr 0 0] ⟨[cells],[],fun _=>.gone,0⟩ K)(w:World)(b:Nat)(arr:P1)(t:TypeId)
  (hb:w.heap[b]?=some (.cells arr t (0,0)))(hr:∀γ,cr w γ cells arr.toList)(h1:∀v∈arr.toList,v.oneCell'=true):
  Calls P f #[.pointer (some ⟨b,0,none⟩)] w fun e w'=>∃v γ' r m',e=.returned v/\Below b w w'/\aA w' γ' r v/\K r m':=by
 have ai:b<w.heap.size:=by
  rcases zzaa b w.heap.size with h|h
  ·exact h
  rw[zzbo h]at hb;cases hb
 let γ0:G:={G0 (fun _ _=>False)with β:=fun id=>if id=0 then some b else none}
 have hβ:∀id x,γ0.β id=some x->id=0/\x=b:=fun id x hx=>by
  by_cases hi:id=0
  ·refine⟨hi,?_⟩;have:γ0.β id=some b:=if_pos hi;rw[this]at hx;exact(Option.some.inj hx).symm
  have:γ0.β id=none:=if_neg hi;rw[this]at hx;cases hx
 have hm:au b (auz b w) (fun _ _=>False) γ0 w (⟨[cells],[],fun _=>.gone,0⟩:AM).B (⟨[cells],[],fun _=>.gone,0⟩:AM).L:=by
  refine⟨⟨Below.refl _ _,zzgt ai,fun x hx=>?_⟩,zzgt ai,fun _ _ h=>h.elim,fun _ _ h=>h.elim,fun id cs x hB hx=>?_,fun id x hx=>?_,fun id id' x hx hy=>?_,fun id x h=>(by cases h),fun id id' x h=>(by cases h),fun x h=>h.elim,fun id x h=>(by cases h),fun id id' x h=>(by cases h),fun id n h=>by simp[AM.L]at h,fun _ _=>rfl⟩
  ·obtain⟨id,hx⟩|⟨_,hx⟩|hx|⟨_,hx⟩:=hx
   ·have:=(hβ id x hx).2;omega
   ·cases hx
   ·exact hx.elim
   cases hx
  ·obtain⟨rfl,rfl⟩:=hβ id x hx;have:cells=cs:=by simpa[AM.B]using hB
   subst this;exact⟨arr,t,hb,hr _,h1⟩
  ·obtain⟨rfl,rfl⟩:=hβ id x hx;exact⟨zzab _,ai,fun _ h=>h,fun id' h=>(by cases h),cells,by simp[AM.B]⟩
  exact .inr (.inr ((hβ id x hx).1.trans (hβ id' x hy).1.symm))
 have hv:ak w γ0 [.ptr 0 0] [.pointer (some ⟨b,0,none⟩)]:=⟨rfl,fun i a v ha hv=>by
  match i,ha,hv with
  |0,ha,hv=>cases ha;cases hv;exact .ptr rfl
  |i+1,ha,hv=>simp at ha⟩
 have me:cS γ0 w (⟨[cells],[],fun _=>.gone,0⟩:AM):=⟨fun _=>.inl rfl,fun _ _=>rfl,fun _ _ _ h=>(by cases h),fun _ _ h=>(by cases h)⟩;refine(callsIn_wide (n:=0)).1 ?_;refine CallsIn.mono (h.2 b (auz b w) _ γ0 w _ hm me (fun g=>.junk _) (fun _ _ _ _ _ _ _ _ _ _ _ hY _ _=>hY.elim) hv) ?_;rintro e w' ⟨v,γ',r,m',rfl,_,h2,_,h4,h5⟩;exact⟨v,γ',r,m',rfl,h2.bs.1,h4,h5⟩
def valOf:AV->Value
 |.int k n=>.int k n
 |.str s=>.string s
 |_=>.slice none 0 0
def oo:AV->Bool
 |.int _ _=>true
 |.str _=>true
 |.sl .nil []=>true
 |_=>false
def H8{w:World}{γ:G}{a:AV}{v:Value}(ha:oo a=true)(h:aA w γ a v):v=valOf a:=by
 cases h with
 |int k n=>rfl
 |str s=>rfl
 |sl b off sz cv hcap hnil hh hsz hc hr aX=>
  rename_i rt rows a cap;cases rt<;>cases rows<;>simp[oo]at ha;simp only[qE]at aX;subst aX;have:=hnil rfl;subst this;rfl
 |_=>simp[oo]at ha
def aa5{w:World}{γ:G}{cs:P2}{v:Value}(ha:cs.all oo=true)(h:aA w γ (.agg cs) v):v=.agg (cs.map valOf).toArray:=by
 cases h with
 |agg hl hc=>
  rename_i arr;congr 1;refine Array.ext (by simp[hl]) fun i h1 h2=>?_;have hi:i<cs.length:=zE
  have:=H8 (zzay.1 ha _ (zzdd hi)) (hc i cs[i] arr[i] (zzaf hi) (zzah h1));rw[this];simp
def lvO:FuncId->Nat:=fun k=>if k=999999 then 77 else if k=180 then 0 else if k=182 then 1 else 100
def oSL:P2:=[.int .i64 1,.int .i64 (-1),.int .i64 30,.int .i64 1,.int .i64 2,.int .i64 10,.int .i64 0,.int .i64 0,.int .i64 0,.int .i64 0,.int .i64 0,.int .i64 0,.sl .nil [],.int .i64 0,.int .i64 0,.int .i64 0,.int .i64 0,.int .i64 0,.int .i64 0,.int .i64 0,.int .i64 0,.int .i64 0,.int .i64 0,.int .i64 0,.int .i64 0,.str ⟨#[]⟩]
def oSV:P1:=#[.int .i64 1,.int .i64 (-1),.int .i64 30,.int .i64 1,.int .i64 2,.int .i64 10,.int .i64 0,.int .i64 0,.int .i64 0,.int .i64 0,.int .i64 0,.int .i64 0,.slice none 0 0,.int .i64 0,.int .i64 0,.int .i64 0,.int .i64 0,.int .i64 0,.int .i64 0,.int .i64 0,.int .i64 0,.int .i64 0,.int .i64 0,.int .i64 0,.int .i64 0,.string ⟨#[]⟩]
theorem Mm:(oSL.map valOf).toArray=oSV:=rfl
def H9:((CW Tryz.prog (fun _=>.junk) (Kx Tryz.prog (fun _=>.junk) anN lvO 300 4) anN 300).fn .nil 76 [.ptr 0 0] ⟨[[.str ⟨#[2,1,60,2,4,20]⟩,.int .i64 0]],[],fun _=>.gone,0⟩).map (·.1)=some (.agg oSL):=by kernel_rfl
def Ia:aB Tryz.prog (fun _=>.junk) Y0 76 [.ptr 0 0] ⟨[[.str ⟨#[2,1,60,2,4,20]⟩,.int .i64 0]],[],fun _=>.gone,0⟩ fun r _=>r=.agg oSL:=by
 have h:=H9;obtain⟨⟨r,m'⟩,hx,hr⟩:=zzcb.1 h;exact(NT (uy Qce lvO 300 4) Qce 300).2 .nil _ _ _ _ _ hx _ hr
def agl(w:World)(b:Nat)(t:TypeId)(hb:w.heap[b]?=some (.cells #[.string ⟨#[2,1,60,2,4,20]⟩,.int .i64 0] t (0,0))):
  Calls Tryz.prog 76 #[.pointer (some ⟨b,0,none⟩)] w fun e w'=>e=.returned (.agg oSV)/\Below b w w':=by
 refine Calls.mono (R7 Ia w b _ t hb (fun γ=>⟨zzab _,fun i a v ha hv=>?_⟩) (fun v hv=>?_)) ?_
 ·match i,ha,hv with
  |0,ha,hv=>cases ha;cases hv;exact .str _
  |1,ha,hv=>cases ha;cases hv;exact .int _ _
  |i+2,ha,hv=>simp at ha
 ·simp at hv;rcases hv with rfl|rfl<;>rfl
 rintro e w' ⟨v,γ',r,m',rfl,h1,h2,rfl⟩;have:=aa5 (by rfl) h2;rw[Mm]at this;exact⟨by rw[this],h1⟩
open Go Go.Abs
def Hz:P2:=[I 24000,I 1001,I 24,I 0,I 24,I 1,I 24,I 0,I 25,I 1,I 25,I 0,I 30000,I 1001,I 30,I 2,I 30,I 1,I 30,I 0,I 50,I 1,I 50,I 0,I 60000,I 1001,I 60,I 4,I 60,I 1,I 60,I 0]
def aD:Nat->AV
 |2=>.ep Hz 0
 |_=>.junk
def Za{α:Type}{l:List α}{i:Nat}{a:α}(h:l[i]?=some a):l.drop i=a::l.drop (i+1):=by
 obtain⟨h1,h2⟩:=zza.1 h;rw[zzag h1,h2]
structure Evt where
 id:Int
 it:Int
 st:Int
 fr:Int
 i:Int
 re:Int
 al:Option Int
def jQ:Pure Tryz.prog aD 64 [.sl .nil []] (.sl .nil []):=by
 refine Qp IX (fun _ _ _=>.junk) zd ?_;simp[abG,abH]
def nT(f:Int):Prop:= -1000000<=f/\f<=1000000
def wu(n:Int)(h:0<=n)(h':n<=2000000):IntKind.u64.wrap n=n:=by
 simp[IntKind.wrap,IntKind.bits,IntKind.signed];omega
def aja:AV:=.aS [.agg [I 0,I 0,I 0,I 0,I 0,I 0,.sl .nil []],I 0,.bool false]
open Go Go.Abs Go.RowKit
def anQ{w:World}{γ:G}:∀{a:AV},oo a=true->aA w γ a (valOf a)
 |.int k n,_=>.int k n
 |.str s,_=>.str s
 |.sl .nil [],_=>aA.sl 0 0 0 (fun _ _=>undef) (zzab _) (fun _=>rfl) (fun h=>(h rfl).elim) (fun r h=>by cases h) (fun i j c h=>by simp[Qv]at h) (fun i j c h=>by simp[Qv]at h) rfl
def aa6{w:World}{γ:G}{cs:P2}(h:cs.all oo=true):aA w γ (.agg cs) (.agg (cs.map valOf).toArray):=
 .agg zd fun i c v hc hv=>by
  have hp:=zzay.1 h c (zzad hc);have:(cs.map valOf)[i]?=some v:=by simpa using hv
  rw[zzbm,hc]at this;cases this;exact anQ hp
def anR{w:World}{γ:G}{cs:P2}{v:Value}(ha:cs.all oo=true)(h:aA w γ (.aS cs) v):v=.tuple (cs.map valOf).toArray:=by
 cases h with
 |aS hl hc=>
  rename_i arr;congr 1;refine Array.ext (by simp[hl]) fun i h1 h2=>?_;have hi:i<cs.length:=zE
  have:=H8 (zzay.1 ha _ (zzdd hi)) (hc i cs[i] arr[i] (zzaf hi) (zzah h1));rw[this];simp
def Qbi{n:Int}{b:UInt8}(h:Pure Tryz.prog glE 69 [.int .i64 n] (.aS [.str ⟨#[b]⟩,.int .i64 0]))(w:World):
  Calls Tryz.prog 69 #[.int .i64 n] w fun e w'=>e=.returned (.tuple #[.string (s1 b),.int .i64 0])/\Below w.heap.size w w':=by
 refine Calls.mono (h.2 (fun _ _=>False) w [.int .i64 n] (fun g=>.junk _) ⟨rfl,fun i a v ha hv=>?_⟩) ?_
 ·match i,ha,hv with
  |0,ha,hv=>cases ha;cases hv;exact .int _ _
  |i+1,ha,hv=>simp at ha
 rintro e w' ⟨v,rfl,h1,h2⟩;have:=anR (by rfl) h2;exact⟨by rw[this];rfl,h1⟩
def tq(w:World)(h:Pure Tryz.prog glE 22 [.agg oSL] (.bool true)):Calls Tryz.prog 22 #[.agg oSV] w fun e w'=>e=.returned (.bool true)/\Below w.heap.size w w':=by
 refine Calls.mono (h.2 (fun _ _=>False) w [.agg oSV] (fun g=>.junk _) ⟨rfl,fun i a v ha hv=>?_⟩) ?_
 ·match i,ha,hv with
  |0,ha,hv=>cases ha;cases hv;exact aa6 (by rfl)
  |i+1,ha,hv=>simp at ha
 rintro e w' ⟨v,rfl,h1,h2⟩;cases h2;exact⟨rfl,h1⟩
def lvV:FuncId->Nat:=fun k=>100
def ajx:Pure Tryz.prog glE 69 [.int .i64 1] (.aS [.str ⟨#[2]⟩,.int .i64 0]):=Qdd Qce lvE 300 4 (by kernel_rfl) rfl
def anS:Pure Tryz.prog glE 69 [.int .i64 (-1)] (.aS [.str ⟨#[1]⟩,.int .i64 0]):=Qdd Qce lvE 300 4 (by kernel_rfl) rfl
def anT:Pure Tryz.prog glE 69 [.int .i64 30] (.aS [.str ⟨#[60]⟩,.int .i64 0]):=Qdd Qce lvE 300 4 (by kernel_rfl) rfl
def auA:Pure Tryz.prog glE 69 [.int .i64 2] (.aS [.str ⟨#[4]⟩,.int .i64 0]):=Qdd Qce lvE 300 4 (by kernel_rfl) rfl
def aa7:Pure Tryz.prog glE 22 [.agg oSL] (.bool true):=Qdd Qce lvV 300 4 (by kernel_rfl) rfl
def ajy{gl:Nat->AV}{f:FuncId}{x r:AV}{v u:Value}(hc:bw Tryz.prog f)(hx:∀{w:World}{γ:G}{y:Value},aA w γ x y->y=v)(hr:∀(w:World)(γ:G),aA w γ r u)
  (h:∀w:World,Calls Tryz.prog f #[v] w fun e w'=>e=.returned u/\Below w.heap.size w w'):Pure Tryz.prog gl f [x] r:=by
 refine⟨hc,fun ro w vs _ hv=>?_⟩;obtain⟨hl,hc⟩:=hv
 match vs,hl with
 |[y],_=>
  have:=hx (hc 0 x y rfl rfl);subst this;refine Calls.mono (h w) ?_;rintro e w' ⟨rfl,h1⟩;exact⟨_,rfl,h1,hr _ _⟩
def aa8{w:World}{γ:G}{a b:AV}{x y:Value}(h1:aA w γ a x)(h2:aA w γ b y):aA w γ (.aS [a,b]) (.tuple #[x,y]):=
 .aS rfl fun i c v hc hv=>by
  match i,hc,hv with
  |0,hc,hv=>cases hc;cases hv;exact h1
  |1,hc,hv=>cases hc;cases hv;exact h2
  |i+2,hc,hv=>simp at hc
def HK{gl:Nat->AV}:Pure Tryz.prog gl 32 [.agg oSL] (.aS [.str ⟨#[2,1,60,2,4,20]⟩,.int .i64 0]):=by
 refine ajy (v:=.agg oSV) (u:=.tuple #[.string ⟨#[2,1,60,2,4,20]⟩,.int .i64 0]) ⟨_,Tryz.func32,rfl,rfl⟩ (fun h=>?_) (fun w γ=>aa8 (.str _) (.int _ _)) fun w=>?_
 ·have:=aa5 (by rfl) h;rw[Mm]at this;exact this
 exact aa3 oSV 1 (-1) 30 2 10 2 1 60 2 4 20 w rfl rfl rfl rfl rfl rfl rfl (fun w=>tq w aa7) (Qbi ajx) (Qbi anS) (Qbi anT) (Qbi ajx) (Qbi auA) (Qbi ayK)
def HL{gl:Nat->AV}:Pure Tryz.prog gl 33 [.str ⟨#[2,1,60,2,4,20]⟩] (.aS [.agg oSL,.int .i64 0]):=by
 refine ajy (v:=.string ⟨#[2,1,60,2,4,20]⟩) (u:=.tuple #[.agg oSV,.int .i64 0]) ⟨_,Tryz.func33,rfl,rfl⟩ (fun h=>?_) (fun w γ=>aa8 ?_ (.int _ _)) fun w=>?_
 ·cases h;rfl
 ·have:=aa6 (w:=w) (γ:=γ) (cs:=oSL) (by rfl);rw[Mm]at this;exact this
 exact aa4 oSV _ rfl (by kernel_rfl) w (fun w b hb=>agl w b _ hb) (fun w=>tq w aa7)
end
