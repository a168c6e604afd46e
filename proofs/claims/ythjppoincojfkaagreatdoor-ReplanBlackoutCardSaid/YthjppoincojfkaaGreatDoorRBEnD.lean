import Derived.Test.YthjppoincojfkaaGreatDoorProg
import Derived.Shelf.RegionOpenPlain
import Derived.Lib.Strings
import Derived.Lib.Slices
import Derived.Lib.Walk
import Derived.Lib.Builder
import Derived.Lib.UnsafeStr
import Derived.WalkKit
set_option linter.all false
set_option maxRecDepth 100000
set_option maxHeartbeats 64000000
namespace Go.Proofs.YthjppoincojfkaaGreatDoor
noncomputable section
open Go Go.RowKit Go.Lib
def vC(b:Nat)(w:World)(h0:w.cell? ⟨b,0,none⟩=some (.pointer (some ⟨b,0,none⟩))):
  Calls Tryz.prog 125 #[.pointer (some ⟨b,0,none⟩)] w fun e w'=>e=.returned (.tuple #[])/\w'=w:=by
 obtain⟨j,hj,fS⟩:∃j,Tryz.prog.info? 142=some j/\j.size=2:=⟨_,rfl,rfl⟩;have mixed:Tryz.prog.follows Departure.mixedOrders=true:=by kernel_rfl
 go_enter Tryz.func125,Tryz.ntmps125
 go_wp2
 rw[Lib.run_neq_ptr_same w _ Tryz.underlying139 hj]
 go_wp2
 go_end0
 exact⟨rfl,rfl⟩
def tF(b:Nat)(w:World)(h0:w.cell? ⟨b,0,none⟩=some (.pointer none))(fu:w.shape? b=some (142,2))(hfz:w.frozen? ⟨b,0,none⟩=false):
  Calls Tryz.prog 125 #[.pointer (some ⟨b,0,none⟩)] w fun e w'=>e=.returned (.tuple #[])/\w'=w.setCell ⟨b,0,none⟩ (.pointer (some ⟨b,0,none⟩)):=by
 obtain⟨j,hj,fS⟩:∃j,Tryz.prog.info? 142=some j/\j.size=2:=⟨_,rfl,rfl⟩;have awc:liesAt Tryz.prog Tryz.prog.depth 142 (2/Tryz.prog.cellsOf 142) 0 142 1=true:=by kernel_rfl
 have mixed:Tryz.prog.follows Departure.mixedOrders=true:=by kernel_rfl
 go_enter Tryz.func125,Tryz.ntmps125
 go_wp2
 rw[Lib.run_to_unsafe w ⟨b,0,none⟩ Tryz.underlying139 Tryz.underlying269 hj (by rw[fS];decide) fu (Nat.zero_lt_succ 1)];simp only[Result.andThen];rw[Oper.upon_value]
 go_wp2
 rw[run_callFunc_extern Tryz.func181 (by kernel_rfl) (by kernel_rfl) (by kernel_rfl) (e:=Extern.AbiNoEscape.same) (by kernel_rfl)];rw[Lib.run_noEscape];simp only[Result.andThen];rw[Oper.upon_value]
 go_wp2
 rw[Lib.run_from_unsafe w ⟨b,0,none⟩ Tryz.underlying269 Tryz.underlying139 hj fu awc];simp only[Result.andThen];rw[Oper.upon_value]
 go_wp2
 go_end0
 exact⟨rfl,rfl⟩
def UA(b:Nat)(v:Value)(w w':World):Prop:=∀k,k<w.heap.size->k≠b->v.ownBlock≠some k->w'.heap[k]?=w.heap[k]?
def Ey(B b:Nat)(bs:List Value)(s:ByteArray)(p v:Value)(w:World)(hp:p=.pointer none\/p=.pointer (some ⟨b,0,none⟩))(hBb:B<=b)(I1:w.heap[b]?=some (.cells #[p,v] 142 (0,0)))(ah3:w.ownsRow B 5 1 v bs.length bs)(lD:v.ownBlock≠some b)
  (aH:bs.length+s.size<=1000000)(hBw:B<=w.heap.size):
  Calls Tryz.prog 70 #[.pointer (some ⟨b,0,none⟩),.string s] w fun e w'=>e=.returned (.tuple #[.int .i64 s.size,.nilIface])/\
   ∃v',w'.heap[b]?=some (.cells #[.pointer (some ⟨b,0,none⟩),v'] 142 (0,0))/\w'.ownsRow B 5 1 v' (bs++Lib.strCells s).length (bs++Lib.strCells s)/\v'.ownBlock≠some b/\Below B w w'/\UA b v w w':=by
 obtain⟨i0,hi,hz0,hz1,hz2⟩:=info_parts (P:=Tryz.prog) (e:=5) (z:=.int .u8 0) (size:=1) (bytes:=1) (by rfl);have mixed:Tryz.prog.follows Departure.mixedOrders=true:=by kernel_rfl
 have aqD:b<w.heap.size:=by
  rcases Nat.lt_or_ge b w.heap.size with h'|h'
  ·exact h'
  simp[Array.getElem?_eq_none h']at I1
 have cC:Calls Tryz.prog 125 #[.pointer (some ⟨b,0,none⟩)] w fun e w'=>e=.returned (.tuple #[])/\w'.heap[b]?=some (.cells #[.pointer (some ⟨b,0,none⟩),v] 142 (0,0))/\w'.ownsRow B 5 1 v bs.length bs/\w'.heap.size=w.heap.size/\Below B w w'/\∀k,k≠b->w'.heap[k]?=w.heap[k]?:=by
  obtain rfl|rfl:=hp
  ·refine(tF b w (by rw[Lib.cell_of_heap I1];rfl) (by simp[World.shape?,I1]) (Lib.frozen_of_heap I1 0)).mono ?_;rintro e w' ⟨rfl,rfl⟩;refine⟨rfl,by simp[World.setCell,Array.getElem?_modify,I1],?_,by simp[World.setCell],(Below.refl B w).setCell (p:=⟨b,0,none⟩) hBb _,fun k hk=>Below.heap_setCell _ _ _ _ hk⟩;exact ah3.kept (row:=some b) ⟨rfl,rfl,rfl,by simp[World.setCell],fun k _ hk=>Below.heap_setCell _ _ _ _ (fun e=>hk (by simp[e]))⟩ (Or.inr lD)
  refine(vC b w (by rw[Lib.cell_of_heap I1];rfl)).mono ?_;rintro e w' ⟨rfl,rfl⟩;exact⟨rfl,I1,ah3,rfl,Below.refl B _,fun _ _=>rfl⟩
 have e94:∀args w,(callFunc 125 args).run Tryz.prog w=.ok (.enter 125 args) w:=enters_of Tryz.func125 (by kernel_rfl) rfl
 go_enter Tryz.func70,Tryz.ntmps70
 go_wp2_with (go_at_fn 125;refine cC.mono ?_)
 rintro e w1 ⟨rfl,zh,cr,hsz,dy,UB⟩;have c0:w1.cell? ⟨b,0,none⟩=some (.pointer (some ⟨b,0,none⟩)):=by rw[Lib.cell_of_heap zh];rfl
 have c1:w1.cell? ⟨b,1,none⟩=some v:=by rw[Lib.cell_of_heap zh];rfl
 go_wp2_with (at_builtin;refine Lib.wpList_append_own_string _ rfl _ _ 140 9 rfl B 5 i0 Tryz.underlying140 Tryz.underlying9 hi hz0 hz1 hz2 _ _ _ rfl cr s rfl ?c3 ?c4 ?c5 ?_)
 case c3=>unfold maxLen;omega
 case c4=>omega
 case c5=>rw[hsz];exact hBw
 intro v' w2 UC Ez _;have ai:b<w1.heap.size:=by omega
 have fT:w2.heap[b]?=some (.cells #[.pointer (some ⟨b,0,none⟩),v] 142 (0,0)):=by
  rw[Ez.block b ai (fun e=>lD e.symm)];exact zh
 have d0:w2.cell? ⟨b,0,none⟩=some (.pointer (some ⟨b,0,none⟩)):=by rw[Lib.cell_of_heap fT];rfl
 have d1:w2.cell? ⟨b,1,none⟩=some v:=by rw[Lib.cell_of_heap fT];rfl
 have f1:w2.frozen? ⟨b,1,none⟩=false:=Lib.frozen_of_heap fT 1
 obtain⟨ao,n',cap,rfl⟩:∃ao n' cap,v'=.slice ao n' cap:=by
  rcases UC.2 with⟨hv,_⟩|⟨g,cap,cur,hv,_⟩
  ·exact⟨_,_,_,hv⟩
  exact⟨_,_,_,hv⟩
 go_wp2
 go_ret2
 have fI:=Lib.ownBlock_ne UC fT (by decide);refine⟨rfl,.slice ao n' cap,by simp[World.setCell,Array.getElem?_modify,fT],?_,fI,?_,fun k hk hkb R8=>?_⟩
 ·have:=UC.kept (w':=w2.setCell ⟨b,1,none⟩ (.slice ao n' cap)) (row:=some b) ⟨rfl,rfl,rfl,by simp[World.setCell],fun k _ hk=>Below.heap_setCell _ _ _ _ (fun e=>hk (by simp[e]))⟩ (Or.inr fI);simpa[Lib.strCells_length]using this
 ·exact(dy.grown Ez (by omega) (fun k hk=>(cr.lt k hk).1)).setCell (p:=⟨b,1,none⟩) hBb _
 exact(Below.heap_setCell _ _ _ _ hkb).trans ((Ez.block k (by omega) (fun e=>R8 e.symm)).trans (UB k hkb))
open Go Go.RowKit Go.Lib
def UD(B b:Nat)(bs:List Value)(v:Value)(w:World):Prop:=∃p,(p=.pointer none\/p=.pointer (some ⟨b,0,none⟩))/\B<=b/\w.heap[b]?=some (.cells #[p,v] 142 (0,0))/\w.ownsRow B 5 1 v bs.length bs/\v.ownBlock≠some b
def Ap(B b:Nat)(bs:List Value)(v:Value)(n:Int)(s:ByteArray)(w:World)(h:UD B b bs v w)(hB:B<=w.heap.size)(aH:bs.length+s.size<=1000000)
  (h37:∀w:World,Calls Tryz.prog 69 #[.int .i64 n] w fun e w'=>e=.returned (.tuple #[.string s,.int .i64 0])/\Below w.heap.size w w'):
  Calls Tryz.prog 68 #[.int .i64 n,.pointer (some ⟨b,0,none⟩)] w fun e w'=>e=.returned (.tuple #[])/\∃v',UD B b (bs++Lib.strCells s) v' w'/\Below B w w'/\UA b v w w':=by
 have mixed:Tryz.prog.follows Departure.mixedOrders=true:=by kernel_rfl
 have e37:∀args w,(callFunc 69 args).run Tryz.prog w=.ok (.enter 69 args) w:=enters_of Tryz.func69 (by kernel_rfl) rfl;have e38:∀args w,(callFunc 70 args).run Tryz.prog w=.ok (.enter 70 args) w:=enters_of Tryz.func70 (by kernel_rfl) rfl;obtain⟨p,hp,hBb,zh,cr,aN⟩:=h
 go_enter Tryz.func68,Tryz.ntmps68
 go_wp2_with (go_at_fn 69;refine(h37 _).mono ?_)
 rintro e w1 ⟨rfl,dy⟩
 have ai:b<w.heap.size:=by
  rcases Nat.lt_or_ge b w.heap.size with h'|h'
  ·exact h'
  simp[Array.getElem?_eq_none h']at zh
 have awd:w1.heap[b]?=some (.cells #[p,v] 142 (0,0)):=by rw[dy.block b ai];exact zh
 have aqE:w1.ownsRow B 5 1 v bs.length bs:=cr.kept (row:=none) ⟨dy.os,dy.tape,dy.output,dy.size,fun k hk _=>dy.block k hk⟩ (by cases h:v.ownBlock with|none=>exact .inl rfl|some k=>exact .inr (by simp))
 go_wp2_with (go_at_fn 70;refine(Ey B b bs s p v w1 hp hBb awd aqE aN aH (by have:=dy.size;omega)).mono ?_)
 rintro e w2 ⟨rfl,v',g1,g2,g3,g4,g5⟩
 go_wp2
 go_end0
 refine⟨rfl,v',⟨_,.inr rfl,hBb,g1,g2,g3⟩,?_,fun k hk hkb R8=>?_⟩
 ·exact Below.trans ⟨dy.os,dy.tape,dy.output,dy.size,fun k hk=>dy.block k (by omega)⟩ g4
 exact(g5 k (Nat.lt_of_lt_of_le hk dy.size) hkb R8).trans (dy.block k hk)
open Go Go.RowKit Go.Lib
def O6(ob:Nat)(arr:Array Value)(w:World)(hb:w.heap[ob]?=some (.cells arr 53 (0,0)))(h3:arr[3]?=some (.int .i64 1))(hs:26<=arr.size):
  Calls Tryz.prog 71 #[.pointer (some ⟨ob,0,none⟩)] w fun e w'=>e=.returned (.slice (some ⟨w.heap.size,0,none⟩) 2 2)/\w'.heap[w.heap.size]?=some (.cells #[.pointer (some ⟨ob,4,none⟩),.pointer (some ⟨ob,5,none⟩)] 152 (0,0))/\Below w.heap.size w w':=by
 have mixed:Tryz.prog.follows Departure.mixedOrders=true:=by kernel_rfl
 have c3:w.cell? ⟨ob,3,none⟩=some (.int .i64 1):=by rw[Lib.cell_of_heap hb];exact h3
 go_enter Tryz.func71,Tryz.ntmps71
 go_wp2
 go_region_o
 go_wp2
 go_ret
 exact⟨rfl,heap_alloc_new w _,((Below.refl _ w).alloc (Nat.le_refl _) _).drew⟩
def UE(B b:Nat)(l:List UInt8)(v:Value)(w:World)(h:UD B b (Lib.byteCells l) v w)(h0:l≠[]):
  Calls Tryz.prog 73 #[.pointer (some ⟨b,0,none⟩)] w fun e w'=>e=.returned (.string ⟨l.toArray⟩)/\Below B w w':=by
 have mixed:Tryz.prog.follows Departure.mixedOrders=true:=by kernel_rfl
 obtain⟨p,hp,hBb,zh,cr,aN⟩:=h;have oy:l.length≠0:=by simpa using h0
 rw[Lib.byteCells_length]at cr
 obtain⟨g,cap,cur,rfl,hbg,hg,hnc,hcm,fA,ayv⟩:∃g cap cur,v=.slice (some ⟨g,0,none⟩) l.length cap/\B<=g/\w.heap[g]?=some (.cells cur 5 (0,0))/\l.length<=cap/\cap<=maxLen/\cur.size=cap*1/\cur.toList.take (l.length*1)=Lib.byteCells l:=by
  rcases cr.2 with⟨_,hz⟩|⟨g,cap,cur,hv,r⟩
  ·exact absurd hz oy
  exact⟨g,cap,cur,hv,r⟩
 have c1:w.drew.cell? ⟨b,1,none⟩=some (.slice (some ⟨g,0,none⟩) l.length cap):=by
  have:w.drew.heap[b]?=some (.cells #[p,.slice (some ⟨g,0,none⟩) l.length cap] 142 (0,0)):=zh;rw[Lib.cell_of_heap this];rfl
 have hSD:(Builtin.unsafeSliceData_ #[140] 214 #[.slice (some ⟨g,0,none⟩) l.length cap]).run Tryz.prog w.drew=.ok (.pointer (some ⟨g,0,none⟩)) w.drew:=
  Lib.run_unsafeSliceData_row _ _ _ _ _ _ (by omega)
 have hUS:(Builtin.unsafeString_ #[214,3] 9 #[.pointer (some ⟨g,0,none⟩),.int .i64 l.length]).run Tryz.prog w.drew=.ok (.string ⟨l.toArray⟩) (w.drew.freeze ⟨g,0,none⟩ l.length):=by
  refine Lib.run_unsafeString_row w.drew 214 3 9 5 Tryz.underlying214 (by kernel_rfl) g cur.size (by have hg':w.drew.heap[g]?=some (.cells cur 5 (0,0)):=hg;simp[World.shape?,hg']) l h0 (by omega) (by unfold maxLen at hcm;omega) ?_;intro j x hx;have:=cr.cells (g:=g) rfl j (.int .u8 x.toNat) (by simp[Lib.byteCells,hx]);exact this
 go_enter Tryz.func73,Tryz.ntmps73
 go_wp2
 go_region_o
 all_goals(go_wp2;go_ret;exact⟨rfl,Lib.below_freeze (Below.drew (Below.refl B w)) (p:=⟨g,0,none⟩) hbg _⟩)
open Go Go.RowKit Go.Lib
def s1(b:UInt8):ByteArray:=⟨#[b]⟩
def akF:Code->Code
 |.seq _ b=>b
 |c=>c
def Kept(b:Nat)(w w':World):Prop:=∀k o ty l,k≠b->ty≠5->w.heap[k]?=some (.cells o ty l)->w'.heap[k]?=some (.cells o ty l)
def UD.kept{B b:Nat}{bs:List Value}{v:Value}{w w':World}(h:UD B b bs v w)(hs:UA b v w w'):Kept b w w':=by
 intro k o ty l hk ht hb;obtain⟨p,hp,hBb,zh,cr,aN⟩:=h
 have ai:k<w.heap.size:=by
  rcases Nat.lt_or_ge k w.heap.size with h'|h'
  ·exact h'
  simp[Array.getElem?_eq_none h']at hb
 rw[hs k ai hk (Lib.ownBlock_ne cr hb ht)];exact hb
def O7(w:World)(o1 o2:Obj):((w.alloc o1).alloc o2).heap.size=w.heap.size+2/\((w.alloc o1).alloc o2).heap[w.heap.size]?=some o1/\((w.alloc o1).alloc o2).heap[w.heap.size+1]?=some o2/\Below w.heap.size w ((w.alloc o1).alloc o2):=by
 have h1:∀(w:World)(o:Obj),(w.alloc o).heap=w.heap.push o:=fun _ _=>rfl;refine⟨by rw[h1,h1];simp,by rw[h1,h1];simp[Array.getElem?_push],by rw[h1,h1,show w.heap.size+1=(w.heap.push o1).size by simp,Array.getElem?_push_size],((Below.refl _ w).alloc (Nat.le_refl _) _).alloc (by rw[h1];simp) _⟩
def Nd{w:World}{k:Nat}{o:Obj}(h:w.heap[k]?=some o):k<w.heap.size:=by
 rcases Nat.lt_or_ge k w.heap.size with h'|h'
 ·exact h'
 simp[Array.getElem?_eq_none h']at h
def UD.mono{B b:Nat}{bs:List Value}{v:Value}{w w':World}(h:UD B b bs v w)(hb:Below w.heap.size w w'):UD B b bs v w':=by
 obtain⟨p,hp,hBb,zh,cr,aN⟩:=h;refine⟨p,hp,hBb,by rw[hb.block b (Nd zh)];exact zh,?_,aN⟩;exact cr.kept (row:=none) ⟨hb.os,hb.tape,hb.output,hb.size,fun k hk _=>hb.block k hk⟩ (by cases h:v.ownBlock with|none=>exact .inl rfl|some k=>exact .inr (by simp))
def UD.lt{B b:Nat}{bs:List Value}{v:Value}{w:World}(h:UD B b bs v w):b<w.heap.size:=by
 obtain⟨p,hp,hBb,zh,cr,aN⟩:=h;exact Nd zh
def I2:Code:=akF (akF (Tryz.f32.body.getD .skip))
def O8(Q:Exit->Act->World->Prop)(ob:Nat)(arr:Array Value)(x0 x13 x14 x15 x16:Value)(n0 n1 n2 n4 n5:Int)(b0 b1 b2 b3 b4 b5:UInt8)(w:World)(hsz:arr.size=26)
  (a0:arr[0]?=some (.int .i64 n0))(a1:arr[1]?=some (.int .i64 n1))(a2:arr[2]?=some (.int .i64 n2))(a3:arr[3]?=some (.int .i64 1))(a4:arr[4]?=some (.int .i64 n4))(a5:arr[5]?=some (.int .i64 n5))
  (hob:w.heap[ob]?=some (.cells arr 53 (0,0)))
  (p0:∀w:World,Calls Tryz.prog 69 #[.int .i64 n0] w fun e w'=>e=.returned (.tuple #[.string (s1 b0),.int .i64 0])/\Below w.heap.size w w')
  (p1:∀w:World,Calls Tryz.prog 69 #[.int .i64 n1] w fun e w'=>e=.returned (.tuple #[.string (s1 b1),.int .i64 0])/\Below w.heap.size w w')
  (p2:∀w:World,Calls Tryz.prog 69 #[.int .i64 n2] w fun e w'=>e=.returned (.tuple #[.string (s1 b2),.int .i64 0])/\Below w.heap.size w w')
  (p3:∀w:World,Calls Tryz.prog 69 #[.int .i64 1] w fun e w'=>e=.returned (.tuple #[.string (s1 b3),.int .i64 0])/\Below w.heap.size w w')
  (p4:∀w:World,Calls Tryz.prog 69 #[.int .i64 n4] w fun e w'=>e=.returned (.tuple #[.string (s1 b4),.int .i64 0])/\Below w.heap.size w w')
  (p5:∀w:World,Calls Tryz.prog 69 #[.int .i64 n5] w fun e w'=>e=.returned (.tuple #[.string (s1 b5),.int .i64 0])/\Below w.heap.size w w')
  (hQ:∀(tm:Array Value)w',tm.getD 2 undef=.string ⟨#[b0,b1,b2,b3,b4,b5]⟩->tm.getD 3 undef=.int .i64 0->Below w.heap.size w w'->Q .ret ⟨tm,[]⟩ w'):
  Code.wp Tryz.prog I2 Q ⟨#[x0,.pointer (some ⟨ob,0,none⟩),.string ⟨#[]⟩,.int .i64 0,undef,undef,undef,undef,undef,undef,undef,undef,undef,x13,x14,x15,x16,undef,undef,undef,undef,undef,undef,undef,undef,undef,undef,undef,undef,undef,undef,undef,undef,undef,undef,undef,undef,undef,undef,undef,undef,undef,undef,undef,undef,undef,undef,undef,undef,undef,undef,undef,undef,undef,undef,undef,undef,undef,undef,undef,undef,undef,undef,undef,undef,undef,undef,undef,undef,undef,undef,undef,undef,undef,undef,undef,undef,undef,undef,undef,undef,undef,undef,undef,undef,undef,undef],[]⟩ w:=by
 have mixed:Tryz.prog.follows Departure.mixedOrders=true:=by kernel_rfl
 have ai:ob<w.heap.size:=by
  rcases Nat.lt_or_ge ob w.heap.size with h'|h'
  ·exact h'
  simp[Array.getElem?_eq_none h']at hob
 have e36:∀args w,(callFunc 68 args).run Tryz.prog w=.ok (.enter 68 args) w:=enters_of Tryz.func68 (by kernel_rfl) rfl;have e39:∀args w,(callFunc 71 args).run Tryz.prog w=.ok (.enter 71 args) w:=enters_of Tryz.func71 (by kernel_rfl) rfl;have e41:∀args w,(callFunc 73 args).run Tryz.prog w=.ok (.enter 73 args) w:=enters_of Tryz.func73 (by kernel_rfl) rfl;have c0:w.cell? ⟨ob,0,none⟩=some (.int .i64 n0):=by rw[Lib.cell_of_heap hob];exact a0
 have c1:w.cell? ⟨ob,1,none⟩=some (.int .i64 n1):=by rw[Lib.cell_of_heap hob];exact a1
 have c2:w.cell? ⟨ob,2,none⟩=some (.int .i64 n2):=by rw[Lib.cell_of_heap hob];exact a2
 have c3:w.cell? ⟨ob,3,none⟩=some (.int .i64 1):=by rw[Lib.cell_of_heap hob];exact a3
 dsimp only;simp only[I2,akF,Tryz.f32,Option.getD]
 go_wp2
 obtain⟨hzW,zh,iC,vD⟩:=O7 w (Obj.cells #[Value.pointer none,Value.slice none 0 0] 142) (Obj.cells #[Value.int IntKind.i64 n0,Value.int IntKind.i64 n1,Value.int IntKind.i64 n2,Value.int IntKind.i64 1] 3);have fZ:=(vD.block ob ai).trans hob;clear c0 c1 c2 c3 hob;generalize(w.alloc (Obj.cells #[Value.pointer none,Value.slice none 0 0] 142)).alloc (Obj.cells #[Value.int IntKind.i64 n0,Value.int IntKind.i64 n1,Value.int IntKind.i64 n2,Value.int IntKind.i64 1] 3)=W at*
 generalize w.heap.size=b at*
 have ei:UD b b [] (.slice none 0 0) W:=⟨.pointer none,.inl rfl,Nat.le_refl _,zh,World.ownsRow_nil _ _ _ _,by simp[Value.ownBlock]⟩;have zi:b<=W.heap.size:=by omega
 have Nf:ob≠b:=by omega
 have R9:b+1≠b:=by omega
 clear ai zh hzW;have d:W.cell? ⟨b+1,0,none⟩=some (.int .i64 n0):=by rw[Lib.cell_of_heap iC];rfl
 refine wp_loop_rounds 5 ?_;rw[rounds_succ]
 go_wp2_with (go_at_fn 68;refine(Ap b b _ _ _ _ _ ei zi (by simp[s1,Lib.strCells,ByteArray.size]) p0).mono ?_)
 rintro e W0 ⟨rfl,v',hbd',eP,dK⟩;have hk:=ei.kept dK;replace vD:=vD.trans eP;replace fZ:=hk _ _ _ _ Nf (by decide) fZ;replace iC:=hk _ _ _ _ R9 (by decide) iC;replace zi:b<=W0.heap.size:=Nat.le_trans zi eP.size;replace ei:=hbd';clear hk d dK eP hbd';have d:W0.cell? ⟨b+1,1,none⟩=some (.int .i64 n1):=by rw[Lib.cell_of_heap iC];rfl
 go_wp2
 rw[rounds_succ]
 go_wp2_with (go_at_fn 68;refine(Ap b b _ _ _ _ _ ei zi (by simp[s1,Lib.strCells,ByteArray.size]) p1).mono ?_)
 rintro e W1 ⟨rfl,v',hbd',eP,dK⟩;have hk:=ei.kept dK;replace vD:=vD.trans eP;replace fZ:=hk _ _ _ _ Nf (by decide) fZ;replace iC:=hk _ _ _ _ R9 (by decide) iC;replace zi:b<=W1.heap.size:=Nat.le_trans zi eP.size;replace ei:=hbd';clear hk d dK eP hbd';have d:W1.cell? ⟨b+1,2,none⟩=some (.int .i64 n2):=by rw[Lib.cell_of_heap iC];rfl
 go_wp2
 rw[rounds_succ]
 go_wp2_with (go_at_fn 68;refine(Ap b b _ _ _ _ _ ei zi (by simp[s1,Lib.strCells,ByteArray.size]) p2).mono ?_)
 rintro e W2 ⟨rfl,v',hbd',eP,dK⟩;have hk:=ei.kept dK;replace vD:=vD.trans eP;replace fZ:=hk _ _ _ _ Nf (by decide) fZ;replace iC:=hk _ _ _ _ R9 (by decide) iC;replace zi:b<=W2.heap.size:=Nat.le_trans zi eP.size;replace ei:=hbd';clear hk d dK eP hbd';have d:W2.cell? ⟨b+1,3,none⟩=some (.int .i64 1):=by rw[Lib.cell_of_heap iC];rfl
 go_wp2
 rw[rounds_succ]
 go_wp2_with (go_at_fn 68;refine(Ap b b _ _ _ _ _ ei zi (by simp[s1,Lib.strCells,ByteArray.size]) p3).mono ?_)
 rintro e W3 ⟨rfl,v',hbd',eP,dK⟩;have hk:=ei.kept dK;replace vD:=vD.trans eP;replace fZ:=hk _ _ _ _ Nf (by decide) fZ;replace iC:=hk _ _ _ _ R9 (by decide) iC;replace zi:b<=W3.heap.size:=Nat.le_trans zi eP.size;replace ei:=hbd';clear hk d dK eP hbd';have d:W3.cell? ⟨b+1,3,none⟩=some (.int .i64 1):=by rw[Lib.cell_of_heap iC];rfl
 go_wp2
 rw[rounds_succ]
 go_wp2_with (go_at_fn 71;refine(O6 ob arr _ fZ a3 (by omega)).mono ?_)
 rintro e Y ⟨rfl,hpt,hY⟩;have ek:=ei.lt;replace ei:=ei.mono hY;replace fZ:=(hY.block _ (Nd fZ)).trans fZ;replace vD:=vD.trans (hY.mono zi);replace zi:b<=Y.heap.size:=Nat.le_trans zi hY.size;generalize hz:W3.heap.size=sp at*
 have R9:sp≠b:=by omega
 clear iC d;have d:Y.cell? ⟨sp,0,none⟩=some (.pointer (some ⟨ob,4,none⟩)):=by rw[Lib.cell_of_heap hpt];rfl
 have d1:Y.cell? ⟨ob,4,none⟩=some (.int .i64 n4):=by rw[Lib.cell_of_heap fZ];exact a4
 go_wp2
 refine wp_loop_rounds 3 ?_;rw[rounds_succ]
 go_wp2_with (go_at_fn 68;refine(Ap b b _ _ _ _ _ ei zi (by simp[s1,Lib.strCells,ByteArray.size]) p4).mono ?_)
 rintro e Y0 ⟨rfl,v',hbd',eP,dK⟩;have hk:=ei.kept dK;replace vD:=vD.trans eP;replace fZ:=hk _ _ _ _ Nf (by decide) fZ;replace hpt:=hk _ _ _ _ R9 (by decide) hpt;replace zi:b<=Y0.heap.size:=Nat.le_trans zi eP.size;replace ei:=hbd';clear hk d d1 dK eP hbd';have d:Y0.cell? ⟨sp,1,none⟩=some (.pointer (some ⟨ob,5,none⟩)):=by rw[Lib.cell_of_heap hpt];rfl
 have d1:Y0.cell? ⟨ob,5,none⟩=some (.int .i64 n5):=by rw[Lib.cell_of_heap fZ];exact a5
 go_wp2
 rw[rounds_succ]
 go_wp2_with (go_at_fn 68;refine(Ap b b _ _ _ _ _ ei zi (by simp[s1,Lib.strCells,ByteArray.size]) p5).mono ?_)
 rintro e Y1 ⟨rfl,v',hbd',eP,dK⟩;have hk:=ei.kept dK;replace vD:=vD.trans eP;replace fZ:=hk _ _ _ _ Nf (by decide) fZ;replace hpt:=hk _ _ _ _ R9 (by decide) hpt;replace zi:b<=Y1.heap.size:=Nat.le_trans zi eP.size;replace ei:=hbd';clear hk d d1 dK eP hbd';have d:Y1.cell? ⟨sp,1,none⟩=some (.pointer (some ⟨ob,5,none⟩)):=by rw[Lib.cell_of_heap hpt];rfl
 have d1:Y1.cell? ⟨ob,3,none⟩=some (.int .i64 1):=by rw[Lib.cell_of_heap fZ];exact a3
 go_wp2
 rw[rounds_succ]
 go_wp2_with (go_at_fn 73;refine(UE b b [b0,b1,b2,b3,b4,b5] _ _ ei (by simp)).mono ?_)
 rintro e Z ⟨rfl,hZ⟩
 go_wp2
 exact hQ _ _ rfl rfl (vD.trans hZ)
end
end Go.Proofs.YthjppoincojfkaaGreatDoor
