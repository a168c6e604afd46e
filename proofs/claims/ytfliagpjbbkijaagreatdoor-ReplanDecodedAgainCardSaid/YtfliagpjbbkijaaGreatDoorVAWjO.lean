import Derived.Test.YtfliagpjbbkijaaGreatDoorVAMbN
set_option linter.all false
set_option maxRecDepth 100000
set_option maxHeartbeats 64000000
namespace Go.Proofs.YtfliagpjbbkijaaGreatDoor
noncomputable section
open Go Go.RowKit Go.Lib
def zb(b:Nat)(w:World)(h0:w.cell? ⟨b,0,none⟩=some (.pointer (some ⟨b,0,none⟩))):
  Calls Tryz.prog 66 #[.pointer (some ⟨b,0,none⟩)] w fun e w'=>e=.returned (.tuple #[])/\w'=w:=by
 obtain⟨j,hj,jc⟩:∃j,Tryz.prog.info? 73=some j/\j.size=2:=⟨_,rfl,rfl⟩;have mixed:Tryz.prog.follows Departure.mixedOrders=true:=by kernel_rfl
 go_enter Tryz.func66,Tryz.ntmps66
 go_wp2
 rw[Lib.run_neq_ptr_same w _ Tryz.underlying70 hj]
 go_wp2
 go_end0
 exact⟨rfl,rfl⟩
def ur(b:Nat)(w:World)(h0:w.cell? ⟨b,0,none⟩=some (.pointer none))(fP:w.shape? b=some (73,2))(hfz:w.frozen? ⟨b,0,none⟩=false):
  Calls Tryz.prog 66 #[.pointer (some ⟨b,0,none⟩)] w fun e w'=>e=.returned (.tuple #[])/\w'=w.setCell ⟨b,0,none⟩ (.pointer (some ⟨b,0,none⟩)):=by
 obtain⟨j,hj,jc⟩:∃j,Tryz.prog.info? 73=some j/\j.size=2:=⟨_,rfl,rfl⟩;have ayN:liesAt Tryz.prog Tryz.prog.depth 73 (2/Tryz.prog.cellsOf 73) 0 73 1=true:=by kernel_rfl
 have mixed:Tryz.prog.follows Departure.mixedOrders=true:=by kernel_rfl
 go_enter Tryz.func66,Tryz.ntmps66
 go_wp2
 rw[Lib.run_to_unsafe w ⟨b,0,none⟩ Tryz.underlying70 Tryz.underlying208 hj (by rw[jc];decide) fP (Nat.zero_lt_succ 1)];simp only[Result.andThen];rw[Oper.upon_value]
 go_wp2
 rw[run_callFunc_extern Tryz.func124 (by kernel_rfl) (by kernel_rfl) (by kernel_rfl) (e:=Extern.AbiNoEscape.same) (by kernel_rfl)];rw[Lib.run_noEscape];simp only[Result.andThen];rw[Oper.upon_value]
 go_wp2
 rw[Lib.run_from_unsafe w ⟨b,0,none⟩ Tryz.underlying208 Tryz.underlying70 hj fP ayN];simp only[Result.andThen];rw[Oper.upon_value]
 go_wp2
 go_end0
 exact⟨rfl,rfl⟩
def aj6(b:Nat)(v:Value)(w w':World):Prop:=∀k,k<w.heap.size->k≠b->v.ownBlock≠some k->w'.heap[k]?=w.heap[k]?
def tI(B b:Nat)(bs:List Value)(s:ByteArray)(p v:Value)(w:World)(hp:p=.pointer none\/p=.pointer (some ⟨b,0,none⟩))(SB:B<=b)(MG:w.heap[b]?=some (.cells #[p,v] 73 (0,0)))(aj7:w.ownsRow B 5 1 v bs.length bs)(lF:v.ownBlock≠some b)
  (aH:bs.length+s.size<=1000000)(hBw:B<=w.heap.size):
  Calls Tryz.prog 24 #[.pointer (some ⟨b,0,none⟩),.string s] w fun e w'=>e=.returned (.tuple #[.int .i64 s.size,.nilIface])/\
   ∃v',w'.heap[b]?=some (.cells #[.pointer (some ⟨b,0,none⟩),v'] 73 (0,0))/\w'.ownsRow B 5 1 v' (bs++Lib.strCells s).length (bs++Lib.strCells s)/\v'.ownBlock≠some b/\Below B w w'/\aj6 b v w w':=by
 obtain⟨i0,hi,U6,hz1,hz2⟩:=info_parts (P:=Tryz.prog) (e:=5) (z:=.int .u8 0) (size:=1) (bytes:=1) (by rfl);have mixed:Tryz.prog.follows Departure.mixedOrders=true:=by kernel_rfl
 have auD:b<w.heap.size:=by
  rcases zzab b w.heap.size with h'|h'
  ·exact h'
  simp[zzbt h']at MG
 have cC:Calls Tryz.prog 66 #[.pointer (some ⟨b,0,none⟩)] w fun e w'=>e=.returned (.tuple #[])/\w'.heap[b]?=some (.cells #[.pointer (some ⟨b,0,none⟩),v] 73 (0,0))/\w'.ownsRow B 5 1 v bs.length bs/\w'.heap.size=w.heap.size/\Below B w w'/\∀k,k≠b->w'.heap[k]?=w.heap[k]?:=by
  obtain rfl|rfl:=hp
  ·refine(ur b w (by rw[Lib.cell_of_heap MG];rfl) (by simp[World.shape?,MG]) (Lib.frozen_of_heap MG 0)).mono ?_;rintro e w' ⟨rfl,rfl⟩;refine⟨rfl,by simp[World.setCell,zzdp,MG],?_,by simp[World.setCell],(Below.refl B w).setCell (p:=⟨b,0,none⟩) SB _,fun k hk=>Below.heap_setCell _ _ _ _ hk⟩;exact aj7.kept (row:=some b) ⟨rfl,rfl,rfl,by simp[World.setCell],fun k _ hk=>Below.heap_setCell _ _ _ _ (fun e=>hk (by simp[e]))⟩ (Or.inr lF)
  refine(zb b w (by rw[Lib.cell_of_heap MG];rfl)).mono ?_;rintro e w' ⟨rfl,rfl⟩;exact⟨rfl,MG,aj7,rfl,Below.refl B _,fun _ _=>rfl⟩
 have e94:∀args w,(callFunc 66 args).run Tryz.prog w=.ok (.enter 66 args) w:=enters_of Tryz.func66 (by kernel_rfl) rfl
 go_enter Tryz.func24,Tryz.ntmps24
 go_wp2_with (go_at_fn 66;refine cC.mono ?_)
 rintro e w1 ⟨rfl,lJ,cq,hsz,di,FP⟩;have c0:w1.cell? ⟨b,0,none⟩=some (.pointer (some ⟨b,0,none⟩)):=by rw[Lib.cell_of_heap lJ];rfl
 have c1:w1.cell? ⟨b,1,none⟩=some v:=by rw[Lib.cell_of_heap lJ];rfl
 go_wp2_with (at_builtin;refine Lib.wpList_append_own_string _ rfl _ _ 71 9 rfl B 5 i0 Tryz.underlying71 Tryz.underlying9 hi U6 hz1 hz2 _ _ _ rfl cq s rfl ?c3 ?c4 ?c5 ?_)
 case c3=>unfold maxLen;omega
 case c4=>omega
 case c5=>rw[hsz];exact hBw
 intro v' w2 abb Im _;have aa:b<w1.heap.size:=zE
 have fO:w2.heap[b]?=some (.cells #[.pointer (some ⟨b,0,none⟩),v] 73 (0,0)):=by
  rw[Im.block b aa (fun e=>lF e.symm)];exact lJ
 have d0:w2.cell? ⟨b,0,none⟩=some (.pointer (some ⟨b,0,none⟩)):=by rw[Lib.cell_of_heap fO];rfl
 have d1:w2.cell? ⟨b,1,none⟩=some v:=by rw[Lib.cell_of_heap fO];rfl
 have f1:w2.frozen? ⟨b,1,none⟩=false:=Lib.frozen_of_heap fO 1
 obtain⟨ao,n',cap,rfl⟩:∃ao n' cap,v'=.slice ao n' cap:=by
  rcases abb.2 with⟨hv,_⟩|⟨g,cap,cur,hv,_⟩
  ·exact⟨_,_,_,hv⟩
  exact⟨_,_,_,hv⟩
 go_wp2
 go_ret2
 have fU:=Lib.ownBlock_ne abb fO (by decide);refine⟨rfl,.slice ao n' cap,by simp[World.setCell,zzdp,fO],?_,fU,?_,fun k hk hkb SQ=>?_⟩
 ·have:=abb.kept (w':=w2.setCell ⟨b,1,none⟩ (.slice ao n' cap)) (row:=some b) ⟨rfl,rfl,rfl,by simp[World.setCell],fun k _ hk=>Below.heap_setCell _ _ _ _ (fun e=>hk (by simp[e]))⟩ (Or.inr fU);simpa[Lib.strCells_length]using this
 ·exact(di.grown Im zE (fun k hk=>(cq.lt k hk).1)).setCell (p:=⟨b,1,none⟩) SB _
 exact(Below.heap_setCell _ _ _ _ hkb).trans ((Im.block k zE (fun e=>SQ e.symm)).trans (FP k hkb))
def Bld(B b:Nat)(bs:List Value)(v:Value)(w:World):Prop:=∃p,(p=.pointer none\/p=.pointer (some ⟨b,0,none⟩))/\B<=b/\w.heap[b]?=some (.cells #[p,v] 73 (0,0))/\w.ownsRow B 5 1 v bs.length bs/\v.ownBlock≠some b
def auE(B b:Nat)(bs:List Value)(v:Value)(n:Int)(s:ByteArray)(w:World)(h:Bld B b bs v w)(hB:B<=w.heap.size)(aH:bs.length+s.size<=1000000)
  (h37:∀w:World,Calls Tryz.prog 23 #[.int .i64 n] w fun e w'=>e=.returned (.tuple #[.string s,.int .i64 0])/\Below w.heap.size w w'):
  Calls Tryz.prog 22 #[.int .i64 n,.pointer (some ⟨b,0,none⟩)] w fun e w'=>e=.returned (.tuple #[])/\∃v',Bld B b (bs++Lib.strCells s) v' w'/\Below B w w'/\aj6 b v w w':=by
 have mixed:Tryz.prog.follows Departure.mixedOrders=true:=by kernel_rfl
 have e37:∀args w,(callFunc 23 args).run Tryz.prog w=.ok (.enter 23 args) w:=enters_of Tryz.func23 (by kernel_rfl) rfl;have e38:∀args w,(callFunc 24 args).run Tryz.prog w=.ok (.enter 24 args) w:=enters_of Tryz.func24 (by kernel_rfl) rfl;obtain⟨p,hp,SB,lJ,cq,aJ⟩:=h
 go_enter Tryz.func22,Tryz.ntmps22
 go_wp2_with (go_at_fn 23;refine(h37 _).mono ?_)
 rintro e w1 ⟨rfl,di⟩
 have aa:b<w.heap.size:=by
  rcases zzab b w.heap.size with h'|h'
  ·exact h'
  simp[zzbt h']at lJ
 have ayO:w1.heap[b]?=some (.cells #[p,v] 73 (0,0)):=by rw[di.block b aa];exact lJ
 have auF:w1.ownsRow B 5 1 v bs.length bs:=cq.kept (row:=none) ⟨di.os,di.tape,di.output,di.size,fun k hk _=>di.block k hk⟩ (by cases h:v.ownBlock with|none=>exact .inl rfl|some k=>exact .inr zd)
 go_wp2_with (go_at_fn 24;refine(tI B b bs s p v w1 hp SB ayO auF aJ aH (by have:=di.size;omega)).mono ?_)
 rintro e w2 ⟨rfl,v',g1,g2,g3,g4,g5⟩
 go_wp2
 go_end0
 refine⟨rfl,v',⟨_,.inr rfl,SB,g1,g2,g3⟩,?_,fun k hk hkb SQ=>?_⟩
 ·exact Below.trans ⟨di.os,di.tape,di.output,di.size,fun k hk=>di.block k zE⟩ g4
 exact(g5 k (zzar hk di.size) hkb SQ).trans (di.block k hk)
def abc(B b:Nat)(l:List UInt8)(v:Value)(w:World)(h:Bld B b (Lib.byteCells l) v w)(h0:l≠[]):
  Calls Tryz.prog 27 #[.pointer (some ⟨b,0,none⟩)] w fun e w'=>e=.returned (.string ⟨l.toArray⟩)/\Below B w w':=by
 have mixed:Tryz.prog.follows Departure.mixedOrders=true:=by kernel_rfl
 obtain⟨p,hp,SB,lJ,cq,aJ⟩:=h;have ov:l.length≠0:=by simpa using h0
 rw[Lib.byteCells_length]at cq
 obtain⟨g,cap,cur,rfl,hbg,hg,hnc,hcm,qC,ay9⟩:∃g cap cur,v=.slice (some ⟨g,0,none⟩) l.length cap/\B<=g/\w.heap[g]?=some (.cells cur 5 (0,0))/\l.length<=cap/\cap<=maxLen/\cur.size=cap*1/\cur.toList.take (l.length*1)=Lib.byteCells l:=by
  rcases cq.2 with⟨_,hz⟩|⟨g,cap,cur,hv,r⟩
  ·exact absurd hz ov
  exact⟨g,cap,cur,hv,r⟩
 have c1:w.drew.cell? ⟨b,1,none⟩=some (.slice (some ⟨g,0,none⟩) l.length cap):=by
  have:w.drew.heap[b]?=some (.cells #[p,.slice (some ⟨g,0,none⟩) l.length cap] 73 (0,0)):=lJ;rw[Lib.cell_of_heap this];rfl
 have hSD:(Builtin.unsafeSliceData_ #[71] 145 #[.slice (some ⟨g,0,none⟩) l.length cap]).run Tryz.prog w.drew=.ok (.pointer (some ⟨g,0,none⟩)) w.drew:=
  Lib.run_unsafeSliceData_row _ _ _ _ _ _ zE
 have hUS:(Builtin.unsafeString_ #[145,3] 9 #[.pointer (some ⟨g,0,none⟩),.int .i64 l.length]).run Tryz.prog w.drew=.ok (.string ⟨l.toArray⟩) (w.drew.freeze ⟨g,0,none⟩ l.length):=by
  refine Lib.run_unsafeString_row w.drew 145 3 9 5 Tryz.underlying145 (by kernel_rfl) g cur.size (by have hg':w.drew.heap[g]?=some (.cells cur 5 (0,0)):=hg;simp[World.shape?,hg']) l h0 zE (by unfold maxLen at hcm;omega) ?_;intro j x hx;have:=cq.cells (g:=g) rfl j (.int .u8 x.toNat) (by simp[Lib.byteCells,hx]);exact this
 go_enter Tryz.func27,Tryz.ntmps27
 go_wp2
 go_region_o
 all_goals(go_wp2;go_ret;exact⟨rfl,Lib.below_freeze (Below.drew (Below.refl B w)) (p:=⟨g,0,none⟩) hbg _⟩)
open Go.Abs
def dI(o:Od):P2:=[o.sq,o.ch,o.fr,o.ki]
def cK(o:Od):P2:=if o.ki=1 then[o.en,o.n]else if o.ki=2 then[o.en]else if o.ki=3 then[o.nw.id,o.nw.it,o.nw.fr,o.nw.ea,o.nw.la,o.nw.bo]else
 if o.ki=4 then[o.cl.ki,o.cl.it,o.cl.fr,o.cl.to,o.cl.re,o.cl.n,o.cl.a,o.cl.b]else if o.ki=5 then[o.cu.id,o.cu.fr,o.cu.to,o.cu.pr]else[]
def Va:List Sp->P2
 |[]=>[]
 |a::r=>a.1::a.2::Va r
def sk:P2->List Sp
 |a::b::r=>(a,b)::sk r
 |_=>[]
def gP(o:Od):P2:=if o.ki=3 then(o.nw.al.length:Int)::Va o.nw.al else if o.ki=5 then[(o.cu.tx.size:Int)]else[]
def qF(o:Od):P1:=if o.ki=5 then bS o.cu.tx else[]
def Zw(o:Od):P1:=aT (dI o)++(aT (cK o)++(aT (gP o)++qF o))
def Yg(k:Int):Nat:=if k=1 then 2 else if k=2 then 1 else if k=3 then 6 else if k=4 then 8 else if k=5 then 4 else 0
def dJ(h ns:P2)(al:List Sp)(tx:ByteArray):Od:=
 ⟨h.getD 0 0,h.getD 1 0,h.getD 2 0,h.getD 3 0,if h.getD 3 0=1\/h.getD 3 0=2 then ns.getD 0 0 else 0,if h.getD 3 0=1 then ns.getD 1 0 else 0,
  if h.getD 3 0=3 then⟨ns.getD 0 0,ns.getD 1 0,ns.getD 2 0,ns.getD 3 0,ns.getD 4 0,ns.getD 5 0,al⟩else Ah,
  if h.getD 3 0=4 then⟨ns.getD 0 0,ns.getD 1 0,ns.getD 2 0,ns.getD 3 0,ns.getD 4 0,ns.getD 5 0,ns.getD 6 0,ns.getD 7 0⟩else BM,
  if h.getD 3 0=5 then⟨ns.getD 0 0,ns.getD 1 0,ns.getD 2 0,ns.getD 3 0,tx⟩else BN⟩
inductive DR where
 |ok (o:Od)
 |wire
 |rep
def rd3(l:P1)(h ns:P2)(b:Nat):DR:=match tE l b with
 |none=>.wire
 |some (c,d)=>if c<0\/7<c then .rep else match gq (2*c.toNat) l d with
  |none=>.wire
  |some (as'',e)=>if e=l.length then .ok (dJ h ns (sk as'') eB)else .wire
def rd5(l:P1)(h ns:P2)(b:Nat):DR:=match uo l b with
 |none=>.wire
 |some (t,e)=>if e=l.length then .ok (dJ h ns [] (fq t))else .wire
def Iv(l:P1)(h ns:P2)(b:Nat):DR:=if h.getD 3 0=3 then rd3 l h ns b else if h.getD 3 0=5 then rd5 l h ns b else if b=l.length then .ok (dJ h ns [] eB)else .wire
def Vw(l:P1):DR:=match gq 4 l 0 with
 |none=>.wire
 |some (h,a)=>if h.getD 3 0<1\/5<h.getD 3 0 then .rep else match gq (Yg (h.getD 3 0)) l a with
  |none=>.wire
  |some (ns,b)=>Iv l h ns b
def j9(l:P1):DR:=match Vw l with
 |.ok o=>if Xm o then .ok o else .rep
 |x=>x
def Ep(ns:P2)(pre t:P1)(k:Nat)(h:∀n∈ns,bA n)(hp:pre.length<=k):
  gq ns.length ((pre++(aT ns++t)).take k) pre.length=if pre.length+(aT ns).length<=k then some (ns,pre.length+(aT ns).length)else none:=by
 rw[zzfc,zzal hp];split
 ·rw[zzfc,zzal zE,Pe ns pre _ h]
 rw[zzdu zE,Pf ns pre _ h zE]
def Pk{n:Int}(pre t:P1)(k:Nat)(h:bA n)(hp:pre.length<=k):
  tE ((pre++(aU n++t)).take k) pre.length=if pre.length+(aU n).length<=k then some (n,pre.length+(aU n).length)else none:=by
 rw[zzfc,zzal hp];split
 ·rw[zzfc,zzal zE,Eo h pre _]
 rw[zzdu zE,Pd n pre _ zE]
def Er:∀l:List Sp,(Va l).length=2*l.length
 |[]=>rfl
 |a::r=>by simp only[Va,zzav,Er r];omega
def sr:∀l:List Sp,sk (Va l)=l
 |[]=>rfl
 |a::r=>by rw[Va,sk,sr r]
def sv:∀(k:Nat)(l:P2),l.length=2*k->Va (sk l)=l/\(sk l).length=k
 |0,l,h=>by
  have:l=[]:=zzc.1 zE;subst this;exact⟨rfl,rfl⟩
 |k+1,[],h=>by simp at h
 |k+1,[a],h=>by simp at h;omega
 |k+1,a::b::r,h=>by
  have:=sv k r (by simp at h;omega);exact⟨by rw[sk,Va,this.1],by rw[sk,zzav,this.2]⟩
def Pm:∀(l:List Sp)(r:Int),r<=7->yc r l=true->(l.length:Int)<=7-r/\∀s∈l,r<s.1/\s.1<=7/\rN s.2=true
 |[],r,hr,h=>⟨by simp;omega,fun s hs=>by cases hs⟩
 |a::l,r,hr,h=>by
  rw[yc]at h;split at h
  ·rename_i h1;have ih:=Pm l a.1 h1.2.1 h;refine⟨by rw[zzav];omega,fun s hs=>?_⟩;rcases zzao.1 hs with rfl|hs
   ·exact h1
   have:=ih.2 s hs;exact⟨zE,this.2⟩
  cases h
def Iw:∀(l:List Sp)(n:Int),n∈Va l->∃s∈l,n=s.1\/n=s.2
 |[],n,h=>by cases h
 |a::r,n,h=>by
  simp only[Va,zzao]at h;obtain h|h|h:=h
  ·exact⟨a,zd,.inl h⟩
  ·exact⟨a,zd,.inr h⟩
  obtain⟨s,h1,h2⟩:=Iw r n h;exact⟨s,by simp[h1],h2⟩
def vO5{o:Od}(h:Xm o=true):(0<=o.sq/\o.sq<=200/\ -1<=o.ch/\o.ch<40/\0<=o.fr/\o.fr<=100000000)/\(1<=o.ki/\o.ki<=5)/\(o.ki=1-> -100000000<=o.n/\o.n<=100000000)/\okB o=true/\Jd (Yp o)=true:=by
 unfold Xm at h;split at h
 ·cases h
 split at h
 ·cases h
 split at h
 ·cases h
 split at h
 ·cases h
 rw[zzai]at h;exact⟨zE,zE,fun hk=>zE,h.1,h.2⟩
def sw{n:Int}(h:rN n=true):1<=n/\n<=1000000:=by simpa[rN]using h
def an1{c:Cl}(h:Xv c=true):∀n∈[c.ki,c.it,c.fr,c.to,c.re,c.n,c.a,c.b],bA n:=by
 obtain⟨k,i,f,t,r,n,a,b⟩:=c;simp only[Xv,zzai,decide_eq_true_eq]at h;obtain⟨h1,h2⟩:=h;unfold Q1 at h1;unfold Kn at h2;simp only[bA,zD,zzao,zzcn,or_false,forall_eq_or_imp,forall_eq];simp only[Ue,Jj,wi]at h2;split at h1
 ·rename_i hk;rw[if_pos hk]at h2;simp only[zzai,decide_eq_true_eq]at h2;simp only[Cl.mk.injEq]at h1;simp only at hk;omega
 rename_i hk;rw[if_neg hk]at h2;split at h1
 ·rename_i ey;simp only[Cl.mk.injEq]at h1;simp only at hk ey;split at h2
  ·simp only[zzai,decide_eq_true_eq]at h2;omega
  split at h2
  ·simp only[zzai,decide_eq_true_eq]at h2;omega
  omega
 rename_i ey;simp only at hk ey;rw[if_neg zE,if_neg zE]at h2;split at h1
 ·rename_i tX;rw[if_pos tX]at h2;simp only[zzai,decide_eq_true_eq]at h2;simp only[Cl.mk.injEq]at h1;simp only at tX;omega
 rename_i tX;rw[if_neg tX]at h2;split at h1
 ·rename_i DA;rw[if_pos DA]at h2;simp only[zzai,decide_eq_true_eq]at h2;simp only[Cl.mk.injEq]at h1;simp only at DA;omega
 rename_i DA;rw[if_neg DA]at h2;cases h2
def an2{c:Cue}(h:BL c=true):∀n∈[c.id,c.fr,c.to,c.pr],bA n:=by
 simp only[bA,zD,zzao,zzcn,or_false,forall_eq_or_imp,forall_eq];unfold BL at h;split at h
 ·cases h
 split at h
 ·simp only[decide_eq_true_eq]at h;omega
 split at h
 ·cases h
 split at h
 ·cases h
 omega
def abd{o:Od}(h:Xm o=true)(ht:o.cu.tx.size<=65536):(∀n∈dI o,bA n)/\(∀n∈cK o,bA n)/\(∀n∈gP o,bA n)/\(o.ki=3->o.nw.al.length<=7)/\(cK o).length=Yg o.ki/\dJ (dI o) (cK o) (if o.ki=3 then o.nw.al else[]) (if o.ki=5 then o.cu.tx else eB)=o:=by
 obtain⟨h1,h2,h3,h4,h5⟩:=vO5 h
 have hd:∀n∈dI o,bA n:=by
  simp only[dI,bA,zD,zzao,zzcn,or_false,forall_eq_or_imp,forall_eq];omega
 refine⟨hd,?_⟩;obtain⟨sq,ch,fr,ki,en,n,⟨a1,a2,a3,a4,a5,a6,al⟩,cl,⟨d1,d2,d3,d4,tx⟩⟩:=o;simp only at h1 h2 h3 ht;rcases(show ki=1\/ki=2\/ki=3\/ki=4\/ki=5 by omega)with rfl|rfl|rfl|rfl|rfl
 ·simp[okB,Yp,Jd]at h4 h5;have:=sw h4;obtain⟨rfl,⟨rfl,rfl,rfl,rfl,rfl⟩,rfl,rfl,rfl,rfl,rfl,rfl,rfl⟩:=h5;refine⟨?_,by simp[gP],zd,by simp[cK,Yg],by simp[dJ,dI,cK,Ah,BM,BN]⟩;simp[cK,bA,zD];omega
 ·simp[okB,Yp,Jd]at h4 h5;have:=sw h4;obtain⟨rfl,rfl,⟨rfl,rfl,rfl,rfl,rfl⟩,rfl,rfl,rfl,rfl,rfl,rfl,rfl⟩:=h5;refine⟨?_,by simp[gP],zd,by simp[cK,Yg],by simp[dJ,dI,cK,Ah,BM,BN]⟩;simp[cK,bA,zD];omega
 ·simp[okB,Yp,Jd,Ah]at h4 h5;simp[nR]at h4;obtain⟨⟨⟨⟨⟨i1,i2⟩,i3⟩,i4⟩,i5⟩,i6⟩:=h4;have j1:=sw i1;have j2:=sw i2
  have j5:0<=a6/\a6<=1000000:=by
   obtain i5|i5:=i5
   ·omega
   have:=sw i5;omega
  have j6:=Pm al 0 zE i6;obtain⟨rfl,rfl,rfl,rfl,rfl,rfl,rfl,rfl⟩:=h5;refine⟨?_,?_,fun _=>by simp only;omega,by simp[cK,Yg],by simp[dJ,dI,cK,Ah,BM,BN]⟩
  ·simp[cK,bA,zD];omega
  intro x hx;simp only[gP,if_true,zzao]at hx;obtain rfl|hx:=hx
  ·simp only[bA,zD];omega
  obtain⟨s,hs,he⟩:=Iw al x hx;obtain⟨k1,k2,k3⟩:=j6.2 s hs;have:=sw k3;simp only[bA,zD];omega
 ·simp[okB,Yp,Jd,BM]at h4 h5;have:=an1 h4;obtain⟨rfl,rfl,⟨rfl,rfl,rfl,rfl,rfl⟩,rfl,rfl,rfl,rfl,rfl,rfl,rfl⟩:=h5;refine⟨?_,by simp[gP],zd,by simp[cK,Yg],by simp[dJ,dI,cK,Ah,BM,BN]⟩;simp only[cK];exact this
 simp[okB,Yp,Jd,BN]at h4 h5;have:=an2 h4;obtain⟨rfl,rfl,rfl,rfl,rfl,rfl,rfl,rfl,rfl,rfl⟩:=h5;refine⟨?_,?_,zd,by simp[cK,Yg],by simp[dJ,dI,cK,Ah,BM,BN]⟩
 ·simp only[cK];exact this
 simp[gP,bA,zD];omega
def Iy{o:Od}(h:Xm o=true)(ht:o.cu.tx.size<=65536)(k:Nat):Vw ((Zw o).take k)=if(Zw o).length<=k then .ok o else .wire:=by
 obtain⟨v1,v2,v3,v4,v5,v6⟩:=abd h ht;obtain⟨-,hk,-⟩:=vO5 h;have aH:(Zw o).length=(aT (dI o)).length+((aT (cK o)).length+((aT (gP o)).length+(qF o).length)):=by simp[Zw]
 have s1:=Ep (dI o) [] (aT (cK o)++(aT (gP o)++qF o)) k v1 (zzbi _);have s2:=Ep (cK o) (aT (dI o)) (aT (gP o)++qF o) k v2;simp only[zzaj,zzcd,zzbm]at s1;have e0:Zw o=aT (dI o)++(aT (cK o)++(aT (gP o)++qF o)):=rfl;have e1:Zw o=(aT (dI o)++aT (cK o))++(aT (gP o)++qF o):=by rw[e0,zzaz]
 rw[<- e0]at s1 s2;have s1':gq 4 (List.take k (Zw o)) 0=if(aT (dI o)).length<=k then some (dI o,(aT (dI o)).length)else none:=s1;unfold Vw;rw[s1'];by_cases c1:(aT (dI o)).length<=k
 ·rw[if_pos c1];simp only;have hg:(dI o).getD 3 0=o.ki:=rfl;rw[hg,if_neg zE,<- v5,s2 c1];by_cases c2:(aT (dI o)).length+(aT (cK o)).length<=k
  ·rw[if_pos c2];simp only;unfold Iv;rw[hg];have kK:(aT (dI o)++aT (cK o)).length=(aT (dI o)).length+(aT (cK o)).length:=zzah;by_cases k3:o.ki=3
   ·rw[if_pos k3];rw[if_pos k3,if_neg zE]at v6;have hT:gP o=(o.nw.al.length:Int)::Va o.nw.al:=by unfold gP;rw[if_pos k3]
    have hX:qF o=[]:=by unfold qF;rw[if_neg zE]
    have eT:aT (gP o)=aU o.nw.al.length++aT (Va o.nw.al):=by rw[hT];rfl
    rw[hT]at v3;rw[eT,zzah,hX,zzcd]at aH;rw[eT,hX,zzas]at e1;have s3:=Pk (n:=(o.nw.al.length:Int)) (aT (dI o)++aT (cK o)) (aT (Va o.nw.al)) k (v3 _ zd) zE;rw[<- e1,kK]at s3;unfold rd3;rw[s3];by_cases c3:(aT (dI o)).length+(aT (cK o)).length+(aU o.nw.al.length).length<=k
    ·rw[if_pos c3];simp only;have:=v4 k3;rw[if_neg zE];have s4:=Ep (Va o.nw.al) ((aT (dI o)++aT (cK o))++aU o.nw.al.length) [] k (fun n hn=>v3 n (by simp[hn])) (by rw[zzah];omega);rw[zzas,zzaz,<- e1,zzah,kK,Er]at s4;rw[show 2*(o.nw.al.length:Int).toNat=2*o.nw.al.length by omega,s4];by_cases c4:(aT (dI o)).length+(aT (cK o)).length+(aU o.nw.al.length).length+(aT (Va o.nw.al)).length<=k
     ·rw[if_pos c4,if_pos zE];simp only;rw[zzal zE,if_pos zE,sr,v6]
     rw[if_neg c4,if_neg zE]
    rw[if_neg c3,if_neg zE]
   rw[if_neg k3];rw[if_neg k3]at v6;by_cases k5:o.ki=5
   ·rw[if_pos k5];rw[if_pos k5]at v6;have hT:gP o=[(o.cu.tx.size:Int)]:=by unfold gP;rw[if_neg k3,if_pos k5]
    have hX:qF o=bS o.cu.tx:=by unfold qF;rw[if_pos k5]
    have eT:aT (gP o)=aU o.cu.tx.size:=by rw[hT];simp[aT]
    rw[hT]at v3;rw[eT,hX,Yu]at aH;rw[eT,hX]at e1;have s3:=Pk (n:=(o.cu.tx.size:Int)) (aT (dI o)++aT (cK o)) (bS o.cu.tx) k (v3 _ zd) zE;rw[<- e1,kK]at s3;unfold rd5 uo;rw[s3];by_cases c3:(aT (dI o)).length+(aT (cK o)).length+(aU o.cu.tx.size).length<=k
    ·rw[if_pos c3];simp only;by_cases c4:(Zw o).length<=k
     ·rw[if_pos c4,zzal c4,if_neg zE];simp only
      have hd:(Zw o).drop ((aT (dI o)).length+(aT (cK o)).length+(aU o.cu.tx.size).length)=bS o.cu.tx:=by
       rw[e1,<- zzaz,show(aT (dI o)).length+(aT (cK o)).length+(aU o.cu.tx.size).length=(aT (dI o)++aT (cK o)++aU o.cu.tx.size).length by simp[zzan],zzeg]
      rw[hd,if_pos zE,zzal (by rw[Yu];omega),Ej,v6]
     rw[if_neg c4,if_pos (by rw[zzaq];omega)]
    rw[if_neg c3,if_neg zE]
   rw[if_neg k5];rw[if_neg k5]at v6;have hT:gP o=[]:=by unfold gP;rw[if_neg k3,if_neg k5]
   have hX:qF o=[]:=by unfold qF;rw[if_neg k5]
   rw[hT,hX]at aH;simp only[aT,zzfb,zzcd]at aH c2;have c3:(Zw o).length<=k:=by unfold aT at*;omega
   rw[zzal c3,if_pos (by unfold aT;omega),if_pos c3,v6]
  rw[if_neg c2,if_neg zE]
 rw[if_neg c1,if_neg zE]
def abe{o:Od}(h:Xm o=true)(ht:o.cu.tx.size<=65536):Vw (Zw o)=.ok o:=by
 have:=Iy h ht (Zw o).length;rwa [zzbs,if_pos (zzaa _)]at this
def qv{o:Od}(h:Xm o=true)(ht:o.cu.tx.size<=65536):j9 (Zw o)=.ok o:=by
 unfold j9;rw[abe h ht];simp only;rw[if_pos h]
def abf{o:Od}(h:Xm o=true)(ht:o.cu.tx.size<=65536){k:Nat}(hk:k<(Zw o).length):j9 ((Zw o).take k)=.wire:=by
 unfold j9;rw[Iy h ht,if_neg zE]
def auG{h:P2}(ns:P2)(al:List Sp)(tx:ByteArray)(hl:h.length=4):dI (dJ h ns al tx)=h:=by
 match h,hl with
 |[a,b,c,d],_=>rfl
def auH{h ns:P2}(al:List Sp)(tx:ByteArray)(hk:¬(h.getD 3 0<1\/5<h.getD 3 0))(hl:ns.length=Yg (h.getD 3 0)):cK (dJ h ns al tx)=ns:=by
 have e:(dJ h ns al tx).ki=h.getD 3 0:=rfl;unfold cK;rw[e];unfold dJ;generalize h.getD 3 0=k at*
 rcases(show k=1\/k=2\/k=3\/k=4\/k=5 by omega)with rfl|rfl|rfl|rfl|rfl
 ·match ns,hl with
  |[a,b],_=>rfl
 ·match ns,hl with
  |[a],_=>rfl
 ·match ns,hl with
  |[a,b,c,d,e,f],_=>rfl
 ·match ns,hl with
  |[a,b,c,d,e,f,g,i],_=>rfl
 match ns,hl with
 |[a,b,c,d],_=>rfl
def ze(l:P1){a b:Nat}(h:a<=b):l.drop a=(l.drop a).take (b-a)++l.drop b:=by
 conv=>lhs;rw[<- zzdq (b-a) (l.drop a),zzdi,show a+(b-a)=b by omega]
def abg{l:P1}{o:Od}(hb:∀x∈l,x<256)(h:Vw l=.ok o):Zw o=l:=by
 unfold Vw at h;cases r1:gq 4 l 0 with
 |none=>rw[r1]at h;cases h
 |some x=>
  obtain⟨hd,a⟩:=x;rw[r1]at h;simp only at h;split at h
  ·cases h
  rename_i hk;cases r2:gq (Yg (hd.getD 3 0)) l a with
  |none=>rw[r2]at h;cases h
  |some y=>
   obtain⟨ns,b⟩:=y;rw[r2]at h;simp only at h;obtain⟨i1,i2,i3,i4⟩:=u7 4 hb r1;obtain⟨j1,j2,j3,j4⟩:=u7 _ hb r2
   have e1:l=aT hd++(aT ns++l.drop b):=by
    have q1:=ze l (zzbi a);have q2:=ze l j3;rw[i4]at q1;rw[j4]at q2;rw[<- q2];exact q1
   have key:∀(al:List Sp)(tx:ByteArray),l.drop b=aT (gP (dJ hd ns al tx))++qF (dJ hd ns al tx)->Zw (dJ hd ns al tx)=l:=by
    intro al tx he;unfold Zw;rw[auG ns al tx i1,auH al tx hk j1,<- he];exact e1.symm
   have kk:∀(al:List Sp)(tx:ByteArray),(dJ hd ns al tx).ki=hd.getD 3 0:=fun _ _=>rfl;unfold Iv at h;split at h
   ·rename_i k3;unfold rd3 at h;cases r3:tE l b with
    |none=>rw[r3]at h;cases h
    |some y=>
     obtain⟨c,d⟩:=y;rw[r3]at h;simp only at h;split at h
     ·cases h
     rename_i hc;cases r4:gq (2*c.toNat) l d with
     |none=>rw[r4]at h;cases h
     |some y=>
      obtain⟨zs,e⟩:=y;rw[r4]at h;simp only at h;split at h
      ·rename_i he;cases h;obtain⟨m1,m2,m3,m4⟩:=Qao hb r3;obtain⟨n1,n2,n3,n4⟩:=u7 _ hb r4;obtain⟨f1,f2⟩:=sv _ _ n1;refine key _ _ ?_
       have hT:gP (dJ hd ns (sk zs) eB)=c::zs:=by
        unfold gP;rw[kk,if_pos k3];have:(dJ hd ns (sk zs) eB).nw.al=sk zs:=by unfold dJ;simp only;rw[if_pos k3]
        rw[this,f1,f2];congr 1;omega
       have hX:qF (dJ hd ns (sk zs) eB)=[]:=by unfold qF;rw[kk,if_neg zE]
       have q1:=ze l (zzfn m2);have q2:=ze l n3;rw[m3]at q1;rw[n4,he,zzbx,zzas]at q2;rw[hT,hX,zzas,q1,q2];rfl
      cases h
   rename_i k3;split at h
   ·rename_i k5;unfold rd5 uo at h;cases r3:tE l b with
    |none=>rw[r3]at h;cases h
    |some y=>
     obtain⟨c,d⟩:=y;rw[r3]at h;simp only at h;by_cases hc:c<0\/65536<c\/(l.length:Int)-d<c
     ·rw[if_pos hc]at h;cases h
     rw[if_neg hc]at h;simp only at h;split at h
     ·rename_i he;cases h;obtain⟨m1,m2,m3,m4⟩:=Qao hb r3;refine key _ _ ?_;have htx:(dJ hd ns [] (fq (List.take c.toNat (List.drop d l)))).cu.tx=fq (List.take c.toNat (List.drop d l)):=by unfold dJ;simp only;rw[if_pos k5]
      have hbt:bS (fq (List.take c.toNat (List.drop d l)))=List.take c.toNat (List.drop d l):=qs fun x hx=>hb x (zzdd (zzce hx));have bD:List.take c.toNat (List.drop d l)=List.drop d l:=zzal (by rw[zzcb];omega)
      have hT:gP (dJ hd ns [] (fq (List.take c.toNat (List.drop d l))))=[c]:=by
       unfold gP;rw[kk,if_neg k3,if_pos k5,htx,<- Yu,hbt,bD,zzcb];congr 1;omega
      have hX:qF (dJ hd ns [] (fq (List.take c.toNat (List.drop d l))))=List.drop d l:=by unfold qF;rw[kk,if_pos k5,htx,hbt,bD]
      have q1:=ze l (zzfn m2);rw[m3]at q1;rw[hT,hX,q1];simp[aT]
     cases h
   rename_i k5;split at h
   ·rename_i he;cases h;refine key _ _ ?_;have hT:gP (dJ hd ns [] eB)=[]:=by unfold gP;rw[kk,if_neg k3,if_neg k5]
    have hX:qF (dJ hd ns [] eB)=[]:=by unfold qF;rw[kk,if_neg k5]
    rw[hT,hX,he,zzbx];rfl
   cases h
def abh{l:P1}{o:Od}(hb:∀x∈l,x<256)(h:j9 l=.ok o):Xm o=true/\Zw o=l:=by
 unfold j9 at h;cases hr:Vw l with
 |ok q=>
  rw[hr]at h;simp only at h;split at h
  ·rename_i hv;cases h;exact⟨hv,abg hb hr⟩
  cases h
 |wire=>rw[hr]at h;cases h
 |rep=>rw[hr]at h;cases h
def bT(o:Od)(rt:Rt):PQ:=[I o.sq,I o.ch,I o.fr,I o.ki,I o.en,I o.n,I o.nw.id,I o.nw.it,I o.nw.fr,I o.nw.ea,I o.nw.la,I o.nw.bo,.sl rt (o.nw.al.map Qe),I o.cl.ki,I o.cl.it,I o.cl.fr,I o.cl.to,I o.cl.re,I o.cl.n,I o.cl.a,I o.cl.b,I o.cu.id,I o.cu.fr,I o.cu.to,I o.cu.pr,.str o.cu.tx]
def Pn:SC:=(.seq (.seq (.draw [⟨(some 82),(.mv (.tmp 0)),none,[]⟩,⟨(some 83),(.nilc (.tmp 82)),none,[]⟩,⟨(some 84),(.faddr 1 (.tmp 83)),none,[]⟩,⟨(some 85),(.load false 1 (.tmp 84)),none,[]⟩,⟨(some 86),(.mv (.tmp 0)),none,[]⟩,⟨(some 87),(.nilc (.tmp 86)),none,[]⟩,⟨(some 88),(.faddr 0 (.tmp 87)),none,[]⟩,⟨(some 89),(.load false 1 (.tmp 88)),none,[]⟩,⟨(some 90),(.lenS (.tmp 89)),none,[]⟩] [⟨(some 91),(.bin .neq (.tmp 85) (.tmp 90)),none,[]⟩]) (.cond (.tmp 91) (.opsX [⟨(some 92),(.load false 1 (.glob 0)),none,[]⟩,⟨none,(.pan (.tmp 92)),none,[]⟩]) .skip)) (.seq (.ops [⟨(some 93),(.load true 26 (.tmp 3)),none,[]⟩,⟨none,(.store 26 (.tmp 2) (.tmp 93)),none,[]⟩]) .ret))
def abi:SC:=(.seq (.seq (.ops [⟨(some 45),(.faddr 3 (.tmp 3)),none,[]⟩,⟨(some 46),(.load false 1 (.tmp 45)),none,[]⟩]) (.block 4 (.seq (.ops [⟨(some 48),(.bin .eql (.tmp 46) (.const (.int .i64 3))),none,[]⟩,⟨(some 47),(.mv (.tmp 48)),none,[]⟩]) (.cond (.tmp 47) (.seq (.opsX [⟨(some 49),(.mv (.tmp 0)),none,[]⟩,⟨(some 50),(.call (.func 74) [(.tmp 49)]),none,[]⟩,⟨(some 8),(.mv (.tmp 50)),none,[]⟩]) (.seq (.seq (.ops [⟨(some 51),(.mv (.tmp 8)),none,[]⟩,⟨(some 52),(.bin .lss (.tmp 51) (.const (.int .i64 0))),none,[]⟩,⟨(some 53),(.mv (.tmp 52)),none,[]⟩,⟨(some 54),(.mv (.tmp 8)),(some ((some 53),false)),[(.tmp 8)]⟩,⟨(some 55),(.bin .gtr (.tmp 54) (.const (.int .i64 7))),(some ((some 53),false)),[(.tmp 54),(.const (.int .i64 7))]⟩,⟨(some 56),(.pick (.tmp 53) (.const (.bool true)) (.tmp 55)),none,[]⟩]) (.cond (.tmp 56) (.opsX [⟨(some 57),(.load false 1 (.glob 1)),none,[]⟩,⟨none,(.pan (.tmp 57)),none,[]⟩]) .skip)) (.seq (.ops [⟨(some 58),(.mv (.tmp 8)),none,[]⟩,⟨(some 59),(.mv (.const (.int .i64 0))),none,[]⟩]) (.block 5 (.loop (.seq (.ops [⟨(some 60),(.bin .lss (.tmp 59) (.tmp 58)),none,[]⟩]) (.seq (.cond (.tmp 60) .skip (.exit 5)) (.seq (.block 6 (.seq (.opsX [⟨(some 61),(.mv (.tmp 0)),none,[]⟩,⟨(some 62),(.call (.func 74) [(.tmp 61)]),none,[]⟩,⟨(some 63),(.build [(.int .i64 0),(.int .i64 0)] [(0,(1,(.tmp 62)))]),none,[]⟩,⟨(some 9),(.alloc [(.int .i64 0),(.int .i64 0)]),none,[]⟩,⟨none,(.store 2 (.tmp 9) (.tmp 63)),none,[]⟩]) (.seq (.opsX [⟨(some 64),(.mv (.tmp 0)),none,[]⟩,⟨(some 65),(.call (.func 74) [(.tmp 64)]),none,[]⟩,⟨(some 66),(.faddr 1 (.tmp 9)),none,[]⟩,⟨none,(.store 1 (.tmp 66) (.tmp 65)),none,[]⟩]) (.ops [⟨(some 67),(.faddr 6 (.tmp 3)),none,[]⟩,⟨(some 68),(.faddr 6 (.tmp 67)),none,[]⟩,⟨(some 69),(.load false 1 (.tmp 68)),none,[]⟩,⟨(some 70),(.load true 2 (.tmp 9)),none,[]⟩,⟨(some 71),(.bsl 2 1 [(0,(.tmp 70))]),none,[]⟩,⟨(some 72),(.app 2 16 (.tmp 69) (.tmp 71)),none,[]⟩,⟨(some 73),(.faddr 6 (.tmp 3)),none,[]⟩,⟨(some 74),(.faddr 6 (.tmp 73)),none,[]⟩,⟨none,(.store 1 (.tmp 74) (.tmp 72)),none,[]⟩])))) (.ops [⟨(some 75),(.bin .add (.tmp 59) (.const (.int .i64 1))),none,[]⟩,⟨(some 59),(.mv (.tmp 75)),none,[]⟩]))))))))) (.seq (.ops [⟨(some 77),(.bin .eql (.tmp 46) (.const (.int .i64 5))),none,[]⟩,⟨(some 76),(.mv (.tmp 77)),none,[]⟩]) (.cond (.tmp 76) (.opsX [⟨(some 78),(.mv (.tmp 0)),none,[]⟩,⟨(some 79),(.call (.func 75) [(.tmp 78)]),none,[]⟩,⟨(some 80),(.faddr 21 (.tmp 3)),none,[]⟩,⟨(some 81),(.faddr 4 (.tmp 80)),none,[]⟩,⟨none,(.store 1 (.tmp 81) (.tmp 79)),none,[]⟩]) .skip)))))) Pn)
def abj:SC:=(.seq (.seq (.ops [⟨(some 25),(.faddr 3 (.tmp 3)),none,[]⟩,⟨(some 26),(.load false 1 (.tmp 25)),none,[]⟩,⟨(some 27),(.bin .lss (.tmp 26) (.const (.int .i64 1))),none,[]⟩,⟨(some 28),(.mv (.tmp 27)),none,[]⟩,⟨(some 29),(.faddr 3 (.tmp 3)),(some ((some 28),false)),[(.tmp 3)]⟩,⟨(some 30),(.load false 1 (.tmp 29)),(some ((some 28),false)),[(.tmp 29)]⟩,⟨(some 31),(.bin .gtr (.tmp 30) (.const (.int .i64 5))),(some ((some 28),false)),[(.tmp 30),(.const (.int .i64 5))]⟩,⟨(some 32),(.pick (.tmp 28) (.const (.bool true)) (.tmp 31)),none,[]⟩]) (.cond (.tmp 32) (.opsX [⟨(some 33),(.load false 1 (.glob 1)),none,[]⟩,⟨none,(.pan (.tmp 33)),none,[]⟩]) .skip)) (.seq (.seq (.ops [⟨(some 34),(.call (.func 25) [(.tmp 3)]),none,[]⟩,⟨(some 35),(.len (.tmp 34)),none,[]⟩,⟨(some 36),(.mv (.const (.int .i64 0))),none,[]⟩]) (.block 2 (.loop (.seq (.ops [⟨(some 37),(.bin .lss (.tmp 36) (.tmp 35)),none,[]⟩]) (.seq (.cond (.tmp 37) .skip (.exit 2)) (.seq (.block 3 (.seq (.ops [⟨(some 38),(.iaddr 1 (.tmp 34) (.tmp 36)),none,[]⟩,⟨(some 39),(.load false 1 (.tmp 38)),none,[]⟩,⟨(some 7),(.mv (.tmp 39)),none,[]⟩]) (.opsX [⟨(some 40),(.mv (.tmp 7)),none,[]⟩,⟨(some 41),(.mv (.tmp 0)),none,[]⟩,⟨(some 42),(.call (.func 74) [(.tmp 41)]),none,[]⟩,⟨(some 43),(.nilc (.tmp 40)),none,[]⟩,⟨none,(.store 1 (.tmp 43) (.tmp 42)),none,[]⟩]))) (.ops [⟨(some 44),(.bin .add (.tmp 36) (.const (.int .i64 1))),none,[]⟩,⟨(some 36),(.mv (.tmp 44)),none,[]⟩]))))))) abi))
theorem agF:abO=(.seq (.ops [⟨(some 2),(.alloc [(.int .i64 0),(.int .i64 0),(.int .i64 0),(.int .i64 0),(.int .i64 0),(.int .i64 0),(.int .i64 0),(.int .i64 0),(.int .i64 0),(.int .i64 0),(.int .i64 0),(.int .i64 0),(.sl .nil []),(.int .i64 0),(.int .i64 0),(.int .i64 0),(.int .i64 0),(.int .i64 0),(.int .i64 0),(.int .i64 0),(.int .i64 0),(.int .i64 0),(.int .i64 0),(.int .i64 0),(.int .i64 0),(.str ⟨#[]⟩)]),none,[]⟩]) (.seq (.ops [⟨(some 3),(.alloc [(.int .i64 0),(.int .i64 0),(.int .i64 0),(.int .i64 0),(.int .i64 0),(.int .i64 0),(.int .i64 0),(.int .i64 0),(.int .i64 0),(.int .i64 0),(.int .i64 0),(.int .i64 0),(.sl .nil []),(.int .i64 0),(.int .i64 0),(.int .i64 0),(.int .i64 0),(.int .i64 0),(.int .i64 0),(.int .i64 0),(.int .i64 0),(.int .i64 0),(.int .i64 0),(.int .i64 0),(.int .i64 0),(.str ⟨#[]⟩)]),none,[]⟩]) (.seq (.seq (.ops [⟨(some 10),(.faddr 0 (.tmp 3)),none,[]⟩,⟨(some 11),(.faddr 1 (.tmp 3)),none,[]⟩,⟨(some 12),(.faddr 2 (.tmp 3)),none,[]⟩,⟨(some 13),(.faddr 3 (.tmp 3)),none,[]⟩,⟨(some 14),(.bsl 1 4 [(0,(.tmp 10)),(1,(.tmp 11)),(2,(.tmp 12)),(3,(.tmp 13))]),none,[]⟩,⟨(some 15),(.len (.tmp 14)),none,[]⟩,⟨(some 16),(.mv (.const (.int .i64 0))),none,[]⟩]) (.block 0 (.loop (.seq (.ops [⟨(some 17),(.bin .lss (.tmp 16) (.tmp 15)),none,[]⟩]) (.seq (.cond (.tmp 17) .skip (.exit 0)) (.seq (.block 1 (.seq (.ops [⟨(some 18),(.iaddr 1 (.tmp 14) (.tmp 16)),none,[]⟩,⟨(some 19),(.load false 1 (.tmp 18)),none,[]⟩,⟨(some 5),(.mv (.tmp 19)),none,[]⟩]) (.opsX [⟨(some 20),(.mv (.tmp 5)),none,[]⟩,⟨(some 21),(.mv (.tmp 0)),none,[]⟩,⟨(some 22),(.call (.func 74) [(.tmp 21)]),none,[]⟩,⟨(some 23),(.nilc (.tmp 20)),none,[]⟩,⟨none,(.store 1 (.tmp 23) (.tmp 22)),none,[]⟩]))) (.ops [⟨(some 24),(.bin .add (.tmp 16) (.const (.int .i64 1))),none,[]⟩,⟨(some 16),(.mv (.tmp 24)),none,[]⟩]))))))) abj))):=rfl
def Iz{gl:Nat->AV}{Y:YT}{q c f k:Int}{R:PQ}{id:Nat}{m:AM}{K:UV}(hk:¬(k<1\/5<k))(hr:Qg m.boxes id=I q::I c::I f::I k::R)
  (hK:K (.bs m.boxes.length 0 (u6 k).length 1) {m with boxes:=m.boxes++[(u6 k).map fun o=>.ptr id o]}):aA Tryz.prog gl Y 25 [.ptr id 0] m K:=by
 refine Xh akl (fun _ f _=>if f=999999 then .aL 0 []else .junk) zd ?_;rcases(show k=1\/k=2\/k=3\/k=4\/k=5 by omega)with rfl|rfl|rfl|rfl|rfl
 all_goals
  simp[ao4,ao5,hr];exact hK
structure OrQ (a0 a1:Addr) (l:P1) (Q:T5):Prop where
 ok:∀(E:R0)(m:AM)(o:Od)(rt:Rt),Vw l=.ok o->Abs.look E 2=.ptr 1 0->Qg m.boxes 1=bT o rt->Q .ret ⟨Zr 94 E,m⟩
 wire:∀(E:R0)(m:AM),Vw l=.wire->Q (.panic (chE a0)) ⟨Zr 94 E,m⟩
 rep:∀(E:R0)(m:AM),Vw l=.rep->Q (.panic (chE a1)) ⟨Zr 94 E,m⟩
def Es:X1:=fun d f _=>if f=74\/f=75\/f=25 then .gd false .junk else if f=999999/\d=14 then .aL 0 []else .junk
def Et{a0 a1:Addr}{Y:YT}{s:ByteArray}{Q:T5}(hQ:OrQ a0 a1 (bS s) Q){e:Nat}{o:Od}{rt:Rt}(E:R0)(m:AM)(hm:2<m.boxes.length)(h0:Qg m.boxes 0=[.str s,I e])(z:Od)(h1:Qg m.boxes 1=bT z .nil)(h2:Qg m.boxes 2=bT o rt)
  (e0:Abs.look E 0=.ptr 0 0)(e2:Abs.look E 2=.ptr 1 0)(e3:Abs.look E 3=.ptr 2 0)(hs:Vw (bS s)=if e=(bS s).length then .ok o else .wire):vc Tryz.prog (eL a0 a1) Es Y Pn ⟨Zr 94 E,m⟩ Q:=by
 rw[Yu]at hs;have nk:1<m.boxes.length:=zE
 have oy:0<m.boxes.length:=zE
 by_cases he:e=s.size
 ·rw[if_pos he]at hs;simp[Pn,h0,h1,h2,e0,e2,e3,nk,he,bT];refine hQ.ok _ _ o rt hs (by simp[e2]) ?_;show Qg (m.boxes.set 1 _) 1=_;rw[Zg _ nk];rfl
 rw[if_neg he]at hs;have DW:¬(e:Int)=(s.size:Int):=zE
 simp[Pn,h0,h1,h2,e0,e2,e3,nk,he,DW,bT,eL];refine⟨1,?_⟩;simp[IN,IM,eL];exact hQ.wire _ _ hs
def Po(h:P2):dJ h [] [] eB=⟨h.getD 0 0,h.getD 1 0,h.getD 2 0,h.getD 3 0,0,0,Ah,BM,BN⟩:=by
 unfold dJ;congr 1
 ·split<;>rfl
 ·split<;>rfl
 ·split<;>rfl
 ·split<;>rfl
 split<;>rfl
def an3{h:P2}{n:Int}{i:Nat}(hi:h.length=i)(h4:i<4):(bT (dJ h [] [] eB) .nil).set i (I n)=bT (dJ (h++[n]) [] [] eB) .nil:=by
 rw[Po,Po]
 match h,hi,h4 with
 |[],hi,_=>subst hi;rfl
 |[a],hi,_=>subst hi;rfl
 |[a,b],hi,_=>subst hi;rfl
 |[a,b,c],hi,_=>subst hi;rfl
 |a::b::c::d::e,hi,h4=>simp at hi;omega
def an4{q c f k:Int}{ns:P2}{n:Int}{i:Nat}(hk:¬(k<1\/5<k))(hi:ns.length=i)(hc:i<Yg k):(bT (dJ [q,c,f,k] ns [] eB) .nil).set ((u6 k).getD i 0) (I n)=bT (dJ [q,c,f,k] (ns++[n]) [] eB) .nil:=by
 subst hi;rcases(show k=1\/k=2\/k=3\/k=4\/k=5 by omega)with rfl|rfl|rfl|rfl|rfl
 ·match ns,hc with
  |[],_=>rfl
  |[a],_=>rfl
  |a::b::r,hc=>simp[Yg]at hc;omega
 ·match ns,hc with
  |[],_=>rfl
  |a::r,hc=>simp[Yg]at hc
 ·match ns,hc with
  |[],_=>rfl
  |[a],_=>rfl
  |[a,b],_=>rfl
  |[a,b,c],_=>rfl
  |[a,b,c,d],_=>rfl
  |[a,b,c,d,e],_=>rfl
  |a::b::c::d::e::f::r,hc=>simp[Yg]at hc;omega
 ·match ns,hc with
  |[],_=>rfl
  |[a],_=>rfl
  |[a,b],_=>rfl
  |[a,b,c],_=>rfl
  |[a,b,c,d],_=>rfl
  |[a,b,c,d,e],_=>rfl
  |[a,b,c,d,e,f],_=>rfl
  |[a,b,c,d,e,f,g],_=>rfl
  |a::b::c::d::e::f::g::h::r,hc=>simp[Yg]at hc;omega
 match ns,hc with
 |[],_=>rfl
 |[a],_=>rfl
 |[a,b],_=>rfl
 |[a,b,c],_=>rfl
 |a::b::c::d::r,hc=>simp[Yg]at hc;omega
def abk{k:Int}(hk:¬(k<1\/5<k)):(u6 k).length=Yg k:=by
 rcases(show k=1\/k=2\/k=3\/k=4\/k=5 by omega)with rfl|rfl|rfl|rfl|rfl<;>rfl
def Ci:∀a b:List Sp,Va (a++b)=Va a++Va b
 |[],b=>rfl
 |x::a,b=>by rw[zzae,Va,Va,Ci a b];rfl
def agG{k:Int}:∀x∈u6 k,x<26:=by
 unfold u6;split
 ·decide
 split
 ·decide
 split
 ·decide
 split
 ·decide
 split
 ·decide
 decide
def agH{a0 a1:Addr}{Y:YT}{s:ByteArray}{Q:T5}(hQ:OrQ a0 a1 (bS s) Q)(hsz:s.size<=1000000){b:Nat}{q c f k:Int}{ns:P2}(hk:¬(k<1\/5<k))(hb:b<=s.size)(E:R0)(m:AM)(hm:2<m.boxes.length)(h0:Qg m.boxes 0=[.str s,I b])(z:Od)(h1:Qg m.boxes 1=bT z .nil)(h2:Qg m.boxes 2=bT (dJ [q,c,f,k] ns [] eB) .nil)
  (e0:Abs.look E 0=.ptr 0 0)(e2:Abs.look E 2=.ptr 1 0)(e3:Abs.look E 3=.ptr 2 0)(hs:Vw (bS s)=Iv (bS s) [q,c,f,k] ns b):vc Tryz.prog (eL a0 a1) Es Y abi ⟨Zr 94 E,m⟩ Q:=by
 have nk:1<m.boxes.length:=zE
 have oy:0<m.boxes.length:=zE
 have fM:(dJ [q,c,f,k] ns [] eB).ki=k:=rfl;have r3:(Qg m.boxes 2).drop 3=I k::(bT (dJ [q,c,f,k] ns [] eB) .nil).drop 4:=by rw[h2];rfl
 unfold abi;unfold Iv at hs;have hg:[q,c,f,k].getD 3 0=k:=rfl;rw[hg]at hs;by_cases k3:k=3
 ·subst k3;rw[if_pos rfl]at hs;unfold rd3 at hs;cases hr:tE (bS s) b with
  |none=>
   rw[hr]at hs;simp[e0,e2,e3,r3,Es];refine .inr ⟨1,?_⟩;simp[IN,IM,e0];exact Qbd hb hsz h0 hr (hQ.wire _ _ hs)
  |some x=>
   obtain⟨n,d⟩:=x;rw[hr]at hs;simp only at hs;obtain⟨-,q2,-,q4⟩:=Qao (Qed s) hr;rw[Yu]at q4;simp[e0,e2,e3,r3,Es];refine .inl (Qcw hb hsz oy h0 hr ?_);by_cases hc:n<0\/7<n
   ·rw[if_pos hc]at hs;by_cases eO:n<0
    ·simp[eO,eL];refine⟨1,?_⟩;simp[IN,IM,eL];exact hQ.rep _ _ hs
    have hn7:7<n:=zE
    simp[eO,hn7,eL];refine⟨1,?_⟩;simp[IN,IM,eL];exact hQ.rep _ _ hs
   rw[if_neg hc]at hs;have eO:¬n<0:=zE
   have hn7:¬7<n:=zE
   simp[eO,hn7]
   refine Qj MW (fun f' mm=>∃(al:List Sp)(a:Nat)(rt:Rt),(al.length:Int)<=n/\f' 59=I al.length/\a<=s.size/\2<mm.boxes.length/\Qg mm.boxes 0=[.str s,I a]/\Qg mm.boxes 1=bT z .nil/\Qg mm.boxes 2=bT (dJ [q,c,f,3] ns al eB) rt/\(al=[]/\rt=.nil\/al≠[]/\∃k,rt=.own k 2/\mm.lens[k]?=some al.length)/\
    gq (2*n.toNat) (bS s) d=(gq (2*(n.toNat-al.length)) (bS s) a).map fun x=>(Va al++x.1,x.2)) (fun f' _=>8-(numOf (f' 59)).toNat) ?_ ?_
   ·refine⟨[],d,.nil,by simp;omega,zd,q4,Pi hm,Zg _ oy,?_,?_,.inl ⟨rfl,rfl⟩,by cases gq (2*n.toNat) (bS s) d<;>rfl⟩
    ·show Qg (m.boxes.set 0 _) 1=_;rw[Xl _ zE];exact h1
    show Qg (m.boxes.set 0 _) 2=_;rw[Xl _ zE];exact h2
   rintro f' mm ⟨al,a,rt,fk,f59,ha,eE,g0,g1,g2,bk,hR⟩;by_cases aa:(al.length:Int)<n
   ·obtain⟨j,hj⟩:∃j,2*(n.toNat-al.length)=j+1+1:=⟨2*(n.toNat-al.length)-2,zE⟩;rw[hj,gq]at hR;cases lG:tE (bS s) a with
    |none=>
     rw[lG]at hR;have ef:Vw (bS s)=.wire:=by rw[hs,hR];rfl
     simp[f59,aa,MW,e0,e2,e3,Es];refine .inr ⟨1,?_⟩;simp[IN,IM,e0,e2,e3];exact Qbd ha hsz g0 lG (hQ.wire _ _ ef)
    |some x1=>
     obtain⟨x1,a1⟩:=x1;rw[lG]at hR;simp only at hR;obtain⟨-,p2,-,p4⟩:=Qao (Qed s) lG;rw[Yu]at p4;rw[gq]at hR;simp[f59,aa,MW,e0,e2,e3,Es];refine .inl (Qcw ha hsz zE g0 lG ?_);have hg0:∀v y,Qg (mm.boxes.set 0 v++[y]) 0=v:=fun v y=>by rw[Qk (by simp;omega),Zg _ zE]
     cases gX:tE (bS s) a1 with
     |none=>
      rw[gX]at hR;have ef:Vw (bS s)=.wire:=by rw[hs,hR];rfl
      simp[e0,e2,e3];refine .inr ⟨1,?_⟩;simp[IN,IM,e0,e2,e3];exact Qbd p4 hsz (hg0 _ _) gX (hQ.wire _ _ ef)
     |some x2=>
      obtain⟨x2,a2⟩:=x2;rw[gX]at hR;simp only at hR;obtain⟨-,p2',-,p4'⟩:=Qao (Qed s) gX;rw[Yu]at p4'
      have hX:∀w y z,(mm.boxes.set 0 w++[y]).set mm.boxes.length z=mm.boxes.set 0 w++[z]:=fun w y z=>by
       rw[zzcy _ _ zd];simp
      have hX0:∀w y z,(mm.boxes.set 0 w++[y]).set 0 z=mm.boxes.set 0 z++[y]:=fun w y z=>by
       rw[List.set_append_left _ _ (by simp;omega),List.set_set]
      have hL:∀w y,Qg (mm.boxes.set 0 w++[y]) mm.boxes.length=y:=fun w y=>by
       have:=Zk (mm.boxes.set 0 w) [y] 0;rw[zzcm]at this;simpa using this
      have g2':∀w y,Qg (mm.boxes.set 0 w++[y]) 2=bT (dJ [q,c,f,3] ns al eB) rt:=fun w y=>by rw[Qk (Pi eE),Xl _ zE];exact g2
      have hna:(dJ [q,c,f,3] ns al eB).nw.al=al:=rfl;have Bn:IntKind.i64.wrap ((al.length:Int)+1)=(al.length:Int)+1:=by rw[Qi]<;>omega
      have g12:∀w y,(Qg (mm.boxes.set 0 w++[y]) 2).drop 12=.sl rt (al.map Qe)::(bT (dJ [q,c,f,3] ns al eB) rt).drop 13:=fun w y=>by rw[g2'];rfl
      have MH:∀w y,(Qg (mm.boxes.set 0 w++[y]) 2).length=26:=fun w y=>by rw[g2'];rfl
      have fin:∀(w y:PQ)(k:Nat)(X:X2),X=(al++[(x1,x2)]).map Qe->
        Qg ((mm.boxes.set 0 w++[y]).set 2 ((Qg (mm.boxes.set 0 w++[y]) 2).set 12 (.sl (.own k 2) X))) 0=w/\
        Qg ((mm.boxes.set 0 w++[y]).set 2 ((Qg (mm.boxes.set 0 w++[y]) 2).set 12 (.sl (.own k 2) X))) 1=bT z .nil/\
        Qg ((mm.boxes.set 0 w++[y]).set 2 ((Qg (mm.boxes.set 0 w++[y]) 2).set 12 (.sl (.own k 2) X))) 2=bT (dJ [q,c,f,3] ns (al++[(x1,x2)]) eB) (.own k 2):=fun w y k X hX=>by
       subst hX;refine⟨?_,?_,?_⟩
       ·rw[Xl _ zE];exact hg0 _ _
       ·rw[Xl _ zE,Qk (by simp;omega),Xl _ zE];exact g1
       rw[Zg _ (by simp;omega),g2'];rfl
      have XG:gq (2*n.toNat) (bS s) d=(gq (2*(n.toNat-(al++[(x1,x2)]).length)) (bS s) a2).map fun x=>(Va (al++[(x1,x2)])++x.1,x.2):=by
       rw[hR,show 2*(n.toNat-(al++[(x1,x2)]).length)=j by simp;omega,Ci];cases gq j (bS s) a2<;>simp[Va]
      simp[e0,e2,e3];refine .inl (Qcw p4 hsz zd (hg0 _ _) gX ?_);simp[e0,e2,e3,hX,hX0,hL,g12,MH,Bn];obtain⟨rfl,rfl⟩|⟨aJ,k,rfl,zk⟩:=bk
      ·simp[MH];obtain⟨t2,t3,t4⟩:=fin [.str s,I a2] [I x1,I x2] mm.lens.length [[I x1,I x2]] rfl;refine⟨zE,ag ?_,[(x1,x2)],by simp at aa |-;omega,zd,a2,p4',zE,t2,t3,.own mm.lens.length 2,t4,.inr ⟨zd,_,rfl,zd⟩,XG⟩;repeat(first|exact Qb _ _|refine Qc _ rfl ?_)
      simp[MH];obtain⟨t2,t3,t4⟩:=fin [.str s,I a2] [I x1,I x2] k (al.map Qe++[[I x1,I x2]]) (by simp[Qe]);have sM:=(zza.1 zk).1;refine⟨⟨zk,?_,zE⟩,zE,aR,⟨al++[(x1,x2)],by simp;omega,zd,a2,p4',zE,t2,t3,.own k 2,t4,.inr ⟨zd,_,rfl,by simp[sM]⟩,XG⟩,zE⟩
      ·rintro row (⟨u,v,_,rfl⟩|rfl)<;>rfl
   have e0':n.toNat-al.length=0:=zE
   rw[e0',Nat.mul_zero,gq]at hR;simp only[zzcf,zzas]at hR;rw[hR]at hs;simp only[sr]at hs;simp[f59,aa,MW];exact Et hQ (o:=dJ [q,c,f,3] ns al eB) (rt:=rt) (e:=a) (z:=z) _ _ eE g0 g1 g2 (by simp[e0]) (by simp[e2]) (by simp[e3]) hs
 rw[if_neg k3]at hs;by_cases k5:k=5
 ·subst k5;rw[if_pos rfl]at hs;unfold rd5 at hs;cases hr:uo (bS s) b with
  |none=>
   rw[hr]at hs;simp[e0,e2,e3,r3,Es];refine .inr ⟨1,?_⟩;simp[IN,IM,e0];exact aaY hb hsz h0 hr (hQ.wire _ _ hs)
  |some x=>
   obtain⟨t,e⟩:=x;rw[hr]at hs;have azz:(Qg m.boxes 2).length=26:=by rw[h2];rfl
   simp[e0,e2,e3,r3,Es];refine .inl (agm hb hsz oy h0 hr ?_);have g2:∀v,Qg (m.boxes.set 0 v) 2=bT (dJ [q,c,f,5] ns [] eB) .nil:=fun v=>by rw[Xl _ zE];exact h2
   simp[g2,hm];refine⟨by simp[bT],Et hQ (o:=dJ [q,c,f,5] ns [] (fq t)) (rt:=.nil) (e:=e) (z:=z) _ _ ?_ ?_ ?_ ?_ (by simp[e0]) (by simp[e2]) (by simp[e3]) hs⟩
   ·simpa using hm
   ·show Qg ((m.boxes.set 0 _).set 2 _) 0=_;rw[Xl _ zE,Zg _ oy]
   ·show Qg ((m.boxes.set 0 _).set 2 _) 1=_;rw[Xl _ zE,Xl _ zE];exact h1
   show Qg ((m.boxes.set 0 _).set 2 _) 2=_;rw[Zg _ (Pi hm)];rfl
 rw[if_neg k5]at hs;simp[e0,e2,e3,r3,k3,k5];exact Et hQ _ _ hm h0 z h1 h2 (by simp[e0]) (by simp[e2]) (by simp[e3]) hs
def agI{a0 a1:Addr}{Y:YT}{s:ByteArray}{Q:T5}(hQ:OrQ a0 a1 (bS s) Q)(hsz:s.size<=1000000){b:Nat}{q c f k:Int}(hr:gq 4 (bS s) 0=some ([q,c,f,k],b))(hb:b<=s.size)(E:R0)(m:AM)(hm:2<m.boxes.length)(h0:Qg m.boxes 0=[.str s,I b])(z:Od)(h1:Qg m.boxes 1=bT z .nil)(h2:Qg m.boxes 2=bT (dJ [q,c,f,k] [] [] eB) .nil)
  (e0:Abs.look E 0=.ptr 0 0)(e2:Abs.look E 2=.ptr 1 0)(e3:Abs.look E 3=.ptr 2 0):vc Tryz.prog (eL a0 a1) Es Y abj ⟨Zr 94 E,m⟩ Q:=by
 have nk:1<m.boxes.length:=zE
 have oy:0<m.boxes.length:=zE
 have r3:(Qg m.boxes 2).drop 3=I k::(bT (dJ [q,c,f,k] [] [] eB) .nil).drop 4:=by rw[h2];rfl
 have r0:Qg m.boxes 2=I q::I c::I f::I k::(bT (dJ [q,c,f,k] [] [] eB) .nil).drop 4:=by rw[h2];rfl
 have hS:Vw (bS s)=if k<1\/5<k then .rep else match gq (Yg k) (bS s) b with
  |none=>.wire
  |some (ns,b)=>Iv (bS s) [q,c,f,k] ns b:=by unfold Vw;rw[hr];rfl
 unfold abj;by_cases hk:k<1\/5<k
 ·rw[if_pos hk]at hS;by_cases dF:k<1
  ·simp[e0,e2,e3,r3,dF,eL];refine⟨1,?_⟩;simp[IN,IM,eL];exact hQ.rep _ _ hS
  have hk5:5<k:=zE
  simp[e0,e2,e3,r3,dF,hk5,eL];refine⟨1,?_⟩;simp[IN,IM,eL];exact hQ.rep _ _ hS
 rw[if_neg hk]at hS;have dF:¬k<1:=zE
 have hk5:¬5<k:=zE
 have oU:=abk hk;simp[e0,e2,e3,r3,dF,hk5,Es];refine Iz hk r0 ?_;simp;generalize hp:m.boxes.length=p at*
 refine Qj MV (fun f' mm=>∃(ns:P2)(a:Nat),ns.length<=Yg k/\f' 36=I ns.length/\a<=s.size/\p<mm.boxes.length/\Qg mm.boxes 0=[.str s,I a]/\Qg mm.boxes 1=bT z .nil/\Qg mm.boxes 2=bT (dJ [q,c,f,k] ns [] eB) .nil/\Qg mm.boxes p=(u6 k).map (fun o=>.ptr 2 o)/\
  gq (Yg k) (bS s) b=(gq (Yg k-ns.length) (bS s) a).map fun x=>(ns++x.1,x.2)) (fun f' _=>9-(numOf (f' 36)).toNat) ?_ ?_
 ·refine⟨[],b,zd,zd,hb,by simp[hp],?_,?_,?_,?_,by cases gq (Yg k) (bS s) b<;>rfl⟩
  ·show Qg (m.boxes++_) 0=_;rw[Qk zE];exact h0
  ·show Qg (m.boxes++_) 1=_;rw[Qk zE];exact h1
  ·show Qg (m.boxes++_) 2=_;rw[Qk zE];exact h2
  show Qg (m.boxes++_) p=_;have:=Zk m.boxes [(u6 k).map fun o=>AV.ptr 2 o] 0;rw[hp]at this;simpa using this
 rintro f' mm ⟨ns,a,hns,f36,ha,eE,g0,g1,g2,gp,hR⟩;have hc8:Yg k<=8:=by unfold Yg;(repeat' split)<;>omega
 by_cases aa:ns.length<Yg k
 ·have bK:(ns.length:Int)<((u6 k).length:Int):=zE
  obtain⟨j,hj⟩:∃j,Yg k-ns.length=j+1:=⟨Yg k-ns.length-1,zE⟩;rw[hj,gq]at hR
  have hgp:(Qg mm.boxes p).drop ns.length=.ptr 2 ((u6 k).getD ns.length 0)::(Qg mm.boxes p).drop (ns.length+1):=by
   rw[gp,zzaf (by simp;omega)];simp[List.getD,zzad (show ns.length<(u6 k).length by omega)]
  have azA:(u6 k).getD ns.length 0<26:=by
   have h:=zzad (show ns.length<(u6 k).length by omega);rw[List.getD,h];exact agG _ (zzdg _)
  have kK:(Qg mm.boxes p).length=(u6 k).length:=by rw[gp,zzbu]
  generalize hof:(u6 k).getD ns.length 0=of at*
  cases lG:tE (bS s) a with
  |none=>
   rw[lG]at hR;have ef:Vw (bS s)=.wire:=by rw[hS,hR];rfl
   simp[f36,bK,MV,e0,e2,e3,hgp,kK,eE,Es];refine .inr ⟨2,?_⟩;simp[IN,IM,e0,e2,e3];exact Qbd ha hsz g0 lG (hQ.wire _ _ ef)
  |some x=>
   obtain⟨n,a2⟩:=x;rw[lG]at hR;simp only at hR;obtain⟨-,p2,-,p4⟩:=Qao (Qed s) lG;rw[Yu]at p4;have Bn:IntKind.i64.wrap ((ns.length:Int)+1)=(ns.length:Int)+1:=by rw[Qi]<;>omega
   simp[f36,bK,MV,e0,e2,e3,hgp,kK,eE,Es,Bn];refine .inl (Qcw ha hsz zE g0 lG ?_);have g2':∀v,Qg (mm.boxes.set 0 v) 2=bT (dJ [q,c,f,k] ns [] eB) .nil:=fun v=>by rw[Xl _ zE];exact g2
   have MH:∀v,(Qg (mm.boxes.set 0 v) 2).length=26:=fun v=>by rw[g2'];rfl
   have an5:2<mm.boxes.length:=zE
   have ai:=an4 (q:=q) (c:=c) (f:=f) (ns:=ns) (n:=n) hk rfl aa;rw[hof]at ai;simp[MH,an5,Bn];refine⟨zE,aR,⟨ns++[n],by simp;omega,zd,a2,p4,?_,?_,?_,?_,?_,?_⟩,zE⟩
   ·simpa using eE
   ·show Qg ((mm.boxes.set 0 _).set 2 _) 0=_;rw[Xl _ zE,Zg _ zE]
   ·show Qg ((mm.boxes.set 0 _).set 2 _) 1=_;rw[Xl _ zE,Xl _ zE];exact g1
   ·show Qg ((mm.boxes.set 0 _).set 2 _) 2=_;rw[Zg _ (by simp;omega),g2'];exact ai
   ·show Qg ((mm.boxes.set 0 _).set 2 _) p=_;rw[Xl _ zE,Xl _ zE];exact gp
   rw[hR,show Yg k-(ns++[n]).length=j by simp;omega];cases gq j (bS s) a2<;>simp
 have bK:¬(ns.length:Int)<((u6 k).length:Int):=zE
 rw[show Yg k-ns.length=0 by omega,gq]at hR;simp only[zzcf,zzas]at hR;rw[hR]at hS;simp only at hS;simp[f36,bK,MV,e0,e2,e3];exact agH hQ hsz hk ha _ _ zE g0 z g1 g2 (by simp[e0]) (by simp[e2]) (by simp[e3]) hS
def zf{a0 a1:Addr}{Y:YT}{s:ByteArray}{Q:T5}(hQ:OrQ a0 a1 (bS s) Q)(hsz:s.size<=1000000):vc Tryz.prog (eL a0 a1) Es Y abO ⟨Zr 94 (mP 0 [.ptr 0 0]),⟨[[.str s,I 0]],[],fun _=>.gone,0⟩⟩ Q:=by
 rw[agF];simp[Es]
 refine Qj MU (fun f' mm=>∃(hs:P2)(a:Nat),hs.length<=4/\f' 16=I hs.length/\a<=s.size/\3<mm.boxes.length/\Qg mm.boxes 0=[.str s,I a]/\Qg mm.boxes 1=bT (dJ [] [] [] eB) .nil/\Qg mm.boxes 2=bT (dJ hs [] [] eB) .nil/\Qg mm.boxes 3=[.ptr 2 0,.ptr 2 1,.ptr 2 2,.ptr 2 3]/\
   gq 4 (bS s) 0=(gq (4-hs.length) (bS s) a).map fun x=>(hs++x.1,x.2)) (fun f' _=>5-(numOf (f' 16)).toNat) ?_ ?_
 ·refine⟨[],0,zd,zd,zE,zd,rfl,rfl,rfl,rfl,by cases gq 4 (bS s) 0<;>rfl⟩
 rintro f' mm ⟨hs,a,hns,f16,ha,eE,g0,g1,g2,gp,hR⟩;by_cases aa:hs.length<4
 ·have bK:(hs.length:Int)<4:=zE
  obtain⟨j,hj⟩:∃j,4-hs.length=j+1:=⟨3-hs.length,zE⟩;rw[hj]at hR
  conv at hR=>rhs;rw[gq]
  have hgp:(Qg mm.boxes 3).drop hs.length=.ptr 2 hs.length::(Qg mm.boxes 3).drop (hs.length+1):=by
   rw[gp]
   match hs.length,aa with
   |0,_=>rfl
   |1,_=>rfl
   |2,_=>rfl
   |3,_=>rfl
  have kK:(Qg mm.boxes 3).length=4:=by rw[gp];rfl
  cases lG:tE (bS s) a with
  |none=>
   rw[lG]at hR;have ef:Vw (bS s)=.wire:=by unfold Vw;rw[hR];rfl
   simp[f16,bK,MU,hgp,kK,eE,Es];refine .inr ⟨2,?_⟩;simp[IN,IM];exact Qbd ha hsz g0 lG (hQ.wire _ _ ef)
  |some x=>
   obtain⟨n,a2⟩:=x;rw[lG]at hR;simp only at hR;obtain⟨-,p2,-,p4⟩:=Qao (Qed s) lG;rw[Yu]at p4;have Bn:IntKind.i64.wrap ((hs.length:Int)+1)=(hs.length:Int)+1:=by rw[Qi]<;>omega
   simp[f16,bK,MU,hgp,kK,eE,Es,Bn];refine .inl (Qcw ha hsz zE g0 lG ?_);have g2':∀v,Qg (mm.boxes.set 0 v) 2=bT (dJ hs [] [] eB) .nil:=fun v=>by rw[Xl _ zE];exact g2
   have MH:∀v,(Qg (mm.boxes.set 0 v) 2).length=26:=fun v=>by rw[g2'];rfl
   have an5:2<mm.boxes.length:=zE
   have ai:=an3 (h:=hs) (n:=n) rfl aa;simp[MH,an5,Bn];refine⟨zE,aR,⟨hs++[n],by simp;omega,zd,a2,p4,?_,?_,?_,?_,?_,?_⟩,zE⟩
   ·simpa using eE
   ·show Qg ((mm.boxes.set 0 _).set 2 _) 0=_;rw[Xl _ zE,Zg _ zE]
   ·show Qg ((mm.boxes.set 0 _).set 2 _) 1=_;rw[Xl _ zE,Xl _ zE];exact g1
   ·show Qg ((mm.boxes.set 0 _).set 2 _) 2=_;rw[Zg _ (by simp;omega),g2'];exact ai
   ·show Qg ((mm.boxes.set 0 _).set 2 _) 3=_;rw[Xl _ zE,Xl _ zE];exact gp
   rw[hR,show 4-(hs++[n]).length=j by simp;omega];cases gq j (bS s) a2<;>simp
 have bK:¬(hs.length:Int)<4:=zE
 rw[show 4-hs.length=0 by omega]at hR
 conv at hR=>rhs;rw[gq]
 simp only[zzcf,zzas]at hR;simp[f16,bK,MU]
 match hs,(show hs.length=4 by omega)with
 |[q,c,f,k],_=>exact agI hQ hsz hR ha _ _ zE g0 _ g1 g2 zd zd zd
def kj(ob:Nat)(k:Int):PP:=((u6 k).map fun o=>Value.pointer (some ⟨ob,o,none⟩)).toArray
def zg(ob:Nat)(arr:PP)(w:World)(k:Int)(hk:¬(k<1\/5<k))(hb:w.heap[ob]?=some (.cells arr 30 (0,0)))(h3:arr[3]?=some (.int .i64 k))(hs:26<=arr.size):
  Calls Tryz.prog 25 #[.pointer (some ⟨ob,0,none⟩)] w fun e w'=>e=.returned (.slice (some ⟨w.heap.size,0,none⟩) (u6 k).length (u6 k).length)/\w'.heap[w.heap.size]?=some (.cells (kj ob k) 83 (0,0))/\Below w.heap.size w w':=by
 have mixed:Tryz.prog.follows Departure.mixedOrders=true:=by kernel_rfl
 have c3:w.cell? ⟨ob,3,none⟩=some (.int .i64 k):=by rw[Lib.cell_of_heap hb];exact h3
 rcases(show k=1\/k=2\/k=3\/k=4\/k=5 by omega)with rfl|rfl|rfl|rfl|rfl
 ·go_enter Tryz.func25,Tryz.ntmps25
  go_wp2
  go_region_o
  go_wp2
  go_ret
  exact⟨rfl,heap_alloc_new w _,((Below.refl _ w).alloc (zzaa _) _).drew⟩
 ·go_enter Tryz.func25,Tryz.ntmps25
  go_wp2
  go_ret
  exact⟨rfl,heap_alloc_new w _,((Below.refl _ w).alloc (zzaa _) _)⟩
 ·go_enter Tryz.func25,Tryz.ntmps25
  go_wp2
  go_region_o
  go_wp2
  go_ret
  exact⟨rfl,heap_alloc_new w _,((Below.refl _ w).alloc (zzaa _) _).drew⟩
 ·go_enter Tryz.func25,Tryz.ntmps25
  go_wp2
  go_region_o
  go_wp2
  go_ret
  exact⟨rfl,heap_alloc_new w _,((Below.refl _ w).alloc (zzaa _) _).drew⟩
 go_enter Tryz.func25,Tryz.ntmps25
 go_wp2
 go_region_o
 go_wp2
 go_ret
 exact⟨rfl,heap_alloc_new w _,((Below.refl _ w).alloc (zzaa _) _).drew⟩
def abl:Code->Code
 |.seq _ b=>b
 |c=>c
def sx(w:World)(o1 o2:Obj):((w.alloc o1).alloc o2).heap.size=w.heap.size+2/\((w.alloc o1).alloc o2).heap[w.heap.size]?=some o1/\((w.alloc o1).alloc o2).heap[w.heap.size+1]?=some o2/\Below w.heap.size w ((w.alloc o1).alloc o2):=by
 have h1:∀(w:World)(o:Obj),(w.alloc o).heap=w.heap.push o:=fun _ _=>rfl;refine⟨by rw[h1,h1];simp,by rw[h1,h1];simp[Array.getElem?_push],by rw[h1,h1,show w.heap.size+1=(w.heap.push o1).size by simp,zzek],((Below.refl _ w).alloc (zzaa _) _).alloc (by rw[h1];simp) _⟩
def Qdt{w:World}{k:Nat}{o:Obj}(h:w.heap[k]?=some o):k<w.heap.size:=by
 rcases zzab k w.heap.size with h'|h'
 ·exact h'
 simp[zzbt h']at h
def Bld.lt{B b:Nat}{bs:PH}{v:Value}{w:World}(h:Bld B b bs v w):b<w.heap.size:=by
 obtain⟨p,hp,SB,lJ,cq,aJ⟩:=h;exact Qdt lJ
def Bld.mono{B b:Nat}{bs:PH}{v:Value}{w w':World}(h:Bld B b bs v w)(hb:Below w.heap.size w w'):Bld B b bs v w':=by
 obtain⟨p,hp,SB,lJ,cq,aJ⟩:=h;refine⟨p,hp,SB,by rw[hb.block b (Qdt lJ)];exact lJ,?_,aJ⟩;exact cq.kept (row:=none) ⟨hb.os,hb.tape,hb.output,hb.size,fun k hk _=>hb.block k hk⟩ (by cases h:v.ownBlock with|none=>exact .inl rfl|some k=>exact .inr zd)
def eV(b:Nat)(w0:World)(ks:List (Nat×PP×TypeId))(c:Nat)(l:P1)(W:World):Prop:=
 l.length<=9*c/\∃v,Bld b b (Lib.strCells (fq l)) v W/\Below b w0 W/\b<=W.heap.size/\∀x∈ks,x.1≠b/\x.2.2≠5/\W.heap[x.1]?=some (.cells x.2.1 x.2.2 (0,0))
def qw(l m:P1):Lib.strCells (fq l)++Lib.strCells (fq m)=Lib.strCells (fq (l++m)):=by
 simp[Lib.strCells,fq]
def eV.own{b:Nat}{w0:World}{ks:List (Nat×PP×TypeId)}{c:Nat}{l:P1}{W:World}(h:eV b w0 ks c l W){W':World}(hb:Below W.heap.size W W'):eV b w0 ks c l W':=by
 obtain⟨hc,v,h1,h2,h3,h4⟩:=h;exact⟨hc,v,h1.mono hb,h2.trans (hb.mono h3),zzb h3 hb.size,fun x hx=>⟨(h4 x hx).1,(h4 x hx).2.1,(hb.block _ (Qdt (h4 x hx).2.2)).trans (h4 x hx).2.2⟩⟩
def eV.more{b:Nat}{w0:World}{ks:List (Nat×PP×TypeId)}{c:Nat}{l:P1}{W:World}(h:eV b w0 ks c l W)(x:Nat×PP×TypeId)(h1:x.1≠b)(h2:x.2.2≠5)(h3:W.heap[x.1]?=some (.cells x.2.1 x.2.2 (0,0))):eV b w0 (x::ks) c l W:=by
 obtain⟨hc,v,g1,g2,g3,g4⟩:=h;refine⟨hc,v,g1,g2,g3,fun y hy=>?_⟩;rcases zzao.1 hy with rfl|hy
 ·exact⟨h1,h2,h3⟩
 exact g4 y hy
def Pp{w:World}{γ:Abs.G}{t:ByteArray}{v:Value}(h:Abs.au w γ (.aQ [.str t,.int .i64 0]) v):v=.tuple #[.string t,.int .i64 0]:=by
 cases h with
 |aQ hl hc=>
  rename_i arr;have hz:arr.size=2:=hl.symm;have c0:=hc 0 _ arr[0] rfl zd;have c1:=hc 1 _ arr[1] rfl zd
  have:arr=#[arr[0],arr[1]]:=by
   refine Array.ext (by simp[hz]) fun i h1 h2=>?_
   match i,h2 with
   |0,_=>rfl
   |1,_=>rfl
  rw[this];cases h0:arr[0]<;>rw[h0]at c0<;>cases c0;cases h1:arr[1]<;>rw[h1]at c1<;>cases c1;rfl
def SD{n:Int}(hn:Abs.bA n)(w:World):Calls Tryz.prog 23 #[.int .i64 n] w fun e w'=>e=.returned (.tuple #[.string (fq (Abs.aU n)),.int .i64 0])/\Below w.heap.size w w':=by
 refine Calls.mono ((tG (gl:=fun _=>.junk) hn).2 (fun _ _=>False) w [.int .i64 n] (fun g=>.junk _) ⟨rfl,fun i a v ha hv=>?_⟩) ?_
 ·match i,ha,hv with
  |0,ha,hv=>cases ha;cases hv;exact .int _ _
  |i+1,ha,hv=>simp at ha
 rintro e w' ⟨v,rfl,h1,h2⟩;exact⟨by rw[Pp h2];rfl,h1⟩
def Ug{b:Nat}{w0:World}{ks:List (Nat×PP×TypeId)}{c:Nat}{l:P1}{W:World}(h:eV b w0 ks c l W){n:Int}(hn:Abs.bA n)(hl:c<=1000):
  Calls Tryz.prog 22 #[.int .i64 n,.pointer (some ⟨b,0,none⟩)] W fun e W'=>e=.returned (.tuple #[])/\eV b w0 ks (c+1) (l++Abs.aU n) W':=by
 obtain⟨hc,v,g1,g2,g3,g4⟩:=h;have h9:=qt 9 (Abs.uq n);have hz:=Qbe (Abs.aU n);refine(auE b b _ _ n _ W g1 g3 (by rw[hz,Lib.strCells_length,Qbe];unfold Abs.aU;omega) (fun w=>SD hn w)).mono ?_;rintro e W' ⟨rfl,v',q1,q2,q3⟩;rw[qw]at q1;refine⟨rfl,by rw[zzah];unfold Abs.aU;omega,v',q1,g2.trans q2,zzb g3 q2.size,fun x hx=>⟨(g4 x hx).1,(g4 x hx).2.1,?_⟩⟩;obtain⟨p,hp,SB,lJ,cq,aJ⟩:=g1;have hx3:=(g4 x hx).2.2;exact(q3 _ (Qdt hx3) (g4 x hx).1 (Lib.ownBlock_ne cq hx3 (g4 x hx).2.1)).trans hx3
def zG(o:Od)(sl:Value):PP:=#[.int .i64 o.sq,.int .i64 o.ch,.int .i64 o.fr,.int .i64 o.ki,.int .i64 o.en,.int .i64 o.n,.int .i64 o.nw.id,.int .i64 o.nw.it,.int .i64 o.nw.fr,.int .i64 o.nw.ea,.int .i64 o.nw.la,.int .i64 o.nw.bo,sl,.int .i64 o.cl.ki,.int .i64 o.cl.it,.int .i64 o.cl.fr,.int .i64 o.cl.to,.int .i64 o.cl.re,.int .i64 o.cl.n,.int .i64 o.cl.a,.int .i64 o.cl.b,.int .i64 o.cu.id,.int .i64 o.cu.fr,.int .i64 o.cu.to,.int .i64 o.cu.pr,.string o.cu.tx]
def eV.cell{b:Nat}{w0:World}{ks:List (Nat×PP×TypeId)}{c:Nat}{l:P1}{W:World}(h:eV b w0 ks c l W){k:Nat}{a:PP}{t:TypeId}(hx:(k,a,t)∈ks)(i:Nat):W.cell? ⟨k,i,none⟩=a[i]?:=by
 obtain⟨hc,v,g1,g2,g3,g4⟩:=h;rw[Lib.cell_of_heap (g4 _ hx).2.2]
def eV.at{b:Nat}{w0:World}{ks:List (Nat×PP×TypeId)}{c:Nat}{l:P1}{W:World}(h:eV b w0 ks c l W){k:Nat}{a:PP}{t:TypeId}(hx:(k,a,t)∈ks):W.heap[k]?=some (.cells a t (0,0)):=by
 obtain⟨hc,v,g1,g2,g3,g4⟩:=h;exact(g4 _ hx).2.2
def Qaz{b:Nat}{w0:World}{ks:List (Nat×PP×TypeId)}{c:Nat}{l:P1}{W:World}(h:eV b w0 ks c l W)(hl:l≠[]):
  Calls Tryz.prog 27 #[.pointer (some ⟨b,0,none⟩)] W fun e W'=>e=.returned (.string (fq l))/\Below b w0 W':=by
 obtain⟨hc,v,g1,g2,g3,g4⟩:=h
 refine(abc b b (l.map UInt8.ofNat) v W (by
  have:Lib.strCells (fq l)=Lib.byteCells (l.map UInt8.ofNat):=by simp[Lib.strCells,Lib.byteCells,fq]
  rw[<- this];exact g1) (Pi hl)).mono ?_
 rintro e W' ⟨rfl,hb⟩;exact⟨rfl,g2.trans hb⟩
def lE(n:Int):Abs.aU n≠[]:=by
 unfold Abs.aU Abs.zF;split<;>simp
def tJ:Code:=abl (abl (Tryz.f8.body.getD .skip))
def SE(Q:QR)(ob:Nat)(o:Od)(sl:Value)(x0 Ao Ap Aq Ar:Value)(w:World)(hk:¬(o.ki<1\/5<o.ki))(hn:∀n∈dI o,Abs.bA n)(eP:∀n∈cK o,Abs.bA n)
  (qx:w.heap[ob]?=some (.cells (zG o sl) 30 (0,0)))(abm:o.ki=1\/o.ki=2\/o.ki=4)
  (hQ:∀(tm:PP)w',tm.getD 2 undef=.string (fq (Zw o))->tm.getD 3 undef=.int .i64 0->Below w.heap.size w w'->Q .ret ⟨tm,[]⟩ w'):
  Code.wp Tryz.prog tJ Q ⟨#[x0,.pointer (some ⟨ob,0,none⟩),.string ⟨#[]⟩,.int .i64 0,undef,undef,undef,undef,undef,undef,undef,undef,undef,Ao,Ap,Aq,Ar,undef,undef,undef,undef,undef,undef,undef,undef,undef,undef,undef,undef,undef,undef,undef,undef,undef,undef,undef,undef,undef,undef,undef,undef,undef,undef,undef,undef,undef,undef,undef,undef,undef,undef,undef,undef,undef,undef,undef,undef,undef,undef,undef,undef,undef,undef,undef,undef,undef,undef,undef,undef,undef,undef,undef,undef,undef,undef,undef,undef,undef,undef,undef,undef,undef,undef,undef,undef,undef,undef],[]⟩ w:=by
 have mixed:Tryz.prog.follows Departure.mixedOrders=true:=by kernel_rfl
 have aa:ob<w.heap.size:=Qdt qx;have e36:∀args w,(callFunc 22 args).run Tryz.prog w=.ok (.enter 22 args) w:=enters_of Tryz.func22 (by kernel_rfl) rfl;have e39:∀args w,(callFunc 25 args).run Tryz.prog w=.ok (.enter 25 args) w:=enters_of Tryz.func25 (by kernel_rfl) rfl;have e41:∀args w,(callFunc 27 args).run Tryz.prog w=.ok (.enter 27 args) w:=enters_of Tryz.func27 (by kernel_rfl) rfl;have c0:w.cell? ⟨ob,0,none⟩=some (.int .i64 o.sq):=by rw[Lib.cell_of_heap qx];rfl
 have c1:w.cell? ⟨ob,1,none⟩=some (.int .i64 o.ch):=by rw[Lib.cell_of_heap qx];rfl
 have c2:w.cell? ⟨ob,2,none⟩=some (.int .i64 o.fr):=by rw[Lib.cell_of_heap qx];rfl
 have c3:w.cell? ⟨ob,3,none⟩=some (.int .i64 o.ki):=by rw[Lib.cell_of_heap qx];rfl
 dsimp only;simp only[tJ,abl,Tryz.f8,Option.getD]
 go_wp2
 obtain⟨hzW,lJ,iZ,Bs⟩:=sx w (Obj.cells #[Value.pointer none,Value.slice none 0 0] 73) (Obj.cells #[Value.int IntKind.i64 o.sq,Value.int IntKind.i64 o.ch,Value.int IntKind.i64 o.fr,Value.int IntKind.i64 o.ki] 3);have IA:=(Bs.block ob aa).trans qx;clear c0 c1 c2 c3;generalize(w.alloc (Obj.cells #[Value.pointer none,Value.slice none 0 0] 73)).alloc (Obj.cells #[Value.int IntKind.i64 o.sq,Value.int IntKind.i64 o.ch,Value.int IntKind.i64 o.fr,Value.int IntKind.i64 o.ki] 3)=W at*
 generalize w.heap.size=b at*
 have hE:eV b w [(b+1,#[.int .i64 o.sq,.int .i64 o.ch,.int .i64 o.fr,.int .i64 o.ki],3),(ob,zG o sl,30)] 0 [] W:=by
  refine⟨zzaa _,.slice none 0 0,⟨.pointer none,.inl rfl,zzaa _,lJ,World.ownsRow_nil _ _ _ _,by simp[Value.ownBlock]⟩,Bs,zE,fun x hx=>?_⟩;simp only[zzao,zzcn,or_false]at hx;obtain rfl|rfl:=hx
  ·exact⟨zd,zd,iZ⟩
  exact⟨by simp only;omega,zd,IA⟩
 have hnb:ob≠b:=zE
 clear aa lJ hzW iZ IA Bs qx;have d:W.cell? ⟨b+1,0,none⟩=some (.int .i64 o.sq):=hE.cell (.head _) 0;refine wp_loop_rounds 5 ?_;rw[rounds_succ]
 go_wp2_with (go_at_fn 22;refine(Ug hE (hn _ (by simp[dI])) zE).mono ?_)
 rintro e W0 ⟨rfl,hE0⟩;clear d hE;have d:W0.cell? ⟨b+1,1,none⟩=some (.int .i64 o.ch):=hE0.cell (.head _) 1
 go_wp2
 rw[rounds_succ]
 go_wp2_with (go_at_fn 22;refine(Ug hE0 (hn _ (by simp[dI])) zE).mono ?_)
 rintro e W1 ⟨rfl,hE1⟩;clear d hE0;have d:W1.cell? ⟨b+1,2,none⟩=some (.int .i64 o.fr):=hE1.cell (.head _) 2
 go_wp2
 rw[rounds_succ]
 go_wp2_with (go_at_fn 22;refine(Ug hE1 (hn _ (by simp[dI])) zE).mono ?_)
 rintro e W2 ⟨rfl,MI⟩;clear d hE1;have d:W2.cell? ⟨b+1,3,none⟩=some (.int .i64 o.ki):=MI.cell (.head _) 3
 go_wp2
 rw[rounds_succ]
 go_wp2_with (go_at_fn 22;refine(Ug MI (hn _ (by simp[dI])) zE).mono ?_)
 rintro e W3 ⟨rfl,hE3⟩;clear d MI;have d:W3.cell? ⟨b+1,3,none⟩=some (.int .i64 o.ki):=hE3.cell (.head _) 3
 go_wp2
 rw[rounds_succ]
 go_wp2_with (go_at_fn 25;refine(zg ob (zG o sl) _ o.ki hk (hE3.at (.tail _ (.head _))) rfl (zzaa _)).mono ?_)
 rintro e Y ⟨rfl,hpt,hY⟩
 have hF:=(hE3.own hY).more (W3.heap.size,kj ob o.ki,83) (by
  obtain⟨_,v,g1,_⟩:=hE3;have:=g1.lt;simp only;omega) zd hpt
 clear d hE3 hpt hY;generalize W3.heap.size=sp at*
 obtain h1|h1|h1:=abm
 ·have hp:kj ob o.ki=#[.pointer (some ⟨ob,4,none⟩),.pointer (some ⟨ob,5,none⟩)]:=by rw[h1];rfl
  have hl:(u6 o.ki).length=2:=by rw[h1];rfl
  rw[hp]at hF;rw[hl];have d:Y.cell? ⟨sp,0,none⟩=some (.pointer (some ⟨ob,4,none⟩)):=hF.cell (.head _) 0;have d1:Y.cell? ⟨ob,4,none⟩=some (.int .i64 o.en):=hF.cell (.tail _ (.tail _ (.head _))) 4
  go_wp2
  refine wp_loop_rounds 3 ?_;rw[rounds_succ]
  go_wp2_with (go_at_fn 22;refine(Ug hF (eP _ (by simp[cK,h1])) zE).mono ?_)
  rintro e Y0 ⟨rfl,dW⟩;clear d d1 hF;have d:Y0.cell? ⟨sp,1,none⟩=some (.pointer (some ⟨ob,5,none⟩)):=dW.cell (.head _) 1;have d1:Y0.cell? ⟨ob,5,none⟩=some (.int .i64 o.n):=dW.cell (.tail _ (.tail _ (.head _))) 5
  go_wp2
  rw[rounds_succ]
  go_wp2_with (go_at_fn 22;refine(Ug dW (eP _ (by simp[cK,h1])) zE).mono ?_)
  rintro e Y1 ⟨rfl,mA⟩;clear d d1 dW;have d:Y1.cell? ⟨sp,1,none⟩=some (.pointer (some ⟨ob,5,none⟩)):=mA.cell (.head _) 1;have d1:Y1.cell? ⟨ob,3,none⟩=some (.int .i64 1):=by rw[<- h1];exact mA.cell (.tail _ (.tail _ (.head _))) 3
  go_wp2
  rw[rounds_succ]
  go_wp2_with (go_at_fn 27;refine(Qaz mA (zzcv _ (lE _))).mono ?_)
  rintro e Z ⟨rfl,hZ⟩
  go_wp2
  refine hQ _ _ ?_ rfl hZ;have MJ:Zw o=Abs.aU o.sq++(Abs.aU o.ch++(Abs.aU o.fr++(Abs.aU 1++(Abs.aU o.en++(Abs.aU o.n))))):=by simp[Zw,dI,cK,gP,qF,Abs.aT,h1]
  rw[MJ];rfl
 ·have hp:kj ob o.ki=#[.pointer (some ⟨ob,4,none⟩)]:=by rw[h1];rfl
  have hl:(u6 o.ki).length=1:=by rw[h1];rfl
  rw[hp]at hF;rw[hl];have d:Y.cell? ⟨sp,0,none⟩=some (.pointer (some ⟨ob,4,none⟩)):=hF.cell (.head _) 0;have d1:Y.cell? ⟨ob,4,none⟩=some (.int .i64 o.en):=hF.cell (.tail _ (.tail _ (.head _))) 4
  go_wp2
  refine wp_loop_rounds 2 ?_;rw[rounds_succ]
  go_wp2_with (go_at_fn 22;refine(Ug hF (eP _ (by simp[cK,h1])) zE).mono ?_)
  rintro e Y0 ⟨rfl,dW⟩;clear d d1 hF;have d:Y0.cell? ⟨sp,0,none⟩=some (.pointer (some ⟨ob,4,none⟩)):=dW.cell (.head _) 0;have d1:Y0.cell? ⟨ob,3,none⟩=some (.int .i64 2):=by rw[<- h1];exact dW.cell (.tail _ (.tail _ (.head _))) 3
  go_wp2
  rw[rounds_succ]
  go_wp2_with (go_at_fn 27;refine(Qaz dW (zzcv _ (lE _))).mono ?_)
  rintro e Z ⟨rfl,hZ⟩
  go_wp2
  refine hQ _ _ ?_ rfl hZ;have MJ:Zw o=Abs.aU o.sq++(Abs.aU o.ch++(Abs.aU o.fr++(Abs.aU 2++(Abs.aU o.en)))):=by simp[Zw,dI,cK,gP,qF,Abs.aT,h1]
  rw[MJ];rfl
 have hp:kj ob o.ki=#[.pointer (some ⟨ob,13,none⟩),.pointer (some ⟨ob,14,none⟩),.pointer (some ⟨ob,15,none⟩),.pointer (some ⟨ob,16,none⟩),.pointer (some ⟨ob,17,none⟩),.pointer (some ⟨ob,18,none⟩),.pointer (some ⟨ob,19,none⟩),.pointer (some ⟨ob,20,none⟩)]:=by rw[h1];rfl
 have hl:(u6 o.ki).length=8:=by rw[h1];rfl
 rw[hp]at hF;rw[hl];have d:Y.cell? ⟨sp,0,none⟩=some (.pointer (some ⟨ob,13,none⟩)):=hF.cell (.head _) 0;have d1:Y.cell? ⟨ob,13,none⟩=some (.int .i64 o.cl.ki):=hF.cell (.tail _ (.tail _ (.head _))) 13
 go_wp2
 refine wp_loop_rounds 9 ?_;rw[rounds_succ]
 go_wp2_with (go_at_fn 22;refine(Ug hF (eP _ (by simp[cK,h1])) zE).mono ?_)
 rintro e Y0 ⟨rfl,dW⟩;clear d d1 hF;have d:Y0.cell? ⟨sp,1,none⟩=some (.pointer (some ⟨ob,14,none⟩)):=dW.cell (.head _) 1;have d1:Y0.cell? ⟨ob,14,none⟩=some (.int .i64 o.cl.it):=dW.cell (.tail _ (.tail _ (.head _))) 14
 go_wp2
 rw[rounds_succ]
 go_wp2_with (go_at_fn 22;refine(Ug dW (eP _ (by simp[cK,h1])) zE).mono ?_)
 rintro e Y1 ⟨rfl,mA⟩;clear d d1 dW;have d:Y1.cell? ⟨sp,2,none⟩=some (.pointer (some ⟨ob,15,none⟩)):=mA.cell (.head _) 2;have d1:Y1.cell? ⟨ob,15,none⟩=some (.int .i64 o.cl.fr):=mA.cell (.tail _ (.tail _ (.head _))) 15
 go_wp2
 rw[rounds_succ]
 go_wp2_with (go_at_fn 22;refine(Ug mA (eP _ (by simp[cK,h1])) zE).mono ?_)
 rintro e Y2 ⟨rfl,gL⟩;clear d d1 mA;have d:Y2.cell? ⟨sp,3,none⟩=some (.pointer (some ⟨ob,16,none⟩)):=gL.cell (.head _) 3;have d1:Y2.cell? ⟨ob,16,none⟩=some (.int .i64 o.cl.to):=gL.cell (.tail _ (.tail _ (.head _))) 16
 go_wp2
 rw[rounds_succ]
 go_wp2_with (go_at_fn 22;refine(Ug gL (eP _ (by simp[cK,h1])) zE).mono ?_)
 rintro e Y3 ⟨rfl,hF3⟩;clear d d1 gL;have d:Y3.cell? ⟨sp,4,none⟩=some (.pointer (some ⟨ob,17,none⟩)):=hF3.cell (.head _) 4;have d1:Y3.cell? ⟨ob,17,none⟩=some (.int .i64 o.cl.re):=hF3.cell (.tail _ (.tail _ (.head _))) 17
 go_wp2
 rw[rounds_succ]
 go_wp2_with (go_at_fn 22;refine(Ug hF3 (eP _ (by simp[cK,h1])) zE).mono ?_)
 rintro e Y4 ⟨rfl,XY⟩;clear d d1 hF3;have d:Y4.cell? ⟨sp,5,none⟩=some (.pointer (some ⟨ob,18,none⟩)):=XY.cell (.head _) 5;have d1:Y4.cell? ⟨ob,18,none⟩=some (.int .i64 o.cl.n):=XY.cell (.tail _ (.tail _ (.head _))) 18
 go_wp2
 rw[rounds_succ]
 go_wp2_with (go_at_fn 22;refine(Ug XY (eP _ (by simp[cK,h1])) zE).mono ?_)
 rintro e Y5 ⟨rfl,hF5⟩;clear d d1 XY;have d:Y5.cell? ⟨sp,6,none⟩=some (.pointer (some ⟨ob,19,none⟩)):=hF5.cell (.head _) 6;have d1:Y5.cell? ⟨ob,19,none⟩=some (.int .i64 o.cl.a):=hF5.cell (.tail _ (.tail _ (.head _))) 19
 go_wp2
 rw[rounds_succ]
 go_wp2_with (go_at_fn 22;refine(Ug hF5 (eP _ (by simp[cK,h1])) zE).mono ?_)
 rintro e Y6 ⟨rfl,hF6⟩;clear d d1 hF5;have d:Y6.cell? ⟨sp,7,none⟩=some (.pointer (some ⟨ob,20,none⟩)):=hF6.cell (.head _) 7;have d1:Y6.cell? ⟨ob,20,none⟩=some (.int .i64 o.cl.b):=hF6.cell (.tail _ (.tail _ (.head _))) 20
 go_wp2
 rw[rounds_succ]
 go_wp2_with (go_at_fn 22;refine(Ug hF6 (eP _ (by simp[cK,h1])) zE).mono ?_)
 rintro e Y7 ⟨rfl,hF7⟩;clear d d1 hF6;have d:Y7.cell? ⟨sp,7,none⟩=some (.pointer (some ⟨ob,20,none⟩)):=hF7.cell (.head _) 7;have d1:Y7.cell? ⟨ob,3,none⟩=some (.int .i64 4):=by rw[<- h1];exact hF7.cell (.tail _ (.tail _ (.head _))) 3
 go_wp2
 rw[rounds_succ]
 go_wp2_with (go_at_fn 27;refine(Qaz hF7 (zzcv _ (lE _))).mono ?_)
 rintro e Z ⟨rfl,hZ⟩
 go_wp2
 refine hQ _ _ ?_ rfl hZ;have MJ:Zw o=Abs.aU o.sq++(Abs.aU o.ch++(Abs.aU o.fr++(Abs.aU 4++(Abs.aU o.cl.ki++(Abs.aU o.cl.it++(Abs.aU o.cl.fr++(Abs.aU o.cl.to++(Abs.aU o.cl.re++(Abs.aU o.cl.n++(Abs.aU o.cl.a++(Abs.aU o.cl.b))))))))))):=by simp[Zw,dI,cK,gP,qF,Abs.aT,h1]
 rw[MJ];rfl
def abn(y:Nat->Value)(ob b:Nat)(S:Value)(N J:Int)(i:Nat):Value:=if i=1 then .pointer (some ⟨ob,0,none⟩)else if i=4 then .pointer (some ⟨b,0,none⟩)else if i=5 then .func (.func 22) #[] #[.pointer (some ⟨b,0,none⟩)]else if i=60 then S else if i=61 then .int .i64 N else if i=62 then .int .i64 J else y i
def SF(y:Nat->Value)(ob b:Nat)(S:Value)(N J:Int):Act:=⟨((List.range 87).map (abn y ob b S N J)).toArray,[]⟩
theorem IB(y:Nat->Value)(ob b:Nat)(S:Value)(N J:Int):SF y ob b S N J=⟨#[y 0,.pointer (some ⟨ob,0,none⟩),y 2,y 3,.pointer (some ⟨b,0,none⟩),.func (.func 22) #[] #[.pointer (some ⟨b,0,none⟩)],y 6,y 7,y 8,y 9,y 10,y 11,y 12,y 13,y 14,y 15,y 16,y 17,y 18,y 19,y 20,y 21,y 22,y 23,y 24,y 25,y 26,y 27,y 28,y 29,y 30,y 31,y 32,y 33,y 34,y 35,y 36,y 37,y 38,y 39,y 40,y 41,y 42,y 43,y 44,y 45,y 46,y 47,y 48,y 49,y 50,y 51,y 52,y 53,y 54,y 55,y 56,y 57,y 58,y 59,S,.int .i64 N,.int .i64 J,y 63,y 64,y 65,y 66,y 67,y 68,y 69,y 70,y 71,y 72,y 73,y 74,y 75,y 76,y 77,y 78,y 79,y 80,y 81,y 82,y 83,y 84,y 85,y 86],[]⟩:=rfl
def Pq{ob b:Nat}{S:Value}{N J:Int}{T:PP}(hs:T.size=87)(h1:T.getD 1 undef=.pointer (some ⟨ob,0,none⟩))(h4:T.getD 4 undef=.pointer (some ⟨b,0,none⟩))(h5:T.getD 5 undef=.func (.func 22) #[] #[.pointer (some ⟨b,0,none⟩)])(h60:T.getD 60 undef=S)(h61:T.getD 61 undef=.int .i64 N)(h62:T.getD 62 undef=.int .i64 J):
  ∃y,(⟨T,[]⟩:Act)=SF y ob b S N J:=by
 refine⟨fun i=>T.getD i undef,congrArg (fun t=>(⟨t,[]⟩:Act)) (Array.ext (by simp[hs]) fun i g1 g2=>?_)⟩;have hg:T[i]=T.getD i undef:=by simp[g1]
 have hr:(List.map (abn (fun i=>T.getD i undef) ob b S N J) (List.range 87)).toArray[i]=abn (fun i=>T.getD i undef) ob b S N J i:=zd
 refine(hg.trans ?_).trans hr.symm;show T.getD i undef=abn _ ob b S N J i;by_cases e1:i=1
 ·subst e1;exact h1
 by_cases e4:i=4
 ·subst e4;exact h4
 by_cases e5:i=5
 ·subst e5;exact h5
 by_cases e60:i=60
 ·subst e60;exact h60
 by_cases e61:i=61
 ·subst e61;exact h61
 by_cases e62:i=62
 ·subst e62;exact h62
 unfold abn;rw[if_neg e1,if_neg e4,if_neg e5,if_neg e60,if_neg e61,if_neg e62]
def agJ{P:Program}{C:Code}{Q:QR}{W:World}{ob b:Nat}{S:Value}{N J:Int}{T:PP}(hs:T.size=87)(h1:T.getD 1 undef=.pointer (some ⟨ob,0,none⟩))(h4:T.getD 4 undef=.pointer (some ⟨b,0,none⟩))(h5:T.getD 5 undef=.func (.func 22) #[] #[.pointer (some ⟨b,0,none⟩)])(h60:T.getD 60 undef=S)(h61:T.getD 61 undef=.int .i64 N)(h62:T.getD 62 undef=.int .i64 J)
  (h:∀y,Code.wp P C Q (SF y ob b S N J) W):Code.wp P C Q ⟨T,[]⟩ W:=by
 obtain⟨y,hy⟩:=Pq hs h1 h4 h5 h60 h61 h62;rw[hy];exact h y
def eV.less{b:Nat}{w0:World}{x:Nat×PP×TypeId}{ks:List (Nat×PP×TypeId)}{c:Nat}{l:P1}{W:World}(h:eV b w0 (x::ks) c l W):eV b w0 ks c l W:=by
 obtain⟨hc,v,g1,g2,g3,g4⟩:=h;exact⟨hc,v,g1,g2,g3,fun y hy=>g4 y (zzdj _ hy)⟩
def Eu:∀{l:List Sp}{j:Nat}{s:Int×Int},l[j]?=some s->s.1∈Va l/\s.2∈Va l
 |[],j,s,h=>by simp at h
 |a::r,0,s,h=>by
  cases h;exact⟨by simp[Va],by simp[Va]⟩
 |a::r,j+1,s,h=>by
  have:=Eu (l:=r) (j:=j) (s:=s) (Pi h);exact⟨by simp[Va,this.1],by simp[Va,this.2]⟩
def muA(n:Nat)(a:Act):Nat:=match a.tmps.getD 62 undef with
 |.int _ j=>(n-j).toNat
 |_=>0
def SG{ob b:Nat}{S:Value}{N:Int}{T:PP}{n:Nat}{M:Nat}{R:Nat->Nat->P1->Prop}{j' c':Nat}{l':P1}(hs:T.size=87)(h1:T.getD 1 undef=.pointer (some ⟨ob,0,none⟩))(h4:T.getD 4 undef=.pointer (some ⟨b,0,none⟩))(h5:T.getD 5 undef=.func (.func 22) #[] #[.pointer (some ⟨b,0,none⟩)])(h60:T.getD 60 undef=S)(h61:T.getD 61 undef=.int .i64 N)(h62:T.getD 62 undef=.int .i64 ((j':Nat):Int))(hR:R j' c' l')(hM:((n:Int)-j').toNat<M):
  (∃y j c l,(⟨T,[]⟩:Act)=SF y ob b S N ((j:Nat):Int)/\R j c l)/\muA n ⟨T,[]⟩<M:=by
 obtain⟨y,hy⟩:=Pq hs h1 h4 h5 h60 h61 h62;refine⟨⟨y,j',c',l',hy,hR⟩,?_⟩;have:muA n ⟨T,[]⟩=((n:Int)-j').toNat:=by unfold muA;rw[h62]
 rw[this];exact hM
theorem auI(n:Nat)(y:Nat->Value)(ob b:Nat)(S:Value)(N J:Int):muA n (SF y ob b S N J)=(n-J).toNat:=rfl
def agK(Q:QR)(ob:Nat)(o:Od)(sl:Value)(x0 Ao Ap Aq Ar:Value)(w:World)(hk:¬(o.ki<1\/5<o.ki))(hn:∀n∈dI o,Abs.bA n)(eP:∀n∈cK o,Abs.bA n)
  (qx:w.heap[ob]?=some (.cells (zG o sl) 30 (0,0)))(abm:o.ki=3\/False){adr:Option Addr}{cap:Nat}(iZ:sl=.slice adr o.nw.al.length cap)(fk:o.nw.al.length<=7)(hcap:o.nw.al.length<=cap){ab off:Nat}(hA:∀(i:Nat)(s:Int×Int),o.nw.al[i]?=some s->adr=some ⟨ab,off,none⟩/\ab<w.heap.size/\w.cell? ⟨ab,off+i*2,none⟩=some (.int .i64 s.1)/\w.cell? ⟨ab,off+i*2+1,none⟩=some (.int .i64 s.2))(hn3:∀n∈gP o,Abs.bA n)
  (hQ:∀(tm:PP)w',tm.getD 2 undef=.string (fq (Zw o))->tm.getD 3 undef=.int .i64 0->Below w.heap.size w w'->Q .ret ⟨tm,[]⟩ w'):
  Code.wp Tryz.prog tJ Q ⟨#[x0,.pointer (some ⟨ob,0,none⟩),.string ⟨#[]⟩,.int .i64 0,undef,undef,undef,undef,undef,undef,undef,undef,undef,Ao,Ap,Aq,Ar,undef,undef,undef,undef,undef,undef,undef,undef,undef,undef,undef,undef,undef,undef,undef,undef,undef,undef,undef,undef,undef,undef,undef,undef,undef,undef,undef,undef,undef,undef,undef,undef,undef,undef,undef,undef,undef,undef,undef,undef,undef,undef,undef,undef,undef,undef,undef,undef,undef,undef,undef,undef,undef,undef,undef,undef,undef,undef,undef,undef,undef,undef,undef,undef,undef,undef,undef,undef,undef,undef],[]⟩ w:=by
 have mixed:Tryz.prog.follows Departure.mixedOrders=true:=by kernel_rfl
 have aa:ob<w.heap.size:=Qdt qx;have e36:∀args w,(callFunc 22 args).run Tryz.prog w=.ok (.enter 22 args) w:=enters_of Tryz.func22 (by kernel_rfl) rfl;have e39:∀args w,(callFunc 25 args).run Tryz.prog w=.ok (.enter 25 args) w:=enters_of Tryz.func25 (by kernel_rfl) rfl;have e26:∀args w,(callFunc 26 args).run Tryz.prog w=.ok (.enter 26 args) w:=enters_of Tryz.func26 (by kernel_rfl) rfl;have e24:∀args w,(callFunc 24 args).run Tryz.prog w=.ok (.enter 24 args) w:=enters_of Tryz.func24 (by kernel_rfl) rfl;have e41:∀args w,(callFunc 27 args).run Tryz.prog w=.ok (.enter 27 args) w:=enters_of Tryz.func27 (by kernel_rfl) rfl;have c0:w.cell? ⟨ob,0,none⟩=some (.int .i64 o.sq):=by rw[Lib.cell_of_heap qx];rfl
 have c1:w.cell? ⟨ob,1,none⟩=some (.int .i64 o.ch):=by rw[Lib.cell_of_heap qx];rfl
 have c2:w.cell? ⟨ob,2,none⟩=some (.int .i64 o.fr):=by rw[Lib.cell_of_heap qx];rfl
 have c3:w.cell? ⟨ob,3,none⟩=some (.int .i64 o.ki):=by rw[Lib.cell_of_heap qx];rfl
 dsimp only;simp only[tJ,abl,Tryz.f8,Option.getD]
 go_wp2
 obtain⟨hzW,lJ,iZ,Bs⟩:=sx w (Obj.cells #[Value.pointer none,Value.slice none 0 0] 73) (Obj.cells #[Value.int IntKind.i64 o.sq,Value.int IntKind.i64 o.ch,Value.int IntKind.i64 o.fr,Value.int IntKind.i64 o.ki] 3);have IA:=(Bs.block ob aa).trans qx;clear c0 c1 c2 c3;generalize(w.alloc (Obj.cells #[Value.pointer none,Value.slice none 0 0] 73)).alloc (Obj.cells #[Value.int IntKind.i64 o.sq,Value.int IntKind.i64 o.ch,Value.int IntKind.i64 o.fr,Value.int IntKind.i64 o.ki] 3)=W at*
 generalize w.heap.size=b at*
 have hE:eV b w [(b+1,#[.int .i64 o.sq,.int .i64 o.ch,.int .i64 o.fr,.int .i64 o.ki],3),(ob,zG o sl,30)] 0 [] W:=by
  refine⟨zzaa _,.slice none 0 0,⟨.pointer none,.inl rfl,zzaa _,lJ,World.ownsRow_nil _ _ _ _,by simp[Value.ownBlock]⟩,Bs,zE,fun x hx=>?_⟩;simp only[zzao,zzcn,or_false]at hx;obtain rfl|rfl:=hx
  ·exact⟨zd,zd,iZ⟩
  exact⟨by simp only;omega,zd,IA⟩
 have hnb:ob≠b:=zE
 clear aa lJ hzW iZ IA Bs qx;have d:W.cell? ⟨b+1,0,none⟩=some (.int .i64 o.sq):=hE.cell (.head _) 0;refine wp_loop_rounds 5 ?_;rw[rounds_succ]
 go_wp2_with (go_at_fn 22;refine(Ug hE (hn _ (by simp[dI])) zE).mono ?_)
 rintro e W0 ⟨rfl,hE0⟩;clear d hE;have d:W0.cell? ⟨b+1,1,none⟩=some (.int .i64 o.ch):=hE0.cell (.head _) 1
 go_wp2
 rw[rounds_succ]
 go_wp2_with (go_at_fn 22;refine(Ug hE0 (hn _ (by simp[dI])) zE).mono ?_)
 rintro e W1 ⟨rfl,hE1⟩;clear d hE0;have d:W1.cell? ⟨b+1,2,none⟩=some (.int .i64 o.fr):=hE1.cell (.head _) 2
 go_wp2
 rw[rounds_succ]
 go_wp2_with (go_at_fn 22;refine(Ug hE1 (hn _ (by simp[dI])) zE).mono ?_)
 rintro e W2 ⟨rfl,MI⟩;clear d hE1;have d:W2.cell? ⟨b+1,3,none⟩=some (.int .i64 o.ki):=MI.cell (.head _) 3
 go_wp2
 rw[rounds_succ]
 go_wp2_with (go_at_fn 22;refine(Ug MI (hn _ (by simp[dI])) zE).mono ?_)
 rintro e W3 ⟨rfl,hE3⟩;clear d MI;have d:W3.cell? ⟨b+1,3,none⟩=some (.int .i64 o.ki):=hE3.cell (.head _) 3
 go_wp2
 rw[rounds_succ]
 go_wp2_with (go_at_fn 25;refine(zg ob (zG o sl) _ o.ki hk (hE3.at (.tail _ (.head _))) rfl (zzaa _)).mono ?_)
 rintro e Y ⟨rfl,hpt,hY⟩
 have hF:=(hE3.own hY).more (W3.heap.size,kj ob o.ki,83) (by
  obtain⟨_,v,g1,_⟩:=hE3;have:=g1.lt;simp only;omega) zd hpt
 clear d hE3 hpt hY;generalize W3.heap.size=sp at*
 obtain h1|h1:=abm
 ·have hp:kj ob o.ki=#[.pointer (some ⟨ob,6,none⟩),.pointer (some ⟨ob,7,none⟩),.pointer (some ⟨ob,8,none⟩),.pointer (some ⟨ob,9,none⟩),.pointer (some ⟨ob,10,none⟩),.pointer (some ⟨ob,11,none⟩)]:=by rw[h1];rfl
  have hl:(u6 o.ki).length=6:=by rw[h1];rfl
  rw[hp]at hF;rw[hl];have d:Y.cell? ⟨sp,0,none⟩=some (.pointer (some ⟨ob,6,none⟩)):=hF.cell (.head _) 0;have d1:Y.cell? ⟨ob,6,none⟩=some (.int .i64 o.nw.id):=hF.cell (.tail _ (.tail _ (.head _))) 6
  go_wp2
  refine wp_loop_rounds 7 ?_;rw[rounds_succ]
  go_wp2_with (go_at_fn 22;refine(Ug hF (eP _ (by simp[cK,h1])) zE).mono ?_)
  rintro e Y0 ⟨rfl,dW⟩;clear d d1 hF;have d:Y0.cell? ⟨sp,1,none⟩=some (.pointer (some ⟨ob,7,none⟩)):=dW.cell (.head _) 1;have d1:Y0.cell? ⟨ob,7,none⟩=some (.int .i64 o.nw.it):=dW.cell (.tail _ (.tail _ (.head _))) 7
  go_wp2
  rw[rounds_succ]
  go_wp2_with (go_at_fn 22;refine(Ug dW (eP _ (by simp[cK,h1])) zE).mono ?_)
  rintro e Y1 ⟨rfl,mA⟩;clear d d1 dW;have d:Y1.cell? ⟨sp,2,none⟩=some (.pointer (some ⟨ob,8,none⟩)):=mA.cell (.head _) 2;have d1:Y1.cell? ⟨ob,8,none⟩=some (.int .i64 o.nw.fr):=mA.cell (.tail _ (.tail _ (.head _))) 8
  go_wp2
  rw[rounds_succ]
  go_wp2_with (go_at_fn 22;refine(Ug mA (eP _ (by simp[cK,h1])) zE).mono ?_)
  rintro e Y2 ⟨rfl,gL⟩;clear d d1 mA;have d:Y2.cell? ⟨sp,3,none⟩=some (.pointer (some ⟨ob,9,none⟩)):=gL.cell (.head _) 3;have d1:Y2.cell? ⟨ob,9,none⟩=some (.int .i64 o.nw.ea):=gL.cell (.tail _ (.tail _ (.head _))) 9
  go_wp2
  rw[rounds_succ]
  go_wp2_with (go_at_fn 22;refine(Ug gL (eP _ (by simp[cK,h1])) zE).mono ?_)
  rintro e Y3 ⟨rfl,hF3⟩;clear d d1 gL;have d:Y3.cell? ⟨sp,4,none⟩=some (.pointer (some ⟨ob,10,none⟩)):=hF3.cell (.head _) 4;have d1:Y3.cell? ⟨ob,10,none⟩=some (.int .i64 o.nw.la):=hF3.cell (.tail _ (.tail _ (.head _))) 10
  go_wp2
  rw[rounds_succ]
  go_wp2_with (go_at_fn 22;refine(Ug hF3 (eP _ (by simp[cK,h1])) zE).mono ?_)
  rintro e Y4 ⟨rfl,XY⟩;clear d d1 hF3;have d:Y4.cell? ⟨sp,5,none⟩=some (.pointer (some ⟨ob,11,none⟩)):=XY.cell (.head _) 5;have d1:Y4.cell? ⟨ob,11,none⟩=some (.int .i64 o.nw.bo):=XY.cell (.tail _ (.tail _ (.head _))) 11
  go_wp2
  rw[rounds_succ]
  go_wp2_with (go_at_fn 22;refine(Ug XY (eP _ (by simp[cK,h1])) zE).mono ?_)
  rintro e Y5 ⟨rfl,hF5⟩;clear d d1 XY;have d:Y5.cell? ⟨sp,5,none⟩=some (.pointer (some ⟨ob,11,none⟩)):=hF5.cell (.head _) 5;have d1:Y5.cell? ⟨ob,3,none⟩=some (.int .i64 3):=by rw[<- h1];exact hF5.cell (.tail _ (.tail _ (.head _))) 3
  go_wp2
  rw[rounds_succ];have d2:Y5.cell? ⟨ob,12,none⟩=some sl:=hF5.cell (.tail _ (.tail _ (.head _))) 12;rw[iZ]at d2
  go_wp2_with (go_at_fn 22;refine(Ug hF5 (n:=(o.nw.al.length:Int)) (by unfold Abs.bA Abs.zD;omega) zE).mono ?_)
  rintro e Z0 ⟨rfl,hG⟩;clear d d1 d2 hF5;have d2:Z0.cell? ⟨ob,12,none⟩=some sl:=hG.cell (.tail _ (.tail _ (.head _))) 12;rw[iZ]at d2
  go_wp2
  refine agJ (ob:=ob) (b:=b) (S:=.slice adr o.nw.al.length cap) (N:=o.nw.al.length) (J:=0) rfl rfl rfl rfl rfl rfl rfl fun y=>?_;clear d2;refine wp_loop (fun a W=>∃(y:Nat->Value)(j c:Nat)(l:P1),a=SF y ob b (.slice adr o.nw.al.length cap) o.nw.al.length j/\j<=o.nw.al.length/\c<=11+2*j/\eV b w [(sp,kj ob 3,83),(b+1,#[.int .i64 o.sq,.int .i64 o.ch,.int .i64 o.fr,.int .i64 o.ki],3),(ob,zG o sl,30)] c l W/\l≠[]/\l++Abs.aT (Va (o.nw.al.drop j))=Zw o) (fun a _=>muA o.nw.al.length a) ?_ ?_
  ·refine⟨y,0,_,_,rfl,zzbi _,zzaa _,hG,?_,?_⟩
   ·exact zzcv _ (lE _)
   simp[Zw,dI,cK,gP,qF,Abs.aT,h1]
  rintro a W ⟨y,j,c,l,rfl,hj,hc,hE,ov,hl⟩;rw[auI];by_cases aa:j<o.nw.al.length
  ·have hex:∃s,o.nw.al[j]?=some s:=⟨_,zzad aa⟩;obtain⟨s,hs⟩:=hex;obtain⟨rfl,C9,r1,r2⟩:=hA j s hs;have bK:(j:Int)<(o.nw.al.length:Int):=zE
   have lJ:∀i,W.cell? ⟨ab,i,none⟩=w.cell? ⟨ab,i,none⟩:=fun i=>by
    obtain⟨_,v,g1,g2,_⟩:=hE;simp[World.cell?,g2.block ab C9]
   have a1:=(lJ _).trans r1;have a2:=(lJ _).trans r2;have m1:Abs.bA s.1:=hn3 _ (by unfold gP;rw[if_pos h1];exact zzdj _ (Eu hs).1);have m2:Abs.bA s.2:=hn3 _ (by unfold gP;rw[if_pos h1];exact zzdj _ (Eu hs).2)
   have eY:Va (o.nw.al.drop j)=s.1::s.2::Va (o.nw.al.drop (j+1)):=by
    rw[zzaf aa,(zza.1 hs).2];rfl
   have MI:=(hE.own ((Below.refl _ W).alloc (zzaa _) (.cells #[.int .i64 s.1,.int .i64 s.2] 85))).more (W.heap.size,#[.int .i64 s.1,.int .i64 s.2],85) (by
    obtain⟨_,v,g1,_⟩:=hE;have:=g1.lt;simp only;omega) zd (heap_alloc_new W _)
   have b1:(W.alloc (.cells #[.int .i64 s.1,.int .i64 s.2] 85)).cell? ⟨W.heap.size,0,none⟩=some (.int .i64 s.1):=MI.cell (.head _) 0;have fe:c<=1000:=zE
   have zH:c+1<=1000:=zE
   have hp:=Ug MI m1 fe;clear hs hE hG hA iZ hcap hn eP hn3 hk;rw[IB]
   go_wp2_with (go_at_fn 22;refine hp.mono ?_)
   rintro e V0 ⟨rfl,hV0⟩;clear b1 MI hp a1 a2 lJ;have b2:V0.cell? ⟨W.heap.size,1,none⟩=some (.int .i64 s.2):=hV0.cell (.head _) 1;have hp2:=Ug hV0 m2 zH
   go_wp2_with (go_at_fn 22;refine hp2.mono ?_)
   rintro e V1 ⟨rfl,hV1⟩;clear hV0 hp2 b2;rw[eY]at hl;have uF:(l++Abs.aU s.1++Abs.aU s.2)++Abs.aT (Va (o.nw.al.drop (j+1)))=Zw o:=by rw[<- hl];simp[Abs.aT]
   have uH:IntKind.i64.wrap ((j:Int)+1)=((j+1:Nat):Int):=by rw[IntKind.wrap_i64];omega
   have W5:∀W',W'=V1->(j+1<=o.nw.al.length/\c+1+1<=11+2*(j+1)/\eV b w [(sp,kj ob 3,83),(b+1,#[.int .i64 o.sq,.int .i64 o.ch,.int .i64 o.fr,.int .i64 o.ki],3),(ob,zG o sl,30)] (c+1+1) (l++Abs.aU s.1++Abs.aU s.2) W'/\l++Abs.aU s.1++Abs.aU s.2≠[]/\(l++Abs.aU s.1++Abs.aU s.2)++Abs.aT (Va (o.nw.al.drop (j+1)))=Zw o):=by
    rintro _ rfl;exact⟨aa,zE,hV1.less,zzcv _ (lE _),uF⟩
   clear hV1 uF hl eY
   go_wp2
   refine SG (j':=j+1) (c':=c+1+1) (l':=l++Abs.aU s.1++Abs.aU s.2) rfl rfl rfl rfl rfl rfl ?_ (W5 _ rfl) zE;show Value.int IntKind.i64 _=Value.int IntKind.i64 _;congr 1
  have bK:¬(j:Int)<(o.nw.al.length:Int):=zE
  have ud:l=Zw o:=by
   rw[zzam zE]at hl;rw[<- hl];simp[Va,Abs.aT]
  have cc:=Qaz hE ov;rw[ud]at cc;clear hE hG hA iZ fk hcap hn eP hn3 hk;rw[IB]
  go_wp2_with (go_at_fn 27;refine cc.mono ?_)
  rintro e Z rfl hZ;have hQ':=fun tm h2 h3=>hQ tm Z h2 h3 hZ
  go_wp2
  refine hQ' _ ?_ ?_
  ·rfl
  rfl
 exact h1.elim
end
