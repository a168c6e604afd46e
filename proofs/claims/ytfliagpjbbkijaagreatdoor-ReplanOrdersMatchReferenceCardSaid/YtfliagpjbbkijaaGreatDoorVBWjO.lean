import Derived.Test.YtfliagpjbbkijaaGreatDoorVBMcY
set_option linter.all false
set_option maxRecDepth 100000
set_option maxHeartbeats 64000000
namespace Go.Proofs.YtfliagpjbbkijaaGreatDoor
noncomputable section
open Go Go.RowKit Go.Lib
def yy(b:Nat)(w:World)(h0:w.cell? ⟨b,0,none⟩=some (.pointer (some ⟨b,0,none⟩))):
  Calls Tryz.prog 66 #[.pointer (some ⟨b,0,none⟩)] w fun e w'=>e=.returned (.tuple #[])/\w'=w:=by
 obtain⟨j,hj,ja⟩:∃j,Tryz.prog.info? 73=some j/\j.size=2:=⟨_,rfl,rfl⟩;have mixed:Tryz.prog.follows Departure.mixedOrders=true:=by kernel_rfl
 go_enter Tryz.func66,Tryz.ntmps66
 go_wp2
 rw[Lib.run_neq_ptr_same w _ Tryz.underlying70 hj]
 go_wp2
 go_end0
 exact⟨rfl,rfl⟩
def tZ(b:Nat)(w:World)(h0:w.cell? ⟨b,0,none⟩=some (.pointer none))(fS:w.shape? b=some (73,2))(hfz:w.frozen? ⟨b,0,none⟩=false):
  Calls Tryz.prog 66 #[.pointer (some ⟨b,0,none⟩)] w fun e w'=>e=.returned (.tuple #[])/\w'=w.setCell ⟨b,0,none⟩ (.pointer (some ⟨b,0,none⟩)):=by
 obtain⟨j,hj,ja⟩:∃j,Tryz.prog.info? 73=some j/\j.size=2:=⟨_,rfl,rfl⟩;have azo:liesAt Tryz.prog Tryz.prog.depth 73 (2/Tryz.prog.cellsOf 73) 0 73 1=true:=by kernel_rfl
 have mixed:Tryz.prog.follows Departure.mixedOrders=true:=by kernel_rfl
 go_enter Tryz.func66,Tryz.ntmps66
 go_wp2
 rw[Lib.run_to_unsafe w ⟨b,0,none⟩ Tryz.underlying70 Tryz.underlying208 hj (by rw[ja];decide) fS (Nat.zero_lt_succ 1)];simp only[Result.andThen];rw[Oper.upon_value]
 go_wp2
 rw[run_callFunc_extern Tryz.func124 (by kernel_rfl) (by kernel_rfl) (by kernel_rfl) (e:=Extern.AbiNoEscape.same) (by kernel_rfl)];rw[Lib.run_noEscape];simp only[Result.andThen];rw[Oper.upon_value]
 go_wp2
 rw[Lib.run_from_unsafe w ⟨b,0,none⟩ Tryz.underlying208 Tryz.underlying70 hj fS azo];simp only[Result.andThen];rw[Oper.upon_value]
 go_wp2
 go_end0
 exact⟨rfl,rfl⟩
def ajH(b:Nat)(v:Value)(w w':World):Prop:=∀k,k<w.heap.size->k≠b->v.ownBlock≠some k->w'.heap[k]?=w.heap[k]?
def tu(B b:Nat)(bs:List Value)(s:ByteArray)(p v:Value)(w:World)(hp:p=.pointer none\/p=.pointer (some ⟨b,0,none⟩))(Sf:B<=b)(Mg:w.heap[b]?=some (.cells #[p,v] 73 (0,0)))(ajI:w.ownsRow B 5 1 v bs.length bs)(lg:v.ownBlock≠some b)
  (aH:bs.length+s.size<=1000000)(hBw:B<=w.heap.size):
  Calls Tryz.prog 24 #[.pointer (some ⟨b,0,none⟩),.string s] w fun e w'=>e=.returned (.tuple #[.int .i64 s.size,.nilIface])/\
   ∃v',w'.heap[b]?=some (.cells #[.pointer (some ⟨b,0,none⟩),v'] 73 (0,0))/\w'.ownsRow B 5 1 v' (bs++Lib.strCells s).length (bs++Lib.strCells s)/\v'.ownBlock≠some b/\Below B w w'/\ajH b v w w':=by
 obtain⟨i0,hi,UT,hz1,VE⟩:=info_parts (P:=Tryz.prog) (e:=5) (z:=.int .u8 0) (size:=1) (bytes:=1) (by rfl);have mixed:Tryz.prog.follows Departure.mixedOrders=true:=by kernel_rfl
 have auP:b<w.heap.size:=by
  rcases zzab b w.heap.size with h'|h'
  ·exact h'
  simp[zzbt h']at Mg
 have cC:Calls Tryz.prog 66 #[.pointer (some ⟨b,0,none⟩)] w fun e w'=>e=.returned (.tuple #[])/\w'.heap[b]?=some (.cells #[.pointer (some ⟨b,0,none⟩),v] 73 (0,0))/\w'.ownsRow B 5 1 v bs.length bs/\w'.heap.size=w.heap.size/\Below B w w'/\∀k,k≠b->w'.heap[k]?=w.heap[k]?:=by
  obtain rfl|rfl:=hp
  ·refine(tZ b w (by rw[Lib.cell_of_heap Mg];try rfl) (by simp[World.shape?,Mg]) (Lib.frozen_of_heap Mg 0)).mono ?_;rintro e w' ⟨rfl,rfl⟩;refine⟨rfl,by simp[World.setCell,zzdm,Mg],?_,by simp[World.setCell],(Below.refl B w).setCell (p:=⟨b,0,none⟩) Sf _,fun k hk=>Below.heap_setCell _ _ _ _ hk⟩;exact ajI.kept (row:=some b) ⟨rfl,rfl,rfl,by simp[World.setCell],fun k _ hk=>Below.heap_setCell _ _ _ _ (fun e=>hk (by simp[e]))⟩ (Or.inr lg)
  refine(yy b w (by rw[Lib.cell_of_heap Mg];try rfl)).mono ?_;rintro e w' ⟨rfl,rfl⟩;exact⟨rfl,Mg,ajI,rfl,Below.refl B _,fun _ _=>rfl⟩
 have e94:∀args w,(callFunc 66 args).run Tryz.prog w=.ok (.enter 66 args) w:=enters_of Tryz.func66 (by kernel_rfl) rfl
 go_enter Tryz.func24,Tryz.ntmps24
 go_wp2_with (go_at_fn 66;refine cC.mono ?_)
 rintro e w1 ⟨rfl,lB,cp,hsz,dI,FB⟩;have c0:w1.cell? ⟨b,0,none⟩=some (.pointer (some ⟨b,0,none⟩)):=by rw[Lib.cell_of_heap lB];try rfl
 have c1:w1.cell? ⟨b,1,none⟩=some v:=by rw[Lib.cell_of_heap lB];try rfl
 go_wp2_with (at_builtin;refine Lib.wpList_append_own_string _ rfl _ _ 71 9 rfl B 5 i0 Tryz.underlying71 Tryz.underlying9 hi UT hz1 VE _ _ _ rfl cp s rfl ?c3 ?c4 ?c5 ?_)
 case c3=>unfold maxLen;omega
 case c4=>omega
 case c5=>rw[hsz];exact hBw
 intro v' w2 aaF HS _;have ah:b<w1.heap.size:=zE
 have iI:w2.heap[b]?=some (.cells #[.pointer (some ⟨b,0,none⟩),v] 73 (0,0)):=by
  rw[HS.block b ah (fun e=>lg e.symm)];exact lB
 have d0:w2.cell? ⟨b,0,none⟩=some (.pointer (some ⟨b,0,none⟩)):=by rw[Lib.cell_of_heap iI];try rfl
 have d1:w2.cell? ⟨b,1,none⟩=some v:=by rw[Lib.cell_of_heap iI];try rfl
 have f1:w2.frozen? ⟨b,1,none⟩=false:=Lib.frozen_of_heap iI 1
 obtain⟨ao,n',cap,rfl⟩:∃ao n' cap,v'=.slice ao n' cap:=by
  rcases aaF.2 with⟨hv,_⟩|⟨g,cap,cur,hv,_⟩
  ·exact⟨_,_,_,hv⟩
  exact⟨_,_,_,hv⟩
 go_wp2
 go_ret2
 have dW:=Lib.ownBlock_ne aaF iI (by decide);refine⟨rfl,.slice ao n' cap,by simp[World.setCell,zzdm,iI],?_,dW,?_,fun k hk hkb SL=>?_⟩
 ·have:=aaF.kept (w':=w2.setCell ⟨b,1,none⟩ (.slice ao n' cap)) (row:=some b) ⟨rfl,rfl,rfl,by simp[World.setCell],fun k _ hk=>Below.heap_setCell _ _ _ _ (fun e=>hk (by simp[e]))⟩ (Or.inr dW);simpa[Lib.strCells_length]using this
 ·exact(dI.grown HS zE (fun k hk=>(cp.lt k hk).1)).setCell (p:=⟨b,1,none⟩) Sf _
 exact(Below.heap_setCell _ _ _ _ hkb).trans ((HS.block k zE (fun e=>SL e.symm)).trans (FB k hkb))
def Bld(B b:Nat)(bs:List Value)(v:Value)(w:World):Prop:=∃p,(p=.pointer none\/p=.pointer (some ⟨b,0,none⟩))/\B<=b/\w.heap[b]?=some (.cells #[p,v] 73 (0,0))/\w.ownsRow B 5 1 v bs.length bs/\v.ownBlock≠some b
def auQ(B b:Nat)(bs:List Value)(v:Value)(n:Int)(s:ByteArray)(w:World)(h:Bld B b bs v w)(hB:B<=w.heap.size)(aH:bs.length+s.size<=1000000)
  (h37:∀w:World,Calls Tryz.prog 23 #[.int .i64 n] w fun e w'=>e=.returned (.tuple #[.string s,.int .i64 0])/\Below w.heap.size w w'):
  Calls Tryz.prog 22 #[.int .i64 n,.pointer (some ⟨b,0,none⟩)] w fun e w'=>e=.returned (.tuple #[])/\∃v',Bld B b (bs++Lib.strCells s) v' w'/\Below B w w'/\ajH b v w w':=by
 have mixed:Tryz.prog.follows Departure.mixedOrders=true:=by kernel_rfl
 have e37:∀args w,(callFunc 23 args).run Tryz.prog w=.ok (.enter 23 args) w:=enters_of Tryz.func23 (by kernel_rfl) rfl;have e38:∀args w,(callFunc 24 args).run Tryz.prog w=.ok (.enter 24 args) w:=enters_of Tryz.func24 (by kernel_rfl) rfl;obtain⟨p,hp,Sf,lB,cp,aK⟩:=h
 go_enter Tryz.func22,Tryz.ntmps22
 go_wp2_with (go_at_fn 23;refine(h37 _).mono ?_)
 rintro e w1 ⟨rfl,dI⟩
 have ah:b<w.heap.size:=by
  rcases zzab b w.heap.size with h'|h'
  ·exact h'
  simp[zzbt h']at lB
 have azp:w1.heap[b]?=some (.cells #[p,v] 73 (0,0)):=by rw[dI.block b ah];exact lB
 have auR:w1.ownsRow B 5 1 v bs.length bs:=cp.kept (row:=none) ⟨dI.os,dI.tape,dI.output,dI.size,fun k hk _=>dI.block k hk⟩ (by cases h:v.ownBlock with|none=>exact .inl rfl|some k=>exact .inr zd)
 go_wp2_with (go_at_fn 24;refine(tu B b bs s p v w1 hp Sf azp auR aK aH (by have:=dI.size;omega)).mono ?_)
 rintro e w2 ⟨rfl,v',g1,g2,g3,g4,g5⟩
 go_wp2
 go_end0
 refine⟨rfl,v',⟨_,.inr rfl,Sf,g1,g2,g3⟩,?_,fun k hk hkb SL=>?_⟩
 ·exact Below.trans ⟨dI.os,dI.tape,dI.output,dI.size,fun k hk=>dI.block k zE⟩ g4
 exact(g5 k (zzan hk dI.size) hkb SL).trans (dI.block k hk)
def aaG(B b:Nat)(l:List UInt8)(v:Value)(w:World)(h:Bld B b (Lib.byteCells l) v w)(h0:l≠[]):
  Calls Tryz.prog 27 #[.pointer (some ⟨b,0,none⟩)] w fun e w'=>e=.returned (.string ⟨l.toArray⟩)/\Below B w w':=by
 have mixed:Tryz.prog.follows Departure.mixedOrders=true:=by kernel_rfl
 obtain⟨p,hp,Sf,lB,cp,aK⟩:=h;have iX:l.length≠0:=by simpa using h0
 rw[Lib.byteCells_length]at cp
 obtain⟨g,cap,cur,rfl,hbg,hg,hnc,hcm,qq,azS⟩:∃g cap cur,v=.slice (some ⟨g,0,none⟩) l.length cap/\B<=g/\w.heap[g]?=some (.cells cur 5 (0,0))/\l.length<=cap/\cap<=maxLen/\cur.size=cap*1/\cur.toList.take (l.length*1)=Lib.byteCells l:=by
  rcases cp.2 with⟨_,hz⟩|⟨g,cap,cur,hv,r⟩
  ·exact absurd hz iX
  exact⟨g,cap,cur,hv,r⟩
 have c1:w.drew.cell? ⟨b,1,none⟩=some (.slice (some ⟨g,0,none⟩) l.length cap):=by
  have:w.drew.heap[b]?=some (.cells #[p,.slice (some ⟨g,0,none⟩) l.length cap] 73 (0,0)):=lB;rw[Lib.cell_of_heap this];try rfl
 have hSD:(Builtin.unsafeSliceData_ #[71] 145 #[.slice (some ⟨g,0,none⟩) l.length cap]).run Tryz.prog w.drew=.ok (.pointer (some ⟨g,0,none⟩)) w.drew:=
  Lib.run_unsafeSliceData_row _ _ _ _ _ _ zE
 have hUS:(Builtin.unsafeString_ #[145,3] 9 #[.pointer (some ⟨g,0,none⟩),.int .i64 l.length]).run Tryz.prog w.drew=.ok (.string ⟨l.toArray⟩) (w.drew.freeze ⟨g,0,none⟩ l.length):=by
  refine Lib.run_unsafeString_row w.drew 145 3 9 5 Tryz.underlying145 (by kernel_rfl) g cur.size (by have hg':w.drew.heap[g]?=some (.cells cur 5 (0,0)):=hg;simp[World.shape?,hg']) l h0 zE (by unfold maxLen at hcm;omega) ?_;intro j x hx;have:=cp.cells (g:=g) rfl j (.int .u8 x.toNat) (by simp[Lib.byteCells,hx]);exact this
 go_enter Tryz.func27,Tryz.ntmps27
 go_wp2
 go_region_o
 all_goals(go_wp2;go_ret;exact⟨rfl,Lib.below_freeze (Below.drew (Below.refl B w)) (p:=⟨g,0,none⟩) hbg _⟩)
open Go.Abs
def dH(o:Od):Pi:=[o.sq,o.ch,o.fr,o.ki]
def cM(o:Od):Pi:=if o.ki=1 then[o.en,o.n]else if o.ki=2 then[o.en]else if o.ki=3 then[o.nw.id,o.nw.it,o.nw.fr,o.nw.ea,o.nw.la,o.nw.bo]else
 if o.ki=4 then[o.cl.ki,o.cl.it,o.cl.fr,o.cl.to,o.cl.re,o.cl.n,o.cl.a,o.cl.b]else if o.ki=5 then[o.cu.id,o.cu.fr,o.cu.to,o.cu.pr]else[]
def Zd:List Sp->Pi
 |[]=>[]
 |a::r=>a.1::a.2::Zd r
def zQ:Pi->List Sp
 |a::b::r=>(a,b)::zQ r
 |_=>[]
def lM(o:Od):Pi:=if o.ki=3 then(o.nw.al.length:Int)::Zd o.nw.al else if o.ki=5 then[(o.cu.tx.size:Int)]else[]
def yX(o:Od):P2:=if o.ki=5 then aU o.cu.tx else[]
def Ya(o:Od):P2:=aR (dH o)++(aR (cM o)++(aR (lM o)++yX o))
def Vm(k:Int):Nat:=if k=1 then 2 else if k=2 then 1 else if k=3 then 6 else if k=4 then 8 else if k=5 then 4 else 0
def gN(h ns:Pi)(al:List Sp)(tx:ByteArray):Od:=
 ⟨h.getD 0 0,h.getD 1 0,h.getD 2 0,h.getD 3 0,if h.getD 3 0=1\/h.getD 3 0=2 then ns.getD 0 0 else 0,if h.getD 3 0=1 then ns.getD 1 0 else 0,
  if h.getD 3 0=3 then⟨ns.getD 0 0,ns.getD 1 0,ns.getD 2 0,ns.getD 3 0,ns.getD 4 0,ns.getD 5 0,al⟩else dJ,
  if h.getD 3 0=4 then⟨ns.getD 0 0,ns.getD 1 0,ns.getD 2 0,ns.getD 3 0,ns.getD 4 0,ns.getD 5 0,ns.getD 6 0,ns.getD 7 0⟩else eF,
  if h.getD 3 0=5 then⟨ns.getD 0 0,ns.getD 1 0,ns.getD 2 0,ns.getD 3 0,tx⟩else eG⟩
inductive DR where
 |ok (o:Od)
 |wire
 |rep
def rd3(l:P2)(h ns:Pi)(b:Nat):DR:=match fO l b with
 |none=>.wire
 |some (c,d)=>if c<0\/7<c then .rep else match dF (2*c.toNat) l d with
  |none=>.wire
  |some (as',e)=>if e=l.length then .ok (gN h ns (zQ as') eB)else .wire
def rd5(l:P2)(h ns:Pi)(b:Nat):DR:=match BK l b with
 |none=>.wire
 |some (t,e)=>if e=l.length then .ok (gN h ns [] (dh t))else .wire
def yz(l:P2)(h ns:Pi)(b:Nat):DR:=if h.getD 3 0=3 then rd3 l h ns b else if h.getD 3 0=5 then rd5 l h ns b else if b=l.length then .ok (gN h ns [] eB)else .wire
def Zl(l:P2):DR:=match dF 4 l 0 with
 |none=>.wire
 |some (h,a)=>if h.getD 3 0<1\/5<h.getD 3 0 then .rep else match dF (Vm (h.getD 3 0)) l a with
  |none=>.wire
  |some (ns,b)=>yz l h ns b
def Ka(l:P2):DR:=match Zl l with
 |.ok o=>if Xp o then .ok o else .rep
 |x=>x
def DT(ns:Pi)(pre t:P2)(k:Nat)(h:∀n∈ns,bw n)(hp:pre.length<=k):
  dF ns.length ((pre++(aR ns++t)).take k) pre.length=if pre.length+(aR ns).length<=k then some (ns,pre.length+(aR ns).length)else none:=by
 rw[zzfa,zzai hp];split
 ·rw[zzfa,zzai zE,OZ ns pre _ h]
 rw[zzdu zE,O0 ns pre _ h zE]
def O6{n:Int}(pre t:P2)(k:Nat)(h:bw n)(hp:pre.length<=k):
  fO ((pre++(aN n++t)).take k) pre.length=if pre.length+(aN n).length<=k then some (n,pre.length+(aN n).length)else none:=by
 rw[zzfa,zzai hp];split
 ·rw[zzfa,zzai zE,DP h pre _]
 rw[zzdu zE,OY n pre _ zE]
def ql:∀l:List Sp,(Zd l).length=2*l.length
 |[]=>rfl
 |a::r=>by simp only[Zd,zzba,ql r];omega
def kY:∀l:List Sp,zQ (Zd l)=l
 |[]=>rfl
 |a::r=>by rw[Zd,zQ,kY r]
def BM:∀(k:Nat)(l:Pi),l.length=2*k->Zd (zQ l)=l/\(zQ l).length=k
 |0,l,h=>by
  have:l=[]:=zzbl.1 zE;subst this;exact⟨rfl,rfl⟩
 |k+1,[],h=>by simp at h
 |k+1,[a],h=>by simp at h;omega
 |k+1,a::b::r,h=>by
  have:=BM k r (by simp at h;omega);exact⟨by rw[zQ,Zd,this.1],by rw[zQ,zzba,this.2]⟩
def O7:∀(l:List Sp)(r:Int),r<=7->rS r l=true->(l.length:Int)<=7-r/\∀s∈l,r<s.1/\s.1<=7/\ez s.2=true
 |[],r,hr,h=>⟨by simp;omega,fun s hs=>by cases hs⟩
 |a::l,r,hr,h=>by
  rw[rS]at h;split at h
  ·rename_i h1;have ih:=O7 l a.1 h1.2.1 h;refine⟨by rw[zzba];omega,fun s hs=>?_⟩;rcases zzao.1 hs with rfl|hs
   ·exact h1
   have:=ih.2 s hs;exact⟨zE,this.2⟩
  cases h
def HV:∀(l:List Sp)(n:Int),n∈Zd l->∃s∈l,n=s.1\/n=s.2
 |[],n,h=>by cases h
 |a::r,n,h=>by
  simp only[Zd,zzao]at h;obtain h|h|h:=h
  ·exact⟨a,zd,.inl h⟩
  ·exact⟨a,zd,.inr h⟩
  obtain⟨s,h1,h2⟩:=HV r n h;exact⟨s,by simp[h1],h2⟩
def vO5{o:Od}(h:Xp o=true):(0<=o.sq/\o.sq<=200/\ -1<=o.ch/\o.ch<40/\0<=o.fr/\o.fr<=100000000)/\(1<=o.ki/\o.ki<=5)/\(o.ki=1-> -100000000<=o.n/\o.n<=100000000)/\okB o=true/\Yk (Ym o)=true:=by
 unfold Xp at h;split at h
 ·cases h
 split at h
 ·cases h
 split at h
 ·cases h
 split at h
 ·cases h
 rw[zzak]at h;exact⟨zE,zE,fun hk=>zE,h.1,h.2⟩
def rX{n:Int}(h:ez n=true):1<=n/\n<=1000000:=by simpa[ez]using h
def anR{c:Cl}(h:Xe c=true):∀n∈[c.ki,c.it,c.fr,c.to,c.re,c.n,c.a,c.b],bw n:=by
 obtain⟨k,i,f,t,r,n,a,b⟩:=c;simp only[Xe,zzak,decide_eq_true_eq]at h;obtain⟨h1,h2⟩:=h;unfold Jr at h1;unfold Ua at h2;simp only[bw,qj,zzao,zzcm,or_false,forall_eq_or_imp,forall_eq];simp only[Vd,Vr,wi]at h2;split at h1
 ·rename_i hk;rw[if_pos hk]at h2;simp only[zzak,decide_eq_true_eq]at h2;simp only[Cl.mk.injEq]at h1;simp only at hk;omega
 rename_i hk;rw[if_neg hk]at h2;split at h1
 ·rename_i dM;simp only[Cl.mk.injEq]at h1;simp only at hk dM;split at h2
  ·simp only[zzak,decide_eq_true_eq]at h2;omega
  split at h2
  ·simp only[zzak,decide_eq_true_eq]at h2;omega
  omega
 rename_i dM;simp only at hk dM;rw[if_neg zE,if_neg zE]at h2;split at h1
 ·rename_i tO;rw[if_pos tO]at h2;simp only[zzak,decide_eq_true_eq]at h2;simp only[Cl.mk.injEq]at h1;simp only at tO;omega
 rename_i tO;rw[if_neg tO]at h2;split at h1
 ·rename_i C6;rw[if_pos C6]at h2;simp only[zzak,decide_eq_true_eq]at h2;simp only[Cl.mk.injEq]at h1;simp only at C6;omega
 rename_i C6;rw[if_neg C6]at h2;cases h2
def anS{c:Cue}(h:uN c=true):∀n∈[c.id,c.fr,c.to,c.pr],bw n:=by
 simp only[bw,qj,zzao,zzcm,or_false,forall_eq_or_imp,forall_eq];unfold uN at h;split at h
 ·cases h
 split at h
 ·simp only[decide_eq_true_eq]at h;omega
 split at h
 ·cases h
 split at h
 ·cases h
 omega
def Mh{o:Od}(h:Xp o=true)(ht:o.cu.tx.size<=65536):(∀n∈dH o,bw n)/\(∀n∈cM o,bw n)/\(∀n∈lM o,bw n)/\(o.ki=3->o.nw.al.length<=7)/\(cM o).length=Vm o.ki/\gN (dH o) (cM o) (if o.ki=3 then o.nw.al else[]) (if o.ki=5 then o.cu.tx else eB)=o:=by
 obtain⟨h1,h2,h3,h4,h5⟩:=vO5 h
 have hd:∀n∈dH o,bw n:=by
  simp only[dH,bw,qj,zzao,zzcm,or_false,forall_eq_or_imp,forall_eq];omega
 refine⟨hd,?_⟩;obtain⟨sq,ch,fr,ki,en,n,⟨a1,a2,a3,a4,a5,a6,al⟩,cl,⟨d1,d2,d3,d4,tx⟩⟩:=o;simp only at h1 h2 h3 ht;rcases(show ki=1\/ki=2\/ki=3\/ki=4\/ki=5 by omega)with rfl|rfl|rfl|rfl|rfl
 ·simp[okB,Ym,Yk]at h4 h5;have:=rX h4;obtain⟨rfl,⟨rfl,rfl,rfl,rfl,rfl⟩,rfl,rfl,rfl,rfl,rfl,rfl,rfl⟩:=h5;refine⟨?_,by simp[lM],zd,by simp[cM,Vm],by simp[gN,dH,cM,dJ,eF,eG]⟩;simp[cM,bw,qj];omega
 ·simp[okB,Ym,Yk]at h4 h5;have:=rX h4;obtain⟨rfl,rfl,⟨rfl,rfl,rfl,rfl,rfl⟩,rfl,rfl,rfl,rfl,rfl,rfl,rfl⟩:=h5;refine⟨?_,by simp[lM],zd,by simp[cM,Vm],by simp[gN,dH,cM,dJ,eF,eG]⟩;simp[cM,bw,qj];omega
 ·simp[okB,Ym,Yk,dJ]at h4 h5;simp[yb]at h4;obtain⟨⟨⟨⟨⟨i1,i2⟩,i3⟩,i4⟩,i5⟩,i6⟩:=h4;have j1:=rX i1;have j2:=rX i2
  have j5:0<=a6/\a6<=1000000:=by
   obtain i5|i5:=i5
   ·omega
   have:=rX i5;omega
  have j6:=O7 al 0 zE i6;obtain⟨rfl,rfl,rfl,rfl,rfl,rfl,rfl,rfl⟩:=h5;refine⟨?_,?_,fun _=>by simp only;omega,by simp[cM,Vm],by simp[gN,dH,cM,dJ,eF,eG]⟩
  ·simp[cM,bw,qj];omega
  intro x hx;simp only[lM,if_true,zzao]at hx;obtain rfl|hx:=hx
  ·simp only[bw,qj];omega
  obtain⟨s,hs,he⟩:=HV al x hx;obtain⟨k1,k2,k3⟩:=j6.2 s hs;have:=rX k3;simp only[bw,qj];omega
 ·simp[okB,Ym,Yk,eF]at h4 h5;have:=anR h4;obtain⟨rfl,rfl,⟨rfl,rfl,rfl,rfl,rfl⟩,rfl,rfl,rfl,rfl,rfl,rfl,rfl⟩:=h5;refine⟨?_,by simp[lM],zd,by simp[cM,Vm],by simp[gN,dH,cM,dJ,eF,eG]⟩;simp only[cM];exact this
 simp[okB,Ym,Yk,eG]at h4 h5;have:=anS h4;obtain⟨rfl,rfl,rfl,rfl,rfl,rfl,rfl,rfl,rfl,rfl⟩:=h5;refine⟨?_,?_,zd,by simp[cM,Vm],by simp[gN,dH,cM,dJ,eF,eG]⟩
 ·simp only[cM];exact this
 simp[lM,bw,qj];omega
def aaH{o:Od}(h:Xp o=true)(ht:o.cu.tx.size<=65536)(k:Nat):Zl ((Ya o).take k)=if(Ya o).length<=k then .ok o else .wire:=by
 obtain⟨v1,v2,v3,v4,v5,v6⟩:=Mh h ht;obtain⟨-,hk,-⟩:=vO5 h;have aH:(Ya o).length=(aR (dH o)).length+((aR (cM o)).length+((aR (lM o)).length+(yX o).length)):=by simp[Ya]
 have s1:=DT (dH o) [] (aR (cM o)++(aR (lM o)++yX o)) k v1 (zzbe _);have s2:=DT (cM o) (aR (dH o)) (aR (lM o)++yX o) k v2;simp only[zzah,zzcp,zzbn]at s1;have e0:Ya o=aR (dH o)++(aR (cM o)++(aR (lM o)++yX o)):=rfl;have e1:Ya o=(aR (dH o)++aR (cM o))++(aR (lM o)++yX o):=by rw[e0,zzbd]
 rw[<- e0]at s1 s2;have s1':dF 4 (List.take k (Ya o)) 0=if(aR (dH o)).length<=k then some (dH o,(aR (dH o)).length)else none:=s1;unfold Zl;rw[s1'];by_cases c1:(aR (dH o)).length<=k
 ·rw[if_pos c1];simp only;have hg:(dH o).getD 3 0=o.ki:=rfl;rw[hg,if_neg zE,<- v5,s2 c1];by_cases c2:(aR (dH o)).length+(aR (cM o)).length<=k
  ·rw[if_pos c2];simp only;unfold yz;rw[hg];have iy:(aR (dH o)++aR (cM o)).length=(aR (dH o)).length+(aR (cM o)).length:=zzal;by_cases k3:o.ki=3
   ·rw[if_pos k3];rw[if_pos k3,if_neg zE]at v6;have hT:lM o=(o.nw.al.length:Int)::Zd o.nw.al:=by unfold lM;rw[if_pos k3]
    have hX:yX o=[]:=by unfold yX;rw[if_neg zE]
    have eT:aR (lM o)=aN o.nw.al.length++aR (Zd o.nw.al):=by rw[hT];try rfl
    rw[hT]at v3;rw[eT,zzal,hX,zzcp]at aH;rw[eT,hX,zzau]at e1;have s3:=O6 (n:=(o.nw.al.length:Int)) (aR (dH o)++aR (cM o)) (aR (Zd o.nw.al)) k (v3 _ zd) zE;rw[<- e1,iy]at s3;unfold rd3;rw[s3];by_cases c3:(aR (dH o)).length+(aR (cM o)).length+(aN o.nw.al.length).length<=k
    ·rw[if_pos c3];simp only;have:=v4 k3;rw[if_neg zE];have s4:=DT (Zd o.nw.al) ((aR (dH o)++aR (cM o))++aN o.nw.al.length) [] k (fun n hn=>v3 n (by simp[hn])) (by rw[zzal];omega);rw[zzau,zzbd,<- e1,zzal,iy,ql]at s4;rw[show 2*(o.nw.al.length:Int).toNat=2*o.nw.al.length by omega,s4];by_cases c4:(aR (dH o)).length+(aR (cM o)).length+(aN o.nw.al.length).length+(aR (Zd o.nw.al)).length<=k
     ·rw[if_pos c4,if_pos zE];simp only;rw[zzai zE,if_pos zE,kY,v6]
     rw[if_neg c4,if_neg zE]
    rw[if_neg c3,if_neg zE]
   rw[if_neg k3];rw[if_neg k3]at v6;by_cases k5:o.ki=5
   ·rw[if_pos k5];rw[if_pos k5]at v6;have hT:lM o=[(o.cu.tx.size:Int)]:=by unfold lM;rw[if_neg k3,if_pos k5]
    have hX:yX o=aU o.cu.tx:=by unfold yX;rw[if_pos k5]
    have eT:aR (lM o)=aN o.cu.tx.size:=by rw[hT];simp[aR]
    rw[hT]at v3;rw[eT,hX,Xo]at aH;rw[eT,hX]at e1;have s3:=O6 (n:=(o.cu.tx.size:Int)) (aR (dH o)++aR (cM o)) (aU o.cu.tx) k (v3 _ zd) zE;rw[<- e1,iy]at s3;unfold rd5 BK;rw[s3];by_cases c3:(aR (dH o)).length+(aR (cM o)).length+(aN o.cu.tx.size).length<=k
    ·rw[if_pos c3];simp only;by_cases c4:(Ya o).length<=k
     ·rw[if_pos c4,zzai c4,if_neg zE];simp only
      have hd:(Ya o).drop ((aR (dH o)).length+(aR (cM o)).length+(aN o.cu.tx.size).length)=aU o.cu.tx:=by
       rw[e1,<- zzbd,show(aR (dH o)).length+(aR (cM o)).length+(aN o.cu.tx.size).length=(aR (dH o)++aR (cM o)++aN o.cu.tx.size).length by simp[zzas],zzdy]
      rw[hd,if_pos zE,zzai (by rw[Xo];omega),O3,v6]
     rw[if_neg c4,if_pos (by rw[zzav];omega)]
    rw[if_neg c3,if_neg zE]
   rw[if_neg k5];rw[if_neg k5]at v6;have hT:lM o=[]:=by unfold lM;rw[if_neg k3,if_neg k5]
   have hX:yX o=[]:=by unfold yX;rw[if_neg k5]
   rw[hT,hX]at aH;simp only[aR,zzfb,zzcp]at aH c2;have c3:(Ya o).length<=k:=by unfold aR at*;omega
   rw[zzai c3,if_pos (by unfold aR;omega),if_pos c3,v6]
  rw[if_neg c2,if_neg zE]
 rw[if_neg c1,if_neg zE]
def aaI{o:Od}(h:Xp o=true)(ht:o.cu.tx.size<=65536):Zl (Ya o)=.ok o:=by
 have:=aaH h ht (Ya o).length;rwa [zzbp,if_pos (zzaa _)]at this
def aaJ{o:Od}(h:Xp o=true)(ht:o.cu.tx.size<=65536):Ka (Ya o)=.ok o:=by
 unfold Ka;rw[aaI h ht];simp only;rw[if_pos h]
def bB(o:Od)(rt:Rt):P1:=[I o.sq,I o.ch,I o.fr,I o.ki,I o.en,I o.n,I o.nw.id,I o.nw.it,I o.nw.fr,I o.nw.ea,I o.nw.la,I o.nw.bo,.sl rt (o.nw.al.map Qe),I o.cl.ki,I o.cl.it,I o.cl.fr,I o.cl.to,I o.cl.re,I o.cl.n,I o.cl.a,I o.cl.b,I o.cu.id,I o.cu.fr,I o.cu.to,I o.cu.pr,.str o.cu.tx]
def O8:SC:=(⟨_,by cbv⟩:we [1,1,1,1,1,1] IS).1
def aaK:SC:=(⟨_,fun _=>by cbv⟩:jh [1] (AT [1,1,1,1,1] IS)).1 O8
def aaL:SC:=(⟨_,fun _=>by cbv⟩:jh [1,1] (AT [1,1,1] IS)).1 aaK
theorem af8:IS=(.seq (.ops [⟨(some 2),(.alloc [(.int .i64 0),(.int .i64 0),(.int .i64 0),(.int .i64 0),(.int .i64 0),(.int .i64 0),(.int .i64 0),(.int .i64 0),(.int .i64 0),(.int .i64 0),(.int .i64 0),(.int .i64 0),(.sl .nil []),(.int .i64 0),(.int .i64 0),(.int .i64 0),(.int .i64 0),(.int .i64 0),(.int .i64 0),(.int .i64 0),(.int .i64 0),(.int .i64 0),(.int .i64 0),(.int .i64 0),(.int .i64 0),(.str ⟨#[]⟩)]),none,[]⟩]) (.seq (.ops [⟨(some 3),(.alloc [(.int .i64 0),(.int .i64 0),(.int .i64 0),(.int .i64 0),(.int .i64 0),(.int .i64 0),(.int .i64 0),(.int .i64 0),(.int .i64 0),(.int .i64 0),(.int .i64 0),(.int .i64 0),(.sl .nil []),(.int .i64 0),(.int .i64 0),(.int .i64 0),(.int .i64 0),(.int .i64 0),(.int .i64 0),(.int .i64 0),(.int .i64 0),(.int .i64 0),(.int .i64 0),(.int .i64 0),(.int .i64 0),(.str ⟨#[]⟩)]),none,[]⟩]) (.seq (.seq (.ops [⟨(some 10),(.faddr 0 (.tmp 3)),none,[]⟩,⟨(some 11),(.faddr 1 (.tmp 3)),none,[]⟩,⟨(some 12),(.faddr 2 (.tmp 3)),none,[]⟩,⟨(some 13),(.faddr 3 (.tmp 3)),none,[]⟩,⟨(some 14),(.bsl 1 4 [(0,(.tmp 10)),(1,(.tmp 11)),(2,(.tmp 12)),(3,(.tmp 13))]),none,[]⟩,⟨(some 15),(.len (.tmp 14)),none,[]⟩,⟨(some 16),(.mv (.const (.int .i64 0))),none,[]⟩]) (.block 0 (.loop (.seq (.ops [⟨(some 17),(.bin .lss (.tmp 16) (.tmp 15)),none,[]⟩]) (.seq (.cond (.tmp 17) .skip (.exit 0)) (.seq (.block 1 (.seq (.ops [⟨(some 18),(.iaddr 1 (.tmp 14) (.tmp 16)),none,[]⟩,⟨(some 19),(.load false 1 (.tmp 18)),none,[]⟩,⟨(some 5),(.mv (.tmp 19)),none,[]⟩]) (.opsX [⟨(some 20),(.mv (.tmp 5)),none,[]⟩,⟨(some 21),(.mv (.tmp 0)),none,[]⟩,⟨(some 22),(.call (.func 74) [(.tmp 21)]),none,[]⟩,⟨(some 23),(.nilc (.tmp 20)),none,[]⟩,⟨none,(.store 1 (.tmp 23) (.tmp 22)),none,[]⟩]))) (.ops [⟨(some 24),(.bin .add (.tmp 16) (.const (.int .i64 1))),none,[]⟩,⟨(some 16),(.mv (.tmp 24)),none,[]⟩]))))))) aaL))):=rfl
def HW{gl:Nat->AV}{Y:YT}{q c f k:Int}{R:P1}{id:Nat}{m:AM}{K:UV}(hk:¬(k<1\/5<k))(hr:Qf m.boxes id=I q::I c::I f::I k::R)
  (hK:K (.bs m.boxes.length 0 (uP k).length 1) {m with boxes:=m.boxes++[(uP k).map fun o=>.ptr id o]}):aF Tryz.prog gl Y 25 [.ptr id 0] m K:=by
 refine Xn aka (fun _ f _=>if f=999999 then .aM 0 []else .junk) zd ?_;rcases(show k=1\/k=2\/k=3\/k=4\/k=5 by omega)with rfl|rfl|rfl|rfl|rfl
 all_goals
  simp[aph,api,hr];exact hK
structure OrQ (a0 a1:Addr) (l:P2) (Q:So):Prop where
 ok:∀(E:QP)(m:AM)(o:Od)(rt:Rt),Zl l=.ok o->Abs.look E 2=.ptr 1 0->Qf m.boxes 1=bB o rt->Q .ret ⟨Za 94 E,m⟩
 wire:∀(E:QP)(m:AM),Zl l=.wire->Q (.panic (chE a0)) ⟨Za 94 E,m⟩
 rep:∀(E:QP)(m:AM),Zl l=.rep->Q (.panic (chE a1)) ⟨Za 94 E,m⟩
def DU:X1:=fun d f _=>if f=74\/f=75\/f=25 then .gd false .junk else if f=999999/\d=14 then .aM 0 []else .junk
def DV{a0 a1:Addr}{Y:YT}{s:ByteArray}{Q:So}(hQ:OrQ a0 a1 (aU s) Q){e:Nat}{o:Od}{rt:Rt}(E:QP)(m:AM)(hm:2<m.boxes.length)(h0:Qf m.boxes 0=[.str s,I e])(z:Od)(h1:Qf m.boxes 1=bB z .nil)(h2:Qf m.boxes 2=bB o rt)
  (e0:Abs.look E 0=.ptr 0 0)(e2:Abs.look E 2=.ptr 1 0)(e3:Abs.look E 3=.ptr 2 0)(hs:Zl (aU s)=if e=(aU s).length then .ok o else .wire):vc Tryz.prog (fT a0 a1) DU Y O8 ⟨Za 94 E,m⟩ Q:=by
 rw[Xo]at hs;have iF:1<m.boxes.length:=zE
 have od:0<m.boxes.length:=zE
 by_cases he:e=s.size
 ·rw[if_pos he]at hs;simp[O8,h0,h1,h2,e0,e2,e3,iF,he,bB];refine hQ.ok _ _ o rt hs (by simp[e2]) ?_;show Qf (m.boxes.set 1 _) 1=_;rw[Xj _ iF];try rfl
 rw[if_neg he]at hs;have Dy:¬(e:Int)=(s.size:Int):=zE
 simp[O8,h0,h1,h2,e0,e2,e3,iF,he,Dy,bB,fT];refine⟨1,?_⟩;simp[Ir,Wy,fT];exact hQ.wire _ _ hs
def O9(h:Pi):gN h [] [] eB=⟨h.getD 0 0,h.getD 1 0,h.getD 2 0,h.getD 3 0,0,0,dJ,eF,eG⟩:=by
 unfold gN;congr 1
 ·split<;>rfl
 ·split<;>rfl
 ·split<;>rfl
 ·split<;>rfl
 split<;>rfl
def anT{h:Pi}{n:Int}{i:Nat}(hi:h.length=i)(h4:i<4):(bB (gN h [] [] eB) .nil).set i (I n)=bB (gN (h++[n]) [] [] eB) .nil:=by
 rw[O9,O9]
 match h,hi,h4 with
 |[],hi,_=>subst hi;rfl
 |[a],hi,_=>subst hi;rfl
 |[a,b],hi,_=>subst hi;rfl
 |[a,b,c],hi,_=>subst hi;rfl
 |a::b::c::d::e,hi,h4=>simp at hi;omega
def anU{q c f k:Int}{ns:Pi}{n:Int}{i:Nat}(hk:¬(k<1\/5<k))(hi:ns.length=i)(hc:i<Vm k):(bB (gN [q,c,f,k] ns [] eB) .nil).set ((uP k).getD i 0) (I n)=bB (gN [q,c,f,k] (ns++[n]) [] eB) .nil:=by
 subst hi;rcases(show k=1\/k=2\/k=3\/k=4\/k=5 by omega)with rfl|rfl|rfl|rfl|rfl
 ·match ns,hc with
  |[],_=>rfl
  |[a],_=>rfl
  |a::b::r,hc=>simp[Vm]at hc;omega
 ·match ns,hc with
  |[],_=>rfl
  |a::r,hc=>simp[Vm]at hc
 ·match ns,hc with
  |[],_=>rfl
  |[a],_=>rfl
  |[a,b],_=>rfl
  |[a,b,c],_=>rfl
  |[a,b,c,d],_=>rfl
  |[a,b,c,d,e],_=>rfl
  |a::b::c::d::e::f::r,hc=>simp[Vm]at hc;omega
 ·match ns,hc with
  |[],_=>rfl
  |[a],_=>rfl
  |[a,b],_=>rfl
  |[a,b,c],_=>rfl
  |[a,b,c,d],_=>rfl
  |[a,b,c,d,e],_=>rfl
  |[a,b,c,d,e,f],_=>rfl
  |[a,b,c,d,e,f,g],_=>rfl
  |a::b::c::d::e::f::g::h::r,hc=>simp[Vm]at hc;omega
 match ns,hc with
 |[],_=>rfl
 |[a],_=>rfl
 |[a,b],_=>rfl
 |[a,b,c],_=>rfl
 |a::b::c::d::r,hc=>simp[Vm]at hc;omega
def aaM{k:Int}(hk:¬(k<1\/5<k)):(uP k).length=Vm k:=by
 rcases(show k=1\/k=2\/k=3\/k=4\/k=5 by omega)with rfl|rfl|rfl|rfl|rfl<;>rfl
def rY:∀a b:List Sp,Zd (a++b)=Zd a++Zd b
 |[],b=>rfl
 |x::a,b=>by rw[zzaf,Zd,Zd,rY a b];try rfl
def af9{k:Int}:∀x∈uP k,x<26:=by
 unfold uP;split
 ·decide
 split
 ·decide
 split
 ·decide
 split
 ·decide
 split
 ·decide
 decide
def aga{a0 a1:Addr}{Y:YT}{s:ByteArray}{Q:So}(hQ:OrQ a0 a1 (aU s) Q)(hsz:s.size<=1000000){b:Nat}{q c f k:Int}{ns:Pi}(hk:¬(k<1\/5<k))(hb:b<=s.size)(E:QP)(m:AM)(hm:2<m.boxes.length)(h0:Qf m.boxes 0=[.str s,I b])(z:Od)(h1:Qf m.boxes 1=bB z .nil)(h2:Qf m.boxes 2=bB (gN [q,c,f,k] ns [] eB) .nil)
  (e0:Abs.look E 0=.ptr 0 0)(e2:Abs.look E 2=.ptr 1 0)(e3:Abs.look E 3=.ptr 2 0)(hs:Zl (aU s)=yz (aU s) [q,c,f,k] ns b):vc Tryz.prog (fT a0 a1) DU Y aaK ⟨Za 94 E,m⟩ Q:=by
 have iF:1<m.boxes.length:=zE
 have od:0<m.boxes.length:=zE
 have gU:(gN [q,c,f,k] ns [] eB).ki=k:=rfl;have r3:(Qf m.boxes 2).drop 3=I k::(bB (gN [q,c,f,k] ns [] eB) .nil).drop 4:=by rw[h2];try rfl
 unfold aaK;unfold yz at hs;have hg:[q,c,f,k].getD 3 0=k:=rfl;rw[hg]at hs;by_cases k3:k=3
 ·subst k3;rw[if_pos rfl]at hs;unfold rd3 at hs;cases hr:fO (aU s) b with
  |none=>
   rw[hr]at hs;simp[e0,e2,e3,r3,DU];refine .inr ⟨1,?_⟩;simp[Ir,Wy,e0];exact Qay hb hsz h0 hr (hQ.wire _ _ hs)
  |some x=>
   obtain⟨n,d⟩:=x;rw[hr]at hs;simp only at hs;obtain⟨-,q2,-,q4⟩:=Qaj (Jj s) hr;rw[Xo]at q4;simp[e0,e2,e3,r3,DU];refine .inl (Qda hb hsz od h0 hr ?_);by_cases hc:n<0\/7<n
   ·rw[if_pos hc]at hs;by_cases fF:n<0
    ·simp[fF,fT];refine⟨1,?_⟩;simp[Ir,Wy,fT];exact hQ.rep _ _ hs
    have hn7:7<n:=zE
    simp[fF,hn7,fT];refine⟨1,?_⟩;simp[Ir,Wy,fT];exact hQ.rep _ _ hs
   rw[if_neg hc]at hs;have fF:¬n<0:=zE
   have hn7:¬7<n:=zE
   simp[fF,hn7]
   refine Qk MK (fun f' mm=>∃(al:List Sp)(a:Nat)(rt:Rt),(al.length:Int)<=n/\f' 59=I al.length/\a<=s.size/\2<mm.boxes.length/\Qf mm.boxes 0=[.str s,I a]/\Qf mm.boxes 1=bB z .nil/\Qf mm.boxes 2=bB (gN [q,c,f,3] ns al eB) rt/\(al=[]/\rt=.nil\/al≠[]/\∃k,rt=.own k 2/\mm.lens[k]?=some al.length)/\
    dF (2*n.toNat) (aU s) d=(dF (2*(n.toNat-al.length)) (aU s) a).map fun x=>(Zd al++x.1,x.2)) (fun f' _=>8-(numOf (f' 59)).toNat) ?_ ?_
   ·refine⟨[],d,.nil,by simp;omega,zd,q4,Nm hm,Xj _ od,?_,?_,.inl ⟨rfl,rfl⟩,by cases dF (2*n.toNat) (aU s) d<;>rfl⟩
    ·show Qf (m.boxes.set 0 _) 1=_;rw[Qx _ zE];exact h1
    show Qf (m.boxes.set 0 _) 2=_;rw[Qx _ zE];exact h2
   rintro f' mm ⟨al,a,rt,fc,f59,ha,eN,g0,g1,g2,bn,hR⟩;by_cases ah:(al.length:Int)<n
   ·obtain⟨j,hj⟩:∃j,2*(n.toNat-al.length)=j+1+1:=⟨2*(n.toNat-al.length)-2,zE⟩;rw[hj,dF]at hR;cases sC:fO (aU s) a with
    |none=>
     rw[sC]at hR;have dR:Zl (aU s)=.wire:=by rw[hs,hR];try rfl
     simp[f59,ah,MK,e0,e2,e3,DU];refine .inr ⟨1,?_⟩;simp[Ir,Wy,e0,e2,e3];exact Qay ha hsz g0 sC (hQ.wire _ _ dR)
    |some x1=>
     obtain⟨x1,a1⟩:=x1;rw[sC]at hR;simp only at hR;obtain⟨-,p2,-,p4⟩:=Qaj (Jj s) sC;rw[Xo]at p4;rw[dF]at hR;simp[f59,ah,MK,e0,e2,e3,DU];refine .inl (Qda ha hsz zE g0 sC ?_);have QW:∀v y,Qf (mm.boxes.set 0 v++[y]) 0=v:=fun v y=>by rw[Qi (by simp;omega),Xj _ zE]
     cases dB:fO (aU s) a1 with
     |none=>
      rw[dB]at hR;have dR:Zl (aU s)=.wire:=by rw[hs,hR];try rfl
      simp[e0,e2,e3];refine .inr ⟨1,?_⟩;simp[Ir,Wy,e0,e2,e3];exact Qay p4 hsz (QW _ _) dB (hQ.wire _ _ dR)
     |some x2=>
      obtain⟨x2,a2⟩:=x2;rw[dB]at hR;simp only at hR;obtain⟨-,p2',-,p4'⟩:=Qaj (Jj s) dB;rw[Xo]at p4'
      have hX:∀w y z,(mm.boxes.set 0 w++[y]).set mm.boxes.length z=mm.boxes.set 0 w++[z]:=fun w y z=>by
       rw[zzch _ _ zd];simp
      have hX0:∀w y z,(mm.boxes.set 0 w++[y]).set 0 z=mm.boxes.set 0 z++[y]:=fun w y z=>by
       rw[zzfv _ _ (by simp;omega),zzhp]
      have hL:∀w y,Qf (mm.boxes.set 0 w++[y]) mm.boxes.length=y:=fun w y=>by
       have:=Xt (mm.boxes.set 0 w) [y] 0;rw[zzcf]at this;simpa using this
      have WS:∀w y,Qf (mm.boxes.set 0 w++[y]) 2=bB (gN [q,c,f,3] ns al eB) rt:=fun w y=>by rw[Qi (Nm eN),Qx _ zE];exact g2
      have hna:(gN [q,c,f,3] ns al eB).nw.al=al:=rfl;have rj:IntKind.i64.wrap ((al.length:Int)+1)=(al.length:Int)+1:=by rw[Qh]<;>omega
      have g12:∀w y,(Qf (mm.boxes.set 0 w++[y]) 2).drop 12=.sl rt (al.map Qe)::(bB (gN [q,c,f,3] ns al eB) rt).drop 13:=fun w y=>by rw[WS];try rfl
      have Mi:∀w y,(Qf (mm.boxes.set 0 w++[y]) 2).length=26:=fun w y=>by rw[WS];try rfl
      have fin:∀(w y:P1)(k:Nat)(X:X2),X=(al++[(x1,x2)]).map Qe->
        Qf ((mm.boxes.set 0 w++[y]).set 2 ((Qf (mm.boxes.set 0 w++[y]) 2).set 12 (.sl (.own k 2) X))) 0=w/\
        Qf ((mm.boxes.set 0 w++[y]).set 2 ((Qf (mm.boxes.set 0 w++[y]) 2).set 12 (.sl (.own k 2) X))) 1=bB z .nil/\
        Qf ((mm.boxes.set 0 w++[y]).set 2 ((Qf (mm.boxes.set 0 w++[y]) 2).set 12 (.sl (.own k 2) X))) 2=bB (gN [q,c,f,3] ns (al++[(x1,x2)]) eB) (.own k 2):=fun w y k X hX=>by
       subst hX;refine⟨?_,?_,?_⟩
       ·rw[Qx _ zE];exact QW _ _
       ·rw[Qx _ zE,Qi (by simp;omega),Qx _ zE];exact g1
       rw[Xj _ (by simp;omega),WS];try rfl
      have KU:dF (2*n.toNat) (aU s) d=(dF (2*(n.toNat-(al++[(x1,x2)]).length)) (aU s) a2).map fun x=>(Zd (al++[(x1,x2)])++x.1,x.2):=by
       rw[hR,show 2*(n.toNat-(al++[(x1,x2)]).length)=j by simp;omega,rY];cases dF j (aU s) a2<;>simp[Zd]
      simp[e0,e2,e3];refine .inl (Qda p4 hsz zd (QW _ _) dB ?_);simp[e0,e2,e3,hX,hX0,hL,g12,Mi,rj];obtain⟨rfl,rfl⟩|⟨aK,k,rfl,tI⟩:=bn
      ·simp[Mi];obtain⟨t2,t3,t4⟩:=fin [.str s,I a2] [I x1,I x2] mm.lens.length [[I x1,I x2]] rfl;refine⟨zE,ag ?_,[(x1,x2)],by simp at ah |-;omega,zd,a2,p4',zE,t2,t3,.own mm.lens.length 2,t4,.inr ⟨zd,_,rfl,zd⟩,KU⟩;repeat(first|exact Qa _ _|refine Qb _ rfl ?_)
      simp[Mi];obtain⟨t2,t3,t4⟩:=fin [.str s,I a2] [I x1,I x2] k (al.map Qe++[[I x1,I x2]]) (by simp[Qe]);have qu:=(zza.1 tI).1;refine⟨⟨tI,?_,zE⟩,zE,aP,⟨al++[(x1,x2)],by simp;omega,zd,a2,p4',zE,t2,t3,.own k 2,t4,.inr ⟨zd,_,rfl,by simp[qu]⟩,KU⟩,zE⟩
      ·rintro row (⟨u,v,_,rfl⟩|rfl)<;>rfl
   have e0':n.toNat-al.length=0:=zE
   rw[e0',Nat.mul_zero,dF]at hR;simp only[zzcb,zzau]at hR;rw[hR]at hs;simp only[kY]at hs;simp[f59,ah,MK];exact DV hQ (o:=gN [q,c,f,3] ns al eB) (rt:=rt) (e:=a) (z:=z) _ _ eN g0 g1 g2 (by simp[e0]) (by simp[e2]) (by simp[e3]) hs
 rw[if_neg k3]at hs;by_cases k5:k=5
 ·subst k5;rw[if_pos rfl]at hs;unfold rd5 at hs;cases hr:BK (aU s) b with
  |none=>
   rw[hr]at hs;simp[e0,e2,e3,r3,DU];refine .inr ⟨1,?_⟩;simp[Ir,Wy,e0];exact aaE hb hsz h0 hr (hQ.wire _ _ hs)
  |some x=>
   obtain⟨t,e⟩:=x;rw[hr]at hs;have aAc:(Qf m.boxes 2).length=26:=by rw[h2];try rfl
   simp[e0,e2,e3,r3,DU];refine .inl (af7 hb hsz od h0 hr ?_);have g2:∀v,Qf (m.boxes.set 0 v) 2=bB (gN [q,c,f,5] ns [] eB) .nil:=fun v=>by rw[Qx _ zE];exact h2
   simp[g2,hm];refine⟨by simp[bB],DV hQ (o:=gN [q,c,f,5] ns [] (dh t)) (rt:=.nil) (e:=e) (z:=z) _ _ ?_ ?_ ?_ ?_ (by simp[e0]) (by simp[e2]) (by simp[e3]) hs⟩
   ·simpa using hm
   ·show Qf ((m.boxes.set 0 _).set 2 _) 0=_;rw[Qx _ zE,Xj _ od]
   ·show Qf ((m.boxes.set 0 _).set 2 _) 1=_;rw[Qx _ zE,Qx _ zE];exact h1
   show Qf ((m.boxes.set 0 _).set 2 _) 2=_;rw[Xj _ (Nm hm)];try rfl
 rw[if_neg k5]at hs;simp[e0,e2,e3,r3,k3,k5];exact DV hQ _ _ hm h0 z h1 h2 (by simp[e0]) (by simp[e2]) (by simp[e3]) hs
def agb{a0 a1:Addr}{Y:YT}{s:ByteArray}{Q:So}(hQ:OrQ a0 a1 (aU s) Q)(hsz:s.size<=1000000){b:Nat}{q c f k:Int}(hr:dF 4 (aU s) 0=some ([q,c,f,k],b))(hb:b<=s.size)(E:QP)(m:AM)(hm:2<m.boxes.length)(h0:Qf m.boxes 0=[.str s,I b])(z:Od)(h1:Qf m.boxes 1=bB z .nil)(h2:Qf m.boxes 2=bB (gN [q,c,f,k] [] [] eB) .nil)
  (e0:Abs.look E 0=.ptr 0 0)(e2:Abs.look E 2=.ptr 1 0)(e3:Abs.look E 3=.ptr 2 0):vc Tryz.prog (fT a0 a1) DU Y aaL ⟨Za 94 E,m⟩ Q:=by
 have iF:1<m.boxes.length:=zE
 have od:0<m.boxes.length:=zE
 have r3:(Qf m.boxes 2).drop 3=I k::(bB (gN [q,c,f,k] [] [] eB) .nil).drop 4:=by rw[h2];try rfl
 have r0:Qf m.boxes 2=I q::I c::I f::I k::(bB (gN [q,c,f,k] [] [] eB) .nil).drop 4:=by rw[h2];try rfl
 have hS:Zl (aU s)=if k<1\/5<k then .rep else match dF (Vm k) (aU s) b with
  |none=>.wire
  |some (ns,b)=>yz (aU s) [q,c,f,k] ns b:=by unfold Zl;rw[hr]<;>rfl
 unfold aaL;by_cases hk:k<1\/5<k
 ·rw[if_pos hk]at hS;by_cases cZ:k<1
  ·simp[e0,e2,e3,r3,cZ,fT];refine⟨1,?_⟩;simp[Ir,Wy,fT];exact hQ.rep _ _ hS
  have Ri:5<k:=zE
  simp[e0,e2,e3,r3,cZ,Ri,fT];refine⟨1,?_⟩;simp[Ir,Wy,fT];exact hQ.rep _ _ hS
 rw[if_neg hk]at hS;have cZ:¬k<1:=zE
 have Ri:¬5<k:=zE
 have oJ:=aaM hk;simp[e0,e2,e3,r3,cZ,Ri,DU];refine HW hk r0 ?_;simp;generalize hp:m.boxes.length=p at*
 refine Qk MJ (fun f' mm=>∃(ns:Pi)(a:Nat),ns.length<=Vm k/\f' 36=I ns.length/\a<=s.size/\p<mm.boxes.length/\Qf mm.boxes 0=[.str s,I a]/\Qf mm.boxes 1=bB z .nil/\Qf mm.boxes 2=bB (gN [q,c,f,k] ns [] eB) .nil/\Qf mm.boxes p=(uP k).map (fun o=>.ptr 2 o)/\
  dF (Vm k) (aU s) b=(dF (Vm k-ns.length) (aU s) a).map fun x=>(ns++x.1,x.2)) (fun f' _=>9-(numOf (f' 36)).toNat) ?_ ?_
 ·refine⟨[],b,zd,zd,hb,by simp[hp],?_,?_,?_,?_,by cases dF (Vm k) (aU s) b<;>rfl⟩
  ·show Qf (m.boxes++_) 0=_;rw[Qi zE];exact h0
  ·show Qf (m.boxes++_) 1=_;rw[Qi zE];exact h1
  ·show Qf (m.boxes++_) 2=_;rw[Qi zE];exact h2
  show Qf (m.boxes++_) p=_;have:=Xt m.boxes [(uP k).map fun o=>AV.ptr 2 o] 0;rw[hp]at this;simpa using this
 rintro f' mm ⟨ns,a,sA,f36,ha,eN,g0,g1,g2,gp,hR⟩;have hc8:Vm k<=8:=by unfold Vm;(repeat' split)<;>omega
 by_cases ah:ns.length<Vm k
 ·have bL:(ns.length:Int)<((uP k).length:Int):=zE
  obtain⟨j,hj⟩:∃j,Vm k-ns.length=j+1:=⟨Vm k-ns.length-1,zE⟩;rw[hj,dF]at hR
  have hgp:(Qf mm.boxes p).drop ns.length=.ptr 2 ((uP k).getD ns.length 0)::(Qf mm.boxes p).drop (ns.length+1):=by
   rw[gp,zzae (by simp;omega)];simp[List.getD,zzac (show ns.length<(uP k).length by omega)]
  have aAd:(uP k).getD ns.length 0<26:=by
   have h:=zzac (show ns.length<(uP k).length by omega);rw[List.getD,h];exact af9 _ (zzdc _)
  have iy:(Qf mm.boxes p).length=(uP k).length:=by rw[gp,zzbv]
  generalize hof:(uP k).getD ns.length 0=of at*
  cases sC:fO (aU s) a with
  |none=>
   rw[sC]at hR;have dR:Zl (aU s)=.wire:=by rw[hS,hR];try rfl
   simp[f36,bL,MJ,e0,e2,e3,hgp,iy,eN,DU];refine .inr ⟨2,?_⟩;simp[Ir,Wy,e0,e2,e3];exact Qay ha hsz g0 sC (hQ.wire _ _ dR)
  |some x=>
   obtain⟨n,a2⟩:=x;rw[sC]at hR;simp only at hR;obtain⟨-,p2,-,p4⟩:=Qaj (Jj s) sC;rw[Xo]at p4;have rj:IntKind.i64.wrap ((ns.length:Int)+1)=(ns.length:Int)+1:=by rw[Qh]<;>omega
   simp[f36,bL,MJ,e0,e2,e3,hgp,iy,eN,DU,rj];refine .inl (Qda ha hsz zE g0 sC ?_);have WS:∀v,Qf (mm.boxes.set 0 v) 2=bB (gN [q,c,f,k] ns [] eB) .nil:=fun v=>by rw[Qx _ zE];exact g2
   have Mi:∀v,(Qf (mm.boxes.set 0 v) 2).length=26:=fun v=>by rw[WS];try rfl
   have anV:2<mm.boxes.length:=zE
   have ai:=anU (q:=q) (c:=c) (f:=f) (ns:=ns) (n:=n) hk rfl ah;rw[hof]at ai;simp[Mi,anV,rj];refine⟨zE,aP,⟨ns++[n],by simp;omega,zd,a2,p4,?_,?_,?_,?_,?_,?_⟩,zE⟩
   ·simpa using eN
   ·show Qf ((mm.boxes.set 0 _).set 2 _) 0=_;rw[Qx _ zE,Xj _ zE]
   ·show Qf ((mm.boxes.set 0 _).set 2 _) 1=_;rw[Qx _ zE,Qx _ zE];exact g1
   ·show Qf ((mm.boxes.set 0 _).set 2 _) 2=_;rw[Xj _ (by simp;omega),WS];exact ai
   ·show Qf ((mm.boxes.set 0 _).set 2 _) p=_;rw[Qx _ zE,Qx _ zE];exact gp
   rw[hR,show Vm k-(ns++[n]).length=j by simp;omega];cases dF j (aU s) a2<;>simp
 have bL:¬(ns.length:Int)<((uP k).length:Int):=zE
 rw[show Vm k-ns.length=0 by omega,dF]at hR;simp only[zzcb,zzau]at hR;rw[hR]at hS;simp only at hS;simp[f36,bL,MJ,e0,e2,e3];exact aga hQ hsz hk ha _ _ zE g0 z g1 g2 (by simp[e0]) (by simp[e2]) (by simp[e3]) hS
def yA{a0 a1:Addr}{Y:YT}{s:ByteArray}{Q:So}(hQ:OrQ a0 a1 (aU s) Q)(hsz:s.size<=1000000):vc Tryz.prog (fT a0 a1) DU Y IS ⟨Za 94 (lW 0 [.ptr 0 0]),⟨[[.str s,I 0]],[],fun _=>.gone,0⟩⟩ Q:=by
 rw[af8];simp[DU]
 refine Qk MI (fun f' mm=>∃(hs:Pi)(a:Nat),hs.length<=4/\f' 16=I hs.length/\a<=s.size/\3<mm.boxes.length/\Qf mm.boxes 0=[.str s,I a]/\Qf mm.boxes 1=bB (gN [] [] [] eB) .nil/\Qf mm.boxes 2=bB (gN hs [] [] eB) .nil/\Qf mm.boxes 3=[.ptr 2 0,.ptr 2 1,.ptr 2 2,.ptr 2 3]/\
   dF 4 (aU s) 0=(dF (4-hs.length) (aU s) a).map fun x=>(hs++x.1,x.2)) (fun f' _=>5-(numOf (f' 16)).toNat) ?_ ?_
 ·refine⟨[],0,zd,zd,zE,zd,rfl,rfl,rfl,rfl,by cases dF 4 (aU s) 0<;>rfl⟩
 rintro f' mm ⟨hs,a,sA,f16,ha,eN,g0,g1,g2,gp,hR⟩;by_cases ah:hs.length<4
 ·have bL:(hs.length:Int)<4:=zE
  obtain⟨j,hj⟩:∃j,4-hs.length=j+1:=⟨3-hs.length,zE⟩;rw[hj]at hR
  conv at hR=>rhs;rw[dF]
  have hgp:(Qf mm.boxes 3).drop hs.length=.ptr 2 hs.length::(Qf mm.boxes 3).drop (hs.length+1):=by
   rw[gp]
   match hs.length,ah with
   |0,_=>rfl
   |1,_=>rfl
   |2,_=>rfl
   |3,_=>rfl
  have iy:(Qf mm.boxes 3).length=4:=by rw[gp];try rfl
  cases sC:fO (aU s) a with
  |none=>
   rw[sC]at hR;have dR:Zl (aU s)=.wire:=by unfold Zl;rw[hR];try rfl
   simp[f16,bL,MI,hgp,iy,eN,DU];refine .inr ⟨2,?_⟩;simp[Ir,Wy];exact Qay ha hsz g0 sC (hQ.wire _ _ dR)
  |some x=>
   obtain⟨n,a2⟩:=x;rw[sC]at hR;simp only at hR;obtain⟨-,p2,-,p4⟩:=Qaj (Jj s) sC;rw[Xo]at p4;have rj:IntKind.i64.wrap ((hs.length:Int)+1)=(hs.length:Int)+1:=by rw[Qh]<;>omega
   simp[f16,bL,MI,hgp,iy,eN,DU,rj];refine .inl (Qda ha hsz zE g0 sC ?_);have WS:∀v,Qf (mm.boxes.set 0 v) 2=bB (gN hs [] [] eB) .nil:=fun v=>by rw[Qx _ zE];exact g2
   have Mi:∀v,(Qf (mm.boxes.set 0 v) 2).length=26:=fun v=>by rw[WS];try rfl
   have anV:2<mm.boxes.length:=zE
   have ai:=anT (h:=hs) (n:=n) rfl ah;simp[Mi,anV,rj];refine⟨zE,aP,⟨hs++[n],by simp;omega,zd,a2,p4,?_,?_,?_,?_,?_,?_⟩,zE⟩
   ·simpa using eN
   ·show Qf ((mm.boxes.set 0 _).set 2 _) 0=_;rw[Qx _ zE,Xj _ zE]
   ·show Qf ((mm.boxes.set 0 _).set 2 _) 1=_;rw[Qx _ zE,Qx _ zE];exact g1
   ·show Qf ((mm.boxes.set 0 _).set 2 _) 2=_;rw[Xj _ (by simp;omega),WS];exact ai
   ·show Qf ((mm.boxes.set 0 _).set 2 _) 3=_;rw[Qx _ zE,Qx _ zE];exact gp
   rw[hR,show 4-(hs++[n]).length=j by simp;omega];cases dF j (aU s) a2<;>simp
 have bL:¬(hs.length:Int)<4:=zE
 rw[show 4-hs.length=0 by omega]at hR
 conv at hR=>rhs;rw[dF]
 simp only[zzcb,zzau]at hR;simp[f16,bL,MI]
 match hs,(show hs.length=4 by omega)with
 |[q,c,f,k],_=>exact agb hQ hsz hR ha _ _ zE g0 _ g1 g2 zd zd zd
def jW(ob:Nat)(k:Int):PQ:=((uP k).map fun o=>Value.pointer (some ⟨ob,o,none⟩)).toArray
def yB(ob:Nat)(arr:PQ)(w:World)(k:Int)(hk:¬(k<1\/5<k))(hb:w.heap[ob]?=some (.cells arr 30 (0,0)))(h3:arr[3]?=some (.int .i64 k))(hs:26<=arr.size):
  Calls Tryz.prog 25 #[.pointer (some ⟨ob,0,none⟩)] w fun e w'=>e=.returned (.slice (some ⟨w.heap.size,0,none⟩) (uP k).length (uP k).length)/\w'.heap[w.heap.size]?=some (.cells (jW ob k) 83 (0,0))/\Below w.heap.size w w':=by
 have mixed:Tryz.prog.follows Departure.mixedOrders=true:=by kernel_rfl
 have c3:w.cell? ⟨ob,3,none⟩=some (.int .i64 k):=by rw[Lib.cell_of_heap hb];exact h3
 rcases(show k=1\/k=2\/k=3\/k=4\/k=5 by omega)with rfl|rfl|rfl|rfl|rfl
 ·go_enter Tryz.func25,Tryz.ntmps25
  go_wp2
  go_region_o
  go_wp2
  go_ret
  exact⟨rfl,heap_alloc_new w _,((Below.refl _ w).alloc (zzaa _) _).drew⟩
 ·go_enter Tryz.func25,Tryz.ntmps25
  go_wp2
  go_ret
  exact⟨rfl,heap_alloc_new w _,((Below.refl _ w).alloc (zzaa _) _)⟩
 ·go_enter Tryz.func25,Tryz.ntmps25
  go_wp2
  go_region_o
  go_wp2
  go_ret
  exact⟨rfl,heap_alloc_new w _,((Below.refl _ w).alloc (zzaa _) _).drew⟩
 ·go_enter Tryz.func25,Tryz.ntmps25
  go_wp2
  go_region_o
  go_wp2
  go_ret
  exact⟨rfl,heap_alloc_new w _,((Below.refl _ w).alloc (zzaa _) _).drew⟩
 go_enter Tryz.func25,Tryz.ntmps25
 go_wp2
 go_region_o
 go_wp2
 go_ret
 exact⟨rfl,heap_alloc_new w _,((Below.refl _ w).alloc (zzaa _) _).drew⟩
def aaN:Code->Code
 |.seq _ b=>b
 |c=>c
def rZ(w:World)(o1 o2:Obj):((w.alloc o1).alloc o2).heap.size=w.heap.size+2/\((w.alloc o1).alloc o2).heap[w.heap.size]?=some o1/\((w.alloc o1).alloc o2).heap[w.heap.size+1]?=some o2/\Below w.heap.size w ((w.alloc o1).alloc o2):=by
 have h1:∀(w:World)(o:Obj),(w.alloc o).heap=w.heap.push o:=fun _ _=>rfl;refine⟨by rw[h1,h1];simp,by rw[h1,h1];simp[Array.getElem?_push],by rw[h1,h1,show w.heap.size+1=(w.heap.push o1).size by simp,zzeh],((Below.refl _ w).alloc (zzaa _) _).alloc (by rw[h1];simp) _⟩
def Qec{w:World}{k:Nat}{o:Obj}(h:w.heap[k]?=some o):k<w.heap.size:=by
 rcases zzab k w.heap.size with h'|h'
 ·exact h'
 simp[zzbt h']at h
def Bld.lt{B b:Nat}{bs:PP}{v:Value}{w:World}(h:Bld B b bs v w):b<w.heap.size:=by
 obtain⟨p,hp,Sf,lB,cp,aK⟩:=h;exact Qec lB
def Bld.mono{B b:Nat}{bs:PP}{v:Value}{w w':World}(h:Bld B b bs v w)(hb:Below w.heap.size w w'):Bld B b bs v w':=by
 obtain⟨p,hp,Sf,lB,cp,aK⟩:=h;refine⟨p,hp,Sf,by rw[hb.block b (Qec lB)];exact lB,?_,aK⟩;exact cp.kept (row:=none) ⟨hb.os,hb.tape,hb.output,hb.size,fun k hk _=>hb.block k hk⟩ (by cases h:v.ownBlock with|none=>exact .inl rfl|some k=>exact .inr zd)
def fe(b:Nat)(w0:World)(ks:List (Nat×PQ×TypeId))(c:Nat)(l:P2)(W:World):Prop:=
 l.length<=9*c/\∃v,Bld b b (Lib.strCells (dh l)) v W/\Below b w0 W/\b<=W.heap.size/\∀x∈ks,x.1≠b/\x.2.2≠5/\W.heap[x.1]?=some (.cells x.2.1 x.2.2 (0,0))
def qm(l m:P2):Lib.strCells (dh l)++Lib.strCells (dh m)=Lib.strCells (dh (l++m)):=by
 simp[Lib.strCells,dh]
def fe.own{b:Nat}{w0:World}{ks:List (Nat×PQ×TypeId)}{c:Nat}{l:P2}{W:World}(h:fe b w0 ks c l W){W':World}(hb:Below W.heap.size W W'):fe b w0 ks c l W':=by
 obtain⟨hc,v,h1,h2,h3,h4⟩:=h;exact⟨hc,v,h1.mono hb,h2.trans (hb.mono h3),zzaz h3 hb.size,fun x hx=>⟨(h4 x hx).1,(h4 x hx).2.1,(hb.block _ (Qec (h4 x hx).2.2)).trans (h4 x hx).2.2⟩⟩
def fe.more{b:Nat}{w0:World}{ks:List (Nat×PQ×TypeId)}{c:Nat}{l:P2}{W:World}(h:fe b w0 ks c l W)(x:Nat×PQ×TypeId)(h1:x.1≠b)(h2:x.2.2≠5)(h3:W.heap[x.1]?=some (.cells x.2.1 x.2.2 (0,0))):fe b w0 (x::ks) c l W:=by
 obtain⟨hc,v,g1,g2,g3,g4⟩:=h;refine⟨hc,v,g1,g2,g3,fun y hy=>?_⟩;rcases zzao.1 hy with rfl|hy
 ·exact⟨h1,h2,h3⟩
 exact g4 y hy
def Pa{w:World}{γ:Abs.G}{t:ByteArray}{v:Value}(h:Abs.au w γ (.aS [.str t,.int .i64 0]) v):v=.tuple #[.string t,.int .i64 0]:=by
 cases h with
 |aS hl hc=>
  rename_i arr;have hz:arr.size=2:=hl.symm;have c0:=hc 0 _ arr[0] rfl zd;have c1:=hc 1 _ arr[1] rfl zd
  have:arr=#[arr[0],arr[1]]:=by
   refine Array.ext (by simp[hz]) fun i h1 h2=>?_
   match i,h2 with
   |0,_=>rfl
   |1,_=>rfl
  rw[this];cases h0:arr[0]<;>rw[h0]at c0<;>cases c0;cases h1:arr[1]<;>rw[h1]at c1<;>cases c1;rfl
def Sg{n:Int}(hn:Abs.bw n)(w:World):Calls Tryz.prog 23 #[.int .i64 n] w fun e w'=>e=.returned (.tuple #[.string (dh (Abs.aN n)),.int .i64 0])/\Below w.heap.size w w':=by
 refine Calls.mono ((tj (gl:=fun _=>.junk) hn).2 (fun _ _=>False) w [.int .i64 n] (fun g=>.junk _) ⟨rfl,fun i a v ha hv=>?_⟩) ?_
 ·match i,ha,hv with
  |0,ha,hv=>cases ha;cases hv;exact .int _ _
  |i+1,ha,hv=>simp at ha
 rintro e w' ⟨v,rfl,h1,h2⟩;exact⟨by rw[Pa h2];try rfl,h1⟩
def Uf{b:Nat}{w0:World}{ks:List (Nat×PQ×TypeId)}{c:Nat}{l:P2}{W:World}(h:fe b w0 ks c l W){n:Int}(hn:Abs.bw n)(hl:c<=1000):
  Calls Tryz.prog 22 #[.int .i64 n,.pointer (some ⟨b,0,none⟩)] W fun e W'=>e=.returned (.tuple #[])/\fe b w0 ks (c+1) (l++Abs.aN n) W':=by
 obtain⟨hc,v,g1,g2,g3,g4⟩:=h;have h9:=Qbw 9 (Abs.iK n);have hz:=Uo (Abs.aN n);refine(auQ b b _ _ n _ W g1 g3 (by rw[hz,Lib.strCells_length,Uo];unfold Abs.aN;omega) (fun w=>Sg hn w)).mono ?_;rintro e W' ⟨rfl,v',q1,q2,q3⟩;rw[qm]at q1;refine⟨rfl,by rw[zzal];unfold Abs.aN;omega,v',q1,g2.trans q2,zzaz g3 q2.size,fun x hx=>⟨(g4 x hx).1,(g4 x hx).2.1,?_⟩⟩;obtain⟨p,hp,Sf,lB,cp,aK⟩:=g1;have hx3:=(g4 x hx).2.2;exact(q3 _ (Qec hx3) (g4 x hx).1 (Lib.ownBlock_ne cp hx3 (g4 x hx).2.1)).trans hx3
def yY(o:Od)(sl:Value):PQ:=#[.int .i64 o.sq,.int .i64 o.ch,.int .i64 o.fr,.int .i64 o.ki,.int .i64 o.en,.int .i64 o.n,.int .i64 o.nw.id,.int .i64 o.nw.it,.int .i64 o.nw.fr,.int .i64 o.nw.ea,.int .i64 o.nw.la,.int .i64 o.nw.bo,sl,.int .i64 o.cl.ki,.int .i64 o.cl.it,.int .i64 o.cl.fr,.int .i64 o.cl.to,.int .i64 o.cl.re,.int .i64 o.cl.n,.int .i64 o.cl.a,.int .i64 o.cl.b,.int .i64 o.cu.id,.int .i64 o.cu.fr,.int .i64 o.cu.to,.int .i64 o.cu.pr,.string o.cu.tx]
def fe.cell{b:Nat}{w0:World}{ks:List (Nat×PQ×TypeId)}{c:Nat}{l:P2}{W:World}(h:fe b w0 ks c l W){k:Nat}{a:PQ}{t:TypeId}(hx:(k,a,t)∈ks)(i:Nat):W.cell? ⟨k,i,none⟩=a[i]?:=by
 obtain⟨hc,v,g1,g2,g3,g4⟩:=h;rw[Lib.cell_of_heap (g4 _ hx).2.2]
def fe.at{b:Nat}{w0:World}{ks:List (Nat×PQ×TypeId)}{c:Nat}{l:P2}{W:World}(h:fe b w0 ks c l W){k:Nat}{a:PQ}{t:TypeId}(hx:(k,a,t)∈ks):W.heap[k]?=some (.cells a t (0,0)):=by
 obtain⟨hc,v,g1,g2,g3,g4⟩:=h;exact(g4 _ hx).2.2
def Qav{b:Nat}{w0:World}{ks:List (Nat×PQ×TypeId)}{c:Nat}{l:P2}{W:World}(h:fe b w0 ks c l W)(hl:l≠[]):
  Calls Tryz.prog 27 #[.pointer (some ⟨b,0,none⟩)] W fun e W'=>e=.returned (.string (dh l))/\Below b w0 W':=by
 obtain⟨hc,v,g1,g2,g3,g4⟩:=h
 refine(aaG b b (l.map UInt8.ofNat) v W (by
  have:Lib.strCells (dh l)=Lib.byteCells (l.map UInt8.ofNat):=by simp[Lib.strCells,Lib.byteCells,dh]
  rw[<- this];exact g1) (Nm hl)).mono ?_
 rintro e W' ⟨rfl,hb⟩;exact⟨rfl,g2.trans hb⟩
def kZ(n:Int):Abs.aN n≠[]:=by
 unfold Abs.aN Abs.qi;split<;>simp
def tv:Code:=aaN (aaN (Tryz.f8.body.getD .skip))
def Sh(Q:PH)(ob:Nat)(o:Od)(sl:Value)(x0 zR zS zT zU:Value)(w:World)(hk:¬(o.ki<1\/5<o.ki))(hn:∀n∈dH o,Abs.bw n)(eL:∀n∈cM o,Abs.bw n)
  (qn:w.heap[ob]?=some (.cells (yY o sl) 30 (0,0)))(aaO:o.ki=1\/o.ki=2\/o.ki=4)
  (hQ:∀(tm:PQ)w',tm.getD 2 undef=.string (dh (Ya o))->tm.getD 3 undef=.int .i64 0->Below w.heap.size w w'->Q .ret ⟨tm,[]⟩ w'):
  Code.wp Tryz.prog tv Q ⟨#[x0,.pointer (some ⟨ob,0,none⟩),.string ⟨#[]⟩,.int .i64 0,undef,undef,undef,undef,undef,undef,undef,undef,undef,zR,zS,zT,zU,undef,undef,undef,undef,undef,undef,undef,undef,undef,undef,undef,undef,undef,undef,undef,undef,undef,undef,undef,undef,undef,undef,undef,undef,undef,undef,undef,undef,undef,undef,undef,undef,undef,undef,undef,undef,undef,undef,undef,undef,undef,undef,undef,undef,undef,undef,undef,undef,undef,undef,undef,undef,undef,undef,undef,undef,undef,undef,undef,undef,undef,undef,undef,undef,undef,undef,undef,undef,undef,undef],[]⟩ w:=by
 have mixed:Tryz.prog.follows Departure.mixedOrders=true:=by kernel_rfl
 have ah:ob<w.heap.size:=Qec qn;have e36:∀args w,(callFunc 22 args).run Tryz.prog w=.ok (.enter 22 args) w:=enters_of Tryz.func22 (by kernel_rfl) rfl;have e39:∀args w,(callFunc 25 args).run Tryz.prog w=.ok (.enter 25 args) w:=enters_of Tryz.func25 (by kernel_rfl) rfl;have e41:∀args w,(callFunc 27 args).run Tryz.prog w=.ok (.enter 27 args) w:=enters_of Tryz.func27 (by kernel_rfl) rfl;have c0:w.cell? ⟨ob,0,none⟩=some (.int .i64 o.sq):=by rw[Lib.cell_of_heap qn];try rfl
 have c1:w.cell? ⟨ob,1,none⟩=some (.int .i64 o.ch):=by rw[Lib.cell_of_heap qn];try rfl
 have c2:w.cell? ⟨ob,2,none⟩=some (.int .i64 o.fr):=by rw[Lib.cell_of_heap qn];try rfl
 have c3:w.cell? ⟨ob,3,none⟩=some (.int .i64 o.ki):=by rw[Lib.cell_of_heap qn];try rfl
 dsimp only;simp only[tv,aaN,Tryz.f8,Option.getD]
 go_wp2
 obtain⟨hzW,lB,fQ,wv⟩:=rZ w (Obj.cells #[Value.pointer none,Value.slice none 0 0] 73) (Obj.cells #[Value.int IntKind.i64 o.sq,Value.int IntKind.i64 o.ch,Value.int IntKind.i64 o.fr,Value.int IntKind.i64 o.ki] 3);have HX:=(wv.block ob ah).trans qn;clear c0 c1 c2 c3;generalize(w.alloc (Obj.cells #[Value.pointer none,Value.slice none 0 0] 73)).alloc (Obj.cells #[Value.int IntKind.i64 o.sq,Value.int IntKind.i64 o.ch,Value.int IntKind.i64 o.fr,Value.int IntKind.i64 o.ki] 3)=W at*
 generalize w.heap.size=b at*
 have hE:fe b w [(b+1,#[.int .i64 o.sq,.int .i64 o.ch,.int .i64 o.fr,.int .i64 o.ki],3),(ob,yY o sl,30)] 0 [] W:=by
  refine⟨zzaa _,.slice none 0 0,⟨.pointer none,.inl rfl,zzaa _,lB,World.ownsRow_nil _ _ _ _,by simp[Value.ownBlock]⟩,wv,zE,fun x hx=>?_⟩;simp only[zzao,zzcm,or_false]at hx;obtain rfl|rfl:=hx
  ·exact⟨zd,zd,fQ⟩
  exact⟨by simp only;omega,zd,HX⟩
 have hnb:ob≠b:=zE
 clear ah lB hzW fQ HX wv qn;have d:W.cell? ⟨b+1,0,none⟩=some (.int .i64 o.sq):=hE.cell (.head _) 0;refine wp_loop_rounds 5 ?_;rw[rounds_succ]
 go_wp2_with (go_at_fn 22;refine(Uf hE (hn _ (by simp[dH])) zE).mono ?_)
 rintro e W0 ⟨rfl,hE0⟩;clear d hE;have d:W0.cell? ⟨b+1,1,none⟩=some (.int .i64 o.ch):=hE0.cell (.head _) 1
 go_wp2
 rw[rounds_succ]
 go_wp2_with (go_at_fn 22;refine(Uf hE0 (hn _ (by simp[dH])) zE).mono ?_)
 rintro e W1 ⟨rfl,hE1⟩;clear d hE0;have d:W1.cell? ⟨b+1,2,none⟩=some (.int .i64 o.fr):=hE1.cell (.head _) 2
 go_wp2
 rw[rounds_succ]
 go_wp2_with (go_at_fn 22;refine(Uf hE1 (hn _ (by simp[dH])) zE).mono ?_)
 rintro e W2 ⟨rfl,Mj⟩;clear d hE1;have d:W2.cell? ⟨b+1,3,none⟩=some (.int .i64 o.ki):=Mj.cell (.head _) 3
 go_wp2
 rw[rounds_succ]
 go_wp2_with (go_at_fn 22;refine(Uf Mj (hn _ (by simp[dH])) zE).mono ?_)
 rintro e W3 ⟨rfl,hE3⟩;clear d Mj;have d:W3.cell? ⟨b+1,3,none⟩=some (.int .i64 o.ki):=hE3.cell (.head _) 3
 go_wp2
 rw[rounds_succ]
 go_wp2_with (go_at_fn 25;refine(yB ob (yY o sl) _ o.ki hk (hE3.at (.tail _ (.head _))) rfl (zzaa _)).mono ?_)
 rintro e Y ⟨rfl,hpt,hY⟩
 have hF:=(hE3.own hY).more (W3.heap.size,jW ob o.ki,83) (by
  obtain⟨_,v,g1,_⟩:=hE3;have:=g1.lt;simp only;omega) zd hpt
 clear d hE3 hpt hY;generalize W3.heap.size=sp at*
 obtain h1|h1|h1:=aaO
 ·have hp:jW ob o.ki=#[.pointer (some ⟨ob,4,none⟩),.pointer (some ⟨ob,5,none⟩)]:=by rw[h1];try rfl
  have hl:(uP o.ki).length=2:=by rw[h1];try rfl
  rw[hp]at hF;rw[hl];have d:Y.cell? ⟨sp,0,none⟩=some (.pointer (some ⟨ob,4,none⟩)):=hF.cell (.head _) 0;have d1:Y.cell? ⟨ob,4,none⟩=some (.int .i64 o.en):=hF.cell (.tail _ (.tail _ (.head _))) 4
  go_wp2
  refine wp_loop_rounds 3 ?_;rw[rounds_succ]
  go_wp2_with (go_at_fn 22;refine(Uf hF (eL _ (by simp[cM,h1])) zE).mono ?_)
  rintro e Y0 ⟨rfl,ey⟩;clear d d1 hF;have d:Y0.cell? ⟨sp,1,none⟩=some (.pointer (some ⟨ob,5,none⟩)):=ey.cell (.head _) 1;have d1:Y0.cell? ⟨ob,5,none⟩=some (.int .i64 o.n):=ey.cell (.tail _ (.tail _ (.head _))) 5
  go_wp2
  rw[rounds_succ]
  go_wp2_with (go_at_fn 22;refine(Uf ey (eL _ (by simp[cM,h1])) zE).mono ?_)
  rintro e Y1 ⟨rfl,mj⟩;clear d d1 ey;have d:Y1.cell? ⟨sp,1,none⟩=some (.pointer (some ⟨ob,5,none⟩)):=mj.cell (.head _) 1;have d1:Y1.cell? ⟨ob,3,none⟩=some (.int .i64 1):=by rw[<- h1];exact mj.cell (.tail _ (.tail _ (.head _))) 3
  go_wp2
  rw[rounds_succ]
  go_wp2_with (go_at_fn 27;refine(Qav mj (zzco _ (kZ _))).mono ?_)
  rintro e Z ⟨rfl,hZ⟩
  go_wp2
  refine hQ _ _ ?_ rfl hZ;have Mk:Ya o=Abs.aN o.sq++(Abs.aN o.ch++(Abs.aN o.fr++(Abs.aN 1++(Abs.aN o.en++(Abs.aN o.n))))):=by simp[Ya,dH,cM,lM,yX,Abs.aR,h1]
  rw[Mk];try rfl
 ·have hp:jW ob o.ki=#[.pointer (some ⟨ob,4,none⟩)]:=by rw[h1];try rfl
  have hl:(uP o.ki).length=1:=by rw[h1];try rfl
  rw[hp]at hF;rw[hl];have d:Y.cell? ⟨sp,0,none⟩=some (.pointer (some ⟨ob,4,none⟩)):=hF.cell (.head _) 0;have d1:Y.cell? ⟨ob,4,none⟩=some (.int .i64 o.en):=hF.cell (.tail _ (.tail _ (.head _))) 4
  go_wp2
  refine wp_loop_rounds 2 ?_;rw[rounds_succ]
  go_wp2_with (go_at_fn 22;refine(Uf hF (eL _ (by simp[cM,h1])) zE).mono ?_)
  rintro e Y0 ⟨rfl,ey⟩;clear d d1 hF;have d:Y0.cell? ⟨sp,0,none⟩=some (.pointer (some ⟨ob,4,none⟩)):=ey.cell (.head _) 0;have d1:Y0.cell? ⟨ob,3,none⟩=some (.int .i64 2):=by rw[<- h1];exact ey.cell (.tail _ (.tail _ (.head _))) 3
  go_wp2
  rw[rounds_succ]
  go_wp2_with (go_at_fn 27;refine(Qav ey (zzco _ (kZ _))).mono ?_)
  rintro e Z ⟨rfl,hZ⟩
  go_wp2
  refine hQ _ _ ?_ rfl hZ;have Mk:Ya o=Abs.aN o.sq++(Abs.aN o.ch++(Abs.aN o.fr++(Abs.aN 2++(Abs.aN o.en)))):=by simp[Ya,dH,cM,lM,yX,Abs.aR,h1]
  rw[Mk];try rfl
 have hp:jW ob o.ki=#[.pointer (some ⟨ob,13,none⟩),.pointer (some ⟨ob,14,none⟩),.pointer (some ⟨ob,15,none⟩),.pointer (some ⟨ob,16,none⟩),.pointer (some ⟨ob,17,none⟩),.pointer (some ⟨ob,18,none⟩),.pointer (some ⟨ob,19,none⟩),.pointer (some ⟨ob,20,none⟩)]:=by rw[h1];try rfl
 have hl:(uP o.ki).length=8:=by rw[h1];try rfl
 rw[hp]at hF;rw[hl];have d:Y.cell? ⟨sp,0,none⟩=some (.pointer (some ⟨ob,13,none⟩)):=hF.cell (.head _) 0;have d1:Y.cell? ⟨ob,13,none⟩=some (.int .i64 o.cl.ki):=hF.cell (.tail _ (.tail _ (.head _))) 13
 go_wp2
 refine wp_loop_rounds 9 ?_;rw[rounds_succ]
 go_wp2_with (go_at_fn 22;refine(Uf hF (eL _ (by simp[cM,h1])) zE).mono ?_)
 rintro e Y0 ⟨rfl,ey⟩;clear d d1 hF;have d:Y0.cell? ⟨sp,1,none⟩=some (.pointer (some ⟨ob,14,none⟩)):=ey.cell (.head _) 1;have d1:Y0.cell? ⟨ob,14,none⟩=some (.int .i64 o.cl.it):=ey.cell (.tail _ (.tail _ (.head _))) 14
 go_wp2
 rw[rounds_succ]
 go_wp2_with (go_at_fn 22;refine(Uf ey (eL _ (by simp[cM,h1])) zE).mono ?_)
 rintro e Y1 ⟨rfl,mj⟩;clear d d1 ey;have d:Y1.cell? ⟨sp,2,none⟩=some (.pointer (some ⟨ob,15,none⟩)):=mj.cell (.head _) 2;have d1:Y1.cell? ⟨ob,15,none⟩=some (.int .i64 o.cl.fr):=mj.cell (.tail _ (.tail _ (.head _))) 15
 go_wp2
 rw[rounds_succ]
 go_wp2_with (go_at_fn 22;refine(Uf mj (eL _ (by simp[cM,h1])) zE).mono ?_)
 rintro e Y2 ⟨rfl,gL⟩;clear d d1 mj;have d:Y2.cell? ⟨sp,3,none⟩=some (.pointer (some ⟨ob,16,none⟩)):=gL.cell (.head _) 3;have d1:Y2.cell? ⟨ob,16,none⟩=some (.int .i64 o.cl.to):=gL.cell (.tail _ (.tail _ (.head _))) 16
 go_wp2
 rw[rounds_succ]
 go_wp2_with (go_at_fn 22;refine(Uf gL (eL _ (by simp[cM,h1])) zE).mono ?_)
 rintro e Y3 ⟨rfl,hF3⟩;clear d d1 gL;have d:Y3.cell? ⟨sp,4,none⟩=some (.pointer (some ⟨ob,17,none⟩)):=hF3.cell (.head _) 4;have d1:Y3.cell? ⟨ob,17,none⟩=some (.int .i64 o.cl.re):=hF3.cell (.tail _ (.tail _ (.head _))) 17
 go_wp2
 rw[rounds_succ]
 go_wp2_with (go_at_fn 22;refine(Uf hF3 (eL _ (by simp[cM,h1])) zE).mono ?_)
 rintro e Y4 ⟨rfl,XQ⟩;clear d d1 hF3;have d:Y4.cell? ⟨sp,5,none⟩=some (.pointer (some ⟨ob,18,none⟩)):=XQ.cell (.head _) 5;have d1:Y4.cell? ⟨ob,18,none⟩=some (.int .i64 o.cl.n):=XQ.cell (.tail _ (.tail _ (.head _))) 18
 go_wp2
 rw[rounds_succ]
 go_wp2_with (go_at_fn 22;refine(Uf XQ (eL _ (by simp[cM,h1])) zE).mono ?_)
 rintro e Y5 ⟨rfl,hF5⟩;clear d d1 XQ;have d:Y5.cell? ⟨sp,6,none⟩=some (.pointer (some ⟨ob,19,none⟩)):=hF5.cell (.head _) 6;have d1:Y5.cell? ⟨ob,19,none⟩=some (.int .i64 o.cl.a):=hF5.cell (.tail _ (.tail _ (.head _))) 19
 go_wp2
 rw[rounds_succ]
 go_wp2_with (go_at_fn 22;refine(Uf hF5 (eL _ (by simp[cM,h1])) zE).mono ?_)
 rintro e Y6 ⟨rfl,hF6⟩;clear d d1 hF5;have d:Y6.cell? ⟨sp,7,none⟩=some (.pointer (some ⟨ob,20,none⟩)):=hF6.cell (.head _) 7;have d1:Y6.cell? ⟨ob,20,none⟩=some (.int .i64 o.cl.b):=hF6.cell (.tail _ (.tail _ (.head _))) 20
 go_wp2
 rw[rounds_succ]
 go_wp2_with (go_at_fn 22;refine(Uf hF6 (eL _ (by simp[cM,h1])) zE).mono ?_)
 rintro e Y7 ⟨rfl,hF7⟩;clear d d1 hF6;have d:Y7.cell? ⟨sp,7,none⟩=some (.pointer (some ⟨ob,20,none⟩)):=hF7.cell (.head _) 7;have d1:Y7.cell? ⟨ob,3,none⟩=some (.int .i64 4):=by rw[<- h1];exact hF7.cell (.tail _ (.tail _ (.head _))) 3
 go_wp2
 rw[rounds_succ]
 go_wp2_with (go_at_fn 27;refine(Qav hF7 (zzco _ (kZ _))).mono ?_)
 rintro e Z ⟨rfl,hZ⟩
 go_wp2
 refine hQ _ _ ?_ rfl hZ;have Mk:Ya o=Abs.aN o.sq++(Abs.aN o.ch++(Abs.aN o.fr++(Abs.aN 4++(Abs.aN o.cl.ki++(Abs.aN o.cl.it++(Abs.aN o.cl.fr++(Abs.aN o.cl.to++(Abs.aN o.cl.re++(Abs.aN o.cl.n++(Abs.aN o.cl.a++(Abs.aN o.cl.b))))))))))):=by simp[Ya,dH,cM,lM,yX,Abs.aR,h1]
 rw[Mk];try rfl
def aaP(y:Nat->Value)(ob b:Nat)(S:Value)(N J:Int)(i:Nat):Value:=if i=1 then .pointer (some ⟨ob,0,none⟩)else if i=4 then .pointer (some ⟨b,0,none⟩)else if i=5 then .func (.func 22) #[] #[.pointer (some ⟨b,0,none⟩)]else if i=60 then S else if i=61 then .int .i64 N else if i=62 then .int .i64 J else y i
def Si(y:Nat->Value)(ob b:Nat)(S:Value)(N J:Int):Act:=⟨((List.range 87).map (aaP y ob b S N J)).toArray,[]⟩
theorem HY(y:Nat->Value)(ob b:Nat)(S:Value)(N J:Int):Si y ob b S N J=⟨#[y 0,.pointer (some ⟨ob,0,none⟩),y 2,y 3,.pointer (some ⟨b,0,none⟩),.func (.func 22) #[] #[.pointer (some ⟨b,0,none⟩)],y 6,y 7,y 8,y 9,y 10,y 11,y 12,y 13,y 14,y 15,y 16,y 17,y 18,y 19,y 20,y 21,y 22,y 23,y 24,y 25,y 26,y 27,y 28,y 29,y 30,y 31,y 32,y 33,y 34,y 35,y 36,y 37,y 38,y 39,y 40,y 41,y 42,y 43,y 44,y 45,y 46,y 47,y 48,y 49,y 50,y 51,y 52,y 53,y 54,y 55,y 56,y 57,y 58,y 59,S,.int .i64 N,.int .i64 J,y 63,y 64,y 65,y 66,y 67,y 68,y 69,y 70,y 71,y 72,y 73,y 74,y 75,y 76,y 77,y 78,y 79,y 80,y 81,y 82,y 83,y 84,y 85,y 86],[]⟩:=rfl
def Pb{ob b:Nat}{S:Value}{N J:Int}{T:PQ}(hs:T.size=87)(h1:T.getD 1 undef=.pointer (some ⟨ob,0,none⟩))(h4:T.getD 4 undef=.pointer (some ⟨b,0,none⟩))(h5:T.getD 5 undef=.func (.func 22) #[] #[.pointer (some ⟨b,0,none⟩)])(h60:T.getD 60 undef=S)(h61:T.getD 61 undef=.int .i64 N)(h62:T.getD 62 undef=.int .i64 J):
  ∃y,(⟨T,[]⟩:Act)=Si y ob b S N J:=by
 refine⟨fun i=>T.getD i undef,congrArg (fun t=>(⟨t,[]⟩:Act)) (Array.ext (by simp[hs]) fun i g1 g2=>?_)⟩;have hg:T[i]=T.getD i undef:=by simp[g1]
 have hr:(List.map (aaP (fun i=>T.getD i undef) ob b S N J) (List.range 87)).toArray[i]=aaP (fun i=>T.getD i undef) ob b S N J i:=zd
 refine(hg.trans ?_).trans hr.symm;show T.getD i undef=aaP _ ob b S N J i;by_cases e1:i=1
 ·subst e1;exact h1
 by_cases e4:i=4
 ·subst e4;exact h4
 by_cases e5:i=5
 ·subst e5;exact h5
 by_cases e60:i=60
 ·subst e60;exact h60
 by_cases e61:i=61
 ·subst e61;exact h61
 by_cases e62:i=62
 ·subst e62;exact h62
 unfold aaP;rw[if_neg e1,if_neg e4,if_neg e5,if_neg e60,if_neg e61,if_neg e62]
def agc{P:Program}{C:Code}{Q:PH}{W:World}{ob b:Nat}{S:Value}{N J:Int}{T:PQ}(hs:T.size=87)(h1:T.getD 1 undef=.pointer (some ⟨ob,0,none⟩))(h4:T.getD 4 undef=.pointer (some ⟨b,0,none⟩))(h5:T.getD 5 undef=.func (.func 22) #[] #[.pointer (some ⟨b,0,none⟩)])(h60:T.getD 60 undef=S)(h61:T.getD 61 undef=.int .i64 N)(h62:T.getD 62 undef=.int .i64 J)
  (h:∀y,Code.wp P C Q (Si y ob b S N J) W):Code.wp P C Q ⟨T,[]⟩ W:=by
 obtain⟨y,hy⟩:=Pb hs h1 h4 h5 h60 h61 h62;rw[hy];exact h y
def fe.less{b:Nat}{w0:World}{x:Nat×PQ×TypeId}{ks:List (Nat×PQ×TypeId)}{c:Nat}{l:P2}{W:World}(h:fe b w0 (x::ks) c l W):fe b w0 ks c l W:=by
 obtain⟨hc,v,g1,g2,g3,g4⟩:=h;exact⟨hc,v,g1,g2,g3,fun y hy=>g4 y (zzdg _ hy)⟩
def DW:∀{l:List Sp}{j:Nat}{s:Int×Int},l[j]?=some s->s.1∈Zd l/\s.2∈Zd l
 |[],j,s,h=>by simp at h
 |a::r,0,s,h=>by
  cases h;exact⟨by simp[Zd],by simp[Zd]⟩
 |a::r,j+1,s,h=>by
  have:=DW (l:=r) (j:=j) (s:=s) (Nm h);exact⟨by simp[Zd,this.1],by simp[Zd,this.2]⟩
def muA(n:Nat)(a:Act):Nat:=match a.tmps.getD 62 undef with
 |.int _ j=>(n-j).toNat
 |_=>0
def Sj{ob b:Nat}{S:Value}{N:Int}{T:PQ}{n:Nat}{M:Nat}{R:Nat->Nat->P2->Prop}{j' c':Nat}{l':P2}(hs:T.size=87)(h1:T.getD 1 undef=.pointer (some ⟨ob,0,none⟩))(h4:T.getD 4 undef=.pointer (some ⟨b,0,none⟩))(h5:T.getD 5 undef=.func (.func 22) #[] #[.pointer (some ⟨b,0,none⟩)])(h60:T.getD 60 undef=S)(h61:T.getD 61 undef=.int .i64 N)(h62:T.getD 62 undef=.int .i64 ((j':Nat):Int))(hR:R j' c' l')(hM:((n:Int)-j').toNat<M):
  (∃y j c l,(⟨T,[]⟩:Act)=Si y ob b S N ((j:Nat):Int)/\R j c l)/\muA n ⟨T,[]⟩<M:=by
 obtain⟨y,hy⟩:=Pb hs h1 h4 h5 h60 h61 h62;refine⟨⟨y,j',c',l',hy,hR⟩,?_⟩;have:muA n ⟨T,[]⟩=((n:Int)-j').toNat:=by unfold muA;rw[h62]
 rw[this];exact hM
theorem auS(n:Nat)(y:Nat->Value)(ob b:Nat)(S:Value)(N J:Int):muA n (Si y ob b S N J)=(n-J).toNat:=rfl
def agd(Q:PH)(ob:Nat)(o:Od)(sl:Value)(x0 zR zS zT zU:Value)(w:World)(hk:¬(o.ki<1\/5<o.ki))(hn:∀n∈dH o,Abs.bw n)(eL:∀n∈cM o,Abs.bw n)
  (qn:w.heap[ob]?=some (.cells (yY o sl) 30 (0,0)))(aaO:o.ki=3\/False){adr:Option Addr}{cap:Nat}(fQ:sl=.slice adr o.nw.al.length cap)(fc:o.nw.al.length<=7)(hcap:o.nw.al.length<=cap){ab off:Nat}(hA:∀(i:Nat)(s:Int×Int),o.nw.al[i]?=some s->adr=some ⟨ab,off,none⟩/\ab<w.heap.size/\w.cell? ⟨ab,off+i*2,none⟩=some (.int .i64 s.1)/\w.cell? ⟨ab,off+i*2+1,none⟩=some (.int .i64 s.2))(hn3:∀n∈lM o,Abs.bw n)
  (hQ:∀(tm:PQ)w',tm.getD 2 undef=.string (dh (Ya o))->tm.getD 3 undef=.int .i64 0->Below w.heap.size w w'->Q .ret ⟨tm,[]⟩ w'):
  Code.wp Tryz.prog tv Q ⟨#[x0,.pointer (some ⟨ob,0,none⟩),.string ⟨#[]⟩,.int .i64 0,undef,undef,undef,undef,undef,undef,undef,undef,undef,zR,zS,zT,zU,undef,undef,undef,undef,undef,undef,undef,undef,undef,undef,undef,undef,undef,undef,undef,undef,undef,undef,undef,undef,undef,undef,undef,undef,undef,undef,undef,undef,undef,undef,undef,undef,undef,undef,undef,undef,undef,undef,undef,undef,undef,undef,undef,undef,undef,undef,undef,undef,undef,undef,undef,undef,undef,undef,undef,undef,undef,undef,undef,undef,undef,undef,undef,undef,undef,undef,undef,undef,undef,undef],[]⟩ w:=by
 have mixed:Tryz.prog.follows Departure.mixedOrders=true:=by kernel_rfl
 have ah:ob<w.heap.size:=Qec qn;have e36:∀args w,(callFunc 22 args).run Tryz.prog w=.ok (.enter 22 args) w:=enters_of Tryz.func22 (by kernel_rfl) rfl;have e39:∀args w,(callFunc 25 args).run Tryz.prog w=.ok (.enter 25 args) w:=enters_of Tryz.func25 (by kernel_rfl) rfl;have e26:∀args w,(callFunc 26 args).run Tryz.prog w=.ok (.enter 26 args) w:=enters_of Tryz.func26 (by kernel_rfl) rfl;have e24:∀args w,(callFunc 24 args).run Tryz.prog w=.ok (.enter 24 args) w:=enters_of Tryz.func24 (by kernel_rfl) rfl;have e41:∀args w,(callFunc 27 args).run Tryz.prog w=.ok (.enter 27 args) w:=enters_of Tryz.func27 (by kernel_rfl) rfl;have c0:w.cell? ⟨ob,0,none⟩=some (.int .i64 o.sq):=by rw[Lib.cell_of_heap qn];try rfl
 have c1:w.cell? ⟨ob,1,none⟩=some (.int .i64 o.ch):=by rw[Lib.cell_of_heap qn];try rfl
 have c2:w.cell? ⟨ob,2,none⟩=some (.int .i64 o.fr):=by rw[Lib.cell_of_heap qn];try rfl
 have c3:w.cell? ⟨ob,3,none⟩=some (.int .i64 o.ki):=by rw[Lib.cell_of_heap qn];try rfl
 dsimp only;simp only[tv,aaN,Tryz.f8,Option.getD]
 go_wp2
 obtain⟨hzW,lB,fQ,wv⟩:=rZ w (Obj.cells #[Value.pointer none,Value.slice none 0 0] 73) (Obj.cells #[Value.int IntKind.i64 o.sq,Value.int IntKind.i64 o.ch,Value.int IntKind.i64 o.fr,Value.int IntKind.i64 o.ki] 3);have HX:=(wv.block ob ah).trans qn;clear c0 c1 c2 c3;generalize(w.alloc (Obj.cells #[Value.pointer none,Value.slice none 0 0] 73)).alloc (Obj.cells #[Value.int IntKind.i64 o.sq,Value.int IntKind.i64 o.ch,Value.int IntKind.i64 o.fr,Value.int IntKind.i64 o.ki] 3)=W at*
 generalize w.heap.size=b at*
 have hE:fe b w [(b+1,#[.int .i64 o.sq,.int .i64 o.ch,.int .i64 o.fr,.int .i64 o.ki],3),(ob,yY o sl,30)] 0 [] W:=by
  refine⟨zzaa _,.slice none 0 0,⟨.pointer none,.inl rfl,zzaa _,lB,World.ownsRow_nil _ _ _ _,by simp[Value.ownBlock]⟩,wv,zE,fun x hx=>?_⟩;simp only[zzao,zzcm,or_false]at hx;obtain rfl|rfl:=hx
  ·exact⟨zd,zd,fQ⟩
  exact⟨by simp only;omega,zd,HX⟩
 have hnb:ob≠b:=zE
 clear ah lB hzW fQ HX wv qn;have d:W.cell? ⟨b+1,0,none⟩=some (.int .i64 o.sq):=hE.cell (.head _) 0;refine wp_loop_rounds 5 ?_;rw[rounds_succ]
 go_wp2_with (go_at_fn 22;refine(Uf hE (hn _ (by simp[dH])) zE).mono ?_)
 rintro e W0 ⟨rfl,hE0⟩;clear d hE;have d:W0.cell? ⟨b+1,1,none⟩=some (.int .i64 o.ch):=hE0.cell (.head _) 1
 go_wp2
 rw[rounds_succ]
 go_wp2_with (go_at_fn 22;refine(Uf hE0 (hn _ (by simp[dH])) zE).mono ?_)
 rintro e W1 ⟨rfl,hE1⟩;clear d hE0;have d:W1.cell? ⟨b+1,2,none⟩=some (.int .i64 o.fr):=hE1.cell (.head _) 2
 go_wp2
 rw[rounds_succ]
 go_wp2_with (go_at_fn 22;refine(Uf hE1 (hn _ (by simp[dH])) zE).mono ?_)
 rintro e W2 ⟨rfl,Mj⟩;clear d hE1;have d:W2.cell? ⟨b+1,3,none⟩=some (.int .i64 o.ki):=Mj.cell (.head _) 3
 go_wp2
 rw[rounds_succ]
 go_wp2_with (go_at_fn 22;refine(Uf Mj (hn _ (by simp[dH])) zE).mono ?_)
 rintro e W3 ⟨rfl,hE3⟩;clear d Mj;have d:W3.cell? ⟨b+1,3,none⟩=some (.int .i64 o.ki):=hE3.cell (.head _) 3
 go_wp2
 rw[rounds_succ]
 go_wp2_with (go_at_fn 25;refine(yB ob (yY o sl) _ o.ki hk (hE3.at (.tail _ (.head _))) rfl (zzaa _)).mono ?_)
 rintro e Y ⟨rfl,hpt,hY⟩
 have hF:=(hE3.own hY).more (W3.heap.size,jW ob o.ki,83) (by
  obtain⟨_,v,g1,_⟩:=hE3;have:=g1.lt;simp only;omega) zd hpt
 clear d hE3 hpt hY;generalize W3.heap.size=sp at*
 obtain h1|h1:=aaO
 ·have hp:jW ob o.ki=#[.pointer (some ⟨ob,6,none⟩),.pointer (some ⟨ob,7,none⟩),.pointer (some ⟨ob,8,none⟩),.pointer (some ⟨ob,9,none⟩),.pointer (some ⟨ob,10,none⟩),.pointer (some ⟨ob,11,none⟩)]:=by rw[h1];try rfl
  have hl:(uP o.ki).length=6:=by rw[h1];try rfl
  rw[hp]at hF;rw[hl];have d:Y.cell? ⟨sp,0,none⟩=some (.pointer (some ⟨ob,6,none⟩)):=hF.cell (.head _) 0;have d1:Y.cell? ⟨ob,6,none⟩=some (.int .i64 o.nw.id):=hF.cell (.tail _ (.tail _ (.head _))) 6
  go_wp2
  refine wp_loop_rounds 7 ?_;rw[rounds_succ]
  go_wp2_with (go_at_fn 22;refine(Uf hF (eL _ (by simp[cM,h1])) zE).mono ?_)
  rintro e Y0 ⟨rfl,ey⟩;clear d d1 hF;have d:Y0.cell? ⟨sp,1,none⟩=some (.pointer (some ⟨ob,7,none⟩)):=ey.cell (.head _) 1;have d1:Y0.cell? ⟨ob,7,none⟩=some (.int .i64 o.nw.it):=ey.cell (.tail _ (.tail _ (.head _))) 7
  go_wp2
  rw[rounds_succ]
  go_wp2_with (go_at_fn 22;refine(Uf ey (eL _ (by simp[cM,h1])) zE).mono ?_)
  rintro e Y1 ⟨rfl,mj⟩;clear d d1 ey;have d:Y1.cell? ⟨sp,2,none⟩=some (.pointer (some ⟨ob,8,none⟩)):=mj.cell (.head _) 2;have d1:Y1.cell? ⟨ob,8,none⟩=some (.int .i64 o.nw.fr):=mj.cell (.tail _ (.tail _ (.head _))) 8
  go_wp2
  rw[rounds_succ]
  go_wp2_with (go_at_fn 22;refine(Uf mj (eL _ (by simp[cM,h1])) zE).mono ?_)
  rintro e Y2 ⟨rfl,gL⟩;clear d d1 mj;have d:Y2.cell? ⟨sp,3,none⟩=some (.pointer (some ⟨ob,9,none⟩)):=gL.cell (.head _) 3;have d1:Y2.cell? ⟨ob,9,none⟩=some (.int .i64 o.nw.ea):=gL.cell (.tail _ (.tail _ (.head _))) 9
  go_wp2
  rw[rounds_succ]
  go_wp2_with (go_at_fn 22;refine(Uf gL (eL _ (by simp[cM,h1])) zE).mono ?_)
  rintro e Y3 ⟨rfl,hF3⟩;clear d d1 gL;have d:Y3.cell? ⟨sp,4,none⟩=some (.pointer (some ⟨ob,10,none⟩)):=hF3.cell (.head _) 4;have d1:Y3.cell? ⟨ob,10,none⟩=some (.int .i64 o.nw.la):=hF3.cell (.tail _ (.tail _ (.head _))) 10
  go_wp2
  rw[rounds_succ]
  go_wp2_with (go_at_fn 22;refine(Uf hF3 (eL _ (by simp[cM,h1])) zE).mono ?_)
  rintro e Y4 ⟨rfl,XQ⟩;clear d d1 hF3;have d:Y4.cell? ⟨sp,5,none⟩=some (.pointer (some ⟨ob,11,none⟩)):=XQ.cell (.head _) 5;have d1:Y4.cell? ⟨ob,11,none⟩=some (.int .i64 o.nw.bo):=XQ.cell (.tail _ (.tail _ (.head _))) 11
  go_wp2
  rw[rounds_succ]
  go_wp2_with (go_at_fn 22;refine(Uf XQ (eL _ (by simp[cM,h1])) zE).mono ?_)
  rintro e Y5 ⟨rfl,hF5⟩;clear d d1 XQ;have d:Y5.cell? ⟨sp,5,none⟩=some (.pointer (some ⟨ob,11,none⟩)):=hF5.cell (.head _) 5;have d1:Y5.cell? ⟨ob,3,none⟩=some (.int .i64 3):=by rw[<- h1];exact hF5.cell (.tail _ (.tail _ (.head _))) 3
  go_wp2
  rw[rounds_succ];have d2:Y5.cell? ⟨ob,12,none⟩=some sl:=hF5.cell (.tail _ (.tail _ (.head _))) 12;rw[fQ]at d2
  go_wp2_with (go_at_fn 22;refine(Uf hF5 (n:=(o.nw.al.length:Int)) (by unfold Abs.bw Abs.qj;omega) zE).mono ?_)
  rintro e Z0 ⟨rfl,hG⟩;clear d d1 d2 hF5;have d2:Z0.cell? ⟨ob,12,none⟩=some sl:=hG.cell (.tail _ (.tail _ (.head _))) 12;rw[fQ]at d2
  go_wp2
  refine agc (ob:=ob) (b:=b) (S:=.slice adr o.nw.al.length cap) (N:=o.nw.al.length) (J:=0) rfl rfl rfl rfl rfl rfl rfl fun y=>?_;clear d2;refine wp_loop (fun a W=>∃(y:Nat->Value)(j c:Nat)(l:P2),a=Si y ob b (.slice adr o.nw.al.length cap) o.nw.al.length j/\j<=o.nw.al.length/\c<=11+2*j/\fe b w [(sp,jW ob 3,83),(b+1,#[.int .i64 o.sq,.int .i64 o.ch,.int .i64 o.fr,.int .i64 o.ki],3),(ob,yY o sl,30)] c l W/\l≠[]/\l++Abs.aR (Zd (o.nw.al.drop j))=Ya o) (fun a _=>muA o.nw.al.length a) ?_ ?_
  ·refine⟨y,0,_,_,rfl,zzbe _,zzaa _,hG,?_,?_⟩
   ·exact zzco _ (kZ _)
   simp[Ya,dH,cM,lM,yX,Abs.aR,h1]
  rintro a W ⟨y,j,c,l,rfl,hj,hc,hE,iX,hl⟩;rw[auS];by_cases ah:j<o.nw.al.length
  ·have hex:∃s,o.nw.al[j]?=some s:=⟨_,zzac ah⟩;obtain⟨s,hs⟩:=hex;obtain⟨rfl,SP,r1,r2⟩:=hA j s hs;have bL:(j:Int)<(o.nw.al.length:Int):=zE
   have lB:∀i,W.cell? ⟨ab,i,none⟩=w.cell? ⟨ab,i,none⟩:=fun i=>by
    obtain⟨_,v,g1,g2,_⟩:=hE;simp[World.cell?,g2.block ab SP]
   have a1:=(lB _).trans r1;have a2:=(lB _).trans r2;have m1:Abs.bw s.1:=hn3 _ (by unfold lM;rw[if_pos h1];exact zzdg _ (DW hs).1);have m2:Abs.bw s.2:=hn3 _ (by unfold lM;rw[if_pos h1];exact zzdg _ (DW hs).2)
   have fD:Zd (o.nw.al.drop j)=s.1::s.2::Zd (o.nw.al.drop (j+1)):=by
    rw[zzae ah,(zza.1 hs).2];try rfl
   have Mj:=(hE.own ((Below.refl _ W).alloc (zzaa _) (.cells #[.int .i64 s.1,.int .i64 s.2] 85))).more (W.heap.size,#[.int .i64 s.1,.int .i64 s.2],85) (by
    obtain⟨_,v,g1,_⟩:=hE;have:=g1.lt;simp only;omega) zd (heap_alloc_new W _)
   have b1:(W.alloc (.cells #[.int .i64 s.1,.int .i64 s.2] 85)).cell? ⟨W.heap.size,0,none⟩=some (.int .i64 s.1):=Mj.cell (.head _) 0;have fB:c<=1000:=zE
   have yZ:c+1<=1000:=zE
   have hp:=Uf Mj m1 fB;clear hs hE hG hA fQ hcap hn eL hn3 hk;rw[HY]
   go_wp2_with (go_at_fn 22;refine hp.mono ?_)
   rintro e V0 ⟨rfl,hV0⟩;clear b1 Mj hp a1 a2 lB;have b2:V0.cell? ⟨W.heap.size,1,none⟩=some (.int .i64 s.2):=hV0.cell (.head _) 1;have hp2:=Uf hV0 m2 yZ
   go_wp2_with (go_at_fn 22;refine hp2.mono ?_)
   rintro e V1 ⟨rfl,hV1⟩;clear hV0 hp2 b2;rw[fD]at hl;have uq:(l++Abs.aN s.1++Abs.aN s.2)++Abs.aR (Zd (o.nw.al.drop (j+1)))=Ya o:=by rw[<- hl];simp[Abs.aR]
   have uw:IntKind.i64.wrap ((j:Int)+1)=((j+1:Nat):Int):=by rw[IntKind.wrap_i64];omega
   have zm:∀W',W'=V1->(j+1<=o.nw.al.length/\c+1+1<=11+2*(j+1)/\fe b w [(sp,jW ob 3,83),(b+1,#[.int .i64 o.sq,.int .i64 o.ch,.int .i64 o.fr,.int .i64 o.ki],3),(ob,yY o sl,30)] (c+1+1) (l++Abs.aN s.1++Abs.aN s.2) W'/\l++Abs.aN s.1++Abs.aN s.2≠[]/\(l++Abs.aN s.1++Abs.aN s.2)++Abs.aR (Zd (o.nw.al.drop (j+1)))=Ya o):=by
    rintro _ rfl;exact⟨ah,zE,hV1.less,zzco _ (kZ _),uq⟩
   clear hV1 uq hl fD
   go_wp2
   refine Sj (j':=j+1) (c':=c+1+1) (l':=l++Abs.aN s.1++Abs.aN s.2) rfl rfl rfl rfl rfl rfl ?_ (zm _ rfl) zE;show Value.int IntKind.i64 _=Value.int IntKind.i64 _;congr 1
  have bL:¬(j:Int)<(o.nw.al.length:Int):=zE
  have nx:l=Ya o:=by
   rw[zzaj zE]at hl;rw[<- hl];simp[Zd,Abs.aR]
  have cI:=Qav hE iX;rw[nx]at cI;clear hE hG hA fQ fc hcap hn eL hn3 hk;rw[HY]
  go_wp2_with (go_at_fn 27;refine cI.mono ?_)
  rintro e Z rfl hZ;have hQ':=fun tm h2 h3=>hQ tm Z h2 h3 hZ
  go_wp2
  refine hQ' _ ?_ ?_
  ·rfl
  rfl
 exact h1.elim
end
