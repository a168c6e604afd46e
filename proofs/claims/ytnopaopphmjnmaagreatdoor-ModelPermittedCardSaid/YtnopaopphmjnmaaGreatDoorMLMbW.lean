import Derived.Test.YtnopaopphmjnmaaGreatDoorProg
import Derived.Lib.AppendZerosOnto
import Derived.Shelf.RegionOpenPlain
import Derived.Lib.Walk
import Derived.Lib.JoinLaws
import Derived.Lib.Overlaps
import Derived.Test.YtnopaopphmjnmaaGreatDoorMLMP
set_option linter.all false
set_option maxRecDepth 100000
set_option maxHeartbeats 64000000
namespace Go.Proofs.YtnopaopphmjnmaaGreatDoor
open Go Go.Abs Go.RowKit Go.Lib
def R4{P:Program}(w:World)(dT sT ty elem:TypeId)(i:TypeInfo)(b o LM afW:Nat)(a:Addr)(LN afX:Nat)(cs:List Value)
  (hu:P.underlying dT=some (.slice elem))(hi:P.info? elem=some i)(hn:cs.length=Nat.min LN LM*i.size)
  (axc:∀j v,cs[j]?=some v->w.cell? (a.add j)=some v)(hc:∀j,j<cs.length->(w.cell? ⟨b,o+j,none⟩).isSome=true)(hf:∀j,j<cs.length->w.frozen? ⟨b,o+j,none⟩=false)(h1:∀v∈cs,v.oneCell'=true):
  (Builtin.copy_ #[dT,sT] ty #[.slice (some ⟨b,o,none⟩) LM afW,.slice (some a) LN afX]).run P w=.ok (goInt (Nat.min LN LM)) (w.setCells b o cs):=by
 have hl:=run_loadCells_list (P:=P) w a cs axc;have cc:=run_storeCells_cells (P:=P) b o cs 0 w (by simpa using hc) (by simpa using hf) h1;simp only[zzcq]at cc;simp[Builtin.copy_,run_underlying hu,Builtin.lenOf,Builtin.firstCells,sizeOf,typeInfo,hi,<- hn,hl,cc]
def lF{P:Program}(w:World)(dT sT ty elem:TypeId)(i:TypeInfo)(b o LM afW b2 o2 LN afX k:Nat)(hu:P.underlying dT=some (.slice elem))(hi:P.info? elem=some i)
  {arr R5:Array Value}{e e2:TypeId}(hb:w.heap[b]?=some (.cells arr e (0,0)))(mM:w.heap[b2]?=some (.cells R5 e2 (0,0)))(hk:Nat.min LN LM=k)
  (h1:o+k*i.size<=arr.size)(h2:o2+k*i.size<=R5.size)(ho:∀v∈R5.toList,v.oneCell'=true):
  (Builtin.copy_ #[dT,sT] ty #[.slice (some ⟨b,o,none⟩) LM afW,.slice (some ⟨b2,o2,none⟩) LN afX]).run P w=.ok (goInt k) (w.setCells b o ((R5.toList.drop o2).take (k*i.size))):=by
 have aH:((R5.toList.drop o2).take (k*i.size)).length=k*i.size:=by rw[zzaq,zzcr,zzbi];omega
 have:=R4 (P:=P) w dT sT ty elem i b o LM afW ⟨b2,o2,none⟩ LN afX ((R5.toList.drop o2).take (k*i.size)) hu hi (by rw[aH,hk])
  (
   fun j v hj=>by
   rw[Go.Abs.bw];show w.cell? ⟨b2,o2+j,none⟩=_;rw[aM mM];rw[zzbj]at hj;split at hj
   ·rw[zzbk]at hj;simpa using hj
   cases hj)
  (fun j hj=>by rw[aM hb,zzaj (by omega)];rfl) (fun j hj=>Zm hb)
  (fun v hv=>ho v (zzdm (zzca hv)))
 rw[hk]at this;exact this
def qc{P:Program}(w:World){ops:Array Oper}{rest:List Oper}{o:Oper}{a:Act}{Q:Exit->Act->World->Prop}(Wc:o.guard=none)(d s:Operand)(t t':TypeId)
  (ho:o.op=.call {callee:=.builtin .copy,args:=#[d,s],argTypes:=#[t,t']})(v u:Value)(hd:a.eval d=v)(hs:a.eval s=u){v':Value}{w':World}
  (hr:(Builtin.copy_ #[t,t'] o.type #[v,u]).run P w=.ok v' w')(h:wpList P ops Q rest (a.put o.dst v') w'):wpList P ops Q (o::rest) a w:=
 wpList_plain Wc fun _ hK=>by
  unfold Oper.wp execOp;simp only[ho,resolve,invoke,builtin,Sem.run_bind,Sem.run_pure,Result.andThen_ok,List.map_toArray,zzaz,zzcf,hd,hs,hr];exact hK _ _ h
def yw{P:Program}{ops:Array Oper}{o:Oper}{a:Act}{w:World}{K:Act->World->Prop}{Q:Exit->Act->World->Prop}{E:Prop}
  (hg:o.guard=none)(d x:Operand)(dT sT:TypeId)(gi:o.op=Op.call {callee:=Callee.builtin Builtin.copy,args:=#[d,x],argTypes:=#[dT,sT]})
  (v u:Value)(hd:a.eval d=v)(hx:a.eval x=u){v':Value}{w':World}(hr:(Builtin.copy_ #[dT,sT] o.type #[v,u]).run P w=.ok v' w')(hK:K (a.put o.dst v') w'):
  if Region.wanted o (yielded ops a.tmps)=true then Oper.wp P o a w K Q else E:=by
 have hw:Region.wanted o (yielded ops a.tmps)=true:=by simp[Region.wanted,hg]
 rw[if_pos hw];unfold Oper.wp;simp[execOp,gi,resolve,invoke,builtin,hd,hx,hr,Result.andThen];exact hK
def G5{w:World}{b:Nat}{arr:Array Value}{te:TypeId}{f:Nat×Nat}(h:w.heap[b]?=some (.cells arr te f)):w.shape? b=some (te,arr.size):=by
 simp[World.shape?,h]
def R6(b n c i vb vc:Nat)(arr uQ:Array Value)(te tv:TypeId)(w:World)(hi:i<n)(cB:n+1<=c)(hn:n+1<=1000000000)(X5:vb≠b)
  (hb:w.heap[b]?=some (.cells arr te (0,0)))(hv:w.heap[vb]?=some (.cells uQ tv (0,0)))(hs:c*7<=arr.size)(hsv:7<=uQ.size)(ho:∀v∈arr.toList,v.oneCell'=true)(hov:∀v∈uQ.toList,v.oneCell'=true):
  Calls Tryz.prog 220 #[.slice (some ⟨b,0,none⟩) n c,.int .i64 i,.slice (some ⟨vb,0,none⟩) 1 vc] w fun e w'=>
   e=.returned (.slice (some ⟨b,0,none⟩) (n+1) c)/\w'=(w.drew.setCells b ((i+1)*7) ((arr.toList.drop (i*7)).take ((n-i)*7))).setCells b (i*7) (uQ.toList.take 7):=by
 obtain⟨i36,DD,dL⟩:∃x,Tryz.prog.info? 36=some x/\x.size=7:=⟨_,rfl,rfl⟩;have lV:=G5 hv;have Tl:=G5 hb;have Dl:w.frozen? ⟨vb,0,none⟩=false:=Zm hv;have hfe:w.frozen? ⟨vb,uQ.size,none⟩=false:=Zm hv
 have axd:∀lb cb,(callFunc 279 #[.slice (some ⟨vb,0,none⟩) 1 vc,.slice (some ⟨b,(i+1)*7,none⟩) lb cb]).run Tryz.prog w=.ok (.value (.bool false)) w:=fun lb cb=>by
  rw[run_callFunc_extern Tryz.func279 (by kernel_rfl) (by kernel_rfl) (by kernel_rfl) (e:=Extern.SlicesOverlaps.overlaps #[52,52] #[4]) (by kernel_rfl),
   Lib.run_overlaps_apart w 52 4 36 Tryz.underlying52 7 (fun w=>by simp[Go.sizeOf,typeInfo,DD,dL]) ⟨vb,0,none⟩ ⟨b,(i+1)*7,none⟩ 1 vc lb cb X5 tv te uQ.size arr.size lV Tl (by omega) Dl hfe]
  rfl
 have fC:IntKind.i64.wrap ((i:Int)+1)=(i:Int)+1:=by rw[IntKind.wrap_i64];omega
 have hz2:¬((i:Int)=(n:Int)):=by omega
 have ee:IntKind.i64.wrap ((n:Int)+1)=(n:Int)+1:=by rw[IntKind.wrap_i64];omega
 have htn:((i:Int)+1).toNat=i+1:=by omega
 have ams:((n:Int)+1).toNat=n+1:=by omega
 have mF:(0:Int)<=(i:Int)+1:=by omega
 have mM:¬(c=i+1):=by omega
 have hb3:(i:Int)<=(n:Int)+1:=by omega
 have hb4:¬(c=i):=by omega
 have PT:(n+1)*7<=c*7:=zzba _ cB;have sE:w.drew.heap[b]?=some (.cells arr te (0,0)):=hb
 have asV:∀ty dc sc,(Builtin.copy_ #[52,52] ty #[.slice (some ⟨b,(i+1)*7,none⟩) (n-i) dc,.slice (some ⟨b,i*7,none⟩) (n+1-i) sc]).run Tryz.prog w.drew=
   .ok (goInt (n-i:Nat)) (w.drew.setCells b ((i+1)*7) ((arr.toList.drop (i*7)).take ((n-i)*7))):=fun ty dc sc=>by
  have:=lF (P:=Tryz.prog) w.drew 52 52 ty 36 i36 b ((i+1)*7) (n-i) dc b (i*7) (n+1-i) sc (n-i) Tryz.underlying52 DD sE sE (by simp only[zzhi];split<;>omega) (by rw[dL];omega) (by rw[dL];omega) ho;rw[dL]at this;exact this
 obtain⟨W1,Q7⟩:∃W1,W1=w.drew.setCells b ((i+1)*7) ((arr.toList.drop (i*7)).take ((n-i)*7)):=⟨_,rfl⟩;have hb5:W1.heap[b]?=some (.cells (tG arr ((i+1)*7) ((arr.toList.drop (i*7)).take ((n-i)*7))) te (0,0)):=by rw[Q7];exact Xa b _ _ w.drew arr te _ sE
 have hv5:W1.heap[vb]?=some (.cells uQ tv (0,0)):=by rw[Q7,Qw b _ _ w.drew vb X5];exact hv
 have axe:∀ty dc,(Builtin.copy_ #[52,52] ty #[.slice (some ⟨b,i*7,none⟩) (n+1-i) dc,.slice (some ⟨vb,0,none⟩) 1 vc]).run Tryz.prog W1=.ok (goInt (1:Nat)) (W1.setCells b (i*7) (uQ.toList.take 7)):=fun ty dc=>by
  have:=lF (P:=Tryz.prog) W1 52 52 ty 36 i36 b (i*7) (n+1-i) dc vb 0 1 vc 1 Tryz.underlying52 DD hb5 hv5 (by simp only[zzhi];split<;>omega) (by rw[dL,Vb];omega) (by rw[dL];omega) hov;rw[dL,zzde,zzdl]at this;exact this
 rw[<- Q7]at asV |-
 clear DD dL Q7;have bI:i<=n:=by omega
 have mixed:Tryz.prog.follows Departure.mixedOrders=true:=by kernel_rfl
 go_enter Tryz.func220,Tryz.ntmps220
 go_wp2_with (simp only[axd])
 go_region_law_o (refine yw rfl _ _ 52 52 rfl _ _ (by simp[Act.eval,Act.put]) (by simp[Act.eval,Act.put]) (asV _ _ _) ?_)
 go_wp2_with (at_builtin;refine qc _ rfl _ _ 52 52 rfl _ _ rfl rfl (axe _ _) ?_)
 go_ret
 exact⟨rfl,rfl⟩
def afY{n c:Nat}(h:c<n)(hn:n<=1000000000):Builtin.nextslicecap n c*72<=281474976710656:=by
 have:=JQ h;omega
def aab(b n c i vb vc:Nat)(arr uQ:Array Value)(te tv:TypeId)(w:World)(hi:i<n)(hnc:n<=c)(cB:c<n+1)(vO:n+1<=1000000000)(X5:vb≠b)
  (hb:w.heap[b]?=some (.cells arr te (0,0)))(hv:w.heap[vb]?=some (.cells uQ tv (0,0)))(hs:c*7<=arr.size)(hsv:7<=uQ.size)(ho:∀v∈arr.toList,v.oneCell'=true)(hov:∀v∈uQ.toList,v.oneCell'=true):
  Calls Tryz.prog 220 #[.slice (some ⟨b,0,none⟩) n c,.int .i64 i,.slice (some ⟨vb,0,none⟩) 1 vc] w fun e w'=>
   ∃(G:Nat)(og:Array Value)(zs:List Value),n+1<=G/\e=.returned (.slice (some ⟨w.heap.size,0,none⟩) (n+1) G)/\og.toList=arr.toList.take (i*7)++zs/\(n+1-i)*7<=zs.length/\G*7<=og.size/\(∀v∈zs,v.oneCell'=true)/\
    w'=(((w.drew.alloc (.cells og 36)).setCells w.heap.size (i*7) (uQ.toList.take 7)).drew).setCells w.heap.size ((i+1)*7) ((arr.toList.drop (i*7)).take ((n-i)*7)):=by
 obtain⟨i36,z36,DD,dL,axf,asW,EZ,hzo⟩:∃x z,Tryz.prog.info? 36=some x/\x.size=7/\x.zero=some z/\x.bytes=72/\z.cells.size=7/\∀u∈z.cells,u.oneCell'=true:=⟨_,_,rfl,rfl,rfl,rfl,rfl,by decide⟩;have hz2:¬((i:Int)=(n:Int)):=by omega
 have hz3:(c:Int)<(n:Int)+1:=by omega
 have hbw:b<w.heap.size:=aT hb;have hvw:vb<w.heap.size:=aT hv;have hkk:(n:Int)+1-(i:Int)=((n+1-i:Nat):Int):=by omega
 have qT:i+(n+1-i)=n+1:=by omega
 have PT:n*7<=c*7:=zzba _ hnc;have eS:(arr.toList.take (i*7)).length=i*7:=by rw[zzaq,zzbi];omega
 have oS:(Builtin.firstCells i36.size i (.slice (some ⟨b,0,none⟩) i c)).run Tryz.prog w.drew=.ok (arr.toList.take (i*7)).toArray w.drew:=by
  rw[dL];refine run_firstCells_some w.drew 7 i ⟨b,0,none⟩ i c _ eS (fun j v hj=>?_);rw[Go.Abs.bw];show w.cell? _=_;rw[aM hb];rw[zzbj]at hj;split at hj
  ·simpa using hj
  cases hj
 have hrz:∀ty,(Builtin.append_ #[52,3] ty #[.slice (some ⟨b,0,none⟩) i c,.int .i64 ((n:Int)+1-(i:Int))]).run Tryz.prog w=
   .ok (.slice (some ⟨w.heap.size,0,none⟩) (n+1) (grownCap w (n+1) c 36)) (w.drew.alloc (.cells ((arr.toList.take (i*7)).toArray++Builtin.zeroCells z36.cells (n+1-i)++Builtin.zeroCells z36.cells (grownCap w (n+1) c 36-(n+1))) 36)):=fun ty=>by
  have h:=Lib.run_append_grow_zeros w 52 3 ty 36 i36 z36 .i64 .i64 Tryz.underlying52 Tryz.underlying3 DD axf (some ⟨b,0,none⟩) i c (arr.toList.take (i*7)) oS (n+1-i) (by omega) (by omega) (by omega) (by omega) (by rw[asW];omega) (by rw[asW,qT];exact afY cB vO);rw[qT]at h;rw[hkk];exact h
 obtain⟨G,hG⟩:∃G,G=grownCap w (n+1) c 36:=⟨_,rfl⟩;have hGn:n+1<=G:=by rw[hG];exact grownCap_ge w _ _ _
 have ayk:G<=9223372036854775807:=by
  have:=grownCap_le_maxLen w (n+1) c 36 (by unfold maxLen;omega);rw[<- hG]at this;unfold maxLen at this;omega
 rw[<- hG]at hrz;obtain⟨og,G6⟩:∃og:Array Value,og=(arr.toList.take (i*7)).toArray++Builtin.zeroCells z36.cells (n+1-i)++Builtin.zeroCells z36.cells (G-(n+1)):=⟨_,rfl⟩;rw[<- G6]at hrz;have hRs:og.size=i*7+(n+1-i)*7+(G-(n+1))*7:=by rw[G6];simp only[zzel,zzek,eS,size_zeroCells,EZ]
 have hRt:og.toList=arr.toList.take (i*7)++((Builtin.zeroCells z36.cells (n+1-i)).toList++(Builtin.zeroCells z36.cells (G-(n+1))).toList):=by rw[G6];simp
 have hRo:∀v∈(Builtin.zeroCells z36.cells (n+1-i)).toList++(Builtin.zeroCells z36.cells (G-(n+1))).toList,v.oneCell'=true:=fun v hv=>by
  rcases zzao.1 hv with hv|hv
  ·exact Wi hzo _ v hv
  exact Wi hzo _ v hv
 have hRl:(n+1-i)*7<=((Builtin.zeroCells z36.cells (n+1-i)).toList++(Builtin.zeroCells z36.cells (G-(n+1))).toList).length:=by
  simp only[zzah,zzbi,size_zeroCells,EZ];omega
 obtain⟨zs,Cs⟩:∃zs,zs=(Builtin.zeroCells z36.cells (n+1-i)).toList++(Builtin.zeroCells z36.cells (G-(n+1))).toList:=⟨_,rfl⟩;rw[<- Cs]at hRt hRo hRl;have hGR:G*7<=og.size:=by rw[hRs];omega
 clear G6 Cs oS hG;obtain⟨W1,Q7⟩:∃W1,W1=w.drew.alloc (.cells og 36):=⟨_,rfl⟩;have hN1:W1.heap[w.heap.size]?=some (.cells og 36 (0,0)):=by rw[Q7];exact Yf w _
 have hO1:∀x,x<w.heap.size->W1.heap[x]?=w.heap[x]?:=fun x hx=>by rw[Q7];exact Below.heap_alloc w.drew _ x hx
 have mF:=(hO1 b hbw).trans hb;have hv1:=(hO1 vb hvw).trans hv
 have axg:∀ty dc,(Builtin.copy_ #[52,52] ty #[.slice (some ⟨w.heap.size,i*7,none⟩) (n+1-i) dc,.slice (some ⟨vb,0,none⟩) 1 vc]).run Tryz.prog W1=.ok (goInt (1:Nat)) (W1.setCells w.heap.size (i*7) (uQ.toList.take 7)):=fun ty dc=>by
  have:=lF (P:=Tryz.prog) W1 52 52 ty 36 i36 w.heap.size (i*7) (n+1-i) dc vb 0 1 vc 1 Tryz.underlying52 DD hN1 hv1 (by simp only[zzhi];split<;>omega) (by rw[dL];omega) (by rw[dL];omega) hov;rw[dL,zzde,zzdl]at this;exact this
 obtain⟨W2,FJ⟩:∃W2,W2=(W1.setCells w.heap.size (i*7) (uQ.toList.take 7)).drew:=⟨_,rfl⟩;have hN2:W2.heap[w.heap.size]?=some (.cells (tG og (i*7) (uQ.toList.take 7)) 36 (0,0)):=by rw[FJ];exact Xa _ _ _ W1 og 36 _ hN1
 have mM:W2.heap[b]?=some (.cells arr te (0,0)):=by
  rw[FJ];exact(Qw w.heap.size _ _ W1 b (by omega)).trans mF
 have asX:∀ty dc sc,(Builtin.copy_ #[52,52] ty #[.slice (some ⟨w.heap.size,(i+1)*7,none⟩) (n-i) dc,.slice (some ⟨b,i*7,none⟩) (n-i) sc]).run Tryz.prog W2=
   .ok (goInt (n-i:Nat)) (W2.setCells w.heap.size ((i+1)*7) ((arr.toList.drop (i*7)).take ((n-i)*7))):=fun ty dc sc=>by
  have:=lF (P:=Tryz.prog) W2 52 52 ty 36 i36 w.heap.size ((i+1)*7) (n-i) dc b (i*7) (n-i) sc (n-i) Tryz.underlying52 DD hN2 mM (by simp only[zzhi];split<;>omega) (by rw[dL,Vb];omega) (by rw[dL];omega) ho;rw[dL]at this;exact this
 have w8:((((w.drew.alloc (.cells og 36)).setCells w.heap.size (i*7) (uQ.toList.take 7)).drew).setCells w.heap.size ((i+1)*7) ((arr.toList.drop (i*7)).take ((n-i)*7)))=
   W2.setCells w.heap.size ((i+1)*7) ((arr.toList.drop (i*7)).take ((n-i)*7)):=by rw[FJ,Q7]
 have axh:∀ty,(Builtin.append_ #[52,3] ty #[.slice (some ⟨b,0,none⟩) i c,.int .i64 ((n:Int)+1-(i:Int))]).run Tryz.prog w=.ok (.slice (some ⟨w.heap.size,0,none⟩) (n+1) G) W1:=by rw[Q7];exact hrz
 have axi:W2=(W1.setCells w.heap.size (i*7) (uQ.toList.take 7)).drew:=FJ;have fC:IntKind.i64.wrap ((i:Int)+1)=(i:Int)+1:=by rw[IntKind.wrap_i64];omega
 have ee:IntKind.i64.wrap ((n:Int)+1)=(n:Int)+1:=by rw[IntKind.wrap_i64];omega
 have KY:IntKind.i64.wrap ((n:Int)+1-(i:Int))=(n:Int)+1-(i:Int):=by rw[IntKind.wrap_i64];omega
 have htn:((i:Int)+1).toNat=i+1:=by omega
 have ayl:(0:Int)<=(i:Int)+1:=by omega
 have hb3:(i:Int)<=(n:Int)+1:=by omega
 have bI:i<=n:=by omega
 have hci:¬(c=i):=by omega
 have hGi:¬(G=i):=by omega
 have aym:¬(G=i+1):=by omega
 have mixed:Tryz.prog.follows Departure.mixedOrders=true:=by kernel_rfl
 suffices hgoal:Calls Tryz.prog 220 #[.slice (some ⟨b,0,none⟩) n c,.int .i64 i,.slice (some ⟨vb,0,none⟩) 1 vc] w fun e w'=>e=.returned (.slice (some ⟨w.heap.size,0,none⟩) (n+1) G)/\w'=((W1.setCells w.heap.size (i*7) (uQ.toList.take 7)).drew).setCells w.heap.size ((i+1)*7) ((arr.toList.drop (i*7)).take ((n-i)*7))from
  hgoal.mono fun e w'⟨h1,h2⟩=>⟨G,og,zs,hGn,h1,hRt,hRl,hGR,hRo,by rw[h2,Q7]⟩
 rw[FJ]at asX;clear DD dL hrz Q7 FJ axi w8 hkk qT hRt hRl hGR hRo hRs hN1 hN2 hO1 mF hv1 mM
 go_enter Tryz.func220,Tryz.ntmps220
 go_wp2_with (first
  |(at_builtin;refine Lib.wpList_append_run _ rfl _ _ _ _ rfl _ _ rfl rfl _ _ (axh _) ?_)
  |(at_builtin;refine qc _ rfl _ _ 52 52 rfl _ _ rfl rfl (axg _ _) ?_))
 go_region_law_o (refine yw rfl _ _ 52 52 rfl _ _ (by simp[Act.eval,Act.put]) (by simp[Act.eval,Act.put]) (asX _ _ _) ?_)
 go_wp2
 go_ret
 exact⟨rfl,rfl⟩
open Go Go.Abs Go.RowKit
def OL(y:AV):∀(xs l:List AV)(n:Nat),setA (y::l) (n+1) xs=y::setA l n xs
 |[],_,_=>rfl
 |x::xs,l,n=>by rw[setA,setA,zzdw,OL y xs]
def lG(pre X Y:List AV)(n:Nat)(k:Nat)(h:pre.length=n):setA (pre++X) (n+k) Y=pre++setA X k Y:=by
 subst h;induction pre with
 |nil=>simp
 |cons a r ih=>rw[zzae,zzbb,show r.length+1+k=r.length+k+1 by omega,OL,ih];rfl
section
variable {N:Nat} {w0:ir} {aq:Nat->Nat->Prop} {γ:G} {w:World} {m:AM}
def aj6(m:AM){id:Nat}(aN:id<m.boxes.length)(cells:List AV):({m with boxes:=m.boxes.set id []++[cells]}:AM).B=fun i=>if i=m.boxes.length then some cells else if i=id then some []else m.B i:=by
 have e1:=WG {m with boxes:=m.boxes.set id []} cells;rw[mA m id aN]at e1;simpa using e1
def aj7{A C:List AV}{arr:Array Value}(q3:cD w γ (A++C) arr.toList):ak w γ C ((arr.toList.drop A.length).take C.length):=by
 have h:=q3.1;simp only[zzah,zzbi]at h;refine⟨by simp only[zzaq,zzcr,zzbi];omega,fun k c v g1 g2=>?_⟩;have hk:=(zza.1 g1).1;rw[zzbj,if_pos hk,zzbk]at g2;refine q3.2 (A.length+k) c v ?_ g2;rw[zzal (by omega),zzdq];exact g1
def R7(hm:au N w0 aq γ w m.B m.L){id b:Nat}{A C V:List AV}(aN:m.boxes[id]?=some (A++C))(aK:A++C≠[])(hb:γ.β id=some b){arr:Array Value}{te:TypeId}(hh:w.heap[b]?=some (.cells arr te (0,0)))
  {vs:List Value}(hV:ak w γ V vs)(hvo:∀v∈vs,v.oneCell'=true)(hsz:A.length+V.length+C.length<=arr.size):
  Ev w γ ((w.drew.setCells b (A.length+V.length) ((arr.toList.drop A.length).take C.length)).setCells b A.length vs) (γ.box m.boxes.length b)/\
  au N w0 aq (γ.box m.boxes.length b) ((w.drew.setCells b (A.length+V.length) ((arr.toList.drop A.length).take C.length)).setCells b A.length vs) ({m with boxes:=m.boxes.set id []++[A++(V++C)]}:AM).B m.L:=by
 have ai:id<m.boxes.length:=(zza.1 aN).1;have hB:m.B id=some (A++C):=aN;obtain⟨bT,e',q2,q3,q4⟩:=hm.box id _ b hB hb;rw[hh]at q2;cases q2;have cE:m.B m.boxes.length=none:=by simp[AM.B]
 have hD:=aj7 q3;have hDl:=hD.1;have hh':w.drew.heap[b]?=some (.cells arr te (0,0)):=hh;have lP:∀v∈(arr.toList.drop A.length).take C.length,v.oneCell'=true:=fun v hv=>q4 v (zzdm (zzca hv));generalize(arr.toList.drop A.length).take C.length=D at*
 have hr:cD w γ (A++(List.replicate V.length .junk++C)) (tG arr (A.length+V.length) D).toList:=by
  refine⟨by simp only[zzah,zzdx,zzbi,Vb];omega,fun k c v g1 g2=>?_⟩;rw[zzcd,vZ]at g2;rcases zzaa k A.length with h1|h1
  ·rw[zzag h1]at g1;rw[if_neg (by omega)]at g2;exact q3.2 k c v (by rw[zzag h1];exact g1) (by rw[zzcd];exact g2)
  rw[zzal h1]at g1;rcases zzaa (k-A.length) V.length with h2|h2
  ·rw[zzag (by simpa using h2),zzcp,if_pos h2]at g1;cases g1;exact .junk _
  rw[zzal (by simpa using h2),zzdx]at g1;have h3:=(zza.1 g1).1;rw[if_pos (by omega)]at g2;refine hD.2 _ c v g1 ?_;rw[<- g2];congr 1;omega
 obtain⟨e1,m1⟩:=hm.drew.share (id':=m.boxes.length) (new:=A++(List.replicate V.length .junk++C)) hb hB aK cE hh' (p:=A.length+V.length) (vs:=D) (hr.mono (Ev.drew w γ)) q4 lP;have mF:(γ.box m.boxes.length b).β m.boxes.length=some b:=by simp[G.box]
 have hh1:=Xa b D (A.length+V.length) w.drew arr te _ hh';have y6:=(hr.mono (Ev.drew w γ)).mono e1;have hV1:=(hV.mono (Ev.drew w γ)).mono e1
 have R8:A++(List.replicate V.length AV.junk++C)≠[]:=by
  intro h;simp only[zzhj]at h;exact aK (by simp[h.1,h.2.2])
 have m2:=m1.store (id:=m.boxes.length) (by simp) mF hh1 y6 (Wu D _ arr q4 lP) (o:=A.length) hV1 hvo R8;refine⟨((Ev.drew w γ).trans e1).trans (m1.cA mF A.length vs),?_⟩;rw[aj6 m ai]
 have lV:setA (A++(List.replicate V.length AV.junk++C)) A.length V=A++(V++C):=by
  have:=lG A (List.replicate V.length AV.junk++C) V A.length 0 rfl;rw[zzcq,jL V (List.replicate V.length AV.junk) C (by simp)]at this;exact this
 rw[lV]at m2;refine(congrArg (fun B=>au N w0 aq _ _ B m.L) (funext fun i=>?_)).mp m2;by_cases hi:i=m.boxes.length<;>simp[hi]
def afZ(hm:au N w0 aq γ w m.B m.L){id b:Nat}{A C V:List AV}(aN:m.boxes[id]?=some (A++C))(hb:γ.β id=some b){arr:Array Value}{te te2:TypeId}(hh:w.heap[b]?=some (.cells arr te (0,0)))
  {vs zs:List Value}(hV:ak w γ V vs)(hvo:∀v∈vs,v.oneCell'=true){og:Array Value}(G6:og.toList=arr.toList.take A.length++zs)(Cs:V.length+C.length<=zs.length)(hzo:∀v∈zs,v.oneCell'=true)(aK:A++(V++C)≠[]):
  Ev w γ ((((w.drew.alloc (.cells og te2)).setCells w.heap.size A.length vs).drew).setCells w.heap.size (A.length+V.length) ((arr.toList.drop A.length).take C.length)) (γ.box m.boxes.length w.heap.size)/\
  au N w0 aq (γ.box m.boxes.length w.heap.size) ((((w.drew.alloc (.cells og te2)).setCells w.heap.size A.length vs).drew).setCells w.heap.size (A.length+V.length) ((arr.toList.drop A.length).take C.length)) ({m with boxes:=m.boxes.set id []++[A++(V++C)]}:AM).B m.L:=by
 have ai:id<m.boxes.length:=(zza.1 aN).1;have hB:m.B id=some (A++C):=aN;obtain⟨bT,e',q2,q3,q4⟩:=hm.box id _ b hB hb;rw[hh]at q2;cases q2;have hq:=q3.1;simp only[zzah,zzbi]at hq;have cE:m.B m.boxes.length=none:=by simp[AM.B]
 have hD:=aj7 q3;have hDl:=hD.1;have lP:∀v∈(arr.toList.drop A.length).take C.length,v.oneCell'=true:=fun v hv=>q4 v (zzdm (zzca hv));generalize(arr.toList.drop A.length).take C.length=D at*
 have J1:=(hm.kill hb).drew
 have fQ:(fun i=>if i=id then some []else m.B i) m.boxes.length=none:=by
  have:m.boxes.length≠id:=by omega
  simp only[if_neg this];exact cE
 have aya:og.size=A.length+zs.length:=by
  have:=congrArg List.length G6;simp only[zzbi,zzah,zzaq]at this;omega
 have hP:cD w γ (A++(List.replicate V.length .junk++List.replicate C.length .junk)) og.toList:=by
  refine⟨by simp only[zzah,zzdx,zzbi];omega,fun k c v g1 g2=>?_⟩;rcases zzaa k A.length with h1|h1
  ·rw[zzag h1]at g1;rw[G6,zzag (by simp only[zzaq,zzbi];omega),zzbj,if_pos h1]at g2;exact q3.2 k c v (by rw[zzag h1];exact g1) g2
  rw[zzal h1]at g1;rw[List.replicate_append_replicate,zzcp]at g1;split at g1
  ·cases g1;exact .junk _
  cases g1
 have hRo:∀v∈og.toList,v.oneCell'=true:=fun v hv=>by
  rw[G6]at hv;rcases zzao.1 hv with hv|hv
  ·exact q4 v (zzca hv)
  exact hzo v hv
 have e1:=J1.dm _ fQ (.cells og te2);have m1:=J1.fk _ fQ (e:=te2) (arr:=og) (hP.mono (Ev.drew w γ)) hRo;have axj:w.drew.heap.size=w.heap.size:=rfl;rw[axj]at e1 m1;have mF:(γ.box m.boxes.length w.heap.size).β m.boxes.length=some w.heap.size:=by simp[G.box]
 have hh1:(w.drew.alloc (.cells og te2)).heap[w.heap.size]?=some (.cells og te2 (0,0)):=Yf w _;have hP1:=(hP.mono (Ev.drew w γ)).mono e1;have hV1:=(hV.mono (Ev.drew w γ)).mono e1;have hD1:=(hD.mono (Ev.drew w γ)).mono e1
 have hX:A++(List.replicate V.length AV.junk++List.replicate C.length AV.junk)≠[]:=by
  intro hX;apply aK;have h:=congrArg List.length hX;simp only[zzah,zzdx,zzch]at h;apply zzav;simp only[zzah];omega
 have m2:=m1.store (id:=m.boxes.length) (by simp) mF hh1 hP1 hRo (o:=A.length) hV1 hvo hX;have e2:=m1.cA mF A.length vs
 have lV:setA (A++(List.replicate V.length AV.junk++List.replicate C.length AV.junk)) A.length V=A++(V++List.replicate C.length AV.junk):=by
  have:=lG A (List.replicate V.length AV.junk++List.replicate C.length AV.junk) V A.length 0 rfl;rw[zzcq,jL V (List.replicate V.length AV.junk) _ (by simp)]at this;exact this
 have hh2:=Xa w.heap.size vs A.length _ og te2 _ hh1;have m3:=m2.drew
 have hX2:setA (A++(List.replicate V.length AV.junk++List.replicate C.length AV.junk)) A.length V≠[]:=by
  intro h;have h:=congrArg List.length h;rw[oG]at h;exact hX (zzav h)
 have hP2:=((cD.setA (o:=A.length) hV1 hP1).mono e2).mono (Ev.drew _ _);have hD2:=(hD1.mono e2).mono (Ev.drew _ _);have m4:=m3.store (id:=m.boxes.length) (by simp) mF hh2 hP2 (Wu vs _ og hRo hvo) (o:=A.length+V.length) hD2 lP hX2;have e4:=m3.cA mF (A.length+V.length) D;refine⟨((((Ev.drew w γ).trans e1).trans e2).trans (Ev.drew _ _)).trans e4,?_⟩;rw[aj6 m ai]
 have Tl:setA (A++(V++List.replicate C.length AV.junk)) (A.length+V.length) C=A++(V++C):=by
  rw[lG A (V++List.replicate C.length AV.junk) C A.length V.length rfl];have:=lG V (List.replicate C.length AV.junk) C V.length 0 rfl;rw[zzcq]at this;rw[this];have:=jL C (List.replicate C.length AV.junk) [] (by simp);simp only[zzau]at this;rw[this]
 rw[lV,Tl]at m4;refine(congrArg (fun B=>au N w0 aq _ _ B m.L) (funext fun i=>?_)).mp m4;by_cases hi:i=m.boxes.length<;>simp[hi]
end
end Go.Proofs.YtnopaopphmjnmaaGreatDoor
