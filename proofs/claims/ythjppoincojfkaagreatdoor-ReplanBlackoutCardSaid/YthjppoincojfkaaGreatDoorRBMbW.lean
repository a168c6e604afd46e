import Derived.Test.YthjppoincojfkaaGreatDoorProg
import Derived.Lib.AppendZerosOnto
import Derived.Shelf.RegionOpenPlain
import Derived.Lib.Walk
import Derived.Lib.JoinLaws
import Derived.Lib.Overlaps
import Derived.Test.YthjppoincojfkaaGreatDoorRBMH
set_option linter.all false
set_option maxRecDepth 100000
set_option maxHeartbeats 64000000
namespace Go.Proofs.YthjppoincojfkaaGreatDoor
open Go Go.Abs Go.RowKit Go.Lib
def Ri{P:Program}(w:World)(dT sT ty elem:TypeId)(i:TypeInfo)(b o Lr ae2:Nat)(a:Addr)(Ls ae3:Nat)(cs:PQ)
  (hu:P.underlying dT=some (.slice elem))(hi:P.info? elem=some i)(hn:cs.length=Nat.min Ls Lr*i.size)
  (axD:∀j v,cs[j]?=some v->w.cell? (a.add j)=some v)(hc:∀j,j<cs.length->(w.cell? ⟨b,o+j,none⟩).isSome=true)(hf:∀j,j<cs.length->w.frozen? ⟨b,o+j,none⟩=false)(h1:∀v∈cs,v.oneCell'=true):
  (Builtin.copy_ #[dT,sT] ty #[.slice (some ⟨b,o,none⟩) Lr ae2,.slice (some a) Ls ae3]).run P w=.ok (goInt (Nat.min Ls Lr)) (w.setCells b o cs):=by
 have hl:=run_loadCells_list (P:=P) w a cs axD;have bY:=run_storeCells_cells (P:=P) b o cs 0 w (Nm hc) (Nm hf) h1;simp only[zzcm]at bY;simp[Builtin.copy_,run_underlying hu,Builtin.lenOf,Builtin.firstCells,sizeOf,typeInfo,hi,<- hn,hl,bY]
def kZ{P:Program}(w:World)(dT sT ty elem:TypeId)(i:TypeInfo)(b o Lr ae2 b2 o2 Ls ae3 k:Nat)(hu:P.underlying dT=some (.slice elem))(hi:P.info? elem=some i)
  {arr Rj:P1}{e e2:TypeId}(hb:w.heap[b]?=some (.cells arr e (0,0)))(fT:w.heap[b2]?=some (.cells Rj e2 (0,0)))(hk:Nat.min Ls Lr=k)
  (h1:o+k*i.size<=arr.size)(h2:o2+k*i.size<=Rj.size)(ho:∀v∈Rj.toList,v.oneCell'=true):
  (Builtin.copy_ #[dT,sT] ty #[.slice (some ⟨b,o,none⟩) Lr ae2,.slice (some ⟨b2,o2,none⟩) Ls ae3]).run P w=.ok (goInt k) (w.setCells b o ((Rj.toList.drop o2).take (k*i.size))):=by
 have aH:((Rj.toList.drop o2).take (k*i.size)).length=k*i.size:=by rw[zzap,zzcv,zzbi];omega
 have:=Ri (P:=P) w dT sT ty elem i b o Lr ae2 ⟨b2,o2,none⟩ Ls ae3 ((Rj.toList.drop o2).take (k*i.size)) hu hi (by rw[aH,hk])
  (
   fun j v hj=>by
   rw[Go.Abs.bq];show w.cell? ⟨b2,o2+j,none⟩=_;rw[aO fT];rw[zzbj]at hj;split at hj
   ·rw[zzbl]at hj;simpa using hj
   cases hj)
  (fun j hj=>by rw[aO hb,zzag zE];rfl) (fun j hj=>Zo hb)
  (fun v hv=>ho v (zzdr (zzce hv)))
 rw[hk]at this;exact this
def p6{P:Program}(w:World){ops:Array Oper}{rest:List Oper}{o:Oper}{a:Act}{Q:PP}(JC:o.guard=none)(d s:Operand)(t t':TypeId)
  (ho:o.op=.call {callee:=.builtin .copy,args:=#[d,s],argTypes:=#[t,t']})(v u:Value)(hd:a.eval d=v)(hs:a.eval s=u){v':Value}{w':World}
  (hr:(Builtin.copy_ #[t,t'] o.type #[v,u]).run P w=.ok v' w')(h:wpList P ops Q rest (a.put o.dst v') w'):wpList P ops Q (o::rest) a w:=
 wpList_plain JC fun _ hK=>by
  unfold Oper.wp execOp;simp only[ho,resolve,invoke,builtin,Sem.run_bind,Sem.run_pure,Result.andThen_ok,List.map_toArray,zzaz,zzcr,hd,hs,hr];exact hK _ _ h
def yo{P:Program}{ops:Array Oper}{o:Oper}{a:Act}{w:World}{K:Act->World->Prop}{Q:PP}{E:Prop}
  (hg:o.guard=none)(d x:Operand)(dT sT:TypeId)(dm:o.op=Op.call {callee:=Callee.builtin Builtin.copy,args:=#[d,x],argTypes:=#[dT,sT]})
  (v u:Value)(hd:a.eval d=v)(hx:a.eval x=u){v':Value}{w':World}(hr:(Builtin.copy_ #[dT,sT] o.type #[v,u]).run P w=.ok v' w')(hK:K (a.put o.dst v') w'):
  if Region.wanted o (yielded ops a.tmps)=true then Oper.wp P o a w K Q else E:=by
 have hw:Region.wanted o (yielded ops a.tmps)=true:=by simp[Region.wanted,hg]
 rw[if_pos hw];unfold Oper.wp;simp[execOp,dm,resolve,invoke,builtin,hd,hx,hr,Result.andThen];exact hK
def GU{w:World}{b:Nat}{arr:P1}{te:TypeId}{f:Nat×Nat}(h:w.heap[b]?=some (.cells arr te f)):w.shape? b=some (te,arr.size):=by
 simp[World.shape?,h]
def Rk(b n c i vb vc:Nat)(arr uR:P1)(te tv:TypeId)(w:World)(hi:i<n)(cA:n+1<=c)(hn:n+1<=1000000000)(hvb:vb≠b)
  (hb:w.heap[b]?=some (.cells arr te (0,0)))(hv:w.heap[vb]?=some (.cells uR tv (0,0)))(hs:c*7<=arr.size)(hsv:7<=uR.size)(ho:∀v∈arr.toList,v.oneCell'=true)(hov:∀v∈uR.toList,v.oneCell'=true):
  Calls Tryz.prog 150 #[.slice (some ⟨b,0,none⟩) n c,.int .i64 i,.slice (some ⟨vb,0,none⟩) 1 vc] w fun e w'=>
   e=.returned (.slice (some ⟨b,0,none⟩) (n+1) c)/\w'=(w.drew.setCells b ((i+1)*7) ((arr.toList.drop (i*7)).take ((n-i)*7))).setCells b (i*7) (uR.toList.take 7):=by
 obtain⟨i36,DC,dQ⟩:∃x,Tryz.prog.info? 47=some x/\x.size=7:=⟨_,rfl,rfl⟩;have lM:=GU hv;have hsb:=GU hb;have D7:w.frozen? ⟨vb,0,none⟩=false:=Zo hv;have hfe:w.frozen? ⟨vb,uR.size,none⟩=false:=Zo hv
 have axE:∀lb cb,(callFunc 202 #[.slice (some ⟨vb,0,none⟩) 1 vc,.slice (some ⟨b,(i+1)*7,none⟩) lb cb]).run Tryz.prog w=.ok (.value (.bool false)) w:=fun lb cb=>by
  rw[run_callFunc_extern Tryz.func202 (by kernel_rfl) (by kernel_rfl) (by kernel_rfl) (e:=Extern.SlicesOverlaps.overlaps #[28,28] #[4]) (by kernel_rfl),
   Lib.run_overlaps_apart w 28 4 47 Tryz.underlying28 7 (fun w=>by simp[Go.sizeOf,typeInfo,DC,dQ]) ⟨vb,0,none⟩ ⟨b,(i+1)*7,none⟩ 1 vc lb cb hvb tv te uR.size arr.size lM hsb zE D7 hfe]
  rfl
 have dU:IntKind.i64.wrap ((i:Int)+1)=(i:Int)+1:=by rw[IntKind.wrap_i64];omega
 have hz2:¬((i:Int)=(n:Int)):=zE
 have fE:IntKind.i64.wrap ((n:Int)+1)=(n:Int)+1:=by rw[IntKind.wrap_i64];omega
 have htn:((i:Int)+1).toNat=i+1:=zE
 have alK:((n:Int)+1).toNat=n+1:=zE
 have dy:(0:Int)<=(i:Int)+1:=zE
 have fT:¬(c=i+1):=zE
 have hb3:(i:Int)<=(n:Int)+1:=zE
 have hb4:¬(c=i):=zE
 have Pf:(n+1)*7<=c*7:=zzbc _ cA;have ei:w.drew.heap[b]?=some (.cells arr te (0,0)):=hb
 have ata:∀ty dc sc,(Builtin.copy_ #[28,28] ty #[.slice (some ⟨b,(i+1)*7,none⟩) (n-i) dc,.slice (some ⟨b,i*7,none⟩) (n+1-i) sc]).run Tryz.prog w.drew=
   .ok (goInt (n-i:Nat)) (w.drew.setCells b ((i+1)*7) ((arr.toList.drop (i*7)).take ((n-i)*7))):=fun ty dc sc=>by
  have:=kZ (P:=Tryz.prog) w.drew 28 28 ty 47 i36 b ((i+1)*7) (n-i) dc b (i*7) (n+1-i) sc (n-i) Tryz.underlying28 DC ei ei (by simp only[zzh];split<;>omega) (by rw[dQ];omega) (by rw[dQ];omega) ho;rw[dQ]at this;exact this
 obtain⟨W1,QB⟩:∃W1,W1=w.drew.setCells b ((i+1)*7) ((arr.toList.drop (i*7)).take ((n-i)*7)):=⟨_,rfl⟩;have hb5:W1.heap[b]?=some (.cells (tG arr ((i+1)*7) ((arr.toList.drop (i*7)).take ((n-i)*7))) te (0,0)):=by rw[QB];exact Xc b _ _ w.drew arr te _ ei
 have hv5:W1.heap[vb]?=some (.cells uR tv (0,0)):=by rw[QB,Qy b _ _ w.drew vb hvb];exact hv
 have axF:∀ty dc,(Builtin.copy_ #[28,28] ty #[.slice (some ⟨b,i*7,none⟩) (n+1-i) dc,.slice (some ⟨vb,0,none⟩) 1 vc]).run Tryz.prog W1=.ok (goInt (1:Nat)) (W1.setCells b (i*7) (uR.toList.take 7)):=fun ty dc=>by
  have:=kZ (P:=Tryz.prog) W1 28 28 ty 47 i36 b (i*7) (n+1-i) dc vb 0 1 vc 1 Tryz.underlying28 DC hb5 hv5 (by simp only[zzh];split<;>omega) (by rw[dQ,Zz];omega) (by rw[dQ];omega) hov;rw[dQ,zzd,zzdq]at this;exact this
 rw[<- QB]at ata |-
 clear DC dQ QB;have bP:i<=n:=zE
 have mixed:Tryz.prog.follows Departure.mixedOrders=true:=by kernel_rfl
 go_enter Tryz.func150,Tryz.ntmps150
 go_wp2_with (simp only[axE])
 go_region_law_o (refine yo rfl _ _ 28 28 rfl _ _ (by simp[Act.eval,Act.put]) (by simp[Act.eval,Act.put]) (ata _ _ _) ?_)
 go_wp2_with (at_builtin;refine p6 _ rfl _ _ 28 28 rfl _ _ rfl rfl (axF _ _) ?_)
 go_ret
 exact⟨rfl,rfl⟩
def ae4{n c:Nat}(h:c<n)(hn:n<=1000000000):Builtin.nextslicecap n c*72<=281474976710656:=by
 have:=I5 h;omega
def ZJ(b n c i vb vc:Nat)(arr uR:P1)(te tv:TypeId)(w:World)(hi:i<n)(hnc:n<=c)(cA:c<n+1)(vJ:n+1<=1000000000)(hvb:vb≠b)
  (hb:w.heap[b]?=some (.cells arr te (0,0)))(hv:w.heap[vb]?=some (.cells uR tv (0,0)))(hs:c*7<=arr.size)(hsv:7<=uR.size)(ho:∀v∈arr.toList,v.oneCell'=true)(hov:∀v∈uR.toList,v.oneCell'=true):
  Calls Tryz.prog 150 #[.slice (some ⟨b,0,none⟩) n c,.int .i64 i,.slice (some ⟨vb,0,none⟩) 1 vc] w fun e w'=>
   ∃(G:Nat)(nW:P1)(zs:PQ),n+1<=G/\e=.returned (.slice (some ⟨w.heap.size,0,none⟩) (n+1) G)/\nW.toList=arr.toList.take (i*7)++zs/\(n+1-i)*7<=zs.length/\G*7<=nW.size/\(∀v∈zs,v.oneCell'=true)/\
    w'=(((w.drew.alloc (.cells nW 47)).setCells w.heap.size (i*7) (uR.toList.take 7)).drew).setCells w.heap.size ((i+1)*7) ((arr.toList.drop (i*7)).take ((n-i)*7)):=by
 obtain⟨i36,z36,DC,dQ,axG,atb,EN,hzo⟩:∃x z,Tryz.prog.info? 47=some x/\x.size=7/\x.zero=some z/\x.bytes=72/\z.cells.size=7/\∀u∈z.cells,u.oneCell'=true:=⟨_,_,rfl,rfl,rfl,rfl,rfl,by decide⟩;have hz2:¬((i:Int)=(n:Int)):=zE
 have hz3:(c:Int)<(n:Int)+1:=zE
 have hbw:b<w.heap.size:=aR hb;have hvw:vb<w.heap.size:=aR hv;have hkk:(n:Int)+1-(i:Int)=((n+1-i:Nat):Int):=zE
 have qJ:i+(n+1-i)=n+1:=zE
 have Pf:n*7<=c*7:=zzbc _ hnc;have iZ:(arr.toList.take (i*7)).length=i*7:=by rw[zzap,zzbi];omega
 have oM:(Builtin.firstCells i36.size i (.slice (some ⟨b,0,none⟩) i c)).run Tryz.prog w.drew=.ok (arr.toList.take (i*7)).toArray w.drew:=by
  rw[dQ];refine run_firstCells_some w.drew 7 i ⟨b,0,none⟩ i c _ iZ (fun j v hj=>?_);rw[Go.Abs.bq];show w.cell? _=_;rw[aO hb];rw[zzbj]at hj;split at hj
  ·simpa using hj
  cases hj
 have Of:∀ty,(Builtin.append_ #[28,3] ty #[.slice (some ⟨b,0,none⟩) i c,.int .i64 ((n:Int)+1-(i:Int))]).run Tryz.prog w=
   .ok (.slice (some ⟨w.heap.size,0,none⟩) (n+1) (grownCap w (n+1) c 47)) (w.drew.alloc (.cells ((arr.toList.take (i*7)).toArray++Builtin.zeroCells z36.cells (n+1-i)++Builtin.zeroCells z36.cells (grownCap w (n+1) c 47-(n+1))) 47)):=fun ty=>by
  have h:=Lib.run_append_grow_zeros w 28 3 ty 47 i36 z36 .i64 .i64 Tryz.underlying28 Tryz.underlying3 DC axG (some ⟨b,0,none⟩) i c (arr.toList.take (i*7)) oM (n+1-i) zE zE zE zE (by rw[atb];omega) (by rw[atb,qJ];exact ae4 cA vJ);rw[qJ]at h;rw[hkk];exact h
 obtain⟨G,hG⟩:∃G,G=grownCap w (n+1) c 47:=⟨_,rfl⟩;have hGn:n+1<=G:=by rw[hG];exact grownCap_ge w _ _ _
 have ayR:G<=9223372036854775807:=by
  have:=grownCap_le_maxLen w (n+1) c 47 (by unfold maxLen;omega);rw[<- hG]at this;unfold maxLen at this;omega
 rw[<- hG]at Of;obtain⟨nW,GV⟩:∃nW:P1,nW=(arr.toList.take (i*7)).toArray++Builtin.zeroCells z36.cells (n+1-i)++Builtin.zeroCells z36.cells (G-(n+1)):=⟨_,rfl⟩;rw[<- GV]at Of;have hRs:nW.size=i*7+(n+1-i)*7+(G-(n+1))*7:=by rw[GV];simp only[zzeq,zzep,iZ,size_zeroCells,EN]
 have hRt:nW.toList=arr.toList.take (i*7)++((Builtin.zeroCells z36.cells (n+1-i)).toList++(Builtin.zeroCells z36.cells (G-(n+1))).toList):=by rw[GV];simp
 have hRo:∀v∈(Builtin.zeroCells z36.cells (n+1-i)).toList++(Builtin.zeroCells z36.cells (G-(n+1))).toList,v.oneCell'=true:=fun v hv=>by
  rcases zzam.1 hv with hv|hv
  ·exact Wm hzo _ v hv
  exact Wm hzo _ v hv
 have hRl:(n+1-i)*7<=((Builtin.zeroCells z36.cells (n+1-i)).toList++(Builtin.zeroCells z36.cells (G-(n+1))).toList).length:=by
  simp only[zzak,zzbi,size_zeroCells,EN];omega
 obtain⟨zs,Cn⟩:∃zs,zs=(Builtin.zeroCells z36.cells (n+1-i)).toList++(Builtin.zeroCells z36.cells (G-(n+1))).toList:=⟨_,rfl⟩;rw[<- Cn]at hRt hRo hRl;have hGR:G*7<=nW.size:=by rw[hRs];omega
 clear GV Cn oM hG;obtain⟨W1,QB⟩:∃W1,W1=w.drew.alloc (.cells nW 47):=⟨_,rfl⟩;have hN1:W1.heap[w.heap.size]?=some (.cells nW 47 (0,0)):=by rw[QB];exact Yj w _
 have hO1:∀x,x<w.heap.size->W1.heap[x]?=w.heap[x]?:=fun x hx=>by rw[QB];exact Below.heap_alloc w.drew _ x hx
 have dy:=(hO1 b hbw).trans hb;have hv1:=(hO1 vb hvw).trans hv
 have axH:∀ty dc,(Builtin.copy_ #[28,28] ty #[.slice (some ⟨w.heap.size,i*7,none⟩) (n+1-i) dc,.slice (some ⟨vb,0,none⟩) 1 vc]).run Tryz.prog W1=.ok (goInt (1:Nat)) (W1.setCells w.heap.size (i*7) (uR.toList.take 7)):=fun ty dc=>by
  have:=kZ (P:=Tryz.prog) W1 28 28 ty 47 i36 w.heap.size (i*7) (n+1-i) dc vb 0 1 vc 1 Tryz.underlying28 DC hN1 hv1 (by simp only[zzh];split<;>omega) (by rw[dQ];omega) (by rw[dQ];omega) hov;rw[dQ,zzd,zzdq]at this;exact this
 obtain⟨W2,QC⟩:∃W2,W2=(W1.setCells w.heap.size (i*7) (uR.toList.take 7)).drew:=⟨_,rfl⟩;have hN2:W2.heap[w.heap.size]?=some (.cells (tG nW (i*7) (uR.toList.take 7)) 47 (0,0)):=by rw[QC];exact Xc _ _ _ W1 nW 47 _ hN1
 have fT:W2.heap[b]?=some (.cells arr te (0,0)):=by
  rw[QC];exact(Qy w.heap.size _ _ W1 b zE).trans dy
 have atc:∀ty dc sc,(Builtin.copy_ #[28,28] ty #[.slice (some ⟨w.heap.size,(i+1)*7,none⟩) (n-i) dc,.slice (some ⟨b,i*7,none⟩) (n-i) sc]).run Tryz.prog W2=
   .ok (goInt (n-i:Nat)) (W2.setCells w.heap.size ((i+1)*7) ((arr.toList.drop (i*7)).take ((n-i)*7))):=fun ty dc sc=>by
  have:=kZ (P:=Tryz.prog) W2 28 28 ty 47 i36 w.heap.size ((i+1)*7) (n-i) dc b (i*7) (n-i) sc (n-i) Tryz.underlying28 DC hN2 fT (by simp only[zzh];split<;>omega) (by rw[dQ,Zz];omega) (by rw[dQ];omega) ho;rw[dQ]at this;exact this
 have FM:((((w.drew.alloc (.cells nW 47)).setCells w.heap.size (i*7) (uR.toList.take 7)).drew).setCells w.heap.size ((i+1)*7) ((arr.toList.drop (i*7)).take ((n-i)*7)))=
   W2.setCells w.heap.size ((i+1)*7) ((arr.toList.drop (i*7)).take ((n-i)*7)):=by rw[QC,QB]
 have axI:∀ty,(Builtin.append_ #[28,3] ty #[.slice (some ⟨b,0,none⟩) i c,.int .i64 ((n:Int)+1-(i:Int))]).run Tryz.prog w=.ok (.slice (some ⟨w.heap.size,0,none⟩) (n+1) G) W1:=by rw[QB];exact Of
 have axJ:W2=(W1.setCells w.heap.size (i*7) (uR.toList.take 7)).drew:=QC;have dU:IntKind.i64.wrap ((i:Int)+1)=(i:Int)+1:=by rw[IntKind.wrap_i64];omega
 have fE:IntKind.i64.wrap ((n:Int)+1)=(n:Int)+1:=by rw[IntKind.wrap_i64];omega
 have Sm:IntKind.i64.wrap ((n:Int)+1-(i:Int))=(n:Int)+1-(i:Int):=by rw[IntKind.wrap_i64];omega
 have htn:((i:Int)+1).toNat=i+1:=zE
 have ayS:(0:Int)<=(i:Int)+1:=zE
 have hb3:(i:Int)<=(n:Int)+1:=zE
 have bP:i<=n:=zE
 have hci:¬(c=i):=zE
 have hGi:¬(G=i):=zE
 have ayT:¬(G=i+1):=zE
 have mixed:Tryz.prog.follows Departure.mixedOrders=true:=by kernel_rfl
 suffices aiF:Calls Tryz.prog 150 #[.slice (some ⟨b,0,none⟩) n c,.int .i64 i,.slice (some ⟨vb,0,none⟩) 1 vc] w fun e w'=>e=.returned (.slice (some ⟨w.heap.size,0,none⟩) (n+1) G)/\w'=((W1.setCells w.heap.size (i*7) (uR.toList.take 7)).drew).setCells w.heap.size ((i+1)*7) ((arr.toList.drop (i*7)).take ((n-i)*7))from
  aiF.mono fun e w'⟨h1,h2⟩=>⟨G,nW,zs,hGn,h1,hRt,hRl,hGR,hRo,by rw[h2,QB]⟩
 rw[QC]at atc;clear DC dQ Of QB QC axJ FM hkk qJ hRt hRl hGR hRo hRs hN1 hN2 hO1 dy hv1 fT
 go_enter Tryz.func150,Tryz.ntmps150
 go_wp2_with (first
  |(at_builtin;refine Lib.wpList_append_run _ rfl _ _ _ _ rfl _ _ rfl rfl _ _ (axI _) ?_)
  |(at_builtin;refine p6 _ rfl _ _ 28 28 rfl _ _ rfl rfl (axH _ _) ?_))
 go_region_law_o (refine yo rfl _ _ 28 28 rfl _ _ (by simp[Act.eval,Act.put]) (by simp[Act.eval,Act.put]) (atc _ _ _) ?_)
 go_wp2
 go_ret
 exact⟨rfl,rfl⟩
open Go Go.Abs Go.RowKit
def Og(y:AV):∀(xs l:P2)(n:Nat),setA (y::l) (n+1) xs=y::setA l n xs
 |[],_,_=>rfl
 |x::xs,l,n=>by rw[setA,setA,zzdx,Og y xs]
def lg(pre X Y:P2)(n:Nat)(k:Nat)(h:pre.length=n):setA (pre++X) (n+k) Y=pre++setA X k Y:=by
 subst h;induction pre with
 |nil=>simp
 |cons a r ih=>rw[zzae,zzbg,show r.length+1+k=r.length+k+1 by omega,Og,ih];rfl
section
variable {N:Nat} {w0:eS} {an:Nat->Nat->Prop} {γ:G} {w:World} {m:AM}
def aiV(m:AM){id:Nat}(aL:id<m.boxes.length)(cells:P2):({m with boxes:=m.boxes.set id []++[cells]}:AM).B=fun i=>if i=m.boxes.length then some cells else if i=id then some []else m.B i:=by
 have e1:=Sc {m with boxes:=m.boxes.set id []} cells;rw[lX m id aL]at e1;simpa using e1
def aiW{A C:P2}{arr:P1}(q3:ct w γ (A++C) arr.toList):ak w γ C ((arr.toList.drop A.length).take C.length):=by
 have h:=q3.1;simp only[zzak,zzbi]at h;refine⟨by simp only[zzap,zzcv,zzbi];omega,fun k c v g1 g2=>?_⟩;have hk:=(zza.1 g1).1;rw[zzbj,if_pos hk,zzbl]at g2;refine q3.2 (A.length+k) c v ?_ g2;rw[zzao zE,zzdv];exact g1
def Rl(hm:au N w0 an γ w m.B m.L){id b:Nat}{A C V:P2}(aL:m.boxes[id]?=some (A++C))(aN:A++C≠[])(hb:γ.β id=some b){arr:P1}{te:TypeId}(hh:w.heap[b]?=some (.cells arr te (0,0)))
  {vs:PQ}(hV:ak w γ V vs)(hvo:∀v∈vs,v.oneCell'=true)(hsz:A.length+V.length+C.length<=arr.size):
  Ev w γ ((w.drew.setCells b (A.length+V.length) ((arr.toList.drop A.length).take C.length)).setCells b A.length vs) (γ.box m.boxes.length b)/\
  au N w0 an (γ.box m.boxes.length b) ((w.drew.setCells b (A.length+V.length) ((arr.toList.drop A.length).take C.length)).setCells b A.length vs) ({m with boxes:=m.boxes.set id []++[A++(V++C)]}:AM).B m.L:=by
 have ai:id<m.boxes.length:=(zza.1 aL).1;have hB:m.B id=some (A++C):=aL;obtain⟨bN,e',q2,q3,q4⟩:=hm.box id _ b hB hb;rw[hh]at q2;cases q2;have cI:m.B m.boxes.length=none:=by simp[AM.B]
 have hD:=aiW q3;have hDl:=hD.1;have hh':w.drew.heap[b]?=some (.cells arr te (0,0)):=hh;have gA:∀v∈(arr.toList.drop A.length).take C.length,v.oneCell'=true:=fun v hv=>q4 v (zzdr (zzce hv));generalize(arr.toList.drop A.length).take C.length=D at*
 have hr:ct w γ (A++(List.replicate V.length .junk++C)) (tG arr (A.length+V.length) D).toList:=by
  refine⟨by simp only[zzak,zzdz,zzbi,Zz];omega,fun k c v g1 g2=>?_⟩;rw[zzca,vU]at g2;rcases zzaa k A.length with h1|h1
  ·rw[zzaj h1]at g1;rw[if_neg zE]at g2;exact q3.2 k c v (by rw[zzaj h1];exact g1) (by rw[zzca];exact g2)
  rw[zzao h1]at g1;rcases zzaa (k-A.length) V.length with h2|h2
  ·rw[zzaj (Nm h2),zzcl,if_pos h2]at g1;cases g1;exact .junk _
  rw[zzao (Nm h2),zzdz]at g1;have h3:=(zza.1 g1).1;rw[if_pos zE]at g2;refine hD.2 _ c v g1 ?_;rw[<- g2];congr 1;omega
 obtain⟨e1,m1⟩:=hm.drew.share (id':=m.boxes.length) (new:=A++(List.replicate V.length .junk++C)) hb hB aN cI hh' (p:=A.length+V.length) (vs:=D) (hr.mono (Ev.drew w γ)) q4 gA;have dy:(γ.box m.boxes.length b).β m.boxes.length=some b:=by simp[G.box]
 have hh1:=Xc b D (A.length+V.length) w.drew arr te _ hh';have Sd:=(hr.mono (Ev.drew w γ)).mono e1;have hV1:=(hV.mono (Ev.drew w γ)).mono e1
 have Rm:A++(List.replicate V.length AV.junk++C)≠[]:=by
  intro h;simp only[zzha]at h;exact aN (by simp[h.1,h.2.2])
 have m2:=m1.store (id:=m.boxes.length) zd dy hh1 Sd (Wv D _ arr q4 gA) (o:=A.length) hV1 hvo Rm;refine⟨((Ev.drew w γ).trans e1).trans (m1.cz dy A.length vs),?_⟩;rw[aiV m ai]
 have lM:setA (A++(List.replicate V.length AV.junk++C)) A.length V=A++(V++C):=by
  have:=lg A (List.replicate V.length AV.junk++C) V A.length 0 rfl;rw[zzcm,jt V (List.replicate V.length AV.junk) C zd]at this;exact this
 rw[lM]at m2;refine(congrArg (fun B=>au N w0 an _ _ B m.L) (funext fun i=>?_)).mp m2;by_cases hi:i=m.boxes.length<;>simp[hi]
def ae5(hm:au N w0 an γ w m.B m.L){id b:Nat}{A C V:P2}(aL:m.boxes[id]?=some (A++C))(hb:γ.β id=some b){arr:P1}{te te2:TypeId}(hh:w.heap[b]?=some (.cells arr te (0,0)))
  {vs zs:PQ}(hV:ak w γ V vs)(hvo:∀v∈vs,v.oneCell'=true){nW:P1}(GV:nW.toList=arr.toList.take A.length++zs)(Cn:V.length+C.length<=zs.length)(hzo:∀v∈zs,v.oneCell'=true)(aN:A++(V++C)≠[]):
  Ev w γ ((((w.drew.alloc (.cells nW te2)).setCells w.heap.size A.length vs).drew).setCells w.heap.size (A.length+V.length) ((arr.toList.drop A.length).take C.length)) (γ.box m.boxes.length w.heap.size)/\
  au N w0 an (γ.box m.boxes.length w.heap.size) ((((w.drew.alloc (.cells nW te2)).setCells w.heap.size A.length vs).drew).setCells w.heap.size (A.length+V.length) ((arr.toList.drop A.length).take C.length)) ({m with boxes:=m.boxes.set id []++[A++(V++C)]}:AM).B m.L:=by
 have ai:id<m.boxes.length:=(zza.1 aL).1;have hB:m.B id=some (A++C):=aL;obtain⟨bN,e',q2,q3,q4⟩:=hm.box id _ b hB hb;rw[hh]at q2;cases q2;have hq:=q3.1;simp only[zzak,zzbi]at hq;have cI:m.B m.boxes.length=none:=by simp[AM.B]
 have hD:=aiW q3;have hDl:=hD.1;have gA:∀v∈(arr.toList.drop A.length).take C.length,v.oneCell'=true:=fun v hv=>q4 v (zzdr (zzce hv));generalize(arr.toList.drop A.length).take C.length=D at*
 have hmk:=(hm.kill hb).drew
 have fL:(fun i=>if i=id then some []else m.B i) m.boxes.length=none:=by
  have:m.boxes.length≠id:=zE
  simp only[if_neg this];exact cI
 have ayC:nW.size=A.length+zs.length:=by
  have:=congrArg List.length GV;simp only[zzbi,zzak,zzap]at this;omega
 have hP:ct w γ (A++(List.replicate V.length .junk++List.replicate C.length .junk)) nW.toList:=by
  refine⟨by simp only[zzak,zzdz,zzbi];omega,fun k c v g1 g2=>?_⟩;rcases zzaa k A.length with h1|h1
  ·rw[zzaj h1]at g1;rw[GV,zzaj (by simp only[zzap,zzbi];omega),zzbj,if_pos h1]at g2;exact q3.2 k c v (by rw[zzaj h1];exact g1) g2
  rw[zzao h1]at g1;rw[List.replicate_append_replicate,zzcl]at g1;split at g1
  ·cases g1;exact .junk _
  cases g1
 have hRo:∀v∈nW.toList,v.oneCell'=true:=fun v hv=>by
  rw[GV]at hv;rcases zzam.1 hv with hv|hv
  ·exact q4 v (zzce hv)
  exact hzo v hv
 have e1:=hmk.dw _ fL (.cells nW te2);have m1:=hmk.eZ _ fL (e:=te2) (arr:=nW) (hP.mono (Ev.drew w γ)) hRo;have amr:w.drew.heap.size=w.heap.size:=rfl;rw[amr]at e1 m1;have dy:(γ.box m.boxes.length w.heap.size).β m.boxes.length=some w.heap.size:=by simp[G.box]
 have hh1:(w.drew.alloc (.cells nW te2)).heap[w.heap.size]?=some (.cells nW te2 (0,0)):=Yj w _;have hP1:=(hP.mono (Ev.drew w γ)).mono e1;have hV1:=(hV.mono (Ev.drew w γ)).mono e1;have hD1:=(hD.mono (Ev.drew w γ)).mono e1
 have hX:A++(List.replicate V.length AV.junk++List.replicate C.length AV.junk)≠[]:=by
  intro hX;apply aN;have h:=congrArg List.length hX;simp only[zzak,zzdz,zzcn]at h;apply zzbd;simp only[zzak];omega
 have m2:=m1.store (id:=m.boxes.length) zd dy hh1 hP1 hRo (o:=A.length) hV1 hvo hX;have e2:=m1.cz dy A.length vs
 have lM:setA (A++(List.replicate V.length AV.junk++List.replicate C.length AV.junk)) A.length V=A++(V++List.replicate C.length AV.junk):=by
  have:=lg A (List.replicate V.length AV.junk++List.replicate C.length AV.junk) V A.length 0 rfl;rw[zzcm,jt V (List.replicate V.length AV.junk) _ zd]at this;exact this
 have hh2:=Xc w.heap.size vs A.length _ nW te2 _ hh1;have m3:=m2.drew
 have hX2:setA (A++(List.replicate V.length AV.junk++List.replicate C.length AV.junk)) A.length V≠[]:=by
  intro h;have h:=congrArg List.length h;rw[oA]at h;exact hX (zzbd h)
 have hP2:=((ct.setA (o:=A.length) hV1 hP1).mono e2).mono (Ev.drew _ _);have hD2:=(hD1.mono e2).mono (Ev.drew _ _);have m4:=m3.store (id:=m.boxes.length) zd dy hh2 hP2 (Wv vs _ nW hRo hvo) (o:=A.length+V.length) hD2 gA hX2;have e4:=m3.cz dy (A.length+V.length) D;refine⟨((((Ev.drew w γ).trans e1).trans e2).trans (Ev.drew _ _)).trans e4,?_⟩;rw[aiV m ai]
 have hsb:setA (A++(V++List.replicate C.length AV.junk)) (A.length+V.length) C=A++(V++C):=by
  rw[lg A (V++List.replicate C.length AV.junk) C A.length V.length rfl];have:=lg V (List.replicate C.length AV.junk) C V.length 0 rfl;rw[zzcm]at this;rw[this];have:=jt C (List.replicate C.length AV.junk) [] zd;simp only[zzat]at this;rw[this]
 rw[lM,hsb]at m4;refine(congrArg (fun B=>au N w0 an _ _ B m.L) (funext fun i=>?_)).mp m4;by_cases hi:i=m.boxes.length<;>simp[hi]
end
