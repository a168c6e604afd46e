import Derived.Test.YtnopaopphmjnmaaGreatDoorProg
import Derived.Lib.AppendZerosOnto
import Derived.Shelf.RegionOpenPlain
import Derived.Lib.Walk
import Derived.Lib.JoinLaws
import Derived.Lib.Overlaps
import Derived.Test.YtnopaopphmjnmaaGreatDoorMBMP
set_option linter.all false
set_option maxRecDepth 100000
set_option maxHeartbeats 64000000
namespace Go.Proofs.YtnopaopphmjnmaaGreatDoor
open Go Go.Abs Go.RowKit Go.Lib
def RB{P:Program}(w:World)(dT sT ty elem:TypeId)(i:TypeInfo)(b o Lx afx:Nat)(a:Addr)(LA afy:Nat)(cs:List Value)
  (hu:P.underlying dT=some (.slice elem))(hi:P.info? elem=some i)(hn:cs.length=Nat.min LA Lx*i.size)
  (awz:∀j v,cs[j]?=some v->w.cell? (a.add j)=some v)(hc:∀j,j<cs.length->(w.cell? ⟨b,o+j,none⟩).isSome=true)(hf:∀j,j<cs.length->w.frozen? ⟨b,o+j,none⟩=false)(h1:∀v∈cs,v.oneCell'=true):
  (Builtin.copy_ #[dT,sT] ty #[.slice (some ⟨b,o,none⟩) Lx afx,.slice (some a) LA afy]).run P w=.ok (goInt (Nat.min LA Lx)) (w.setCells b o cs):=by
 have hl:=run_loadCells_list (P:=P) w a cs awz;have bU:=run_storeCells_cells (P:=P) b o cs 0 w (by simpa using hc) (by simpa using hf) h1;simp only[zzcm]at bU;simp[Builtin.copy_,run_underlying hu,Builtin.lenOf,Builtin.firstCells,sizeOf,typeInfo,hi,<- hn,hl,bU]
def kZ{P:Program}(w:World)(dT sT ty elem:TypeId)(i:TypeInfo)(b o Lx afx b2 o2 LA afy k:Nat)(hu:P.underlying dT=some (.slice elem))(hi:P.info? elem=some i)
  {arr RC:Array Value}{e e2:TypeId}(hb:w.heap[b]?=some (.cells arr e (0,0)))(lK:w.heap[b2]?=some (.cells RC e2 (0,0)))(hk:Nat.min LA Lx=k)
  (h1:o+k*i.size<=arr.size)(h2:o2+k*i.size<=RC.size)(ho:∀v∈RC.toList,v.oneCell'=true):
  (Builtin.copy_ #[dT,sT] ty #[.slice (some ⟨b,o,none⟩) Lx afx,.slice (some ⟨b2,o2,none⟩) LA afy]).run P w=.ok (goInt k) (w.setCells b o ((RC.toList.drop o2).take (k*i.size))):=by
 have aH:((RC.toList.drop o2).take (k*i.size)).length=k*i.size:=by rw[zzaq,zzcn,zzbh];omega
 have:=RB (P:=P) w dT sT ty elem i b o Lx afx ⟨b2,o2,none⟩ LA afy ((RC.toList.drop o2).take (k*i.size)) hu hi (by rw[aH,hk])
  (
   fun j v hj=>by
   rw[Go.Abs.bu];show w.cell? ⟨b2,o2+j,none⟩=_;rw[aL lK];rw[zzbi]at hj;split at hj
   ·rw[zzbj]at hj;simpa using hj
   cases hj)
  (fun j hj=>by rw[aL hb,zzaj (by omega)];rfl) (fun j hj=>Zn hb)
  (fun v hv=>ho v (zzdk (zzbx hv)))
 rw[hk]at this;exact this
def pN{P:Program}(w:World){ops:Array Oper}{rest:List Oper}{o:Oper}{a:Act}{Q:Exit->Act->World->Prop}(VL:o.guard=none)(d s:Operand)(t t':TypeId)
  (ho:o.op=.call {callee:=.builtin .copy,args:=#[d,s],argTypes:=#[t,t']})(v u:Value)(hd:a.eval d=v)(hs:a.eval s=u){v':Value}{w':World}
  (hr:(Builtin.copy_ #[t,t'] o.type #[v,u]).run P w=.ok v' w')(h:wpList P ops Q rest (a.put o.dst v') w'):wpList P ops Q (o::rest) a w:=
 wpList_plain VL fun _ hK=>by
  unfold Oper.wp execOp;simp only[ho,resolve,invoke,builtin,Sem.run_bind,Sem.run_pure,Result.andThen_ok,List.map_toArray,zzaw,zzce,hd,hs,hr];exact hK _ _ h
def xR{P:Program}{ops:Array Oper}{o:Oper}{a:Act}{w:World}{K:Act->World->Prop}{Q:Exit->Act->World->Prop}{E:Prop}
  (hg:o.guard=none)(d x:Operand)(dT sT:TypeId)(gp:o.op=Op.call {callee:=Callee.builtin Builtin.copy,args:=#[d,x],argTypes:=#[dT,sT]})
  (v u:Value)(hd:a.eval d=v)(hx:a.eval x=u){v':Value}{w':World}(hr:(Builtin.copy_ #[dT,sT] o.type #[v,u]).run P w=.ok v' w')(hK:K (a.put o.dst v') w'):
  if Region.wanted o (yielded ops a.tmps)=true then Oper.wp P o a w K Q else E:=by
 have hw:Region.wanted o (yielded ops a.tmps)=true:=by simp[Region.wanted,hg]
 rw[if_pos hw];unfold Oper.wp;simp[execOp,gp,resolve,invoke,builtin,hd,hx,hr,Result.andThen];exact hK
def GU{w:World}{b:Nat}{arr:Array Value}{te:TypeId}{f:Nat×Nat}(h:w.heap[b]?=some (.cells arr te f)):w.shape? b=some (te,arr.size):=by
 simp[World.shape?,h]
def RD(b n c i vb vc:Nat)(arr uo:Array Value)(te tv:TypeId)(w:World)(hi:i<n)(cw:n+1<=c)(hn:n+1<=1000000000)(hvb:vb≠b)
  (hb:w.heap[b]?=some (.cells arr te (0,0)))(hv:w.heap[vb]?=some (.cells uo tv (0,0)))(hs:c*7<=arr.size)(hsv:7<=uo.size)(ho:∀v∈arr.toList,v.oneCell'=true)(hov:∀v∈uo.toList,v.oneCell'=true):
  Calls Tryz.prog 220 #[.slice (some ⟨b,0,none⟩) n c,.int .i64 i,.slice (some ⟨vb,0,none⟩) 1 vc] w fun e w'=>
   e=.returned (.slice (some ⟨b,0,none⟩) (n+1) c)/\w'=(w.drew.setCells b ((i+1)*7) ((arr.toList.drop (i*7)).take ((n-i)*7))).setCells b (i*7) (uo.toList.take 7):=by
 obtain⟨i36,Dc,dM⟩:∃x,Tryz.prog.info? 36=some x/\x.size=7:=⟨_,rfl,rfl⟩;have qb:=GU hv;have SV:=GU hb;have CV:w.frozen? ⟨vb,0,none⟩=false:=Zn hv;have hfe:w.frozen? ⟨vb,uo.size,none⟩=false:=Zn hv
 have awA:∀lb cb,(callFunc 279 #[.slice (some ⟨vb,0,none⟩) 1 vc,.slice (some ⟨b,(i+1)*7,none⟩) lb cb]).run Tryz.prog w=.ok (.value (.bool false)) w:=fun lb cb=>by
  rw[run_callFunc_extern Tryz.func279 (by kernel_rfl) (by kernel_rfl) (by kernel_rfl) (e:=Extern.SlicesOverlaps.overlaps #[52,52] #[4]) (by kernel_rfl),
   Lib.run_overlaps_apart w 52 4 36 Tryz.underlying52 7 (fun w=>by simp[Go.sizeOf,typeInfo,Dc,dM]) ⟨vb,0,none⟩ ⟨b,(i+1)*7,none⟩ 1 vc lb cb hvb tv te uo.size arr.size qb SV (by omega) CV hfe]
  rfl
 have eU:IntKind.i64.wrap ((i:Int)+1)=(i:Int)+1:=by rw[IntKind.wrap_i64];omega
 have hz2:¬((i:Int)=(n:Int)):=by omega
 have ee:IntKind.i64.wrap ((n:Int)+1)=(n:Int)+1:=by rw[IntKind.wrap_i64];omega
 have htn:((i:Int)+1).toNat=i+1:=by omega
 have alZ:((n:Int)+1).toNat=n+1:=by omega
 have jb:(0:Int)<=(i:Int)+1:=by omega
 have lK:¬(c=i+1):=by omega
 have hb3:(i:Int)<=(n:Int)+1:=by omega
 have hb4:¬(c=i):=by omega
 have Py:(n+1)*7<=c*7:=zzb _ cw;have sd:w.drew.heap[b]?=some (.cells arr te (0,0)):=hb
 have asl:∀ty dc sc,(Builtin.copy_ #[52,52] ty #[.slice (some ⟨b,(i+1)*7,none⟩) (n-i) dc,.slice (some ⟨b,i*7,none⟩) (n+1-i) sc]).run Tryz.prog w.drew=
   .ok (goInt (n-i:Nat)) (w.drew.setCells b ((i+1)*7) ((arr.toList.drop (i*7)).take ((n-i)*7))):=fun ty dc sc=>by
  have:=kZ (P:=Tryz.prog) w.drew 52 52 ty 36 i36 b ((i+1)*7) (n-i) dc b (i*7) (n+1-i) sc (n-i) Tryz.underlying52 Dc sd sd (by simp only[zzh];split<;>omega) (by rw[dM];omega) (by rw[dM];omega) ho;rw[dM]at this;exact this
 obtain⟨W1,QI⟩:∃W1,W1=w.drew.setCells b ((i+1)*7) ((arr.toList.drop (i*7)).take ((n-i)*7)):=⟨_,rfl⟩;have hb5:W1.heap[b]?=some (.cells (sY arr ((i+1)*7) ((arr.toList.drop (i*7)).take ((n-i)*7))) te (0,0)):=by rw[QI];exact Qz b _ _ w.drew arr te _ sd
 have hv5:W1.heap[vb]?=some (.cells uo tv (0,0)):=by rw[QI,Qw b _ _ w.drew vb hvb];exact hv
 have awB:∀ty dc,(Builtin.copy_ #[52,52] ty #[.slice (some ⟨b,i*7,none⟩) (n+1-i) dc,.slice (some ⟨vb,0,none⟩) 1 vc]).run Tryz.prog W1=.ok (goInt (1:Nat)) (W1.setCells b (i*7) (uo.toList.take 7)):=fun ty dc=>by
  have:=kZ (P:=Tryz.prog) W1 52 52 ty 36 i36 b (i*7) (n+1-i) dc vb 0 1 vc 1 Tryz.underlying52 Dc hb5 hv5 (by simp only[zzh];split<;>omega) (by rw[dM,Va];omega) (by rw[dM];omega) hov;rw[dM,zzde,zzdj]at this;exact this
 rw[<- QI]at asl |-
 clear Dc dM QI;have bI:i<=n:=by omega
 have mixed:Tryz.prog.follows Departure.mixedOrders=true:=by kernel_rfl
 go_enter Tryz.func220,Tryz.ntmps220
 go_wp2_with (simp only[awA])
 go_region_law_o (refine xR rfl _ _ 52 52 rfl _ _ (by simp[Act.eval,Act.put]) (by simp[Act.eval,Act.put]) (asl _ _ _) ?_)
 go_wp2_with (at_builtin;refine pN _ rfl _ _ 52 52 rfl _ _ rfl rfl (awB _ _) ?_)
 go_ret
 exact⟨rfl,rfl⟩
def afz{n c:Nat}(h:c<n)(hn:n<=1000000000):Builtin.nextslicecap n c*72<=281474976710656:=by
 have:=JG h;omega
def ZM(b n c i vb vc:Nat)(arr uo:Array Value)(te tv:TypeId)(w:World)(hi:i<n)(hnc:n<=c)(cw:c<n+1)(vk:n+1<=1000000000)(hvb:vb≠b)
  (hb:w.heap[b]?=some (.cells arr te (0,0)))(hv:w.heap[vb]?=some (.cells uo tv (0,0)))(hs:c*7<=arr.size)(hsv:7<=uo.size)(ho:∀v∈arr.toList,v.oneCell'=true)(hov:∀v∈uo.toList,v.oneCell'=true):
  Calls Tryz.prog 220 #[.slice (some ⟨b,0,none⟩) n c,.int .i64 i,.slice (some ⟨vb,0,none⟩) 1 vc] w fun e w'=>
   ∃(G:Nat)(nQ:Array Value)(zs:List Value),n+1<=G/\e=.returned (.slice (some ⟨w.heap.size,0,none⟩) (n+1) G)/\nQ.toList=arr.toList.take (i*7)++zs/\(n+1-i)*7<=zs.length/\G*7<=nQ.size/\(∀v∈zs,v.oneCell'=true)/\
    w'=(((w.drew.alloc (.cells nQ 36)).setCells w.heap.size (i*7) (uo.toList.take 7)).drew).setCells w.heap.size ((i+1)*7) ((arr.toList.drop (i*7)).take ((n-i)*7)):=by
 obtain⟨i36,Oq,Dc,dM,awC,asm,EM,hzo⟩:∃x z,Tryz.prog.info? 36=some x/\x.size=7/\x.zero=some z/\x.bytes=72/\z.cells.size=7/\∀u∈z.cells,u.oneCell'=true:=⟨_,_,rfl,rfl,rfl,rfl,rfl,by decide⟩;have hz2:¬((i:Int)=(n:Int)):=by omega
 have hz3:(c:Int)<(n:Int)+1:=by omega
 have hbw:b<w.heap.size:=aS hb;have hvw:vb<w.heap.size:=aS hv;have hkk:(n:Int)+1-(i:Int)=((n+1-i:Nat):Int):=by omega
 have qD:i+(n+1-i)=n+1:=by omega
 have Py:n*7<=c*7:=zzb _ hnc;have fR:(arr.toList.take (i*7)).length=i*7:=by rw[zzaq,zzbh];omega
 have oA:(Builtin.firstCells i36.size i (.slice (some ⟨b,0,none⟩) i c)).run Tryz.prog w.drew=.ok (arr.toList.take (i*7)).toArray w.drew:=by
  rw[dM];refine run_firstCells_some w.drew 7 i ⟨b,0,none⟩ i c _ fR (fun j v hj=>?_);rw[Go.Abs.bu];show w.cell? _=_;rw[aL hb];rw[zzbi]at hj;split at hj
  ·simpa using hj
  cases hj
 have hrz:∀ty,(Builtin.append_ #[52,3] ty #[.slice (some ⟨b,0,none⟩) i c,.int .i64 ((n:Int)+1-(i:Int))]).run Tryz.prog w=
   .ok (.slice (some ⟨w.heap.size,0,none⟩) (n+1) (grownCap w (n+1) c 36)) (w.drew.alloc (.cells ((arr.toList.take (i*7)).toArray++Builtin.zeroCells Oq.cells (n+1-i)++Builtin.zeroCells Oq.cells (grownCap w (n+1) c 36-(n+1))) 36)):=fun ty=>by
  have h:=Lib.run_append_grow_zeros w 52 3 ty 36 i36 Oq .i64 .i64 Tryz.underlying52 Tryz.underlying3 Dc awC (some ⟨b,0,none⟩) i c (arr.toList.take (i*7)) oA (n+1-i) (by omega) (by omega) (by omega) (by omega) (by rw[asm];omega) (by rw[asm,qD];exact afz cw vk);rw[qD]at h;rw[hkk];exact h
 obtain⟨G,hG⟩:∃G,G=grownCap w (n+1) c 36:=⟨_,rfl⟩;have hGn:n+1<=G:=by rw[hG];exact grownCap_ge w _ _ _
 have axF:G<=9223372036854775807:=by
  have:=grownCap_le_maxLen w (n+1) c 36 (by unfold maxLen;omega);rw[<- hG]at this;unfold maxLen at this;omega
 rw[<- hG]at hrz;obtain⟨nQ,GV⟩:∃nQ:Array Value,nQ=(arr.toList.take (i*7)).toArray++Builtin.zeroCells Oq.cells (n+1-i)++Builtin.zeroCells Oq.cells (G-(n+1)):=⟨_,rfl⟩;rw[<- GV]at hrz;have hRs:nQ.size=i*7+(n+1-i)*7+(G-(n+1))*7:=by rw[GV];simp only[zzej,zzei,fR,size_zeroCells,EM]
 have hRt:nQ.toList=arr.toList.take (i*7)++((Builtin.zeroCells Oq.cells (n+1-i)).toList++(Builtin.zeroCells Oq.cells (G-(n+1))).toList):=by rw[GV];simp
 have hRo:∀v∈(Builtin.zeroCells Oq.cells (n+1-i)).toList++(Builtin.zeroCells Oq.cells (G-(n+1))).toList,v.oneCell'=true:=fun v hv=>by
  rcases zzal.1 hv with hv|hv
  ·exact Wd hzo _ v hv
  exact Wd hzo _ v hv
 have hRl:(n+1-i)*7<=((Builtin.zeroCells Oq.cells (n+1-i)).toList++(Builtin.zeroCells Oq.cells (G-(n+1))).toList).length:=by
  simp only[zzag,zzbh,size_zeroCells,EM];omega
 obtain⟨zs,BY⟩:∃zs,zs=(Builtin.zeroCells Oq.cells (n+1-i)).toList++(Builtin.zeroCells Oq.cells (G-(n+1))).toList:=⟨_,rfl⟩;rw[<- BY]at hRt hRo hRl;have hGR:G*7<=nQ.size:=by rw[hRs];omega
 clear GV BY oA hG;obtain⟨W1,QI⟩:∃W1,W1=w.drew.alloc (.cells nQ 36):=⟨_,rfl⟩;have hN1:W1.heap[w.heap.size]?=some (.cells nQ 36 (0,0)):=by rw[QI];exact Ya w _
 have hO1:∀x,x<w.heap.size->W1.heap[x]?=w.heap[x]?:=fun x hx=>by rw[QI];exact Below.heap_alloc w.drew _ x hx
 have jb:=(hO1 b hbw).trans hb;have hv1:=(hO1 vb hvw).trans hv
 have awD:∀ty dc,(Builtin.copy_ #[52,52] ty #[.slice (some ⟨w.heap.size,i*7,none⟩) (n+1-i) dc,.slice (some ⟨vb,0,none⟩) 1 vc]).run Tryz.prog W1=.ok (goInt (1:Nat)) (W1.setCells w.heap.size (i*7) (uo.toList.take 7)):=fun ty dc=>by
  have:=kZ (P:=Tryz.prog) W1 52 52 ty 36 i36 w.heap.size (i*7) (n+1-i) dc vb 0 1 vc 1 Tryz.underlying52 Dc hN1 hv1 (by simp only[zzh];split<;>omega) (by rw[dM];omega) (by rw[dM];omega) hov;rw[dM,zzde,zzdj]at this;exact this
 obtain⟨W2,Fz⟩:∃W2,W2=(W1.setCells w.heap.size (i*7) (uo.toList.take 7)).drew:=⟨_,rfl⟩;have hN2:W2.heap[w.heap.size]?=some (.cells (sY nQ (i*7) (uo.toList.take 7)) 36 (0,0)):=by rw[Fz];exact Qz _ _ _ W1 nQ 36 _ hN1
 have lK:W2.heap[b]?=some (.cells arr te (0,0)):=by
  rw[Fz];exact(Qw w.heap.size _ _ W1 b (by omega)).trans jb
 have asn:∀ty dc sc,(Builtin.copy_ #[52,52] ty #[.slice (some ⟨w.heap.size,(i+1)*7,none⟩) (n-i) dc,.slice (some ⟨b,i*7,none⟩) (n-i) sc]).run Tryz.prog W2=
   .ok (goInt (n-i:Nat)) (W2.setCells w.heap.size ((i+1)*7) ((arr.toList.drop (i*7)).take ((n-i)*7))):=fun ty dc sc=>by
  have:=kZ (P:=Tryz.prog) W2 52 52 ty 36 i36 w.heap.size ((i+1)*7) (n-i) dc b (i*7) (n-i) sc (n-i) Tryz.underlying52 Dc hN2 lK (by simp only[zzh];split<;>omega) (by rw[dM,Va];omega) (by rw[dM];omega) ho;rw[dM]at this;exact this
 have wm:((((w.drew.alloc (.cells nQ 36)).setCells w.heap.size (i*7) (uo.toList.take 7)).drew).setCells w.heap.size ((i+1)*7) ((arr.toList.drop (i*7)).take ((n-i)*7)))=
   W2.setCells w.heap.size ((i+1)*7) ((arr.toList.drop (i*7)).take ((n-i)*7)):=by rw[Fz,QI]
 have awE:∀ty,(Builtin.append_ #[52,3] ty #[.slice (some ⟨b,0,none⟩) i c,.int .i64 ((n:Int)+1-(i:Int))]).run Tryz.prog w=.ok (.slice (some ⟨w.heap.size,0,none⟩) (n+1) G) W1:=by rw[QI];exact hrz
 have awF:W2=(W1.setCells w.heap.size (i*7) (uo.toList.take 7)).drew:=Fz;have eU:IntKind.i64.wrap ((i:Int)+1)=(i:Int)+1:=by rw[IntKind.wrap_i64];omega
 have ee:IntKind.i64.wrap ((n:Int)+1)=(n:Int)+1:=by rw[IntKind.wrap_i64];omega
 have CI:IntKind.i64.wrap ((n:Int)+1-(i:Int))=(n:Int)+1-(i:Int):=by rw[IntKind.wrap_i64];omega
 have htn:((i:Int)+1).toNat=i+1:=by omega
 have axG:(0:Int)<=(i:Int)+1:=by omega
 have hb3:(i:Int)<=(n:Int)+1:=by omega
 have bI:i<=n:=by omega
 have hci:¬(c=i):=by omega
 have hGi:¬(G=i):=by omega
 have axH:¬(G=i+1):=by omega
 have mixed:Tryz.prog.follows Departure.mixedOrders=true:=by kernel_rfl
 suffices hgoal:Calls Tryz.prog 220 #[.slice (some ⟨b,0,none⟩) n c,.int .i64 i,.slice (some ⟨vb,0,none⟩) 1 vc] w fun e w'=>e=.returned (.slice (some ⟨w.heap.size,0,none⟩) (n+1) G)/\w'=((W1.setCells w.heap.size (i*7) (uo.toList.take 7)).drew).setCells w.heap.size ((i+1)*7) ((arr.toList.drop (i*7)).take ((n-i)*7))from
  hgoal.mono fun e w'⟨h1,h2⟩=>⟨G,nQ,zs,hGn,h1,hRt,hRl,hGR,hRo,by rw[h2,QI]⟩
 rw[Fz]at asn;clear Dc dM hrz QI Fz awF wm hkk qD hRt hRl hGR hRo hRs hN1 hN2 hO1 jb hv1 lK
 go_enter Tryz.func220,Tryz.ntmps220
 go_wp2_with (first
  |(at_builtin;refine Lib.wpList_append_run _ rfl _ _ _ _ rfl _ _ rfl rfl _ _ (awE _) ?_)
  |(at_builtin;refine pN _ rfl _ _ 52 52 rfl _ _ rfl rfl (awD _ _) ?_))
 go_region_law_o (refine xR rfl _ _ 52 52 rfl _ _ (by simp[Act.eval,Act.put]) (by simp[Act.eval,Act.put]) (asn _ _ _) ?_)
 go_wp2
 go_ret
 exact⟨rfl,rfl⟩
open Go Go.Abs Go.RowKit
def Ot(y:AV):∀(xs l:List AV)(n:Nat),setA (y::l) (n+1) xs=y::setA l n xs
 |[],_,_=>rfl
 |x::xs,l,n=>by rw[setA,setA,zzdt,Ot y xs]
def k6(pre X Y:List AV)(n:Nat)(k:Nat)(h:pre.length=n):setA (pre++X) (n+k) Y=pre++setA X k Y:=by
 subst h;induction pre with
 |nil=>simp
 |cons a r ih=>rw[zzae,zzba,show r.length+1+k=r.length+k+1 by omega,Ot,ih];rfl
section
variable {N:Nat} {w0:gY} {aq:Nat->Nat->Prop} {γ:G} {w:World} {m:AM}
def ajE(m:AM){id:Nat}(aO:id<m.boxes.length)(cells:List AV):({m with boxes:=m.boxes.set id []++[cells]}:AM).B=fun i=>if i=m.boxes.length then some cells else if i=id then some []else m.B i:=by
 have e1:=VW {m with boxes:=m.boxes.set id []} cells;rw[lW m id aO]at e1;simpa using e1
def ajF{A C:List AV}{arr:Array Value}(q3:cD w γ (A++C) arr.toList):ak w γ C ((arr.toList.drop A.length).take C.length):=by
 have h:=q3.1;simp only[zzag,zzbh]at h;refine⟨by simp only[zzaq,zzcn,zzbh];omega,fun k c v g1 g2=>?_⟩;have hk:=(zza.1 g1).1;rw[zzbi,if_pos hk,zzbj]at g2;refine q3.2 (A.length+k) c v ?_ g2;rw[zzap (by omega),zzdm];exact g1
def RE(hm:au N w0 aq γ w m.B m.L){id b:Nat}{A C V:List AV}(aO:m.boxes[id]?=some (A++C))(aJ:A++C≠[])(hb:γ.β id=some b){arr:Array Value}{te:TypeId}(hh:w.heap[b]?=some (.cells arr te (0,0)))
  {vs:List Value}(hV:ak w γ V vs)(hvo:∀v∈vs,v.oneCell'=true)(hsz:A.length+V.length+C.length<=arr.size):
  Ev w γ ((w.drew.setCells b (A.length+V.length) ((arr.toList.drop A.length).take C.length)).setCells b A.length vs) (γ.box m.boxes.length b)/\
  au N w0 aq (γ.box m.boxes.length b) ((w.drew.setCells b (A.length+V.length) ((arr.toList.drop A.length).take C.length)).setCells b A.length vs) ({m with boxes:=m.boxes.set id []++[A++(V++C)]}:AM).B m.L:=by
 have ai:id<m.boxes.length:=(zza.1 aO).1;have hB:m.B id=some (A++C):=aO;obtain⟨bR,e',q2,q3,q4⟩:=hm.box id _ b hB hb;rw[hh]at q2;cases q2;have cE:m.B m.boxes.length=none:=by simp[AM.B]
 have hD:=ajF q3;have hDl:=hD.1;have hh':w.drew.heap[b]?=some (.cells arr te (0,0)):=hh;have lB:∀v∈(arr.toList.drop A.length).take C.length,v.oneCell'=true:=fun v hv=>q4 v (zzdk (zzbx hv));generalize(arr.toList.drop A.length).take C.length=D at*
 have hr:cD w γ (A++(List.replicate V.length .junk++C)) (sY arr (A.length+V.length) D).toList:=by
  refine⟨by simp only[zzag,zzdu,zzbh,Va];omega,fun k c v g1 g2=>?_⟩;rw[zzcb,vA]at g2;rcases zzaa k A.length with h1|h1
  ·rw[zzah h1]at g1;rw[if_neg (by omega)]at g2;exact q3.2 k c v (by rw[zzah h1];exact g1) (by rw[zzcb];exact g2)
  rw[zzap h1]at g1;rcases zzaa (k-A.length) V.length with h2|h2
  ·rw[zzah (by simpa using h2),zzcl,if_pos h2]at g1;cases g1;exact .junk _
  rw[zzap (by simpa using h2),zzdu]at g1;have h3:=(zza.1 g1).1;rw[if_pos (by omega)]at g2;refine hD.2 _ c v g1 ?_;rw[<- g2];congr 1;omega
 obtain⟨e1,m1⟩:=hm.drew.share (id':=m.boxes.length) (new:=A++(List.replicate V.length .junk++C)) hb hB aJ cE hh' (p:=A.length+V.length) (vs:=D) (hr.mono (Ev.drew w γ)) q4 lB;have jb:(γ.box m.boxes.length b).β m.boxes.length=some b:=by simp[G.box]
 have hh1:=Qz b D (A.length+V.length) w.drew arr te _ hh';have yJ:=(hr.mono (Ev.drew w γ)).mono e1;have hV1:=(hV.mono (Ev.drew w γ)).mono e1
 have RF:A++(List.replicate V.length AV.junk++C)≠[]:=by
  intro h;simp only[zzha]at h;exact aJ (by simp[h.1,h.2.2])
 have m2:=m1.store (id:=m.boxes.length) (by simp) jb hh1 yJ (Wq D _ arr q4 lB) (o:=A.length) hV1 hvo RF;refine⟨((Ev.drew w γ).trans e1).trans (m1.ct jb A.length vs),?_⟩;rw[ajE m ai]
 have qb:setA (A++(List.replicate V.length AV.junk++C)) A.length V=A++(V++C):=by
  have:=k6 A (List.replicate V.length AV.junk++C) V A.length 0 rfl;rw[zzcm,jw V (List.replicate V.length AV.junk) C (by simp)]at this;exact this
 rw[qb]at m2;refine(congrArg (fun B=>au N w0 aq _ _ B m.L) (funext fun i=>?_)).mp m2;by_cases hi:i=m.boxes.length<;>simp[hi]
def afA(hm:au N w0 aq γ w m.B m.L){id b:Nat}{A C V:List AV}(aO:m.boxes[id]?=some (A++C))(hb:γ.β id=some b){arr:Array Value}{te te2:TypeId}(hh:w.heap[b]?=some (.cells arr te (0,0)))
  {vs zs:List Value}(hV:ak w γ V vs)(hvo:∀v∈vs,v.oneCell'=true){nQ:Array Value}(GV:nQ.toList=arr.toList.take A.length++zs)(BY:V.length+C.length<=zs.length)(hzo:∀v∈zs,v.oneCell'=true)(aJ:A++(V++C)≠[]):
  Ev w γ ((((w.drew.alloc (.cells nQ te2)).setCells w.heap.size A.length vs).drew).setCells w.heap.size (A.length+V.length) ((arr.toList.drop A.length).take C.length)) (γ.box m.boxes.length w.heap.size)/\
  au N w0 aq (γ.box m.boxes.length w.heap.size) ((((w.drew.alloc (.cells nQ te2)).setCells w.heap.size A.length vs).drew).setCells w.heap.size (A.length+V.length) ((arr.toList.drop A.length).take C.length)) ({m with boxes:=m.boxes.set id []++[A++(V++C)]}:AM).B m.L:=by
 have ai:id<m.boxes.length:=(zza.1 aO).1;have hB:m.B id=some (A++C):=aO;obtain⟨bR,e',q2,q3,q4⟩:=hm.box id _ b hB hb;rw[hh]at q2;cases q2;have hq:=q3.1;simp only[zzag,zzbh]at hq;have cE:m.B m.boxes.length=none:=by simp[AM.B]
 have hD:=ajF q3;have hDl:=hD.1;have lB:∀v∈(arr.toList.drop A.length).take C.length,v.oneCell'=true:=fun v hv=>q4 v (zzdk (zzbx hv));generalize(arr.toList.drop A.length).take C.length=D at*
 have vB:=(hm.kill hb).drew
 have fJ:(fun i=>if i=id then some []else m.B i) m.boxes.length=none:=by
  have:m.boxes.length≠id:=by omega
  simp only[if_neg this];exact cE
 have axt:nQ.size=A.length+zs.length:=by
  have:=congrArg List.length GV;simp only[zzbh,zzag,zzaq]at this;omega
 have hP:cD w γ (A++(List.replicate V.length .junk++List.replicate C.length .junk)) nQ.toList:=by
  refine⟨by simp only[zzag,zzdu,zzbh];omega,fun k c v g1 g2=>?_⟩;rcases zzaa k A.length with h1|h1
  ·rw[zzah h1]at g1;rw[GV,zzah (by simp only[zzaq,zzbh];omega),zzbi,if_pos h1]at g2;exact q3.2 k c v (by rw[zzah h1];exact g1) g2
  rw[zzap h1]at g1;rw[List.replicate_append_replicate,zzcl]at g1;split at g1
  ·cases g1;exact .junk _
  cases g1
 have hRo:∀v∈nQ.toList,v.oneCell'=true:=fun v hv=>by
  rw[GV]at hv;rcases zzal.1 hv with hv|hv
  ·exact q4 v (zzbx hv)
  exact hzo v hv
 have e1:=vB.dh _ fJ (.cells nQ te2);have m1:=vB.eX _ fJ (e:=te2) (arr:=nQ) (hP.mono (Ev.drew w γ)) hRo;have awG:w.drew.heap.size=w.heap.size:=rfl;rw[awG]at e1 m1;have jb:(γ.box m.boxes.length w.heap.size).β m.boxes.length=some w.heap.size:=by simp[G.box]
 have hh1:(w.drew.alloc (.cells nQ te2)).heap[w.heap.size]?=some (.cells nQ te2 (0,0)):=Ya w _;have hP1:=(hP.mono (Ev.drew w γ)).mono e1;have hV1:=(hV.mono (Ev.drew w γ)).mono e1;have hD1:=(hD.mono (Ev.drew w γ)).mono e1
 have hX:A++(List.replicate V.length AV.junk++List.replicate C.length AV.junk)≠[]:=by
  intro hX;apply aJ;have h:=congrArg List.length hX;simp only[zzag,zzdu,zzcf]at h;apply zzav;simp only[zzag];omega
 have m2:=m1.store (id:=m.boxes.length) (by simp) jb hh1 hP1 hRo (o:=A.length) hV1 hvo hX;have e2:=m1.ct jb A.length vs
 have qb:setA (A++(List.replicate V.length AV.junk++List.replicate C.length AV.junk)) A.length V=A++(V++List.replicate C.length AV.junk):=by
  have:=k6 A (List.replicate V.length AV.junk++List.replicate C.length AV.junk) V A.length 0 rfl;rw[zzcm,jw V (List.replicate V.length AV.junk) _ (by simp)]at this;exact this
 have hh2:=Qz w.heap.size vs A.length _ nQ te2 _ hh1;have m3:=m2.drew
 have hX2:setA (A++(List.replicate V.length AV.junk++List.replicate C.length AV.junk)) A.length V≠[]:=by
  intro h;have h:=congrArg List.length h;rw[og]at h;exact hX (zzav h)
 have hP2:=((cD.setA (o:=A.length) hV1 hP1).mono e2).mono (Ev.drew _ _);have hD2:=(hD1.mono e2).mono (Ev.drew _ _);have m4:=m3.store (id:=m.boxes.length) (by simp) jb hh2 hP2 (Wq vs _ nQ hRo hvo) (o:=A.length+V.length) hD2 lB hX2;have e4:=m3.ct jb (A.length+V.length) D;refine⟨((((Ev.drew w γ).trans e1).trans e2).trans (Ev.drew _ _)).trans e4,?_⟩;rw[ajE m ai]
 have SV:setA (A++(V++List.replicate C.length AV.junk)) (A.length+V.length) C=A++(V++C):=by
  rw[k6 A (V++List.replicate C.length AV.junk) C A.length V.length rfl];have:=k6 V (List.replicate C.length AV.junk) C V.length 0 rfl;rw[zzcm]at this;rw[this];have:=jw C (List.replicate C.length AV.junk) [] (by simp);simp only[zzat]at this;rw[this]
 rw[qb,SV]at m4;refine(congrArg (fun B=>au N w0 aq _ _ B m.L) (funext fun i=>?_)).mp m4;by_cases hi:i=m.boxes.length<;>simp[hi]
end
end Go.Proofs.YtnopaopphmjnmaaGreatDoor
