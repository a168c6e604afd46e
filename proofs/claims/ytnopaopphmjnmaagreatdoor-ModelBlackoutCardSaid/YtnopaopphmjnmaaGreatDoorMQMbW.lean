import Derived.Test.YtnopaopphmjnmaaGreatDoorProg
import Derived.Lib.AppendZerosOnto
import Derived.Shelf.RegionOpenPlain
import Derived.Lib.Walk
import Derived.Lib.JoinLaws
import Derived.Lib.Overlaps
import Derived.Test.YtnopaopphmjnmaaGreatDoorMQMP
set_option linter.all false
set_option maxRecDepth 100000
set_option maxHeartbeats 64000000
namespace Go.Proofs.YtnopaopphmjnmaaGreatDoor
open Go Go.Abs Go.RowKit Go.Lib
def SP{P:Program}(w:World)(dT sT ty elem:TypeId)(i:TypeInfo)(b o MA agz:Nat)(a:Addr)(MB agB:Nat)(cs:List Value)
  (hu:P.underlying dT=some (.slice elem))(hi:P.info? elem=some i)(hn:cs.length=Nat.min MB MA*i.size)
  (ayw:∀j v,cs[j]?=some v->w.cell? (a.add j)=some v)(hc:∀j,j<cs.length->(w.cell? ⟨b,o+j,none⟩).isSome=true)(hf:∀j,j<cs.length->w.frozen? ⟨b,o+j,none⟩=false)(h1:∀v∈cs,v.oneCell'=true):
  (Builtin.copy_ #[dT,sT] ty #[.slice (some ⟨b,o,none⟩) MA agz,.slice (some a) MB agB]).run P w=.ok (goInt (Nat.min MB MA)) (w.setCells b o cs):=by
 have hl:=run_loadCells_list (P:=P) w a cs ayw;have ct:=run_storeCells_cells (P:=P) b o cs 0 w (by simpa using hc) (by simpa using hf) h1;simp only[zzcq]at ct;simp[Builtin.copy_,run_underlying hu,Builtin.lenOf,Builtin.firstCells,sizeOf,typeInfo,hi,<- hn,hl,ct]
def lM{P:Program}(w:World)(dT sT ty elem:TypeId)(i:TypeInfo)(b o MA agz b2 o2 MB agB k:Nat)(hu:P.underlying dT=some (.slice elem))(hi:P.info? elem=some i)
  {arr SQ:Array Value}{e e2:TypeId}(hb:w.heap[b]?=some (.cells arr e (0,0)))(mQ:w.heap[b2]?=some (.cells SQ e2 (0,0)))(hk:Nat.min MB MA=k)
  (h1:o+k*i.size<=arr.size)(h2:o2+k*i.size<=SQ.size)(ho:∀v∈SQ.toList,v.oneCell'=true):
  (Builtin.copy_ #[dT,sT] ty #[.slice (some ⟨b,o,none⟩) MA agz,.slice (some ⟨b2,o2,none⟩) MB agB]).run P w=.ok (goInt k) (w.setCells b o ((SQ.toList.drop o2).take (k*i.size))):=by
 have aH:((SQ.toList.drop o2).take (k*i.size)).length=k*i.size:=by rw[zzaq,zzcr,zzbk];omega
 have:=SP (P:=P) w dT sT ty elem i b o MA agz ⟨b2,o2,none⟩ MB agB ((SQ.toList.drop o2).take (k*i.size)) hu hi (by rw[aH,hk])
  (
   fun j v hj=>by
   rw[Go.Abs.bA];show w.cell? ⟨b2,o2+j,none⟩=_;rw[aO mQ];rw[zzbl]at hj;split at hj
   ·rw[zzbm]at hj;simpa using hj
   cases hj)
  (fun j hj=>by rw[aO hb,zzaj zE];rfl) (fun j hj=>Zu hb)
  (fun v hv=>ho v (zzdt (zzcb hv)))
 rw[hk]at this;exact this
def qq{P:Program}(w:World){ops:Array Oper}{rest:List Oper}{o:Oper}{a:Act}{Q:Exit->Act->World->Prop}(XH:o.guard=none)(d s:Operand)(t t':TypeId)
  (ho:o.op=.call {callee:=.builtin .copy,args:=#[d,s],argTypes:=#[t,t']})(v u:Value)(hd:a.eval d=v)(hs:a.eval s=u){v':Value}{w':World}
  (hr:(Builtin.copy_ #[t,t'] o.type #[v,u]).run P w=.ok v' w')(h:wpList P ops Q rest (a.put o.dst v') w'):wpList P ops Q (o::rest) a w:=
 wpList_plain XH fun _ hK=>by
  unfold Oper.wp execOp;simp only[ho,resolve,invoke,builtin,Sem.run_bind,Sem.run_pure,Result.andThen_ok,List.map_toArray,zzay,zzcc,hd,hs,hr];exact hK _ _ h
def yK{P:Program}{ops:Array Oper}{o:Oper}{a:Act}{w:World}{K:Act->World->Prop}{Q:Exit->Act->World->Prop}{E:Prop}
  (hg:o.guard=none)(d x:Operand)(dT sT:TypeId)(eR:o.op=Op.call {callee:=Callee.builtin Builtin.copy,args:=#[d,x],argTypes:=#[dT,sT]})
  (v u:Value)(hd:a.eval d=v)(hx:a.eval x=u){v':Value}{w':World}(hr:(Builtin.copy_ #[dT,sT] o.type #[v,u]).run P w=.ok v' w')(hK:K (a.put o.dst v') w'):
  if Region.wanted o (yielded ops a.tmps)=true then Oper.wp P o a w K Q else E:=by
 have hw:Region.wanted o (yielded ops a.tmps)=true:=by simp[Region.wanted,hg]
 rw[if_pos hw];unfold Oper.wp;simp[execOp,eR,resolve,invoke,builtin,hd,hx,hr,Result.andThen];exact hK
def HP{w:World}{b:Nat}{arr:Array Value}{te:TypeId}{f:Nat×Nat}(h:w.heap[b]?=some (.cells arr te f)):w.shape? b=some (te,arr.size):=by
 simp[World.shape?,h]
def SR(b n c i vb vc:Nat)(arr vi:Array Value)(te tv:TypeId)(w:World)(hi:i<n)(cH:n+1<=c)(hn:n+1<=1000000000)(T1:vb≠b)
  (hb:w.heap[b]?=some (.cells arr te (0,0)))(hv:w.heap[vb]?=some (.cells vi tv (0,0)))(hs:c*7<=arr.size)(hsv:7<=vi.size)(ho:∀v∈arr.toList,v.oneCell'=true)(hov:∀v∈vi.toList,v.oneCell'=true):
  Calls Tryz.prog 220 #[.slice (some ⟨b,0,none⟩) n c,.int .i64 i,.slice (some ⟨vb,0,none⟩) 1 vc] w fun e w'=>
   e=.returned (.slice (some ⟨b,0,none⟩) (n+1) c)/\w'=(w.drew.setCells b ((i+1)*7) ((arr.toList.drop (i*7)).take ((n-i)*7))).setCells b (i*7) (vi.toList.take 7):=by
 obtain⟨i36,D5,dZ⟩:∃x,Tryz.prog.info? 36=some x/\x.size=7:=⟨_,rfl,rfl⟩;have lY:=HP hv;have T3:=HP hb;have DO:w.frozen? ⟨vb,0,none⟩=false:=Zu hv;have hfe:w.frozen? ⟨vb,vi.size,none⟩=false:=Zu hv
 have ayx:∀lb cb,(callFunc 279 #[.slice (some ⟨vb,0,none⟩) 1 vc,.slice (some ⟨b,(i+1)*7,none⟩) lb cb]).run Tryz.prog w=.ok (.value (.bool false)) w:=fun lb cb=>by
  rw[run_callFunc_extern Tryz.func279 (by kernel_rfl) (by kernel_rfl) (by kernel_rfl) (e:=Extern.SlicesOverlaps.overlaps #[52,52] #[4]) (by kernel_rfl),
   Lib.run_overlaps_apart w 52 4 36 Tryz.underlying52 7 (fun w=>by simp[Go.sizeOf,typeInfo,D5,dZ]) ⟨vb,0,none⟩ ⟨b,(i+1)*7,none⟩ 1 vc lb cb T1 tv te vi.size arr.size lY T3 zE DO hfe]
  rfl
 have eT:IntKind.i64.wrap ((i:Int)+1)=(i:Int)+1:=by rw[IntKind.wrap_i64];omega
 have hz2:¬((i:Int)=(n:Int)):=zE
 have dP:IntKind.i64.wrap ((n:Int)+1)=(n:Int)+1:=by rw[IntKind.wrap_i64];omega
 have htn:((i:Int)+1).toNat=i+1:=zE
 have anl:((n:Int)+1).toNat=n+1:=zE
 have mM:(0:Int)<=(i:Int)+1:=zE
 have mQ:¬(c=i+1):=zE
 have hb3:(i:Int)<=(n:Int)+1:=zE
 have hb4:¬(c=i):=zE
 have Ra:(n+1)*7<=c*7:=zzbc _ cH;have sP:w.drew.heap[b]?=some (.cells arr te (0,0)):=hb
 have at4:∀ty dc sc,(Builtin.copy_ #[52,52] ty #[.slice (some ⟨b,(i+1)*7,none⟩) (n-i) dc,.slice (some ⟨b,i*7,none⟩) (n+1-i) sc]).run Tryz.prog w.drew=
   .ok (goInt (n-i:Nat)) (w.drew.setCells b ((i+1)*7) ((arr.toList.drop (i*7)).take ((n-i)*7))):=fun ty dc sc=>by
  have:=lM (P:=Tryz.prog) w.drew 52 52 ty 36 i36 b ((i+1)*7) (n-i) dc b (i*7) (n+1-i) sc (n-i) Tryz.underlying52 D5 sP sP (by simp only[zzhk];split<;>omega) (by rw[dZ];omega) (by rw[dZ];omega) ho;rw[dZ]at this;exact this
 obtain⟨W1,RW⟩:∃W1,W1=w.drew.setCells b ((i+1)*7) ((arr.toList.drop (i*7)).take ((n-i)*7)):=⟨_,rfl⟩;have hb5:W1.heap[b]?=some (.cells (tZ arr ((i+1)*7) ((arr.toList.drop (i*7)).take ((n-i)*7))) te (0,0)):=by rw[RW];exact Xb b _ _ w.drew arr te _ sP
 have hv5:W1.heap[vb]?=some (.cells vi tv (0,0)):=by rw[RW,Qx b _ _ w.drew vb T1];exact hv
 have ayy:∀ty dc,(Builtin.copy_ #[52,52] ty #[.slice (some ⟨b,i*7,none⟩) (n+1-i) dc,.slice (some ⟨vb,0,none⟩) 1 vc]).run Tryz.prog W1=.ok (goInt (1:Nat)) (W1.setCells b (i*7) (vi.toList.take 7)):=fun ty dc=>by
  have:=lM (P:=Tryz.prog) W1 52 52 ty 36 i36 b (i*7) (n+1-i) dc vb 0 1 vc 1 Tryz.underlying52 D5 hb5 hv5 (by simp only[zzhk];split<;>omega) (by rw[dZ,Vd];omega) (by rw[dZ];omega) hov;rw[dZ,zzde,zzds]at this;exact this
 rw[<- RW]at at4 |-
 clear D5 dZ RW;have bL:i<=n:=zE
 have mixed:Tryz.prog.follows Departure.mixedOrders=true:=by kernel_rfl
 go_enter Tryz.func220,Tryz.ntmps220
 go_wp2_with (simp only[ayx])
 go_region_law_o (refine yK rfl _ _ 52 52 rfl _ _ (by simp[Act.eval,Act.put]) (by simp[Act.eval,Act.put]) (at4 _ _ _) ?_)
 go_wp2_with (at_builtin;refine qq _ rfl _ _ 52 52 rfl _ _ rfl rfl (ayy _ _) ?_)
 go_ret
 exact⟨rfl,rfl⟩
def agC{n c:Nat}(h:c<n)(hn:n<=1000000000):Builtin.nextslicecap n c*72<=281474976710656:=by
 have:=KW h;omega
def aaL(b n c i vb vc:Nat)(arr vi:Array Value)(te tv:TypeId)(w:World)(hi:i<n)(hnc:n<=c)(cH:c<n+1)(wj:n+1<=1000000000)(T1:vb≠b)
  (hb:w.heap[b]?=some (.cells arr te (0,0)))(hv:w.heap[vb]?=some (.cells vi tv (0,0)))(hs:c*7<=arr.size)(hsv:7<=vi.size)(ho:∀v∈arr.toList,v.oneCell'=true)(hov:∀v∈vi.toList,v.oneCell'=true):
  Calls Tryz.prog 220 #[.slice (some ⟨b,0,none⟩) n c,.int .i64 i,.slice (some ⟨vb,0,none⟩) 1 vc] w fun e w'=>
   ∃(G:Nat)(ou:Array Value)(zs:List Value),n+1<=G/\e=.returned (.slice (some ⟨w.heap.size,0,none⟩) (n+1) G)/\ou.toList=arr.toList.take (i*7)++zs/\(n+1-i)*7<=zs.length/\G*7<=ou.size/\(∀v∈zs,v.oneCell'=true)/\
    w'=(((w.drew.alloc (.cells ou 36)).setCells w.heap.size (i*7) (vi.toList.take 7)).drew).setCells w.heap.size ((i+1)*7) ((arr.toList.drop (i*7)).take ((n-i)*7)):=by
 obtain⟨i36,z36,D5,dZ,ayz,at5,FH,hzo⟩:∃x z,Tryz.prog.info? 36=some x/\x.size=7/\x.zero=some z/\x.bytes=72/\z.cells.size=7/\∀u∈z.cells,u.oneCell'=true:=⟨_,_,rfl,rfl,rfl,rfl,rfl,by decide⟩;have hz2:¬((i:Int)=(n:Int)):=zE
 have hz3:(c:Int)<(n:Int)+1:=zE
 have hbw:b<w.heap.size:=aS hb;have hvw:vb<w.heap.size:=aS hv;have hkk:(n:Int)+1-(i:Int)=((n+1-i:Nat):Int):=zE
 have ry:i+(n+1-i)=n+1:=zE
 have Ra:n*7<=c*7:=zzbc _ hnc;have fO:(arr.toList.take (i*7)).length=i*7:=by rw[zzaq,zzbk];omega
 have o9:(Builtin.firstCells i36.size i (.slice (some ⟨b,0,none⟩) i c)).run Tryz.prog w.drew=.ok (arr.toList.take (i*7)).toArray w.drew:=by
  rw[dZ];refine run_firstCells_some w.drew 7 i ⟨b,0,none⟩ i c _ fO (fun j v hj=>?_);rw[Go.Abs.bA];show w.cell? _=_;rw[aO hb];rw[zzbl]at hj;split at hj
  ·simpa using hj
  cases hj
 have hrz:∀ty,(Builtin.append_ #[52,3] ty #[.slice (some ⟨b,0,none⟩) i c,.int .i64 ((n:Int)+1-(i:Int))]).run Tryz.prog w=
   .ok (.slice (some ⟨w.heap.size,0,none⟩) (n+1) (grownCap w (n+1) c 36)) (w.drew.alloc (.cells ((arr.toList.take (i*7)).toArray++Builtin.zeroCells z36.cells (n+1-i)++Builtin.zeroCells z36.cells (grownCap w (n+1) c 36-(n+1))) 36)):=fun ty=>by
  have h:=Lib.run_append_grow_zeros w 52 3 ty 36 i36 z36 .i64 .i64 Tryz.underlying52 Tryz.underlying3 D5 ayz (some ⟨b,0,none⟩) i c (arr.toList.take (i*7)) o9 (n+1-i) zE zE zE zE (by rw[at5];omega) (by rw[at5,ry];exact agC cH wj);rw[ry]at h;rw[hkk];exact h
 obtain⟨G,hG⟩:∃G,G=grownCap w (n+1) c 36:=⟨_,rfl⟩;have hGn:n+1<=G:=by rw[hG];exact grownCap_ge w _ _ _
 have azC:G<=9223372036854775807:=by
  have:=grownCap_le_maxLen w (n+1) c 36 (by unfold maxLen;omega);rw[<- hG]at this;unfold maxLen at this;omega
 rw[<- hG]at hrz;obtain⟨ou,HQ⟩:∃ou:Array Value,ou=(arr.toList.take (i*7)).toArray++Builtin.zeroCells z36.cells (n+1-i)++Builtin.zeroCells z36.cells (G-(n+1)):=⟨_,rfl⟩;rw[<- HQ]at hrz;have hRs:ou.size=i*7+(n+1-i)*7+(G-(n+1))*7:=by rw[HQ];simp only[zzer,zzeq,fO,size_zeroCells,FH]
 have hRt:ou.toList=arr.toList.take (i*7)++((Builtin.zeroCells z36.cells (n+1-i)).toList++(Builtin.zeroCells z36.cells (G-(n+1))).toList):=by rw[HQ];simp
 have hRo:∀v∈(Builtin.zeroCells z36.cells (n+1-i)).toList++(Builtin.zeroCells z36.cells (G-(n+1))).toList,v.oneCell'=true:=fun v hv=>by
  rcases zzam.1 hv with hv|hv
  ·exact Ws hzo _ v hv
  exact Ws hzo _ v hv
 have hRl:(n+1-i)*7<=((Builtin.zeroCells z36.cells (n+1-i)).toList++(Builtin.zeroCells z36.cells (G-(n+1))).toList).length:=by
  simp only[zzai,zzbk,size_zeroCells,FH];omega
 obtain⟨zs,CS⟩:∃zs,zs=(Builtin.zeroCells z36.cells (n+1-i)).toList++(Builtin.zeroCells z36.cells (G-(n+1))).toList:=⟨_,rfl⟩;rw[<- CS]at hRt hRo hRl;have hGR:G*7<=ou.size:=by rw[hRs];omega
 clear HQ CS o9 hG;obtain⟨W1,RW⟩:∃W1,W1=w.drew.alloc (.cells ou 36):=⟨_,rfl⟩;have hN1:W1.heap[w.heap.size]?=some (.cells ou 36 (0,0)):=by rw[RW];exact Yj w _
 have hO1:∀x,x<w.heap.size->W1.heap[x]?=w.heap[x]?:=fun x hx=>by rw[RW];exact Below.heap_alloc w.drew _ x hx
 have mM:=(hO1 b hbw).trans hb;have hv1:=(hO1 vb hvw).trans hv
 have ayA:∀ty dc,(Builtin.copy_ #[52,52] ty #[.slice (some ⟨w.heap.size,i*7,none⟩) (n+1-i) dc,.slice (some ⟨vb,0,none⟩) 1 vc]).run Tryz.prog W1=.ok (goInt (1:Nat)) (W1.setCells w.heap.size (i*7) (vi.toList.take 7)):=fun ty dc=>by
  have:=lM (P:=Tryz.prog) W1 52 52 ty 36 i36 w.heap.size (i*7) (n+1-i) dc vb 0 1 vc 1 Tryz.underlying52 D5 hN1 hv1 (by simp only[zzhk];split<;>omega) (by rw[dZ];omega) (by rw[dZ];omega) hov;rw[dZ,zzde,zzds]at this;exact this
 obtain⟨W2,Gs⟩:∃W2,W2=(W1.setCells w.heap.size (i*7) (vi.toList.take 7)).drew:=⟨_,rfl⟩;have hN2:W2.heap[w.heap.size]?=some (.cells (tZ ou (i*7) (vi.toList.take 7)) 36 (0,0)):=by rw[Gs];exact Xb _ _ _ W1 ou 36 _ hN1
 have mQ:W2.heap[b]?=some (.cells arr te (0,0)):=by
  rw[Gs];exact(Qx w.heap.size _ _ W1 b zE).trans mM
 have at6:∀ty dc sc,(Builtin.copy_ #[52,52] ty #[.slice (some ⟨w.heap.size,(i+1)*7,none⟩) (n-i) dc,.slice (some ⟨b,i*7,none⟩) (n-i) sc]).run Tryz.prog W2=
   .ok (goInt (n-i:Nat)) (W2.setCells w.heap.size ((i+1)*7) ((arr.toList.drop (i*7)).take ((n-i)*7))):=fun ty dc sc=>by
  have:=lM (P:=Tryz.prog) W2 52 52 ty 36 i36 w.heap.size ((i+1)*7) (n-i) dc b (i*7) (n-i) sc (n-i) Tryz.underlying52 D5 hN2 mQ (by simp only[zzhk];split<;>omega) (by rw[dZ,Vd];omega) (by rw[dZ];omega) ho;rw[dZ]at this;exact this
 have nR:((((w.drew.alloc (.cells ou 36)).setCells w.heap.size (i*7) (vi.toList.take 7)).drew).setCells w.heap.size ((i+1)*7) ((arr.toList.drop (i*7)).take ((n-i)*7)))=
   W2.setCells w.heap.size ((i+1)*7) ((arr.toList.drop (i*7)).take ((n-i)*7)):=by rw[Gs,RW]
 have ayB:∀ty,(Builtin.append_ #[52,3] ty #[.slice (some ⟨b,0,none⟩) i c,.int .i64 ((n:Int)+1-(i:Int))]).run Tryz.prog w=.ok (.slice (some ⟨w.heap.size,0,none⟩) (n+1) G) W1:=by rw[RW];exact hrz
 have ayC:W2=(W1.setCells w.heap.size (i*7) (vi.toList.take 7)).drew:=Gs;have eT:IntKind.i64.wrap ((i:Int)+1)=(i:Int)+1:=by rw[IntKind.wrap_i64];omega
 have dP:IntKind.i64.wrap ((n:Int)+1)=(n:Int)+1:=by rw[IntKind.wrap_i64];omega
 have LO:IntKind.i64.wrap ((n:Int)+1-(i:Int))=(n:Int)+1-(i:Int):=by rw[IntKind.wrap_i64];omega
 have htn:((i:Int)+1).toNat=i+1:=zE
 have azD:(0:Int)<=(i:Int)+1:=zE
 have hb3:(i:Int)<=(n:Int)+1:=zE
 have bL:i<=n:=zE
 have hci:¬(c=i):=zE
 have hGi:¬(G=i):=zE
 have azE:¬(G=i+1):=zE
 have mixed:Tryz.prog.follows Departure.mixedOrders=true:=by kernel_rfl
 suffices hgoal:Calls Tryz.prog 220 #[.slice (some ⟨b,0,none⟩) n c,.int .i64 i,.slice (some ⟨vb,0,none⟩) 1 vc] w fun e w'=>e=.returned (.slice (some ⟨w.heap.size,0,none⟩) (n+1) G)/\w'=((W1.setCells w.heap.size (i*7) (vi.toList.take 7)).drew).setCells w.heap.size ((i+1)*7) ((arr.toList.drop (i*7)).take ((n-i)*7))from
  hgoal.mono fun e w'⟨h1,h2⟩=>⟨G,ou,zs,hGn,h1,hRt,hRl,hGR,hRo,by rw[h2,RW]⟩
 rw[Gs]at at6;clear D5 dZ hrz RW Gs ayC nR hkk ry hRt hRl hGR hRo hRs hN1 hN2 hO1 mM hv1 mQ
 go_enter Tryz.func220,Tryz.ntmps220
 go_wp2_with (first
  |(at_builtin;refine Lib.wpList_append_run _ rfl _ _ _ _ rfl _ _ rfl rfl _ _ (ayB _) ?_)
  |(at_builtin;refine qq _ rfl _ _ 52 52 rfl _ _ rfl rfl (ayA _ _) ?_))
 go_region_law_o (refine yK rfl _ _ 52 52 rfl _ _ (by simp[Act.eval,Act.put]) (by simp[Act.eval,Act.put]) (at6 _ _ _) ?_)
 go_wp2
 go_ret
 exact⟨rfl,rfl⟩
open Go Go.Abs Go.RowKit
def Pz(y:AV):∀(xs l:List AV)(n:Nat),setA (y::l) (n+1) xs=y::setA l n xs
 |[],_,_=>rfl
 |x::xs,l,n=>by rw[setA,setA,zzdz,Pz y xs]
def lN(pre X Y:List AV)(n:Nat)(k:Nat)(h:pre.length=n):setA (pre++X) (n+k) Y=pre++setA X k Y:=by
 subst h;induction pre with
 |nil=>simp
 |cons a r ih=>rw[zzad,zzbe,show r.length+1+k=r.length+k+1 by omega,Pz,ih];rfl
section
variable {N:Nat} {w0:fF} {aq:Nat->Nat->Prop} {γ:G} {w:World} {m:AM}
def akO(m:AM){id:Nat}(aK:id<m.boxes.length)(cells:List AV):({m with boxes:=m.boxes.set id []++[cells]}:AM).B=fun i=>if i=m.boxes.length then some cells else if i=id then some []else m.B i:=by
 have e1:=TW {m with boxes:=m.boxes.set id []} cells;rw[mF m id aK]at e1;simpa using e1
def akP{A C:List AV}{arr:Array Value}(q3:cF w γ (A++C) arr.toList):ak w γ C ((arr.toList.drop A.length).take C.length):=by
 have h:=q3.1;simp only[zzai,zzbk]at h;refine⟨by simp only[zzaq,zzcr,zzbk];omega,fun k c v g1 g2=>?_⟩;have hk:=(zza.1 g1).1;rw[zzbl,if_pos hk,zzbm]at g2;refine q3.2 (A.length+k) c v ?_ g2;rw[zzal zE,zzdw];exact g1
def SS(hm:au N w0 aq γ w m.B m.L){id b:Nat}{A C V:List AV}(aK:m.boxes[id]?=some (A++C))(aM:A++C≠[])(hb:γ.β id=some b){arr:Array Value}{te:TypeId}(hh:w.heap[b]?=some (.cells arr te (0,0)))
  {vs:List Value}(hV:ak w γ V vs)(hvo:∀v∈vs,v.oneCell'=true)(hsz:A.length+V.length+C.length<=arr.size):
  Ev w γ ((w.drew.setCells b (A.length+V.length) ((arr.toList.drop A.length).take C.length)).setCells b A.length vs) (γ.box m.boxes.length b)/\
  au N w0 aq (γ.box m.boxes.length b) ((w.drew.setCells b (A.length+V.length) ((arr.toList.drop A.length).take C.length)).setCells b A.length vs) ({m with boxes:=m.boxes.set id []++[A++(V++C)]}:AM).B m.L:=by
 have ai:id<m.boxes.length:=(zza.1 aK).1;have hB:m.B id=some (A++C):=aK;obtain⟨bR,e',q2,q3,q4⟩:=hm.box id _ b hB hb;rw[hh]at q2;cases q2;have cL:m.B m.boxes.length=none:=by simp[AM.B]
 have hD:=akP q3;have hDl:=hD.1;have hh':w.drew.heap[b]?=some (.cells arr te (0,0)):=hh;have gO:∀v∈(arr.toList.drop A.length).take C.length,v.oneCell'=true:=fun v hv=>q4 v (zzdt (zzcb hv));generalize(arr.toList.drop A.length).take C.length=D at*
 have hr:cF w γ (A++(List.replicate V.length .junk++C)) (tZ arr (A.length+V.length) D).toList:=by
  refine⟨by simp only[zzai,zze,zzbk,Vd];omega,fun k c v g1 g2=>?_⟩;rw[zzce,wI]at g2;rcases zzaa k A.length with h1|h1
  ·rw[zzag h1]at g1;rw[if_neg zE]at g2;exact q3.2 k c v (by rw[zzag h1];exact g1) (by rw[zzce];exact g2)
  rw[zzal h1]at g1;rcases zzaa (k-A.length) V.length with h2|h2
  ·rw[zzag (by simpa using h2),zzcp,if_pos h2]at g1;cases g1;exact .junk _
  rw[zzal (by simpa using h2),zze]at g1;have h3:=(zza.1 g1).1;rw[if_pos zE]at g2;refine hD.2 _ c v g1 ?_;rw[<- g2];congr 1;omega
 obtain⟨e1,m1⟩:=hm.drew.share (id':=m.boxes.length) (new:=A++(List.replicate V.length .junk++C)) hb hB aM cL hh' (p:=A.length+V.length) (vs:=D) (hr.mono (Ev.drew w γ)) q4 gO;have mM:(γ.box m.boxes.length b).β m.boxes.length=some b:=by simp[G.box]
 have hh1:=Xb b D (A.length+V.length) w.drew arr te _ hh';have zq:=(hr.mono (Ev.drew w γ)).mono e1;have hV1:=(hV.mono (Ev.drew w γ)).mono e1
 have SU:A++(List.replicate V.length AV.junk++C)≠[]:=by
  intro h;simp only[zzhl]at h;exact aM (by simp[h.1,h.2.2])
 have m2:=m1.store (id:=m.boxes.length) zd mM hh1 zq (Qaa D _ arr q4 gO) (o:=A.length) hV1 hvo SU;refine⟨((Ev.drew w γ).trans e1).trans (m1.cG mM A.length vs),?_⟩;rw[akO m ai]
 have lY:setA (A++(List.replicate V.length AV.junk++C)) A.length V=A++(V++C):=by
  have:=lN A (List.replicate V.length AV.junk++C) V A.length 0 rfl;rw[zzcq,jV V (List.replicate V.length AV.junk) C zd]at this;exact this
 rw[lY]at m2;refine(congrArg (fun B=>au N w0 aq _ _ B m.L) (funext fun i=>?_)).mp m2;by_cases hi:i=m.boxes.length<;>simp[hi]
def agD(hm:au N w0 aq γ w m.B m.L){id b:Nat}{A C V:List AV}(aK:m.boxes[id]?=some (A++C))(hb:γ.β id=some b){arr:Array Value}{te te2:TypeId}(hh:w.heap[b]?=some (.cells arr te (0,0)))
  {vs zs:List Value}(hV:ak w γ V vs)(hvo:∀v∈vs,v.oneCell'=true){ou:Array Value}(HQ:ou.toList=arr.toList.take A.length++zs)(CS:V.length+C.length<=zs.length)(hzo:∀v∈zs,v.oneCell'=true)(aM:A++(V++C)≠[]):
  Ev w γ ((((w.drew.alloc (.cells ou te2)).setCells w.heap.size A.length vs).drew).setCells w.heap.size (A.length+V.length) ((arr.toList.drop A.length).take C.length)) (γ.box m.boxes.length w.heap.size)/\
  au N w0 aq (γ.box m.boxes.length w.heap.size) ((((w.drew.alloc (.cells ou te2)).setCells w.heap.size A.length vs).drew).setCells w.heap.size (A.length+V.length) ((arr.toList.drop A.length).take C.length)) ({m with boxes:=m.boxes.set id []++[A++(V++C)]}:AM).B m.L:=by
 have ai:id<m.boxes.length:=(zza.1 aK).1;have hB:m.B id=some (A++C):=aK;obtain⟨bR,e',q2,q3,q4⟩:=hm.box id _ b hB hb;rw[hh]at q2;cases q2;have hq:=q3.1;simp only[zzai,zzbk]at hq;have cL:m.B m.boxes.length=none:=by simp[AM.B]
 have hD:=akP q3;have hDl:=hD.1;have gO:∀v∈(arr.toList.drop A.length).take C.length,v.oneCell'=true:=fun v hv=>q4 v (zzdt (zzcb hv));generalize(arr.toList.drop A.length).take C.length=D at*
 have K5:=(hm.kill hb).drew
 have dW:(fun i=>if i=id then some []else m.B i) m.boxes.length=none:=by
  have:m.boxes.length≠id:=zE
  simp only[if_neg this];exact cL
 have azr:ou.size=A.length+zs.length:=by
  have:=congrArg List.length HQ;simp only[zzbk,zzai,zzaq]at this;omega
 have hP:cF w γ (A++(List.replicate V.length .junk++List.replicate C.length .junk)) ou.toList:=by
  refine⟨by simp only[zzai,zze,zzbk];omega,fun k c v g1 g2=>?_⟩;rcases zzaa k A.length with h1|h1
  ·rw[zzag h1]at g1;rw[HQ,zzag (by simp only[zzaq,zzbk];omega),zzbl,if_pos h1]at g2;exact q3.2 k c v (by rw[zzag h1];exact g1) g2
  rw[zzal h1]at g1;rw[List.replicate_append_replicate,zzcp]at g1;split at g1
  ·cases g1;exact .junk _
  cases g1
 have hRo:∀v∈ou.toList,v.oneCell'=true:=fun v hv=>by
  rw[HQ]at hv;rcases zzam.1 hv with hv|hv
  ·exact q4 v (zzcb hv)
  exact hzo v hv
 have e1:=K5.dB _ dW (.cells ou te2);have m1:=K5.fG _ dW (e:=te2) (arr:=ou) (hP.mono (Ev.drew w γ)) hRo;have ayD:w.drew.heap.size=w.heap.size:=rfl;rw[ayD]at e1 m1;have mM:(γ.box m.boxes.length w.heap.size).β m.boxes.length=some w.heap.size:=by simp[G.box]
 have hh1:(w.drew.alloc (.cells ou te2)).heap[w.heap.size]?=some (.cells ou te2 (0,0)):=Yj w _;have hP1:=(hP.mono (Ev.drew w γ)).mono e1;have hV1:=(hV.mono (Ev.drew w γ)).mono e1;have hD1:=(hD.mono (Ev.drew w γ)).mono e1
 have hX:A++(List.replicate V.length AV.junk++List.replicate C.length AV.junk)≠[]:=by
  intro hX;apply aM;have h:=congrArg List.length hX;simp only[zzai,zze,zzcf]at h;apply zzav;simp only[zzai];omega
 have m2:=m1.store (id:=m.boxes.length) zd mM hh1 hP1 hRo (o:=A.length) hV1 hvo hX;have e2:=m1.cG mM A.length vs
 have lY:setA (A++(List.replicate V.length AV.junk++List.replicate C.length AV.junk)) A.length V=A++(V++List.replicate C.length AV.junk):=by
  have:=lN A (List.replicate V.length AV.junk++List.replicate C.length AV.junk) V A.length 0 rfl;rw[zzcq,jV V (List.replicate V.length AV.junk) _ zd]at this;exact this
 have hh2:=Xb w.heap.size vs A.length _ ou te2 _ hh1;have m3:=m2.drew
 have hX2:setA (A++(List.replicate V.length AV.junk++List.replicate C.length AV.junk)) A.length V≠[]:=by
  intro h;have h:=congrArg List.length h;rw[oO]at h;exact hX (zzav h)
 have hP2:=((cF.setA (o:=A.length) hV1 hP1).mono e2).mono (Ev.drew _ _);have hD2:=(hD1.mono e2).mono (Ev.drew _ _);have m4:=m3.store (id:=m.boxes.length) zd mM hh2 hP2 (Qaa vs _ ou hRo hvo) (o:=A.length+V.length) hD2 gO hX2;have e4:=m3.cG mM (A.length+V.length) D;refine⟨((((Ev.drew w γ).trans e1).trans e2).trans (Ev.drew _ _)).trans e4,?_⟩;rw[akO m ai]
 have T3:setA (A++(V++List.replicate C.length AV.junk)) (A.length+V.length) C=A++(V++C):=by
  rw[lN A (V++List.replicate C.length AV.junk) C A.length V.length rfl];have:=lN V (List.replicate C.length AV.junk) C V.length 0 rfl;rw[zzcq]at this;rw[this];have:=jV C (List.replicate C.length AV.junk) [] zd;simp only[zzau]at this;rw[this]
 rw[lY,T3]at m4;refine(congrArg (fun B=>au N w0 aq _ _ B m.L) (funext fun i=>?_)).mp m4;by_cases hi:i=m.boxes.length<;>simp[hi]
end
