import Derived.Test.YtkcnjajklnoahaaGreatDoorTYCodeT
import Derived.Test.YtkcnjajklnoahaaGreatDoorTYSpA
import Derived.Test.YtkcnjajklnoahaaGreatDoorTYMP
import Derived.Shelf.SlMaps.Clone
import Derived.Shelf.Spec.SlicesGrow
set_option linter.unusedVariables false
set_option linter.unusedSimpArgs false
set_option maxRecDepth 100000
set_option maxHeartbeats 64000000
namespace Go.Proofs.YtkcnjajklnoahaaGreatDoor
open Go Go.Abs
def tblR:List AV:=[I 24000,I 1001,I 24,I 0,I 24,I 1,I 24,I 0,I 25,I 1,I 25,I 0,I 30000,I 1001,I 30,I 2,I 30,I 1,I 30,I 0,I 50,I 1,I 50,I 0,I 60000,I 1001,I 60,I 4,I 60,I 1,I 60,I 0]
def gl0:Nat->AV
 | 0=>.ep tblR 0
 | _=>.junk
theorem Qr {α:Type} {l:List α} {i:Nat} {a:α} (h:l[i]? = some a):l.drop i=a::l.drop (i+1):=by
 obtain ⟨h1,h2⟩:=List.getElem?_eq_some_iff.1 h
 rw [List.drop_eq_getElem_cons h1,h2]
theorem cloneN_pure:Pure Tryz.prog gl0 54 [.sl .nil []] (.sl .nil []):=by
 refine Ql code54 (fun _ _ _=>.junk) (by simp) ?_
 simp [sc54,rs54]
open Go Go.Abs
def em (s:Sp):Bool:=decide (s.2<=s.1)
theorem ne_em (s:Sp):ne_ s=!em s:=by simp [ne_,em,<- decide_not,Int.not_le]
theorem empty_pure (s:Sp):Pure Tryz.prog gl0 126 [.agg [I s.1,I s.2]] (.bool (em s)):=by
 refine Ql code126 (fun _ _ _=>.junk) (by simp) ?_
 simp [sc126,rs126,em]
def orcEm:Nat->FuncId->List AV->AV:=fun _ _ l=>match l with
 | [.agg [.int _ a,.int _ b]]=>.bool (decide (b<=a))
 | _=>.junk
def fstE:List Sp->Nat->Int
 | [],_ => -1
 | s::r,i=>if em s=true then i else fstE r (i+1)
theorem fstE_neg:∀ {l:List Sp} {i:Nat},fstE l i = -1->l.filter ne_=l
 | [],_,_=>rfl
 | s::r,i,h=>by
  simp only [fstE] at h
  split at h
  ·omega
  ·rename_i hn
   have hn':ne_ s=true:=by rw [ne_em];simpa using hn
   simp [List.filter_cons,hn',fstE_neg h]
theorem fstE_pos:∀ {l:List Sp} {i:Nat},fstE l i ≠ -1->∃ k:Nat,fstE l i=((i+k:Nat):Int)/\k < l.length/\(l.take (k+1)).filter ne_=l.take k
 | [],_,h=>absurd rfl h
 | s::r,i,h=>by
  simp only [fstE] at h |-
  split
  ·rename_i hs
   have hn':ne_ s=false:=by rw [ne_em,hs];rfl
   exact ⟨0,rfl,by simp,by simp [List.filter_cons,hn']⟩
  ·rename_i hs
   have hn':ne_ s=true:=by rw [ne_em];simpa using hs
   rw [if_neg hs] at h
   obtain ⟨k,h1,h2,h3⟩:=fstE_pos h
   exact ⟨k+1,by rw [h1];congr 1;omega,by simpa using h2,by simp [List.filter_cons,hn',h3]⟩
theorem indexEm_pure (l:List Sp) (hl:l.length<=1000000000):Pure Tryz.prog gl0 175 [.sl .ro (l.map Qe),.fn 126 [] []] (I (fstE l 0)):=by
 refine Ql code175 orcEm (by simp) ?_
 simp [sc175,rs175]
 refine Qg w175_0 (fun s m=>∃ i:Nat,s 8=I i/\i<=l.length/\fstE (l.drop i) i=fstE l 0/\m=⟨[],[],fun _=>.gone,0⟩) (fun s m=>l.length - (numOf (s 8)).toNat) ?_ ?_
 ·exact ⟨0,by simp,by omega,by simp,rfl⟩
 ·rintro f m ⟨i,h8,hi,hr,rfl⟩
  rcases Nat.lt_or_ge i l.length with hlt | hge
  ·obtain ⟨s,hs⟩:=getS hlt
   have hrow:=Xu hs
   have hdr:l.drop i=s::l.drop (i+1):=by
    rw [List.drop_eq_getElem_cons hlt,(List.getElem?_eq_some_iff.1 hs).2]
   have hw:=wrS i (by omega)
   have hilt:(i:Int) < (l.length:Int):=by omega
   have hp:=empty_pure s
   rw [hdr] at hr
   simp only [fstE] at hr
   by_cases he:s.2<=s.1
   ·have he':em s=true:=by simp [em,he]
    rw [he'] at hp
    rw [if_pos he'] at hr
    simp [h8,hlt,hilt,hrow,w175_0,orcEm,he,<- hr]
    exact hp
   ·have he':em s=false:=by simp [em];omega
    rw [he'] at hp
    rw [he'] at hr
    simp only [Bool.false_eq_true,if_false] at hr
    simp [h8,hlt,hilt,hrow,w175_0,orcEm,he,hw]
    refine ⟨hp,ag ?_,⟨i+1,by simp,by omega,hr⟩,by omega⟩
    repeat (first | exact Qb _ _ | refine Qc _ rfl ?_)
  ·have hin:¬ (i:Int) < (l.length:Int):=by omega
   rw [List.drop_eq_nil_of_le hge] at hr
   simp only [fstE] at hr
   simp [h8,hin,Nat.not_lt.2 hge,w175_0,<- hr]
def orcDel (k:Int):Nat->FuncId->List AV->AV:=fun _ f l=>if f=175 then I k else orcEm 0 0 l
theorem delete_eff (Y:YT) (l:List Sp) (hl:l.length<=1000000000) (B:List (List AV)) (L:List Nat) (st:Nat->LS) (n id:Nat) (hid:id < B.length) (hne:l≠[]) (hB:Qk B id=fl2 l) (K:AV->AM->Prop)
  (hK:∀ (B':List (List AV)) (z:List Sp),Keep (·=id) B B'->Qk B' id=fl2 (l.filter ne_++z)->(l.filter ne_).length+z.length=l.length->K (.bs id 0 (l.filter ne_).length 2) ⟨B',L,st,n⟩) :
  EffY Tryz.prog gl0 Y 154 [.bs id 0 l.length 2,.fn 126 [] []] ⟨B,L,st,n⟩ K:=by
 have hix:=indexEm_pure l hl
 have hcv:=Ki ⟨B,L,st,n⟩ 4 (fl2_ok l)
 have hch:=Kl l
 have hlen:=Zv l
 refine Yx code154 (orcDel (fstE l 0)) (by simp) ?_
 by_cases hk:fstE l 0 = -1
 ·have hf:=fstE_neg hk
  rw [hk] at hix
  have:=hK B [] (Keep.refl _ _) (by rw [hf];simpa using hB) (by rw [hf];simp)
  rw [hf] at this
  simp [sc154,rs154,orcDel,hk,hB,hcv,hch,hlen]
  exact ⟨hix,this⟩
 ·obtain ⟨k,hk1,hk2,hk3⟩:=fstE_pos hk
  rw [Nat.zero_add] at hk1
  have hkn:¬ (k:Int) = -1:=by omega
  have hwk:=wrS k (by omega)
  rw [hk1] at hix
  simp [sc154,rs154,orcDel,hk1,hkn,hB,hcv,hch,hlen,hwk]
  refine ⟨hix,?_⟩
  refine Qg w154_0 (fun f m=>∃ (i j:Nat) (B':List (List AV)) (L':List Sp),f 5=I i/\f 6=I j/\i < j/\j<=l.length/\m=⟨B',L,st,n⟩/\Keep (·=id) B B'/\Qk B' id=fl2 L'/\L'.length=l.length/\L'.take i=(l.take j).filter ne_/\L'.drop j=l.drop j)
   (fun f m=>l.length - (numOf (f 6)).toNat) ?_ ?_
  ·exact ⟨k,k+1,B,l,by simp,by simp,by omega,by omega,rfl,Keep.refl _ _,hB,rfl,hk3.symm,rfl⟩
  ·rintro f m ⟨i,j,B',L',h5,h6,hij,hj,rfl,hkp,hB',hL',ht,hd⟩
   have hid':id < B'.length:=Nat.lt_of_lt_of_le hid hkp.1
   have hlen':=Zv L'
   rcases Nat.lt_or_ge j l.length with hlt | hge
   ·obtain ⟨s,hs⟩:=getS hlt
    have hs':L'[j]? = some s:=by
     have:=congrArg (fun x=>x[0]?) hd
     simpa [hs] using this
    have hg:=Qcs hs'
    have hjlt:(j:Int) < (l.length:Int):=by omega
    have hilt:(i:Int) < (l.length:Int):=by omega
    have hilt':i < l.length:=by omega
    have hwj:=wrS j (by omega)
    have hwi:=wrS i (by omega)
    have hp:=empty_pure s
    have hset:=fl2_set L' i s (by omega)
    simp only [setA] at hset
    have hra:∀ x,Qk (B'++x) id=fl2 L':=fun x=>by rw [Qm hid',hB']
    have hsa:∀ x v,(B'++x).set id v=B'.set id v++x:=fun x v=>Yl v hid'
    have htk:(l.take (j+1)).filter ne_=(l.take j).filter ne_++[s].filter ne_:=by
     rw [List.take_add_one,hs,List.filter_append];rfl
    have hdj:L'.drop (j+1)=l.drop (j+1):=by
     have:=congrArg (List.drop 1) hd
     simpa [List.drop_drop,Nat.add_comm] using this
    by_cases he:s.2<=s.1
    ·have he':em s=true:=by simp [em,he]
     have hn':ne_ s=false:=by rw [ne_em,he'];rfl
     rw [he'] at hp
     simp [h5,h6,hjlt,hlt,hilt,hB',hra,hsa,hg,w154_0,orcDel,orcEm,he,hwj,hwi]
     refine ⟨hp,ag ?_,⟨i,rfl,j+1,by simp,by omega,by omega,hkp.app _,?_⟩,by omega⟩
     ·repeat (first | exact Qb _ _ | refine Qc _ rfl ?_)
     ·refine ⟨L',rfl,hL',?_,hdj⟩
      rw [htk,ht];simp [hn']
    ·have he':em s=false:=by simp [em];omega
     have hn':ne_ s=true:=by rw [ne_em,he'];rfl
     rw [he'] at hp
     simp [h5,h6,hjlt,hlt,hilt,hilt',hB',hra,hsa,hg,w154_0,orcDel,orcEm,he,hwj,hwi,hset,hlen',hL']
     refine ⟨hp,by omega,ag ?_,⟨i+1,by simp,j+1,by simp,by omega,by omega,(hkp.set (.inl rfl) _).app _,?_⟩,by omega⟩
     ·repeat (first | exact Qb _ _ | refine Qc _ rfl ?_)
     ·refine ⟨L'.set i s,by rw [Qm (by simpa using hid'),Yg _ hid'],by simpa using hL',?_,?_⟩
      ·rw [htk,<- ht,List.take_add_one,List.getElem?_set_self (by omega),List.take_set_of_le (by omega)];simp [hn']
      ·rw [List.drop_set_of_lt (by omega)];exact hdj
   ·obtain rfl:j=l.length:=by omega
    rw [List.take_length] at ht
    have hfl:(l.filter ne_).length=i:=by rw [<- ht,List.length_take];omega
    have hjn:¬ ((l.length:Nat):Int) < (l.length:Int):=by omega
    have hin:(i:Int)<=(l.length:Int):=by omega
    have hilt:(i:Int) < (l.length:Int):=by omega
    have hilt':i < l.length:=hij
    have hne':fl2 L'≠[]:=by
     intro h;have:=congrArg List.length h;rw [hlen',hL'] at this;simp at this;omega
    have hcl:setA (fl2 L') (i*2) (fills (l.length - i) [I 0,I 0])=fl2 (l.filter ne_++List.replicate (l.length - i) (0,0)):=by
     have e1:L'=L'.take i++L'.drop i:=by simp
     conv=>lhs;rw [e1]
     rw [Jw,Jw,<- ht,fl2_fills]
     have e2:(fl2 (L'.take i)).length=i*2:=by rw [Zv,List.length_take];congr 1;omega
     rw [<- e2]
     exact setA_app _ _ _ (by rw [Zv,Zv];simp;omega)
    simp [h5,h6,hjn,hB',hilt,hilt',hin,w154_0,hid',hne',hlen',hL',hcl]
    refine ⟨by omega,?_⟩
    have:=hK (B'.set id (fl2 (l.filter ne_++List.replicate (l.length - i) (0,0)))) (List.replicate (l.length - i) (0,0)) (hkp.set (.inl rfl) _) (Yg _ hid') (by simp;omega)
    rw [hfl] at this
    exact this
end Go.Proofs.YtkcnjajklnoahaaGreatDoor
namespace Go.Abs
open Go Go.RowKit
theorem clone_of {P:Program} {gl:Nat->AV} {Y:YT} {f:FuncId} (hc:callable P f) (hrun:∀ (b:Nat) (es:Array MapEntry) (clock:Nat) (w:World),w.heap[b]? = some (.map es clock)->Calls P f #[.map (some b)] w fun e w'=>e=.returned (.map (some w.heap.size))/\w'=w.alloc (.map es clock))
  {m:AM} {id kn:Nat} {kvs:List (List Int×AV)} (hb:m.boxes.getD id []=[.mobj kn kvs]) {K:AV->AM->Prop} (hK:K (.mp m.boxes.length) { m with boxes:=m.boxes++[[.mobj kn kvs]] }):EffY P gl Y f [.mp id] m K:=by
 refine EffY.of_calls hc fun N w0 ro0 γ w vs hm hl hr=>?_
 match vs,hr with
 | [v],hr =>
  obtain ⟨hid,hB⟩:=box_at hb
  obtain ⟨b,es,h1,rfl,h3,h4,h5⟩:=hm.map_at (hr.2 0 _ v rfl rfl) hB
  refine (hrun b es _ w h3).mono fun e w' ⟨he,hw⟩=>?_
  subst hw
  obtain ⟨g1,g2⟩:=hm.newMap m.boxes.length (by simp [AM.B]) (x:=.mobj kn kvs) (o:=.map es es.size) ⟨rfl,h4,h5⟩
  refine ⟨_,_,.mp m.boxes.length,{ m with boxes:=m.boxes++[[.mobj kn kvs]] },he,g1.toR,?_,hl.mono' g1 rfl,.mp (by simp [G.newm]),hK⟩
  rw [Qbm]
  exact g2
 | [],hr=>exact absurd hr.1 (by simp)
 | _::_::_,hr=>exact absurd hr.1 (by simp)
theorem info_of {P:Program} {t:TypeId} {a b c:Nat} (h:(P.info? t).bind (fun i=>i.zero.map fun z=>(i.size,i.bytes,z.cells.size))=some (a,b,c)):∃ i z,P.info? t=some i/\i.zero=some z/\i.size=a/\i.bytes=b/\z.cells.size=c:=by
 cases hi:P.info? t with
 | none=>rw [hi] at h;cases h
 | some i =>
  rw [hi] at h
  simp only [Option.bind_some] at h
  cases hz:i.zero with
  | none=>rw [hz] at h;cases h
  | some z =>
   rw [hz] at h
   simp only [Option.map_some,Option.some.injEq,Prod.mk.injEq] at h
   exact ⟨i,z,rfl,hz,h.1,h.2.1,h.2.2⟩
theorem grow_of {P:Program} {gl:Nat->AV} {Y:YT} {f:FuncId} {t:TypeId} {sz n:Nat} (hc:callable P f)
  (hroom:n=0->∀ w:World,Calls P f #[.slice none 0 0,.int .i64 (n:Nat)] w fun e w'=>e=.returned (.slice none 0 0)/\w'=w)
  (hgrow:0 < n->∀ w:World,Calls P f #[.slice none 0 0,.int .i64 (n:Nat)] w fun e w'=>∃ cap cs,e=.returned (.slice (some ⟨w.heap.size,0,none⟩) 0 cap)/\w'=w.drew.alloc (.cells cs t)/\cap*sz<=cs.size)
  {m:AM} {K:AV->AM->Prop} (h0:n=0->K (.sl .nil []) m) (h1:0 < n->K (.sl (.own m.lens.length sz) []) { m with lens:=m.lens++[0] }):EffY P gl Y f [.sl .nil [],.int .i64 (n:Nat)] m K:=by
 refine EffY.of_calls hc fun N w0 ro0 γ w vs hm hl hr=>?_
 match vs,hr with
 | [v,u],hr =>
  have hv:v=.slice none 0 0:=by
   have h:=hr.2 0 _ v rfl rfl
   cases h with
   | @sl _ _ _ a cap b off sz' cv hcap hnil ha hsz hcc hrr hrt =>
    have:a=none:=hrt
    subst this
    rw [hnil rfl]
    rfl
  have hu:u=.int .i64 (n:Nat):=(hr.2 1 _ u rfl rfl).inv_int
  subst hv;subst hu
  rcases Nat.eq_zero_or_pos n with hn | hn
  ·refine (hroom hn w).mono fun e w' ⟨he,hw⟩=>?_
   subst hw
   exact ⟨_,γ,_,m,he,(Ev.refl _ γ).toR,hm,hl,rep_nil,h0 hn⟩
  ·refine (hgrow hn w).mono fun e w' ⟨cap,cs,he,hw,hs⟩=>?_
   subst hw
   have hm1:=hm.drewE
   have hL:m.L m.lens.length=none:=by simp [AM.L]
   have hown:γ.own m.lens.length=none:=by
    cases h:γ.own m.lens.length with
    | none=>rfl
    | some b=>obtain ⟨_,_,k,hk⟩:=hm.own _ _ h;rw [hL] at hk;cases hk
   have hcur:γ.cur m.lens.length=0:=hm.cur0 _ hL
   have hev:=hm1.2.trans (hm1.1.ev_renew (q:=0) (id:=m.lens.length) (n:=0) (by omega) (fun _=>hown) (.cells cs t))
   refine ⟨_,γ.renew m.lens.length w.heap.size 0 0,.sl (.own m.lens.length sz) [],{ m with lens:=m.lens++[0] },he,hev.toR,?_,hl.mono' hev rfl,?_,h1 hn⟩
   ·rw [L_snoc]
    exact hm1.1.renew (by omega) (fun _=>hown) _
   ·refine .sl (rows:=[]) w.heap.size 0 sz (fun _ _=>undef) (Nat.zero_le _) (fun h=>(by cases h)) (fun h=>absurd rfl h) (fun _ h=>by cases h) (fun i j c h=>by simp [Qs] at h) (fun i j c h=>by simp [Qs] at h) ?_
    refine ⟨rfl,Nat.zero_le _,fun _=>.inr ⟨w.heap.size,0,cs,t,rfl,by simp [G.renew],by show (w.heap.push _)[w.heap.size]? = _;simp,by omega,fun o' _ hr=>?_⟩⟩
    rcases hr with hr | ⟨_,hr⟩
    ·have:=hm.robd _ _ hr;omega
    ·omega
 | [],hr=>exact absurd hr.1 (by simp)
 | [_],hr=>exact absurd hr.1 (by simp)
 | _::_::_::_,hr=>exact absurd hr.1 (by simp)
end Go.Abs
namespace Go.Proofs.YtkcnjajklnoahaaGreatDoor
open Go Go.Abs Go.Shelf Go.RowKit Go.Lib
def cloneM_ren:Go.Shelf.Ren:=⟨fun | 5=>65 | 7=>96 | n=>n,fun | 23=>102 | 25=>3 | 3=>3 | 4=>4 | 20=>20 | n=>n,fun | n=>n⟩
theorem cloneM:Go.Proofs.SlLaysW.n5 Tryz.prog cloneM_ren:={
 mixed:=by kernel_rfl,
 f5:=⟨Tryz.f65.name,by decide,Tryz.func65.trans (congrArg some (by kernel_rfl))⟩,
 f7:=Tryz.func96.trans (congrArg some (by kernel_rfl)),
 t4:=Tryz.underlying4,
 a4:=Tryz.isAgg4,
 z4:=Tryz.sizeOf4,
 v4:=Tryz.zeroValue4,
 t20:=Tryz.underlying20,
 a20:=Tryz.isAgg20,
 z20:=Tryz.sizeOf20,
 v20:=Tryz.zeroValue20,
 t23:=Tryz.underlying102,
 a23:=Tryz.isAgg102,
 z23:=Tryz.sizeOf102,
 v23:=Tryz.zeroValue102 }
def growInt_ren:Go.Shelf.Ren:=⟨fun | 4=>104 | n=>n,fun | 22=>33 | 25=>3 | 3=>3 | 4=>4 | 9=>9 | 20=>20 | 0=>0 | n=>n,fun | n=>n⟩
theorem growInt:Go.Proofs.Lays8.n4 Tryz.prog growInt_ren:={
 mixed:=by kernel_rfl,
 f4:=⟨Tryz.f104.name,by decide,Tryz.func104.trans (congrArg some (by kernel_rfl))⟩,
 t0:=Tryz.underlying0,
 a0:=Tryz.isAgg0,
 z0:=Tryz.sizeOf0,
 v0:=Tryz.zeroValue0,
 t3:=Tryz.underlying3,
 a3:=Tryz.isAgg3,
 z3:=Tryz.sizeOf3,
 v3:=Tryz.zeroValue3,
 t4:=Tryz.underlying4,
 a4:=Tryz.isAgg4,
 z4:=Tryz.sizeOf4,
 v4:=Tryz.zeroValue4,
 t9:=Tryz.underlying9,
 a9:=Tryz.isAgg9,
 z9:=Tryz.sizeOf9,
 v9:=Tryz.zeroValue9,
 t20:=Tryz.underlying20,
 a20:=Tryz.isAgg20,
 z20:=Tryz.sizeOf20,
 v20:=Tryz.zeroValue20,
 t22:=Tryz.underlying33,
 a22:=Tryz.isAgg33,
 z22:=Tryz.sizeOf33,
 v22:=Tryz.zeroValue33 }
def growSp_ren:Go.Shelf.Ren:=⟨fun | 4=>179 | n=>n,fun | 22=>119 | 25=>122 | 3=>3 | 4=>4 | 9=>9 | 20=>20 | 0=>0 | 2=>3 | n=>n,fun | n=>n⟩
theorem growSp:Go.Proofs.Lays8.n4 Tryz.prog growSp_ren:={
 mixed:=by kernel_rfl,
 f4:=⟨Tryz.f179.name,by decide,Tryz.func179.trans (congrArg some (by kernel_rfl))⟩,
 t0:=Tryz.underlying0,
 a0:=Tryz.isAgg0,
 z0:=Tryz.sizeOf0,
 v0:=Tryz.zeroValue0,
 t3:=Tryz.underlying3,
 a3:=Tryz.isAgg3,
 z3:=Tryz.sizeOf3,
 v3:=Tryz.zeroValue3,
 t4:=Tryz.underlying4,
 a4:=Tryz.isAgg4,
 z4:=Tryz.sizeOf4,
 v4:=Tryz.zeroValue4,
 t9:=Tryz.underlying9,
 a9:=Tryz.isAgg9,
 z9:=Tryz.sizeOf9,
 v9:=Tryz.zeroValue9,
 t20:=Tryz.underlying20,
 a20:=Tryz.isAgg20,
 z20:=Tryz.sizeOf20,
 v20:=Tryz.zeroValue20,
 t22:=Tryz.underlying119,
 a22:=Tryz.isAgg119,
 z22:=Tryz.sizeOf119,
 v22:=Tryz.zeroValue119 }
theorem clone81 {Y:YT} {m:AM} {id kn:Nat} {kvs:List (List Int×AV)} (hb:m.boxes.getD id []=[.mobj kn kvs]) {K:AV->AM->Prop} (hK:K (.mp m.boxes.length) { m with boxes:=m.boxes++[[.mobj kn kvs]] }):EffY Tryz.prog gl0 Y 65 [.mp id] m K :=
 clone_of ⟨_,Tryz.func65,by kernel_rfl,by kernel_rfl⟩ (fun b es clock w h=>AnyW.maps_Clone cloneM b es clock w h) hb hK
theorem grow138 {Y:YT} {m:AM} {n:Nat} (hn:n<=1000000000) {K:AV->AM->Prop} (h0:n=0->K (.sl .nil []) m) (h1:0 < n->K (.sl (.own m.lens.length 1) []) { m with lens:=m.lens++[0] }):EffY Tryz.prog gl0 Y 104 [.sl .nil [],I n] m K:=by
 obtain ⟨i0,z,hi0,hz0,hs0,hb0,hzs⟩:=info_of (P:=Tryz.prog) (t:=3) (a:=1) (b:=8) (c:=1) (by kernel_rfl)
 refine grow_of (t:=3) (sz:=1) ⟨_,Tryz.func104,by kernel_rfl,by kernel_rfl⟩ (fun hn0 w=>?_) (fun hp w=>?_) h0 h1
 ·subst hn0
  exact Any8.slices_Grow_room growInt none 0 0 0 w (Nat.le_refl _) (by omega) (by omega) (Nat.le_refl _)
 ·refine (Any8.slices_Grow_grow growInt i0 z hi0 hz0 (by omega) none 0 0 n [] w (Nat.le_refl _) (by omega) (by rw [hb0];omega) (by omega) (by simp) (fun _=>rfl) (fun a h=>by cases h)).mono fun e w' ⟨he,hw⟩=>?_
  refine ⟨_,_,he,hw,?_⟩
  have hg:n<=grownCap w (0+n) 0 3:=by have:=grownCap_ge w (0+n) 0 3;omega
  simp only [Array.size_append,size_zeroCells,hzs]
  simp
  have e1:growInt_ren.t 25=3:=rfl
  simp only [e1]
  omega
theorem grow242 {Y:YT} {m:AM} {n:Nat} (hn:n<=1000000000) {K:AV->AM->Prop} (h0:n=0->K (.sl .nil []) m) (h1:0 < n->K (.sl (.own m.lens.length 2) []) { m with lens:=m.lens++[0] }):EffY Tryz.prog gl0 Y 179 [.sl .nil [],I n] m K:=by
 obtain ⟨i0,z,hi0,hz0,hs0,hb0,hzs⟩:=info_of (P:=Tryz.prog) (t:=122) (a:=2) (b:=16) (c:=2) (by kernel_rfl)
 refine grow_of (t:=122) (sz:=2) ⟨_,Tryz.func179,by kernel_rfl,by kernel_rfl⟩ (fun hn0 w=>?_) (fun hp w=>?_) h0 h1
 ·subst hn0
  exact Any8.slices_Grow_room growSp none 0 0 0 w (Nat.le_refl _) (by omega) (by omega) (Nat.le_refl _)
 ·refine (Any8.slices_Grow_grow growSp i0 z hi0 hz0 (by omega) none 0 0 n [] w (Nat.le_refl _) (by omega) (by rw [hb0];omega) (by omega) (by simp) (fun _=>rfl) (fun a h=>by cases h)).mono fun e w' ⟨he,hw⟩=>?_
  refine ⟨_,_,he,hw,?_⟩
  have hg:n<=grownCap w (0+n) 0 122:=by have:=grownCap_ge w (0+n) 0 122;omega
  simp only [Array.size_append,size_zeroCells,hzs]
  simp
  have e1:growSp_ren.t 25=122:=rfl
  simp only [e1]
  omega
end Go.Proofs.YtkcnjajklnoahaaGreatDoor
