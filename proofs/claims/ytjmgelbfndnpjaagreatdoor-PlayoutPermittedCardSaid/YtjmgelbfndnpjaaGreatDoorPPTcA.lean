import Derived.Test.YtjmgelbfndnpjaaGreatDoorPPMP
import Derived.Test.YtjmgelbfndnpjaaGreatDoorPPPbS
import Derived.Shelf.SlMaps.Clone
import Derived.Shelf.Spec.SlicesGrow
set_option linter.unusedVariables false
set_option linter.unusedSimpArgs false
namespace Go.Abs
open Go Go.RowKit
theorem clone_of {P:Program} {gl:Nat->AV} {Y:YT} {f:FuncId} (hc:callable P f) (hrun:∀ (b:Nat) (es:Array MapEntry) (clock:Nat) (w:World),w.heap[b]? = some (.map es clock)->Calls P f #[.map (some b)] w fun e w'=>e=.returned (.map (some w.heap.size))/\w'=w.alloc (.map es clock))
  {m:AM} {id kn:Nat} {kvs:List (List Int×AV)} (hb:m.boxes.getD id []=[.mobj kn kvs]) {K:AV->AM->Prop} (hK:K (.mp m.boxes.length) { m with boxes:=m.boxes++[[.mobj kn kvs]] }):EffY P gl Y f [.mp id] m K:=by
 refine EffY.of_calls hc fun N w0 ro0 γ w vs hm hl hr=>?_
 match vs,hr with
 | [v],hr =>
  obtain ⟨hid,hB⟩:=box_at hb
  obtain ⟨b,es,h1,rfl,h3,h4,h5⟩:=hm.map_at (hr.2 0 _ v rfl rfl) hB
  refine (hrun b es _ w h3).mono fun e w' ⟨he,hw⟩=>?_
  subst hw
  obtain ⟨g1,g2⟩:=hm.newMap m.boxes.length (by simp [AM.B]) (x:=.mobj kn kvs) (o:=.map es es.size) ⟨rfl,h4,h5⟩
  refine ⟨_,_,.mp m.boxes.length,{ m with boxes:=m.boxes++[[.mobj kn kvs]] },he,g1.toR,?_,hl.mono' g1 rfl,.mp (by simp [G.newm]),hK⟩
  rw [Wt]
  exact g2
 | [],hr=>exact absurd hr.1 (by simp)
 | _::_::_,hr=>exact absurd hr.1 (by simp)
theorem info_of {P:Program} {t:TypeId} {a b c:Nat} (h:(P.info? t).bind (fun i=>i.zero.map fun z=>(i.size,i.bytes,z.cells.size))=some (a,b,c)):∃ i z,P.info? t=some i/\i.zero=some z/\i.size=a/\i.bytes=b/\z.cells.size=c:=by
 cases hi:P.info? t with
 | none=>rw [hi] at h;cases h
 | some i =>
  rw [hi] at h
  simp only [Option.bind_some] at h
  cases hz:i.zero with
  | none=>rw [hz] at h;cases h
  | some z =>
   rw [hz] at h
   simp only [Option.map_some,Option.some.injEq,Prod.mk.injEq] at h
   exact ⟨i,z,rfl,hz,h.1,h.2.1,h.2.2⟩
theorem grow_of {P:Program} {gl:Nat->AV} {Y:YT} {f:FuncId} {t:TypeId} {sz n:Nat} (hc:callable P f)
  (hroom:n=0->∀ w:World,Calls P f #[.slice none 0 0,.int .i64 (n:Nat)] w fun e w'=>e=.returned (.slice none 0 0)/\w'=w)
  (hgrow:0 < n->∀ w:World,Calls P f #[.slice none 0 0,.int .i64 (n:Nat)] w fun e w'=>∃ cap cs,e=.returned (.slice (some ⟨w.heap.size,0,none⟩) 0 cap)/\w'=w.drew.alloc (.cells cs t)/\cap*sz<=cs.size)
  {m:AM} {K:AV->AM->Prop} (h0:n=0->K (.sl .nil []) m) (h1:0 < n->K (.sl (.own m.lens.length sz) []) { m with lens:=m.lens++[0] }):EffY P gl Y f [.sl .nil [],.int .i64 (n:Nat)] m K:=by
 refine EffY.of_calls hc fun N w0 ro0 γ w vs hm hl hr=>?_
 match vs,hr with
 | [v,u],hr =>
  have hv:v=.slice none 0 0:=by
   have h:=hr.2 0 _ v rfl rfl
   cases h with
   | @sl _ _ _ a cap b off sz' cv hcap hnil ha hsz hcc hrr hrt =>
    have:a=none:=hrt
    subst this
    rw [hnil rfl]
    rfl
  have hu:u=.int .i64 (n:Nat):=(hr.2 1 _ u rfl rfl).inv_int
  subst hv;subst hu
  rcases Nat.eq_zero_or_pos n with hn | hn
  ·refine (hroom hn w).mono fun e w' ⟨he,hw⟩=>?_
   subst hw
   exact ⟨_,γ,_,m,he,(Ev.refl _ γ).toR,hm,hl,rep_nil,h0 hn⟩
  ·refine (hgrow hn w).mono fun e w' ⟨cap,cs,he,hw,hs⟩=>?_
   subst hw
   have hm1:=hm.drewE
   have hL:m.L m.lens.length=none:=by simp [AM.L]
   have hown:γ.own m.lens.length=none:=by
    cases h:γ.own m.lens.length with
    | none=>rfl
    | some b=>obtain ⟨_,_,k,hk⟩:=hm.own _ _ h;rw [hL] at hk;cases hk
   have hcur:γ.cur m.lens.length=0:=hm.cur0 _ hL
   have hev:=hm1.2.trans (hm1.1.ev_renew (q:=0) (id:=m.lens.length) (n:=0) (by omega) (fun _=>hown) (.cells cs t))
   refine ⟨_,γ.renew m.lens.length w.heap.size 0 0,.sl (.own m.lens.length sz) [],{ m with lens:=m.lens++[0] },he,hev.toR,?_,hl.mono' hev rfl,?_,h1 hn⟩
   ·rw [L_snoc]
    exact hm1.1.renew (by omega) (fun _=>hown) _
   ·refine .sl (rows:=[]) w.heap.size 0 sz (fun _ _=>undef) (Nat.zero_le _) (fun h=>(by cases h)) (fun h=>absurd rfl h) (fun _ h=>by cases h) (fun i j c h=>by simp [Qr] at h) (fun i j c h=>by simp [Qr] at h) ?_
    refine ⟨rfl,Nat.zero_le _,fun _=>.inr ⟨w.heap.size,0,cs,t,rfl,by simp [G.renew],by show (w.heap.push _)[w.heap.size]? = _;simp,by omega,fun o' _ hr=>?_⟩⟩
    rcases hr with hr | ⟨_,hr⟩
    ·have:=hm.robd _ _ hr;omega
    ·omega
 | [],hr=>exact absurd hr.1 (by simp)
 | [_],hr=>exact absurd hr.1 (by simp)
 | _::_::_::_,hr=>exact absurd hr.1 (by simp)
end Go.Abs
namespace Go.Proofs.YtjmgelbfndnpjaaGreatDoor
open Go Go.Abs Go.Shelf Go.RowKit Go.Lib
def cloneM_ren:Go.Shelf.Ren:=⟨fun | 5=>50 | 7=>103 | n=>n,fun | 23=>124 | 25=>3 | 3=>3 | 4=>4 | 20=>20 | n=>n,fun | n=>n⟩
theorem cloneM:Go.Proofs.SlLaysW.n5 Tryz.prog cloneM_ren:={
 mixed:=by kernel_rfl,
 f5:=⟨Tryz.f50.name,by decide,Tryz.func50.trans (congrArg some (by kernel_rfl))⟩,
 f7:=Tryz.func103.trans (congrArg some (by kernel_rfl)),
 t4:=Tryz.underlying4,
 a4:=Tryz.isAgg4,
 z4:=Tryz.sizeOf4,
 v4:=Tryz.zeroValue4,
 t20:=Tryz.underlying20,
 a20:=Tryz.isAgg20,
 z20:=Tryz.sizeOf20,
 v20:=Tryz.zeroValue20,
 t23:=Tryz.underlying124,
 a23:=Tryz.isAgg124,
 z23:=Tryz.sizeOf124,
 v23:=Tryz.zeroValue124 }
def growInt_ren:Go.Shelf.Ren:=⟨fun | 4=>108 | n=>n,fun | 22=>36 | 25=>3 | 3=>3 | 4=>4 | 9=>9 | 20=>20 | 0=>0 | n=>n,fun | n=>n⟩
theorem growInt:Go.Proofs.Lays8.n4 Tryz.prog growInt_ren:={
 mixed:=by kernel_rfl,
 f4:=⟨Tryz.f108.name,by decide,Tryz.func108.trans (congrArg some (by kernel_rfl))⟩,
 t0:=Tryz.underlying0,
 a0:=Tryz.isAgg0,
 z0:=Tryz.sizeOf0,
 v0:=Tryz.zeroValue0,
 t3:=Tryz.underlying3,
 a3:=Tryz.isAgg3,
 z3:=Tryz.sizeOf3,
 v3:=Tryz.zeroValue3,
 t4:=Tryz.underlying4,
 a4:=Tryz.isAgg4,
 z4:=Tryz.sizeOf4,
 v4:=Tryz.zeroValue4,
 t9:=Tryz.underlying9,
 a9:=Tryz.isAgg9,
 z9:=Tryz.sizeOf9,
 v9:=Tryz.zeroValue9,
 t20:=Tryz.underlying20,
 a20:=Tryz.isAgg20,
 z20:=Tryz.sizeOf20,
 v20:=Tryz.zeroValue20,
 t22:=Tryz.underlying36,
 a22:=Tryz.isAgg36,
 z22:=Tryz.sizeOf36,
 v22:=Tryz.zeroValue36 }
def growSp_ren:Go.Shelf.Ren:=⟨fun | 4=>177 | n=>n,fun | 22=>98 | 25=>96 | 3=>3 | 4=>4 | 9=>9 | 20=>20 | 0=>0 | 2=>3 | n=>n,fun | n=>n⟩
theorem growSp:Go.Proofs.Lays8.n4 Tryz.prog growSp_ren:={
 mixed:=by kernel_rfl,
 f4:=⟨Tryz.f177.name,by decide,Tryz.func177.trans (congrArg some (by kernel_rfl))⟩,
 t0:=Tryz.underlying0,
 a0:=Tryz.isAgg0,
 z0:=Tryz.sizeOf0,
 v0:=Tryz.zeroValue0,
 t3:=Tryz.underlying3,
 a3:=Tryz.isAgg3,
 z3:=Tryz.sizeOf3,
 v3:=Tryz.zeroValue3,
 t4:=Tryz.underlying4,
 a4:=Tryz.isAgg4,
 z4:=Tryz.sizeOf4,
 v4:=Tryz.zeroValue4,
 t9:=Tryz.underlying9,
 a9:=Tryz.isAgg9,
 z9:=Tryz.sizeOf9,
 v9:=Tryz.zeroValue9,
 t20:=Tryz.underlying20,
 a20:=Tryz.isAgg20,
 z20:=Tryz.sizeOf20,
 v20:=Tryz.zeroValue20,
 t22:=Tryz.underlying98,
 a22:=Tryz.isAgg98,
 z22:=Tryz.sizeOf98,
 v22:=Tryz.zeroValue98 }
theorem clone81 {Y:YT} {m:AM} {id kn:Nat} {kvs:List (List Int×AV)} (hb:m.boxes.getD id []=[.mobj kn kvs]) {K:AV->AM->Prop} (hK:K (.mp m.boxes.length) { m with boxes:=m.boxes++[[.mobj kn kvs]] }):EffY Tryz.prog gl0 Y 50 [.mp id] m K :=
 clone_of ⟨_,Tryz.func50,by kernel_rfl,by kernel_rfl⟩ (fun b es clock w h=>AnyW.maps_Clone cloneM b es clock w h) hb hK
theorem grow138 {Y:YT} {m:AM} {n:Nat} (hn:n<=1000000000) {K:AV->AM->Prop} (h0:n=0->K (.sl .nil []) m) (h1:0 < n->K (.sl (.own m.lens.length 1) []) { m with lens:=m.lens++[0] }):EffY Tryz.prog gl0 Y 108 [.sl .nil [],I n] m K:=by
 obtain ⟨i0,z,hi0,hz0,hs0,hb0,hzs⟩:=info_of (P:=Tryz.prog) (t:=3) (a:=1) (b:=8) (c:=1) (by kernel_rfl)
 refine grow_of (t:=3) (sz:=1) ⟨_,Tryz.func108,by kernel_rfl,by kernel_rfl⟩ (fun hn0 w=>?_) (fun hp w=>?_) h0 h1
 ·subst hn0
  exact Any8.slices_Grow_room growInt none 0 0 0 w (Nat.le_refl _) (by omega) (by omega) (Nat.le_refl _)
 ·refine (Any8.slices_Grow_grow growInt i0 z hi0 hz0 (by omega) none 0 0 n [] w (Nat.le_refl _) (by omega) (by rw [hb0];omega) (by omega) (by simp) (fun _=>rfl) (fun a h=>by cases h)).mono fun e w' ⟨he,hw⟩=>?_
  refine ⟨_,_,he,hw,?_⟩
  have hg:n<=grownCap w (0+n) 0 3:=by have:=grownCap_ge w (0+n) 0 3;omega
  simp only [Array.size_append,size_zeroCells,hzs]
  simp
  have e1:growInt_ren.t 25=3:=rfl
  simp only [e1]
  omega
theorem grow242 {Y:YT} {m:AM} {n:Nat} (hn:n<=1000000000) {K:AV->AM->Prop} (h0:n=0->K (.sl .nil []) m) (h1:0 < n->K (.sl (.own m.lens.length 2) []) { m with lens:=m.lens++[0] }):EffY Tryz.prog gl0 Y 177 [.sl .nil [],I n] m K:=by
 obtain ⟨i0,z,hi0,hz0,hs0,hb0,hzs⟩:=info_of (P:=Tryz.prog) (t:=96) (a:=2) (b:=16) (c:=2) (by kernel_rfl)
 refine grow_of (t:=96) (sz:=2) ⟨_,Tryz.func177,by kernel_rfl,by kernel_rfl⟩ (fun hn0 w=>?_) (fun hp w=>?_) h0 h1
 ·subst hn0
  exact Any8.slices_Grow_room growSp none 0 0 0 w (Nat.le_refl _) (by omega) (by omega) (Nat.le_refl _)
 ·refine (Any8.slices_Grow_grow growSp i0 z hi0 hz0 (by omega) none 0 0 n [] w (Nat.le_refl _) (by omega) (by rw [hb0];omega) (by omega) (by simp) (fun _=>rfl) (fun a h=>by cases h)).mono fun e w' ⟨he,hw⟩=>?_
  refine ⟨_,_,he,hw,?_⟩
  have hg:n<=grownCap w (0+n) 0 96:=by have:=grownCap_ge w (0+n) 0 96;omega
  simp only [Array.size_append,size_zeroCells,hzs]
  simp
  have e1:growSp_ren.t 25=96:=rfl
  simp only [e1]
  omega
end Go.Proofs.YtjmgelbfndnpjaaGreatDoor
