import Derived.Test.YtjmgelbfndnpjaaGreatDoorPPAbsS
import Derived.Test.YtjmgelbfndnpjaaGreatDoorPPPbS
import Derived.Test.YtjmgelbfndnpjaaGreatDoorPPSpA
import Derived.Shelf.SlicesG.Cmp
import Derived.Shelf.SlSortCmp.NoneTotal
set_option linter.unusedVariables false
set_option linter.unusedSimpArgs false
set_option maxRecDepth 100000
set_option maxHeartbeats 64000000
namespace Go.Proofs.YtjmgelbfndnpjaaGreatDoor
open Go Go.Abs Go.Shelf Go.RowKit Go.Lib Go.Sort
def sortIv_ren:Go.Shelf.Ren:=⟨fun | 6=>143 | 15=>169 | 14=>168 | 28=>190 | 29=>191 | 20=>182 | 21=>183 | 22=>184 | 23=>185 | 24=>186 | 25=>187 | 26=>188 | 27=>189 | 46=>203 | 47=>204 | 48=>205 | 49=>206 | 50=>207 | 57=>211 | n=>n,fun | 22=>240 | 24=>230 | 25=>244 | 3=>3 | 39=>285 | 0=>0 | 53=>284 | 55=>100 | 4=>4 | 46=>299 | 45=>298 | 50=>129 | 5=>5 | 9=>9 | 66=>314 | 70=>317 | 76=>321 | 77=>258 | n=>n,fun | n=>n⟩
theorem sortIv:Go.Proofs.SlLaysF0.n6 Tryz.prog sortIv_ren:={
 mixed:=by kernel_rfl,
 f6:=⟨Tryz.f143.name,by decide,Tryz.func143.trans (congrArg some (by kernel_rfl))⟩,
 f14:=⟨Tryz.f168.name,by decide,Tryz.func168.trans (congrArg some (by kernel_rfl))⟩,
 f15:=Tryz.func169.trans (congrArg some (by kernel_rfl)),
 f20:=⟨Tryz.f182.name,by decide,Tryz.func182.trans (congrArg some (by kernel_rfl))⟩,
 f21:=⟨Tryz.f183.name,by decide,Tryz.func183.trans (congrArg some (by kernel_rfl))⟩,
 f22:=⟨Tryz.f184.name,by decide,Tryz.func184.trans (congrArg some (by kernel_rfl))⟩,
 f23:=⟨Tryz.f185.name,by decide,Tryz.func185.trans (congrArg some (by kernel_rfl))⟩,
 f24:=⟨Tryz.f186.name,by decide,Tryz.func186.trans (congrArg some (by kernel_rfl))⟩,
 f25:=⟨Tryz.f187.name,by decide,Tryz.func187.trans (congrArg some (by kernel_rfl))⟩,
 f26:=⟨Tryz.f188.name,by decide,Tryz.func188.trans (congrArg some (by kernel_rfl))⟩,
 f27:=⟨Tryz.f189.name,by decide,Tryz.func189.trans (congrArg some (by kernel_rfl))⟩,
 f28:=Tryz.func190.trans (congrArg some (by kernel_rfl)),
 f29:=Tryz.func191.trans (congrArg some (by kernel_rfl)),
 f46:=⟨Tryz.f203.name,by decide,Tryz.func203.trans (congrArg some (by kernel_rfl))⟩,
 f47:=Tryz.func204.trans (congrArg some (by kernel_rfl)),
 f48:=Tryz.func205.trans (congrArg some (by kernel_rfl)),
 f49:=⟨Tryz.f206.name,by decide,Tryz.func206.trans (congrArg some (by kernel_rfl))⟩,
 f50:=⟨Tryz.f207.name,by decide,Tryz.func207.trans (congrArg some (by kernel_rfl))⟩,
 f57:=⟨Tryz.f211.name,by decide,Tryz.func211.trans (congrArg some (by kernel_rfl))⟩,
 t0:=Tryz.underlying0,
 a0:=Tryz.isAgg0,
 z0:=Tryz.sizeOf0,
 v0:=Tryz.zeroValue0,
 t3:=Tryz.underlying3,
 a3:=Tryz.isAgg3,
 z3:=Tryz.sizeOf3,
 v3:=Tryz.zeroValue3,
 t4:=Tryz.underlying4,
 a4:=Tryz.isAgg4,
 z4:=Tryz.sizeOf4,
 v4:=Tryz.zeroValue4,
 t5:=Tryz.underlying5,
 a5:=Tryz.isAgg5,
 z5:=Tryz.sizeOf5,
 v5:=Tryz.zeroValue5,
 t9:=Tryz.underlying9,
 a9:=Tryz.isAgg9,
 z9:=Tryz.sizeOf9,
 v9:=Tryz.zeroValue9,
 t22:=Tryz.underlying240,
 a22:=Tryz.isAgg240,
 z22:=Tryz.sizeOf240,
 v22:=Tryz.zeroValue240,
 t25:=Tryz.underlying244,
 a25:=Tryz.isAgg244,
 z25:=Tryz.sizeOf244,
 v25:=Tryz.zeroValue244,
 t39:=Tryz.underlying285,
 a39:=Tryz.isAgg285,
 z39:=Tryz.sizeOf285,
 v39:=Tryz.zeroValue285,
 t45:=Tryz.underlying298,
 a45:=Tryz.isAgg298,
 z45:=Tryz.sizeOf298,
 v45:=Tryz.zeroValue298,
 t46:=Tryz.underlying299,
 a46:=Tryz.isAgg299,
 z46:=Tryz.sizeOf299,
 v46:=Tryz.zeroValue299,
 t50:=Tryz.underlying129,
 a50:=Tryz.isAgg129,
 z50:=Tryz.sizeOf129,
 v50:=Tryz.zeroValue129,
 t53:=Tryz.underlying284,
 a53:=Tryz.isAgg284,
 z53:=Tryz.sizeOf284,
 v53:=Tryz.zeroValue284,
 t55:=Tryz.underlying100,
 a55:=Tryz.isAgg100,
 z55:=Tryz.sizeOf100,
 v55:=Tryz.zeroValue100,
 t66:=Tryz.underlying314,
 a66:=Tryz.isAgg314,
 z66:=Tryz.sizeOf314,
 v66:=Tryz.zeroValue314,
 t70:=Tryz.underlying317,
 a70:=Tryz.isAgg317,
 z70:=Tryz.sizeOf317,
 v70:=Tryz.zeroValue317,
 t76:=Tryz.underlying321,
 a76:=Tryz.isAgg321,
 z76:=Tryz.sizeOf321,
 v76:=Tryz.zeroValue321,
 t77:=Tryz.underlying258,
 a77:=Tryz.isAgg258,
 z77:=Tryz.sizeOf258,
 v77:=Tryz.zeroValue258 }
def sortInt_ren:Go.Shelf.Ren:=⟨fun | 5=>147 | 8=>169 | 7=>171 | 19=>190 | 20=>191 | 10=>193 | 11=>194 | 12=>195 | 13=>196 | 14=>197 | 15=>198 | 16=>173 | 17=>199 | 18=>200 | 30=>208 | 31=>204 | 32=>205 | 33=>209 | 34=>210 | 35=>192 | 40=>212 | n=>n,fun | 23=>36 | 25=>3 | 3=>3 | 32=>285 | 22=>36 | 0=>0 | 44=>284 | 46=>100 | 4=>4 | 36=>299 | 35=>298 | 41=>129 | 5=>5 | 9=>9 | 53=>314 | 57=>317 | 63=>321 | 64=>258 | n=>n,fun | n=>n⟩
theorem sortInt:Go.Proofs.SlLaysM.n5 Tryz.prog sortInt_ren:={
 mixed:=by kernel_rfl,
 f5:=⟨Tryz.f147.name,by decide,Tryz.func147.trans (congrArg some (by kernel_rfl))⟩,
 f7:=⟨Tryz.f171.name,by decide,Tryz.func171.trans (congrArg some (by kernel_rfl))⟩,
 f8:=Tryz.func169.trans (congrArg some (by kernel_rfl)),
 f10:=⟨Tryz.f193.name,by decide,Tryz.func193.trans (congrArg some (by kernel_rfl))⟩,
 f11:=⟨Tryz.f194.name,by decide,Tryz.func194.trans (congrArg some (by kernel_rfl))⟩,
 f12:=⟨Tryz.f195.name,by decide,Tryz.func195.trans (congrArg some (by kernel_rfl))⟩,
 f13:=⟨Tryz.f196.name,by decide,Tryz.func196.trans (congrArg some (by kernel_rfl))⟩,
 f14:=⟨Tryz.f197.name,by decide,Tryz.func197.trans (congrArg some (by kernel_rfl))⟩,
 f15:=⟨Tryz.f198.name,by decide,Tryz.func198.trans (congrArg some (by kernel_rfl))⟩,
 f16:=⟨Tryz.f173.name,by decide,Tryz.func173.trans (congrArg some (by kernel_rfl))⟩,
 f17:=⟨Tryz.f199.name,by decide,Tryz.func199.trans (congrArg some (by kernel_rfl))⟩,
 f18:=⟨Tryz.f200.name,by decide,Tryz.func200.trans (congrArg some (by kernel_rfl))⟩,
 f19:=Tryz.func190.trans (congrArg some (by kernel_rfl)),
 f20:=Tryz.func191.trans (congrArg some (by kernel_rfl)),
 f30:=⟨Tryz.f208.name,by decide,Tryz.func208.trans (congrArg some (by kernel_rfl))⟩,
 f31:=Tryz.func204.trans (congrArg some (by kernel_rfl)),
 f32:=Tryz.func205.trans (congrArg some (by kernel_rfl)),
 f33:=⟨Tryz.f209.name,by decide,Tryz.func209.trans (congrArg some (by kernel_rfl))⟩,
 f34:=⟨Tryz.f210.name,by decide,Tryz.func210.trans (congrArg some (by kernel_rfl))⟩,
 f35:=⟨Tryz.f192.name,by decide,Tryz.func192.trans (congrArg some (by kernel_rfl))⟩,
 f40:=⟨Tryz.f212.name,by decide,Tryz.func212.trans (congrArg some (by kernel_rfl))⟩,
 t0:=Tryz.underlying0,
 a0:=Tryz.isAgg0,
 z0:=Tryz.sizeOf0,
 v0:=Tryz.zeroValue0,
 t3:=Tryz.underlying3,
 a3:=Tryz.isAgg3,
 z3:=Tryz.sizeOf3,
 v3:=Tryz.zeroValue3,
 t4:=Tryz.underlying4,
 a4:=Tryz.isAgg4,
 z4:=Tryz.sizeOf4,
 v4:=Tryz.zeroValue4,
 t5:=Tryz.underlying5,
 a5:=Tryz.isAgg5,
 z5:=Tryz.sizeOf5,
 v5:=Tryz.zeroValue5,
 t9:=Tryz.underlying9,
 a9:=Tryz.isAgg9,
 z9:=Tryz.sizeOf9,
 v9:=Tryz.zeroValue9,
 t22:=Tryz.underlying36,
 a22:=Tryz.isAgg36,
 z22:=Tryz.sizeOf36,
 v22:=Tryz.zeroValue36,
 t23:=Tryz.underlying36,
 a23:=Tryz.isAgg36,
 z23:=Tryz.sizeOf36,
 v23:=Tryz.zeroValue36,
 t25:=Tryz.underlying3,
 a25:=Tryz.isAgg3,
 z25:=Tryz.sizeOf3,
 v25:=Tryz.zeroValue3,
 t32:=Tryz.underlying285,
 a32:=Tryz.isAgg285,
 z32:=Tryz.sizeOf285,
 v32:=Tryz.zeroValue285,
 t35:=Tryz.underlying298,
 a35:=Tryz.isAgg298,
 z35:=Tryz.sizeOf298,
 v35:=Tryz.zeroValue298,
 t36:=Tryz.underlying299,
 a36:=Tryz.isAgg299,
 z36:=Tryz.sizeOf299,
 v36:=Tryz.zeroValue299,
 t41:=Tryz.underlying129,
 a41:=Tryz.isAgg129,
 z41:=Tryz.sizeOf129,
 v41:=Tryz.zeroValue129,
 t44:=Tryz.underlying284,
 a44:=Tryz.isAgg284,
 z44:=Tryz.sizeOf284,
 v44:=Tryz.zeroValue284,
 t46:=Tryz.underlying100,
 a46:=Tryz.isAgg100,
 z46:=Tryz.sizeOf100,
 v46:=Tryz.zeroValue100,
 t53:=Tryz.underlying314,
 a53:=Tryz.isAgg314,
 z53:=Tryz.sizeOf314,
 v53:=Tryz.zeroValue314,
 t57:=Tryz.underlying317,
 a57:=Tryz.isAgg317,
 z57:=Tryz.sizeOf317,
 v57:=Tryz.zeroValue317,
 t63:=Tryz.underlying321,
 a63:=Tryz.isAgg321,
 z63:=Tryz.sizeOf321,
 v63:=Tryz.zeroValue321,
 t64:=Tryz.underlying258,
 a64:=Tryz.isAgg258,
 z64:=Tryz.sizeOf258,
 v64:=Tryz.zeroValue258 }
def cmpInt_ren:Go.Shelf.Ren:=⟨fun | 5=>170 | 7=>192 | n=>n,fun | 22=>3 | 3=>3 | 4=>4 | n=>n,fun | n=>n⟩
theorem cmpInt:Go.Proofs.SlLaysC2.n5 Tryz.prog cmpInt_ren:={
 mixed:=by kernel_rfl,
 f5:=⟨Tryz.f170.name,by decide,Tryz.func170.trans (congrArg some (by kernel_rfl))⟩,
 f7:=⟨Tryz.f192.name,by decide,Tryz.func192.trans (congrArg some (by kernel_rfl))⟩,
 t3:=Tryz.underlying3,
 a3:=Tryz.isAgg3,
 z3:=Tryz.sizeOf3,
 v3:=Tryz.zeroValue3,
 t4:=Tryz.underlying4,
 a4:=Tryz.isAgg4,
 z4:=Tryz.sizeOf4,
 v4:=Tryz.zeroValue4,
 t22:=Tryz.underlying3,
 a22:=Tryz.isAgg3,
 z22:=Tryz.sizeOf3,
 v22:=Tryz.zeroValue3 }
def encV (x:Int×Int):List Value:=[.int .i64 x.1,.int .i64 x.2]
theorem closure165 (x y:Int×Int) (W:World):Calls Tryz.prog 144 #[.agg #[.int .i64 x.1,.int .i64 x.2],.agg #[.int .i64 y.1,.int .i64 y.2]] W fun e w'=>e=.returned (.int .i64 (Lib.compareInt x.1 y.1))/\∃ q os',w'=grow (W.drewN q) os':=by
 have hcon:=fun W'=>AnyG.cmp_Compare_int cmpInt x.1 y.1 W'
 change ∀ W',Calls Tryz.prog 170 _ _ _ at hcon
 generalize Lib.compareInt x.1 y.1=r at hcon |-
 go_enter Tryz.func144,Tryz.ntmps144
 go_wp2_with (go_at_call 170;refine (hcon _).mono ?_;rintro e w' ⟨rfl,rfl⟩)
 go_ret
 exact ⟨rfl,0,_,by rw [alloc_eq_grow,alloc_eq_grow,grow_grow];rfl⟩
theorem cmpLays165 (blk off size:Nat) (w:World):CmpLays Tryz.prog 144 #[] encV 2 (fun x y=>Lib.compareInt x.1 y.1) blk off size w :=
 fun _ _ _ _ x y=>closure165 x y _
theorem ltLo (x y:Int×Int):ltOf (fun x y:Int×Int=>Lib.compareInt x.1 y.1) x y=decide (x.1 < y.1):=by
 unfold ltOf Lib.compareInt
 by_cases h1:x.1 < y.1
 ·simp [h1]
 ·by_cases h2:y.1 < x.1<;>simp [h1,h2]
theorem swoLo:SWO (ltOf fun x y:Int×Int=>Lib.compareInt x.1 y.1) where
 irrefl x:=by rw [ltLo];simp
 trans x y z h1 h2:=by rw [ltLo] at *;simp at *;omega
 ntrans x y z h1 h2:=by rw [ltLo] at *;simp at *;omega
theorem repL_two {w:World} {γ:G} (x:Int×Int):RepL w γ (Qd x) (encV x):=.cons (.int _ _) (.cons (.int _ _) .nil)
theorem Yb {w:World} {γ:G} {a:AV} {vs:List Value} (h:RepL w γ [a] vs):∃ v,vs=[v]/\Rep w γ a v:=by
 match vs,h with
 | [v],h=>exact ⟨v,rfl,h.2 0 _ _ rfl rfl⟩
 | [],h=>exact absurd h.1 (by simp)
 | _::_::_,h=>exact absurd h.1 (by simp)
theorem repL_int2 {w:World} {γ:G} (x:Int×Int) {vs:List Value} (h:RepL w γ (Qd x) vs):vs=encV x:=by
 match vs,h with
 | [u,v],h =>
  have h1:Rep w γ (I x.1) u:=h.2 0 _ _ rfl rfl
  have h2:Rep w γ (I x.2) v:=h.2 1 _ _ rfl rfl
  cases h1;cases h2;rfl
 | [],h=>exact absurd h.1 (by simp [Qd])
 | [_],h=>exact absurd h.1 (by simp [Qd])
 | _::_::_::_,h=>exact absurd h.1 (by simp [Qd])
theorem fn_inv {w:World} {γ:G} {f:FuncId} {v:Value} (h:Rep w γ (.fn f [] []) v):v=.func (.func f) #[] #[]:=by
 cases h with
 | fn hl _ hl' _ =>
  rename_i fa ca _ _
  have e1:fa=#[]:=Array.eq_empty_of_size_eq_zero hl.symm
  have e2:ca=#[]:=Array.eq_empty_of_size_eq_zero hl'.symm
  rw [e1,e2]
theorem sortIv_eff (Y:YT) (d:List Sp) (hd:d.length<=1000000000) (m:AM) (id:Nat) (post:List AV) (hB:m.boxes[id]? = some (fl2 d++post)) (hne:fl2 d++post≠[]) (K:AV->AM->Prop)
  (hK:∀ d':List Sp,d'.Perm d->d'.Pairwise (fun a b=>a.1<=b.1)->K (.tup []) (m.wr id (fl2 d'++post))) :
  EffY Tryz.prog gl0 Y 143 [.bs id 0 d.length 2,.fn 144 [] []] m K:=by
 refine sort_call (α:=Int×Int) (d:=d) (more:=[.fn 144 [] []]) (sz:=2) (off:=0) code143.callable encV Qd (fun _=>rfl) (fun _ _ x=>repL_two x) (fun _ _ x _ h=>repL_int2 x h) (fun x v hv=>by simp [encV] at hv;rcases hv with rfl | rfl<;>rfl) hB hne
  ⟨[],post,by rw [fl2_flat];rfl,rfl⟩ (d2:=fun d'=>d'.Perm d/\d'.Pairwise fun a b=>a.1<=b.1) ?_ ?_
 ·intro w b cap mv γ hmv hH hblk
  obtain ⟨v,rfl,hv⟩:=Yb hmv
  have:=fn_inv hv
  subst this
  have eg:∀ args w,(callFunc 144 args).run Tryz.prog w=.ok (.enter 144 args) w:=enters_of Tryz.func144 (by kernel_rfl) rfl
  have hcon:=AnyQ.slices_SortFunc sortIv 2 Tryz.isAgg230 Tryz.sizeOf230 encV (fun _=>rfl) (fun x v hv=>by simp [encV] at hv;rcases hv with rfl | rfl<;>rfl) (fun x y=>Lib.compareInt x.1 y.1) swoLo 144 #[] b 0 cap d.toArray w eg (cmpLays165 b 0 _ w) hH hblk (by simp;omega)
  change Calls Tryz.prog 143 _ _ _ at hcon
  refine hcon.mono ?_
  rintro e w' ⟨rfl,d',n,os,hP,hS,rfl⟩
  obtain ⟨p1,_,p3⟩:=hP
  have hsz:d'.size=d.length:=by simpa using p1
  refine ⟨rfl,d'.toList,n,os,by simpa using hsz,⟨?_,?_⟩,by simp⟩
  ·have e1:d'.extract 0 d.toArray.size=d':=by rw [<- p1];simp
   rw [e1] at p3
   simpa using p3
  ·rw [List.pairwise_iff_getElem]
   intro i j hi hj hij
   have hi':i < d'.size:=by simpa using hi
   have hj':j < d'.size:=by simpa using hj
   have:=hS i j (Nat.zero_le _) hij (by simp;omega)
   rw [ltLo] at this
   simp only [getElem!_pos d' i hi',getElem!_pos d' j hj',decide_eq_false_iff_not,Int.not_lt] at this
   simpa using this
 ·rintro d' hl ⟨h1,h2⟩
  rw [fl2_flat,setA_pre _ _ _ (by rw [Vb,Vb,hl])]
  exact hK d' h1 h2
theorem sortIv_none (Y:YT) (rt:Rt) (m:AM) (K:AV->AM->Prop) (hK:K (.tup []) m):EffY Tryz.prog gl0 Y 143 [.sl rt [],.fn 144 [] []] m K:=by
 refine EffY.of_calls code143.callable fun N w0 ro0 γ w vs hm hl hr=>?_
 match vs,hr with
 | [u,v],hr =>
  have h1:Rep w γ (.sl rt []) u:=hr.2 0 _ _ rfl rfl
  cases h1 with
  | @sl _ _ _ a cap b off sz cv _ _ _ _ _ _ _ =>
   have hcon:=AnyF.slices_SortFunc_none { sortIv with } a cap v w
   change Calls Tryz.prog 143 _ _ _ at hcon
   refine hcon.mono ?_
   rintro e w' ⟨rfl,rfl⟩
   exact ⟨_,γ,_,m,rfl,(Ev.refl _ _).toR,hm,hl,rep_tup0,hK⟩
 | [],hr=>exact absurd hr.1 (by simp)
 | [_],hr=>exact absurd hr.1 (by simp)
 | _::_::_::_,hr=>exact absurd hr.1 (by simp)
def encI (x:Int):List Value:=[.int .i64 x]
theorem flat1 (d:Array Int):flatK encI 1 d=d.map (Value.int .i64):=by
 refine Array.ext (by simp) fun t h1 h2=>?_
 have ht:t < d.size:=by simpa using h2
 have:=get_flatK encI 1 d t (by simpa using ht)
 rw [getElem!_pos _ t h1] at this
 rw [this]
 have e2:d[t]! = d[t]:=getElem!_pos d t ht
 simp [Nat.div_one,Nat.mod_one,encI,ht]
theorem sortInt_eff (Y:YT) (d:List Int) (hd:d.length<=1000000000) (m:AM) (id:Nat) (post:List AV) (hB:m.boxes[id]? = some (intCells d++post)) (hne:intCells d++post≠[]) (K:AV->AM->Prop)
  (hK:K (.tup []) (m.wr id (intCells (d.mergeSort fun x y=>decide (x<=y))++post))) :
  EffY Tryz.prog gl0 Y 147 [.bs id 0 d.length 1] m K:=by
 have hflat:∀ l:List Int,(l.map fun x=>[I x]).flatten=intCells l:=by
  intro l
  induction l with
  | nil=>rfl
  | cons x l ih=>simp [intCells] at ih |-;exact ih
 refine sort_call (α:=Int) (d:=d) (more:=[]) (sz:=1) (off:=0) code147.callable encI (fun x=>[I x]) (fun _=>rfl) (fun _ _ x=>.cons (.int _ _) .nil) (fun w γ x vs h=>?_) (fun x v hv=>by simp [encI] at hv;subst hv;rfl) hB hne
  ⟨[],post,by rw [hflat];rfl,rfl⟩ (d2:=fun d'=>d'=d.mergeSort fun x y=>decide (x<=y)) ?_ ?_
 ·obtain ⟨v,rfl,hv⟩:=Yb h
  cases hv;rfl
 ·intro w b cap mv γ hmv hH hblk
  have:mv=[]:=List.length_eq_zero_iff.1 hmv.1.symm
  subst this
  have hH':Holds (Value.int .i64) w b 0 d.toArray:=by
   intro j hj
   unfold HoldsK at hH
   rw [flat1] at hH
   have:=hH j (by simpa using hj)
   have hj':j < d.length:=by simpa using hj
   simpa [hj'] using this
  have hcon:=AnyM.slices_Sort_int sortInt b 0 cap d w hH' hblk (by omega)
  change Calls Tryz.prog 147 _ _ _ at hcon
  refine hcon.mono ?_
  rintro e w' ⟨rfl,n,os,rfl⟩
  refine ⟨rfl,_,n,os,by simp,rfl,?_⟩
  unfold sortWorldK putRowK
  rw [flat1]
  congr 1
  unfold putRow
  refine mapBlock_congr _ _ _ _ fun c e fr _=>?_
  unfold putCells
  apply Array.ext_getElem?
  intro k
  simp only [Array.getElem?_mapIdx,Array.size_map]
  cases c[k]? with
  | none=>rfl
  | some x =>
   simp only [Option.map_some]
   congr 1
   by_cases hc:0<=k/\k < 0+(d.mergeSort fun x y=>decide (x<=y)).toArray.size
   ·rw [if_pos hc,if_pos hc]
    have hk:k < (d.mergeSort fun x y=>decide (x<=y)).toArray.size:=by omega
    have hk':k < ((d.mergeSort fun x y=>decide (x<=y)).toArray.map (Value.int .i64)).size:=by simpa using hk
    simp only [Nat.sub_zero]
    rw [getElem!_pos _ k hk,getElem!_pos _ k hk']
    simp
   ·rw [if_neg hc,if_neg hc]
 ·rintro d' hl rfl
  rw [hflat,setA_pre _ _ _ (by simp [intCells])]
  exact hK
theorem sortInt_none (Y:YT) (rt:Rt) (m:AM) (K:AV->AM->Prop) (hK:K (.tup []) m):EffY Tryz.prog gl0 Y 147 [.sl rt []] m K:=by
 refine EffY.of_calls code147.callable fun N w0 ro0 γ w vs hm hl hr=>?_
 obtain ⟨u,rfl,h1⟩:=Yb hr
 cases h1 with
 | @sl _ _ _ a cap b off sz cv _ _ _ _ _ _ _ =>
  have hcon:=AnyM.slices_Sort_int_none sortInt a cap w
  change Calls Tryz.prog 147 _ _ _ at hcon
  refine hcon.mono ?_
  rintro e w' ⟨rfl,rfl⟩
  exact ⟨_,γ,_,m,rfl,(Ev.refl _ _).toR,hm,hl,rep_tup0,hK⟩
end Go.Proofs.YtjmgelbfndnpjaaGreatDoor
