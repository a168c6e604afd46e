import Derived.Shelf.SortM.SortNone
import Derived.Shelf.SortM.Plain
import Derived.Test.YtkcnjajklnoahaaGreatDoorTYTcA
import Derived.Shelf.SlicesG.Cmp
import Derived.Shelf.SlSortCmp.NoneTotal
set_option linter.unusedVariables false
set_option linter.unusedSimpArgs false
set_option maxRecDepth 100000
set_option maxHeartbeats 64000000
namespace Go.Abs
open Go Go.RowKit Go.Sort Go.Proofs
theorem getElem_setL:∀ (vs:List Value) (o:Nat) (arr:Array Value) (k:Nat),o+vs.length<=arr.size->k < arr.size->(Qax arr o vs)[k]? = if o<=k/\k < o+vs.length then vs[k - o]? else arr[k]?
 | [],o,arr,k,_,_=>by rw [Qax,if_neg];simp
 | v::vs,o,arr,k,h,hk=>by
  simp only [List.length_cons] at h
  rw [Qax,getElem_setL vs (o+1) _ k (by simp;omega) (by simpa using hk)]
  by_cases h1:o+1<=k/\k < o+1+vs.length
  ·rw [if_pos h1,if_pos (by simp;omega)]
   obtain ⟨u,rfl⟩:∃ u,k=o+1+u:=⟨k - (o+1),by omega⟩
   rw [show o+1+u - o=u+1 by omega,List.getElem?_cons_succ];congr 1;omega
  ·rw [if_neg h1]
   by_cases h2:k=o
   ·subst h2
    rw [if_pos (by simp)]
    simp [Array.getElem?_setIfInBounds,hk]
   ·rw [if_neg (by simp;omega)]
    simp [Array.getElem?_setIfInBounds,Ne.symm h2]
theorem putRow_cells {α:Type} [Inhabited α] (enc:α->Value) (w:World) (b off:Nat) (d:Array α) {arr:Array Value} {e:TypeId} {f:Nat×Nat} (h:w.heap[b]? = some (.cells arr e f)) (hs:off+d.size<=arr.size) :
  (putRow enc w b off d).heap=(w.setCells b off (d.toList.map enc)).heap:=by
 apply Array.ext_getElem?
 intro k
 by_cases hk:k=b
 ·subst hk
  rw [Zp k _ off w arr e f h]
  have e1:(putRow enc w k off d).heap[k]? = some (.cells (putCells enc off d arr) e f):=by
   simp [putRow,mapBlock,Array.getElem?_modify,h,onCells]
  rw [e1]
  congr 2
  apply Array.ext_getElem?
  intro j
  by_cases hj:j < arr.size
  ·rw [getElem_setL _ off arr j (by simpa using hs) hj]
   simp only [putCells,Array.getElem?_mapIdx,List.length_map,Array.length_toList]
   by_cases hc:off<=j/\j < off+d.size
   ·rw [if_pos hc,Array.getElem?_eq_getElem hj]
    have hlt:j - off < d.size:=by omega
    simp [hc,hlt]
   ·rw [if_neg hc,Array.getElem?_eq_getElem hj]
    simp [hc]
  ·have s1:(putCells enc off d arr).size=arr.size:=by simp [putCells]
   have s2:=Ke (d.toList.map enc) arr off
   rw [Array.getElem?_eq_none (by omega),Array.getElem?_eq_none (by omega)]
 ·rw [Xf b _ off w k hk]
  simp [putRow,mapBlock,Array.getElem?_modify,Ne.symm hk]
section
variable {N:Nat} {w0:Bas} {ro0:Nat->Nat->Prop} {γ:G} {w:World}
theorem sort_end {m:AM} (hm:MSim N w0 ro0 γ w m.B m.L) (hl:LSim γ w m) {id b:Nat} {cells:List AV} (hB:m.boxes[id]? = some cells) (hne:cells≠[]) (hb:γ.β id=some b) {o:Nat} {xs:List AV} {vs:List Value}
  (ha:RepL w γ xs vs) (h1v:∀ v∈vs,v.oneCell'=true) {w':World} (hbel:Below (w.setCells b o vs).heap.size (w.setCells b o vs) w') :
  ∃ γ',EvR w γ w' γ'/\MSim N w0 ro0 γ' w' (m.wr id (setA cells o xs)).B (m.wr id (setA cells o xs)).L/\LSim γ' w' (m.wr id (setA cells o xs)):=by
 obtain ⟨arr,e,hh,hr,h1c⟩:=hm.box id cells b hB hb
 have h1:=hm.store hB hb hh hr h1c (o:=o) ha h1v hne
 have e1:=hm.ev_store hb o vs
 have e2:=h1.ev_below hbel
 have ev:=e1.trans e2
 refine ⟨_,ev.toR,?_,hl.mono' ev rfl⟩
 have h2:=h1.grow hbel
 rw [wr_B m id _ hB]
 exact h2
end
theorem sort_call {α:Type} [Inhabited α] {P:Program} {gl:Nat->AV} {Y:YT} {f:FuncId} (hc:callable P f) (enc:α->List Value) (encA:α->List AV) (sz:Nat) (hsz:∀ x,(enc x).length=sz)
  (hA:∀ (w:World) (γ:G) x,RepL w γ (encA x) (enc x)) (hinv:∀ (w:World) (γ:G) x vs,RepL w γ (encA x) vs->vs=enc x) (h1:∀ x,∀ v∈enc x,v.oneCell'=true)
  {m:AM} {id off:Nat} {d:List α} {more:List AV} {cells:List AV} (hB:m.boxes[id]? = some cells) (hne:cells≠[]) (hcells:∃ pre post,cells=pre++(d.map encA).flatten++post/\pre.length=off) {d2:List α->Prop} {K:AV->AM->Prop}
  (hcall:∀ (w:World) (b cap:Nat) (mv:List Value) (γ:G),RepL w γ more mv->HoldsK enc sz w b off d.toArray->b < w.heap.size->Calls P f (Value.slice (some ⟨b,off,none⟩) d.length cap::mv).toArray w fun e w' =>
   e=.returned (.tuple #[])/\∃ (d':List α) (n:Nat) (os:Array Obj),d'.length=d.length/\d2 d'/\w'=sortWorldK enc sz w b off n d'.toArray os)
  (hK:∀ d':List α,d'.length=d.length->d2 d'->K (.tup []) (m.wr id (setA cells off ((d'.map encA).flatten)))) :
  EffY P gl Y f (.bs id off d.length sz::more) m K:=by
 refine EffY.of_calls hc fun N w0 ro0 γ w vs hm hl hr=>?_
 match vs,hr with
 | [],hr=>exact absurd hr.1 (by simp)
 | v::mv,hr =>
 have hv:Rep w γ (.bs id off d.length sz) v:=hr.2 0 _ _ rfl rfl
 have hmv:RepL w γ more mv:=⟨by have:=hr.1;simpa using this,fun i x y h1 h2=>hr.2 (i+1) x y (by simpa using h1) (by simpa using h2)⟩
 cases hv with
 | @bs _ _ _ _ _ cap b arr e hb hle hh hs =>
 obtain ⟨arr',e',hh',hrp,h1c⟩:=hm.box id cells b hB hb
 rw [hh] at hh'
 cases hh'
 have hblk:b < w.heap.size:=lt_of_heap hh
 obtain ⟨pre,post,rfl,rfl⟩:=hcells
 have lenA:∀ x,(encA x).length=sz:=fun x=>by rw [(hA w γ x).1,hsz]
 have flen:∀ (l:List α),((l.map encA).flatten).length=l.length*sz:=by
  intro l
  induction l with
  | nil=>simp
  | cons x l ih=>simp [ih,lenA,Nat.add_mul];omega
 have hget:∀ i (hi:i < d.length),∀ c,c < sz->arr[pre.length+i*sz+c]? = some ((enc d[i])[c]?.getD undef):=by
  intro i hi c hcz
  have hsub:RepL w γ (encA d[i]) ((arr.toList.drop (pre.length+i*sz)).take sz):=by
   have hfl:((pre++(d.map encA).flatten++post).drop (pre.length+i*sz)).take sz=encA d[i]:=by
    have hd:d=d.take i++d[i]::d.drop (i+1):=by simp
    have:(d.map encA).flatten=((d.take i).map encA).flatten++(encA d[i]++((d.drop (i+1)).map encA).flatten):=by
     conv=>lhs;rw [hd]
     simp only [List.map_append,List.map_cons,List.flatten_append,List.flatten_cons]
    rw [this]
    rw [show pre++(((d.take i).map encA).flatten++(encA d[i]++((d.drop (i+1)).map encA).flatten))++post=(pre++((d.take i).map encA).flatten)++(encA d[i]++(((d.drop (i+1)).map encA).flatten++post)) by simp [List.append_assoc]]
    have hl1:(pre++((d.take i).map encA).flatten).length=pre.length+i*sz:=by
     rw [List.length_append,flen,List.length_take];congr 2;omega
    rw [<- hl1,List.drop_left,<- lenA d[i],List.take_left]
   refine ⟨?_,fun j x y hx hy=>?_⟩
   ·rw [lenA]
    have h3:pre.length+d.length*sz<=arr.size:=by
     have:=Nat.mul_le_mul_right sz hle;omega
    have h4:(i+1)*sz<=d.length*sz:=Nat.mul_le_mul_right sz (by omega)
    rw [Nat.add_mul,Nat.one_mul] at h4
    simp;omega
   ·rw [<- hfl] at hx
    rw [List.getElem?_take] at hx hy
    split at hx
    ·rw [if_pos (by assumption)] at hy
     rw [List.getElem?_drop] at hx hy
     exact hrp.2 _ x y hx hy
    ·cases hx
  have h5:=hinv w γ _ _ hsub
  have h6:((arr.toList.drop (pre.length+i*sz)).take sz)[c]? = (enc d[i])[c]? := by rw [h5]
  rw [List.getElem?_take,if_pos hcz,List.getElem?_drop] at h6
  have h7:(enc d[i])[c]? = some ((enc d[i])[c]'(by rw [hsz];exact hcz)):=List.getElem?_eq_getElem _
  rw [h7] at h6 |-
  simpa using h6
 have hH:HoldsK enc sz w b pre.length d.toArray:=by
  intro t ht
  rw [size_flatK] at ht
  simp only [List.size_toArray] at ht
  have k0:0 < sz:=by rcases Nat.eq_zero_or_pos sz with h | h;· rw [h] at ht;omega
                     · exact h
  have hq:t / sz < d.length:=Nat.div_lt_of_lt_mul (by rw [Nat.mul_comm];exact ht)
  have hr':t % sz < sz:=Nat.mod_lt _ k0
  rw [get_flatK enc sz _ t (by simpa using ht)]
  refine ⟨?_,Yt hh⟩
  rw [cell_of_block hh]
  have:=hget (t / sz) hq (t % sz) hr'
  rw [show pre.length+t / sz*sz+t % sz=pre.length+t by have:=Nat.div_add_mod t sz;rw [Nat.mul_comm] at this;omega] at this
  rw [this]
  have h8:d.toArray[t / sz]! = d[t / sz]:=by simp [hq]
  rw [h8]
  have h9:t % sz < (enc d[t / sz]).length:=by rw [hsz];exact hr'
  simp [h9]
 refine (hcall w b cap mv γ hmv hH hblk).mono ?_
 rintro e1 w' ⟨rfl,d',n,os,hd',hp,rfl⟩
 have hA':RepL w γ ((d'.map encA).flatten) ((d'.map enc).flatten):=by
  clear hp hd'
  induction d' with
  | nil=>simpa using RepL.nil
  | cons x l ih=>simpa using (hA w γ x).append ih
 have h1':∀ v∈(d'.map enc).flatten,v.oneCell'=true:=by
  intro v hv
  simp only [List.mem_flatten,List.mem_map] at hv
  obtain ⟨l,⟨x,_,rfl⟩,hv⟩:=hv
  exact h1 x v hv
 have hfk:(flatK enc sz d'.toArray).toList=(d'.map enc).flatten:=by
  have flenV:∀ (l:List α),((l.map enc).flatten).length=l.length*sz:=by
   intro l
   induction l with
   | nil=>simp
   | cons x l ih=>simp [ih,hsz,Nat.add_mul];omega
  apply List.ext_getElem?
  intro t
  by_cases ht:t < d'.length*sz
  ·have k0:0 < sz:=by rcases Nat.eq_zero_or_pos sz with h | h;· rw [h] at ht;omega
                      · exact h
   have hq:t / sz < d'.length:=Nat.div_lt_of_lt_mul (by rw [Nat.mul_comm];exact ht)
   have hr':t % sz < sz:=Nat.mod_lt _ k0
   have e2:(flatK enc sz d'.toArray).toList[t]? = some ((flatK enc sz d'.toArray)[t]!):=by
    have:t < (flatK enc sz d'.toArray).size:=by rw [size_flatK];simpa using ht
    rw [Array.getElem?_toList,Array.getElem?_eq_getElem this,getElem!_pos (flatK enc sz d'.toArray) t this]
   rw [e2,get_flatK enc sz _ t (by simpa using ht)]
   have h8:d'.toArray[t / sz]! = d'[t / sz]:=by simp [hq]
   rw [h8]
   have hd:d'=d'.take (t / sz)++d'[t / sz]::d'.drop (t / sz+1):=by simp
   have e3:(d'.map enc).flatten=((d'.take (t / sz)).map enc).flatten++(enc d'[t / sz]++((d'.drop (t / sz+1)).map enc).flatten):=by
    conv=>lhs;rw [hd]
    simp only [List.map_append,List.map_cons,List.flatten_append,List.flatten_cons]
   have hl1:(((d'.take (t / sz)).map enc).flatten).length=t / sz*sz:=by rw [flenV,List.length_take];congr 1;omega
   have e4:t=(((d'.take (t / sz)).map enc).flatten).length+t % sz:=by
    rw [hl1];have:=Nat.div_add_mod t sz;rw [Nat.mul_comm] at this;omega
   have h9:t % sz < (enc d'[t / sz]).length:=by rw [hsz];exact hr'
   rw [e3,List.getElem?_append_right (by omega),List.getElem?_append_left (by rw [hsz];omega)]
   rw [show t - (((d'.take (t / sz)).map enc).flatten).length=t % sz by omega]
   simp [h9]
  ·rw [List.getElem?_eq_none (by simp;omega),List.getElem?_eq_none (by rw [flenV];omega)]
 have harr:pre.length+d'.length*sz<=arr.size:=by
  have:=Nat.mul_le_mul_right sz hle;rw [hd'];omega
 have hheap:(sortWorldK enc sz w b pre.length n d'.toArray os).heap=(w.setCells b pre.length ((d'.map enc).flatten)).heap++os:=by
  have:=putRow_cells _root_.id (Sort.ahead w n) b pre.length (flatK enc sz d'.toArray) (arr:=arr) (e:=e) (f:=(0,0)) hh (by rw [size_flatK];simpa using harr)
  show (putRow _root_.id (Sort.ahead w n) b pre.length (flatK enc sz d'.toArray)).heap++os=_
  rw [this,List.map_id_fun,id_eq,hfk]
  congr 1
  have gen:∀ (vs:List Value) (o:Nat) (w1 w2:World),w1.heap=w2.heap->(w1.setCells b o vs).heap=(w2.setCells b o vs).heap:=by
   intro vs
   induction vs with
   | nil=>intro o w1 w2 h;exact h
   | cons v vs ih=>intro o w1 w2 h;exact ih (o+1) _ _ (by simp [World.setCell,h])
  exact gen _ _ _ _ rfl
 have hbel:Below (w.setCells b pre.length ((d'.map enc).flatten)).heap.size (w.setCells b pre.length ((d'.map enc).flatten)) (sortWorldK enc sz w b pre.length n d'.toArray os):=by
  have hb1:=Xw b (Nat.le_refl b) ((d'.map enc).flatten) pre.length w
  refine ⟨?_,?_,?_,by rw [hheap];simp,fun k hk=>?_⟩
  ·rw [hb1.os];rfl
  ·rw [hb1.tape];rfl
  ·rw [hb1.output];rfl
  ·rw [hheap,Array.getElem?_append_left hk]
 obtain ⟨γ',h3,h4,h5⟩:=sort_end hm hl hB hne hb (o:=pre.length) hA' h1' hbel
 exact ⟨_,γ',.tup [],_,rfl,h3,h4,h5,rep_tup0,hK d' hd' hp⟩
end Go.Abs
namespace Go.Proofs.YtkcnjajklnoahaaGreatDoor
open Go Go.Abs Go.Shelf Go.RowKit Go.Lib Go.Sort
def sortIv_ren:Go.Shelf.Ren:=⟨fun | 6=>155 | 15=>177 | 14=>176 | 28=>193 | 29=>194 | 20=>185 | 21=>186 | 22=>187 | 23=>188 | 24=>189 | 25=>190 | 26=>191 | 27=>192 | 46=>204 | 47=>205 | 48=>206 | 49=>207 | 50=>208 | 57=>212 | n=>n,fun | 22=>197 | 24=>171 | 25=>201 | 3=>3 | 39=>223 | 0=>0 | 53=>237 | 55=>172 | 4=>4 | 46=>231 | 45=>230 | 50=>81 | 5=>5 | 9=>9 | 66=>244 | 70=>247 | 76=>251 | 77=>205 | n=>n,fun | n=>n⟩
theorem sortIv:Go.Proofs.SlLaysF0.n6 Tryz.prog sortIv_ren:={
 mixed:=by kernel_rfl,
 f6:=⟨Tryz.f155.name,by decide,Tryz.func155.trans (congrArg some (by kernel_rfl))⟩,
 f14:=⟨Tryz.f176.name,by decide,Tryz.func176.trans (congrArg some (by kernel_rfl))⟩,
 f15:=Tryz.func177.trans (congrArg some (by kernel_rfl)),
 f20:=⟨Tryz.f185.name,by decide,Tryz.func185.trans (congrArg some (by kernel_rfl))⟩,
 f21:=⟨Tryz.f186.name,by decide,Tryz.func186.trans (congrArg some (by kernel_rfl))⟩,
 f22:=⟨Tryz.f187.name,by decide,Tryz.func187.trans (congrArg some (by kernel_rfl))⟩,
 f23:=⟨Tryz.f188.name,by decide,Tryz.func188.trans (congrArg some (by kernel_rfl))⟩,
 f24:=⟨Tryz.f189.name,by decide,Tryz.func189.trans (congrArg some (by kernel_rfl))⟩,
 f25:=⟨Tryz.f190.name,by decide,Tryz.func190.trans (congrArg some (by kernel_rfl))⟩,
 f26:=⟨Tryz.f191.name,by decide,Tryz.func191.trans (congrArg some (by kernel_rfl))⟩,
 f27:=⟨Tryz.f192.name,by decide,Tryz.func192.trans (congrArg some (by kernel_rfl))⟩,
 f28:=Tryz.func193.trans (congrArg some (by kernel_rfl)),
 f29:=Tryz.func194.trans (congrArg some (by kernel_rfl)),
 f46:=⟨Tryz.f204.name,by decide,Tryz.func204.trans (congrArg some (by kernel_rfl))⟩,
 f47:=Tryz.func205.trans (congrArg some (by kernel_rfl)),
 f48:=Tryz.func206.trans (congrArg some (by kernel_rfl)),
 f49:=⟨Tryz.f207.name,by decide,Tryz.func207.trans (congrArg some (by kernel_rfl))⟩,
 f50:=⟨Tryz.f208.name,by decide,Tryz.func208.trans (congrArg some (by kernel_rfl))⟩,
 f57:=⟨Tryz.f212.name,by decide,Tryz.func212.trans (congrArg some (by kernel_rfl))⟩,
 t0:=Tryz.underlying0,
 a0:=Tryz.isAgg0,
 z0:=Tryz.sizeOf0,
 v0:=Tryz.zeroValue0,
 t3:=Tryz.underlying3,
 a3:=Tryz.isAgg3,
 z3:=Tryz.sizeOf3,
 v3:=Tryz.zeroValue3,
 t4:=Tryz.underlying4,
 a4:=Tryz.isAgg4,
 z4:=Tryz.sizeOf4,
 v4:=Tryz.zeroValue4,
 t5:=Tryz.underlying5,
 a5:=Tryz.isAgg5,
 z5:=Tryz.sizeOf5,
 v5:=Tryz.zeroValue5,
 t9:=Tryz.underlying9,
 a9:=Tryz.isAgg9,
 z9:=Tryz.sizeOf9,
 v9:=Tryz.zeroValue9,
 t22:=Tryz.underlying197,
 a22:=Tryz.isAgg197,
 z22:=Tryz.sizeOf197,
 v22:=Tryz.zeroValue197,
 t25:=Tryz.underlying201,
 a25:=Tryz.isAgg201,
 z25:=Tryz.sizeOf201,
 v25:=Tryz.zeroValue201,
 t39:=Tryz.underlying223,
 a39:=Tryz.isAgg223,
 z39:=Tryz.sizeOf223,
 v39:=Tryz.zeroValue223,
 t45:=Tryz.underlying230,
 a45:=Tryz.isAgg230,
 z45:=Tryz.sizeOf230,
 v45:=Tryz.zeroValue230,
 t46:=Tryz.underlying231,
 a46:=Tryz.isAgg231,
 z46:=Tryz.sizeOf231,
 v46:=Tryz.zeroValue231,
 t50:=Tryz.underlying81,
 a50:=Tryz.isAgg81,
 z50:=Tryz.sizeOf81,
 v50:=Tryz.zeroValue81,
 t53:=Tryz.underlying237,
 a53:=Tryz.isAgg237,
 z53:=Tryz.sizeOf237,
 v53:=Tryz.zeroValue237,
 t55:=Tryz.underlying172,
 a55:=Tryz.isAgg172,
 z55:=Tryz.sizeOf172,
 v55:=Tryz.zeroValue172,
 t66:=Tryz.underlying244,
 a66:=Tryz.isAgg244,
 z66:=Tryz.sizeOf244,
 v66:=Tryz.zeroValue244,
 t70:=Tryz.underlying247,
 a70:=Tryz.isAgg247,
 z70:=Tryz.sizeOf247,
 v70:=Tryz.zeroValue247,
 t76:=Tryz.underlying251,
 a76:=Tryz.isAgg251,
 z76:=Tryz.sizeOf251,
 v76:=Tryz.zeroValue251,
 t77:=Tryz.underlying205,
 a77:=Tryz.isAgg205,
 z77:=Tryz.sizeOf205,
 v77:=Tryz.zeroValue205 }
def sortInt_ren:Go.Shelf.Ren:=⟨fun | 5=>164 | 8=>177 | 7=>181 | 19=>193 | 20=>194 | 10=>196 | 11=>197 | 12=>198 | 13=>199 | 14=>200 | 15=>201 | 16=>182 | 17=>202 | 18=>203 | 30=>209 | 31=>205 | 32=>206 | 33=>210 | 34=>211 | 35=>195 | 40=>213 | n=>n,fun | 23=>33 | 25=>3 | 3=>3 | 32=>223 | 22=>33 | 0=>0 | 44=>237 | 46=>172 | 4=>4 | 36=>231 | 35=>230 | 41=>81 | 5=>5 | 9=>9 | 53=>244 | 57=>247 | 63=>251 | 64=>205 | n=>n,fun | n=>n⟩
theorem sortInt:Go.Proofs.SlLaysM.n5 Tryz.prog sortInt_ren:={
 mixed:=by kernel_rfl,
 f5:=⟨Tryz.f164.name,by decide,Tryz.func164.trans (congrArg some (by kernel_rfl))⟩,
 f7:=⟨Tryz.f181.name,by decide,Tryz.func181.trans (congrArg some (by kernel_rfl))⟩,
 f8:=Tryz.func177.trans (congrArg some (by kernel_rfl)),
 f10:=⟨Tryz.f196.name,by decide,Tryz.func196.trans (congrArg some (by kernel_rfl))⟩,
 f11:=⟨Tryz.f197.name,by decide,Tryz.func197.trans (congrArg some (by kernel_rfl))⟩,
 f12:=⟨Tryz.f198.name,by decide,Tryz.func198.trans (congrArg some (by kernel_rfl))⟩,
 f13:=⟨Tryz.f199.name,by decide,Tryz.func199.trans (congrArg some (by kernel_rfl))⟩,
 f14:=⟨Tryz.f200.name,by decide,Tryz.func200.trans (congrArg some (by kernel_rfl))⟩,
 f15:=⟨Tryz.f201.name,by decide,Tryz.func201.trans (congrArg some (by kernel_rfl))⟩,
 f16:=⟨Tryz.f182.name,by decide,Tryz.func182.trans (congrArg some (by kernel_rfl))⟩,
 f17:=⟨Tryz.f202.name,by decide,Tryz.func202.trans (congrArg some (by kernel_rfl))⟩,
 f18:=⟨Tryz.f203.name,by decide,Tryz.func203.trans (congrArg some (by kernel_rfl))⟩,
 f19:=Tryz.func193.trans (congrArg some (by kernel_rfl)),
 f20:=Tryz.func194.trans (congrArg some (by kernel_rfl)),
 f30:=⟨Tryz.f209.name,by decide,Tryz.func209.trans (congrArg some (by kernel_rfl))⟩,
 f31:=Tryz.func205.trans (congrArg some (by kernel_rfl)),
 f32:=Tryz.func206.trans (congrArg some (by kernel_rfl)),
 f33:=⟨Tryz.f210.name,by decide,Tryz.func210.trans (congrArg some (by kernel_rfl))⟩,
 f34:=⟨Tryz.f211.name,by decide,Tryz.func211.trans (congrArg some (by kernel_rfl))⟩,
 f35:=⟨Tryz.f195.name,by decide,Tryz.func195.trans (congrArg some (by kernel_rfl))⟩,
 f40:=⟨Tryz.f213.name,by decide,Tryz.func213.trans (congrArg some (by kernel_rfl))⟩,
 t0:=Tryz.underlying0,
 a0:=Tryz.isAgg0,
 z0:=Tryz.sizeOf0,
 v0:=Tryz.zeroValue0,
 t3:=Tryz.underlying3,
 a3:=Tryz.isAgg3,
 z3:=Tryz.sizeOf3,
 v3:=Tryz.zeroValue3,
 t4:=Tryz.underlying4,
 a4:=Tryz.isAgg4,
 z4:=Tryz.sizeOf4,
 v4:=Tryz.zeroValue4,
 t5:=Tryz.underlying5,
 a5:=Tryz.isAgg5,
 z5:=Tryz.sizeOf5,
 v5:=Tryz.zeroValue5,
 t9:=Tryz.underlying9,
 a9:=Tryz.isAgg9,
 z9:=Tryz.sizeOf9,
 v9:=Tryz.zeroValue9,
 t22:=Tryz.underlying33,
 a22:=Tryz.isAgg33,
 z22:=Tryz.sizeOf33,
 v22:=Tryz.zeroValue33,
 t23:=Tryz.underlying33,
 a23:=Tryz.isAgg33,
 z23:=Tryz.sizeOf33,
 v23:=Tryz.zeroValue33,
 t25:=Tryz.underlying3,
 a25:=Tryz.isAgg3,
 z25:=Tryz.sizeOf3,
 v25:=Tryz.zeroValue3,
 t32:=Tryz.underlying223,
 a32:=Tryz.isAgg223,
 z32:=Tryz.sizeOf223,
 v32:=Tryz.zeroValue223,
 t35:=Tryz.underlying230,
 a35:=Tryz.isAgg230,
 z35:=Tryz.sizeOf230,
 v35:=Tryz.zeroValue230,
 t36:=Tryz.underlying231,
 a36:=Tryz.isAgg231,
 z36:=Tryz.sizeOf231,
 v36:=Tryz.zeroValue231,
 t41:=Tryz.underlying81,
 a41:=Tryz.isAgg81,
 z41:=Tryz.sizeOf81,
 v41:=Tryz.zeroValue81,
 t44:=Tryz.underlying237,
 a44:=Tryz.isAgg237,
 z44:=Tryz.sizeOf237,
 v44:=Tryz.zeroValue237,
 t46:=Tryz.underlying172,
 a46:=Tryz.isAgg172,
 z46:=Tryz.sizeOf172,
 v46:=Tryz.zeroValue172,
 t53:=Tryz.underlying244,
 a53:=Tryz.isAgg244,
 z53:=Tryz.sizeOf244,
 v53:=Tryz.zeroValue244,
 t57:=Tryz.underlying247,
 a57:=Tryz.isAgg247,
 z57:=Tryz.sizeOf247,
 v57:=Tryz.zeroValue247,
 t63:=Tryz.underlying251,
 a63:=Tryz.isAgg251,
 z63:=Tryz.sizeOf251,
 v63:=Tryz.zeroValue251,
 t64:=Tryz.underlying205,
 a64:=Tryz.isAgg205,
 z64:=Tryz.sizeOf205,
 v64:=Tryz.zeroValue205 }
def cmpInt_ren:Go.Shelf.Ren:=⟨fun | 5=>178 | 7=>195 | n=>n,fun | 22=>3 | 3=>3 | 4=>4 | n=>n,fun | n=>n⟩
theorem cmpInt:Go.Proofs.SlLaysC2.n5 Tryz.prog cmpInt_ren:={
 mixed:=by kernel_rfl,
 f5:=⟨Tryz.f178.name,by decide,Tryz.func178.trans (congrArg some (by kernel_rfl))⟩,
 f7:=⟨Tryz.f195.name,by decide,Tryz.func195.trans (congrArg some (by kernel_rfl))⟩,
 t3:=Tryz.underlying3,
 a3:=Tryz.isAgg3,
 z3:=Tryz.sizeOf3,
 v3:=Tryz.zeroValue3,
 t4:=Tryz.underlying4,
 a4:=Tryz.isAgg4,
 z4:=Tryz.sizeOf4,
 v4:=Tryz.zeroValue4,
 t22:=Tryz.underlying3,
 a22:=Tryz.isAgg3,
 z22:=Tryz.sizeOf3,
 v22:=Tryz.zeroValue3 }
def encV (x:Int×Int):List Value:=[.int .i64 x.1,.int .i64 x.2]
theorem closure165 (x y:Int×Int) (W:World):Calls Tryz.prog 156 #[.agg #[.int .i64 x.1,.int .i64 x.2],.agg #[.int .i64 y.1,.int .i64 y.2]] W fun e w'=>e=.returned (.int .i64 (Lib.compareInt x.1 y.1))/\∃ q os',w'=grow (W.drewN q) os':=by
 have hcon:=fun W'=>AnyG.cmp_Compare_int cmpInt x.1 y.1 W'
 change ∀ W',Calls Tryz.prog 178 _ _ _ at hcon
 generalize Lib.compareInt x.1 y.1=r at hcon |-
 go_enter Tryz.func156,Tryz.ntmps156
 go_wp2_with (go_at_call 178;refine (hcon _).mono ?_;rintro e w' ⟨rfl,rfl⟩)
 go_ret
 exact ⟨rfl,0,_,by rw [alloc_eq_grow,alloc_eq_grow,grow_grow];rfl⟩
theorem cmpLays165 (blk off size:Nat) (w:World):CmpLays Tryz.prog 156 #[] encV 2 (fun x y=>Lib.compareInt x.1 y.1) blk off size w :=
 fun _ _ _ _ x y=>closure165 x y _
theorem ltLo (x y:Int×Int):ltOf (fun x y:Int×Int=>Lib.compareInt x.1 y.1) x y=decide (x.1 < y.1):=by
 unfold ltOf Lib.compareInt
 by_cases h1:x.1 < y.1
 ·simp [h1]
 ·by_cases h2:y.1 < x.1<;>simp [h1,h2]
theorem swoLo:SWO (ltOf fun x y:Int×Int=>Lib.compareInt x.1 y.1) where
 irrefl x:=by rw [ltLo];simp
 trans x y z h1 h2:=by rw [ltLo] at *;simp at *;omega
 ntrans x y z h1 h2:=by rw [ltLo] at *;simp at *;omega
theorem repL_two {w:World} {γ:G} (x:Int×Int):RepL w γ (Qe x) (encV x):=.cons (.int _ _) (.cons (.int _ _) .nil)
theorem Uy {w:World} {γ:G} {a:AV} {vs:List Value} (h:RepL w γ [a] vs):∃ v,vs=[v]/\Rep w γ a v:=by
 match vs,h with
 | [v],h=>exact ⟨v,rfl,h.2 0 _ _ rfl rfl⟩
 | [],h=>exact absurd h.1 (by simp)
 | _::_::_,h=>exact absurd h.1 (by simp)
theorem repL_int2 {w:World} {γ:G} (x:Int×Int) {vs:List Value} (h:RepL w γ (Qe x) vs):vs=encV x:=by
 match vs,h with
 | [u,v],h =>
  have h1:Rep w γ (I x.1) u:=h.2 0 _ _ rfl rfl
  have h2:Rep w γ (I x.2) v:=h.2 1 _ _ rfl rfl
  cases h1;cases h2;rfl
 | [],h=>exact absurd h.1 (by simp [Qe])
 | [_],h=>exact absurd h.1 (by simp [Qe])
 | _::_::_::_,h=>exact absurd h.1 (by simp [Qe])
theorem fn_inv {w:World} {γ:G} {f:FuncId} {v:Value} (h:Rep w γ (.fn f [] []) v):v=.func (.func f) #[] #[]:=by
 cases h with
 | fn hl _ hl' _ =>
  rename_i fa ca _ _
  have e1:fa=#[]:=Array.eq_empty_of_size_eq_zero hl.symm
  have e2:ca=#[]:=Array.eq_empty_of_size_eq_zero hl'.symm
  rw [e1,e2]
theorem sortIv_eff (Y:YT) (d:List Sp) (hd:d.length<=1000000000) (m:AM) (id:Nat) (post:List AV) (hB:m.boxes[id]? = some (fl2 d++post)) (hne:fl2 d++post≠[]) (K:AV->AM->Prop)
  (hK:∀ d':List Sp,d'.Perm d->d'.Pairwise (fun a b=>a.1<=b.1)->K (.tup []) (m.wr id (fl2 d'++post))) :
  EffY Tryz.prog gl0 Y 155 [.bs id 0 d.length 2,.fn 156 [] []] m K:=by
 refine sort_call (α:=Int×Int) (d:=d) (more:=[.fn 156 [] []]) (sz:=2) (off:=0) code155.callable encV Qe (fun _=>rfl) (fun _ _ x=>repL_two x) (fun _ _ x _ h=>repL_int2 x h) (fun x v hv=>by simp [encV] at hv;rcases hv with rfl | rfl<;>rfl) hB hne
  ⟨[],post,by rw [fl2_flat];rfl,rfl⟩ (d2:=fun d'=>d'.Perm d/\d'.Pairwise fun a b=>a.1<=b.1) ?_ ?_
 ·intro w b cap mv γ hmv hH hblk
  obtain ⟨v,rfl,hv⟩:=Uy hmv
  have:=fn_inv hv
  subst this
  have eg:∀ args w,(callFunc 156 args).run Tryz.prog w=.ok (.enter 156 args) w:=enters_of Tryz.func156 (by kernel_rfl) rfl
  have hcon:=AnyQ.slices_SortFunc sortIv 2 Tryz.isAgg171 Tryz.sizeOf171 encV (fun _=>rfl) (fun x v hv=>by simp [encV] at hv;rcases hv with rfl | rfl<;>rfl) (fun x y=>Lib.compareInt x.1 y.1) swoLo 156 #[] b 0 cap d.toArray w eg (cmpLays165 b 0 _ w) hH hblk (by simp;omega)
  change Calls Tryz.prog 155 _ _ _ at hcon
  refine hcon.mono ?_
  rintro e w' ⟨rfl,d',n,os,hP,hS,rfl⟩
  obtain ⟨p1,_,p3⟩:=hP
  have hsz:d'.size=d.length:=by simpa using p1
  refine ⟨rfl,d'.toList,n,os,by simpa using hsz,⟨?_,?_⟩,by simp⟩
  ·have e1:d'.extract 0 d.toArray.size=d':=by rw [<- p1];simp
   rw [e1] at p3
   simpa using p3
  ·rw [List.pairwise_iff_getElem]
   intro i j hi hj hij
   have hi':i < d'.size:=by simpa using hi
   have hj':j < d'.size:=by simpa using hj
   have:=hS i j (Nat.zero_le _) hij (by simp;omega)
   rw [ltLo] at this
   simp only [getElem!_pos d' i hi',getElem!_pos d' j hj',decide_eq_false_iff_not,Int.not_lt] at this
   simpa using this
 ·rintro d' hl ⟨h1,h2⟩
  rw [fl2_flat,setA_pre _ _ _ (by rw [Zv,Zv,hl])]
  exact hK d' h1 h2
theorem sortIv_none (Y:YT) (rt:Rt) (m:AM) (K:AV->AM->Prop) (hK:K (.tup []) m):EffY Tryz.prog gl0 Y 155 [.sl rt [],.fn 156 [] []] m K:=by
 refine EffY.of_calls code155.callable fun N w0 ro0 γ w vs hm hl hr=>?_
 match vs,hr with
 | [u,v],hr =>
  have h1:Rep w γ (.sl rt []) u:=hr.2 0 _ _ rfl rfl
  cases h1 with
  | @sl _ _ _ a cap b off sz cv _ _ _ _ _ _ _ =>
   have hcon:=AnyF.slices_SortFunc_none { sortIv with } a cap v w
   change Calls Tryz.prog 155 _ _ _ at hcon
   refine hcon.mono ?_
   rintro e w' ⟨rfl,rfl⟩
   exact ⟨_,γ,_,m,rfl,(Ev.refl _ _).toR,hm,hl,rep_tup0,hK⟩
 | [],hr=>exact absurd hr.1 (by simp)
 | [_],hr=>exact absurd hr.1 (by simp)
 | _::_::_::_,hr=>exact absurd hr.1 (by simp)
def encI (x:Int):List Value:=[.int .i64 x]
theorem flat1 (d:Array Int):flatK encI 1 d=d.map (Value.int .i64):=by
 refine Array.ext (by simp) fun t h1 h2=>?_
 have ht:t < d.size:=by simpa using h2
 have:=get_flatK encI 1 d t (by simpa using ht)
 rw [getElem!_pos _ t h1] at this
 rw [this]
 have e2:d[t]! = d[t]:=getElem!_pos d t ht
 simp [Nat.div_one,Nat.mod_one,encI,ht]
theorem sortInt_eff (Y:YT) (d:List Int) (hd:d.length<=1000000000) (m:AM) (id:Nat) (post:List AV) (hB:m.boxes[id]? = some (intCells d++post)) (hne:intCells d++post≠[]) (K:AV->AM->Prop)
  (hK:K (.tup []) (m.wr id (intCells (d.mergeSort fun x y=>decide (x<=y))++post))) :
  EffY Tryz.prog gl0 Y 164 [.bs id 0 d.length 1] m K:=by
 have hflat:∀ l:List Int,(l.map fun x=>[I x]).flatten=intCells l:=by
  intro l
  induction l with
  | nil=>rfl
  | cons x l ih=>simp [intCells] at ih |-;exact ih
 refine sort_call (α:=Int) (d:=d) (more:=[]) (sz:=1) (off:=0) code164.callable encI (fun x=>[I x]) (fun _=>rfl) (fun _ _ x=>.cons (.int _ _) .nil) (fun w γ x vs h=>?_) (fun x v hv=>by simp [encI] at hv;subst hv;rfl) hB hne
  ⟨[],post,by rw [hflat];rfl,rfl⟩ (d2:=fun d'=>d'=d.mergeSort fun x y=>decide (x<=y)) ?_ ?_
 ·obtain ⟨v,rfl,hv⟩:=Uy h
  cases hv;rfl
 ·intro w b cap mv γ hmv hH hblk
  have:mv=[]:=List.length_eq_zero_iff.1 hmv.1.symm
  subst this
  have hH':Holds (Value.int .i64) w b 0 d.toArray:=by
   intro j hj
   unfold HoldsK at hH
   rw [flat1] at hH
   have:=hH j (by simpa using hj)
   have hj':j < d.length:=by simpa using hj
   simpa [hj'] using this
  have hcon:=AnyM.slices_Sort_int sortInt b 0 cap d w hH' hblk (by omega)
  change Calls Tryz.prog 164 _ _ _ at hcon
  refine hcon.mono ?_
  rintro e w' ⟨rfl,n,os,rfl⟩
  refine ⟨rfl,_,n,os,by simp,rfl,?_⟩
  unfold sortWorldK putRowK
  rw [flat1]
  congr 1
  unfold putRow
  refine mapBlock_congr _ _ _ _ fun c e fr _=>?_
  unfold putCells
  apply Array.ext_getElem?
  intro k
  simp only [Array.getElem?_mapIdx,Array.size_map]
  cases c[k]? with
  | none=>rfl
  | some x =>
   simp only [Option.map_some]
   congr 1
   by_cases hc:0<=k/\k < 0+(d.mergeSort fun x y=>decide (x<=y)).toArray.size
   ·rw [if_pos hc,if_pos hc]
    have hk:k < (d.mergeSort fun x y=>decide (x<=y)).toArray.size:=by omega
    have hk':k < ((d.mergeSort fun x y=>decide (x<=y)).toArray.map (Value.int .i64)).size:=by simpa using hk
    simp only [Nat.sub_zero]
    rw [getElem!_pos _ k hk,getElem!_pos _ k hk']
    simp
   ·rw [if_neg hc,if_neg hc]
 ·rintro d' hl rfl
  rw [hflat,setA_pre _ _ _ (by simp [intCells])]
  exact hK
theorem sortInt_none (Y:YT) (rt:Rt) (m:AM) (K:AV->AM->Prop) (hK:K (.tup []) m):EffY Tryz.prog gl0 Y 164 [.sl rt []] m K:=by
 refine EffY.of_calls code164.callable fun N w0 ro0 γ w vs hm hl hr=>?_
 obtain ⟨u,rfl,h1⟩:=Uy hr
 cases h1 with
 | @sl _ _ _ a cap b off sz cv _ _ _ _ _ _ _ =>
  have hcon:=AnyM.slices_Sort_int_none sortInt a cap w
  change Calls Tryz.prog 164 _ _ _ at hcon
  refine hcon.mono ?_
  rintro e w' ⟨rfl,rfl⟩
  exact ⟨_,γ,_,m,rfl,(Ev.refl _ _).toR,hm,hl,rep_tup0,hK⟩
end Go.Proofs.YtkcnjajklnoahaaGreatDoor
