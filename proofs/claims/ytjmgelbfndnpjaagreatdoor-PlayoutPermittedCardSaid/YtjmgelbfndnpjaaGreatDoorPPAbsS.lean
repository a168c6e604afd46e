import Derived.Test.YtjmgelbfndnpjaaGreatDoorPPMH
import Derived.Shelf.SlSortCmp.WholeK
import Derived.Shelf.SortM.SortNone
import Derived.Shelf.SortM.Plain
set_option linter.unusedVariables false
set_option linter.unusedSimpArgs false
namespace Go.Abs
open Go Go.RowKit Go.Sort Go.Proofs
theorem getElem_setL:∀ (vs:List Value) (o:Nat) (arr:Array Value) (k:Nat),o+vs.length<=arr.size->k < arr.size->(Kt arr o vs)[k]? = if o<=k/\k < o+vs.length then vs[k - o]? else arr[k]?
 | [],o,arr,k,_,_=>by rw [Kt,if_neg];simp
 | v::vs,o,arr,k,h,hk=>by
  simp only [List.length_cons] at h
  rw [Kt,getElem_setL vs (o+1) _ k (by simp;omega) (by simpa using hk)]
  by_cases h1:o+1<=k/\k < o+1+vs.length
  ·rw [if_pos h1,if_pos (by simp;omega)]
   obtain ⟨u,rfl⟩:∃ u,k=o+1+u:=⟨k - (o+1),by omega⟩
   rw [show o+1+u - o=u+1 by omega,List.getElem?_cons_succ];congr 1;omega
  ·rw [if_neg h1]
   by_cases h2:k=o
   ·subst h2
    rw [if_pos (by simp)]
    simp [Array.getElem?_setIfInBounds,hk]
   ·rw [if_neg (by simp;omega)]
    simp [Array.getElem?_setIfInBounds,Ne.symm h2]
theorem putRow_cells {α:Type} [Inhabited α] (enc:α->Value) (w:World) (b off:Nat) (d:Array α) {arr:Array Value} {e:TypeId} {f:Nat×Nat} (h:w.heap[b]? = some (.cells arr e f)) (hs:off+d.size<=arr.size) :
  (putRow enc w b off d).heap=(w.setCells b off (d.toList.map enc)).heap:=by
 apply Array.ext_getElem?
 intro k
 by_cases hk:k=b
 ·subst hk
  rw [Xr k _ off w arr e f h]
  have e1:(putRow enc w k off d).heap[k]? = some (.cells (putCells enc off d arr) e f):=by
   simp [putRow,mapBlock,Array.getElem?_modify,h,onCells]
  rw [e1]
  congr 2
  apply Array.ext_getElem?
  intro j
  by_cases hj:j < arr.size
  ·rw [getElem_setL _ off arr j (by simpa using hs) hj]
   simp only [putCells,Array.getElem?_mapIdx,List.length_map,Array.length_toList]
   by_cases hc:off<=j/\j < off+d.size
   ·rw [if_pos hc,Array.getElem?_eq_getElem hj]
    have hlt:j - off < d.size:=by omega
    simp [hc,hlt]
   ·rw [if_neg hc,Array.getElem?_eq_getElem hj]
    simp [hc]
  ·have s1:(putCells enc off d arr).size=arr.size:=by simp [putCells]
   have s2:=Um (d.toList.map enc) arr off
   rw [Array.getElem?_eq_none (by omega),Array.getElem?_eq_none (by omega)]
 ·rw [Qu b _ off w k hk]
  simp [putRow,mapBlock,Array.getElem?_modify,Ne.symm hk]
section
variable {N:Nat} {w0:Bas} {ro0:Nat->Nat->Prop} {γ:G} {w:World}
theorem sort_end {m:AM} (hm:MSim N w0 ro0 γ w m.B m.L) (hl:LSim γ w m) {id b:Nat} {cells:List AV} (hB:m.boxes[id]? = some cells) (hne:cells≠[]) (hb:γ.β id=some b) {o:Nat} {xs:List AV} {vs:List Value}
  (ha:RepL w γ xs vs) (h1v:∀ v∈vs,v.oneCell'=true) {w':World} (hbel:Below (w.setCells b o vs).heap.size (w.setCells b o vs) w') :
  ∃ γ',EvR w γ w' γ'/\MSim N w0 ro0 γ' w' (m.wr id (setA cells o xs)).B (m.wr id (setA cells o xs)).L/\LSim γ' w' (m.wr id (setA cells o xs)):=by
 obtain ⟨arr,e,hh,hr,h1c⟩:=hm.box id cells b hB hb
 have h1:=hm.store hB hb hh hr h1c (o:=o) ha h1v hne
 have e1:=hm.ev_store hb o vs
 have e2:=h1.ev_below hbel
 have ev:=e1.trans e2
 refine ⟨_,ev.toR,?_,hl.mono' ev rfl⟩
 have h2:=h1.grow hbel
 rw [wr_B m id _ hB]
 exact h2
end
theorem sort_call {α:Type} [Inhabited α] {P:Program} {gl:Nat->AV} {Y:YT} {f:FuncId} (hc:callable P f) (enc:α->List Value) (encA:α->List AV) (sz:Nat) (hsz:∀ x,(enc x).length=sz)
  (hA:∀ (w:World) (γ:G) x,RepL w γ (encA x) (enc x)) (hinv:∀ (w:World) (γ:G) x vs,RepL w γ (encA x) vs->vs=enc x) (h1:∀ x,∀ v∈enc x,v.oneCell'=true)
  {m:AM} {id off:Nat} {d:List α} {more:List AV} {cells:List AV} (hB:m.boxes[id]? = some cells) (hne:cells≠[]) (hcells:∃ pre post,cells=pre++(d.map encA).flatten++post/\pre.length=off) {d2:List α->Prop} {K:AV->AM->Prop}
  (hcall:∀ (w:World) (b cap:Nat) (mv:List Value) (γ:G),RepL w γ more mv->HoldsK enc sz w b off d.toArray->b < w.heap.size->Calls P f (Value.slice (some ⟨b,off,none⟩) d.length cap::mv).toArray w fun e w' =>
   e=.returned (.tuple #[])/\∃ (d':List α) (n:Nat) (os:Array Obj),d'.length=d.length/\d2 d'/\w'=sortWorldK enc sz w b off n d'.toArray os)
  (hK:∀ d':List α,d'.length=d.length->d2 d'->K (.tup []) (m.wr id (setA cells off ((d'.map encA).flatten)))) :
  EffY P gl Y f (.bs id off d.length sz::more) m K:=by
 refine EffY.of_calls hc fun N w0 ro0 γ w vs hm hl hr=>?_
 match vs,hr with
 | [],hr=>exact absurd hr.1 (by simp)
 | v::mv,hr =>
 have hv:Rep w γ (.bs id off d.length sz) v:=hr.2 0 _ _ rfl rfl
 have hmv:RepL w γ more mv:=⟨by have:=hr.1;simpa using this,fun i x y h1 h2=>hr.2 (i+1) x y (by simpa using h1) (by simpa using h2)⟩
 cases hv with
 | @bs _ _ _ _ _ cap b arr e hb hle hh hs =>
 obtain ⟨arr',e',hh',hrp,h1c⟩:=hm.box id cells b hB hb
 rw [hh] at hh'
 cases hh'
 have hblk:b < w.heap.size:=lt_of_heap hh
 obtain ⟨pre,post,rfl,rfl⟩:=hcells
 have lenA:∀ x,(encA x).length=sz:=fun x=>by rw [(hA w γ x).1,hsz]
 have flen:∀ (l:List α),((l.map encA).flatten).length=l.length*sz:=by
  intro l
  induction l with
  | nil=>simp
  | cons x l ih=>simp [ih,lenA,Nat.add_mul];omega
 have hget:∀ i (hi:i < d.length),∀ c,c < sz->arr[pre.length+i*sz+c]? = some ((enc d[i])[c]?.getD undef):=by
  intro i hi c hcz
  have hsub:RepL w γ (encA d[i]) ((arr.toList.drop (pre.length+i*sz)).take sz):=by
   have hfl:((pre++(d.map encA).flatten++post).drop (pre.length+i*sz)).take sz=encA d[i]:=by
    have hd:d=d.take i++d[i]::d.drop (i+1):=by simp
    have:(d.map encA).flatten=((d.take i).map encA).flatten++(encA d[i]++((d.drop (i+1)).map encA).flatten):=by
     conv=>lhs;rw [hd]
     simp only [List.map_append,List.map_cons,List.flatten_append,List.flatten_cons]
    rw [this]
    rw [show pre++(((d.take i).map encA).flatten++(encA d[i]++((d.drop (i+1)).map encA).flatten))++post=(pre++((d.take i).map encA).flatten)++(encA d[i]++(((d.drop (i+1)).map encA).flatten++post)) by simp [List.append_assoc]]
    have hl1:(pre++((d.take i).map encA).flatten).length=pre.length+i*sz:=by
     rw [List.length_append,flen,List.length_take];congr 2;omega
    rw [<- hl1,List.drop_left,<- lenA d[i],List.take_left]
   refine ⟨?_,fun j x y hx hy=>?_⟩
   ·rw [lenA]
    have h3:pre.length+d.length*sz<=arr.size:=by
     have:=Nat.mul_le_mul_right sz hle;omega
    have h4:(i+1)*sz<=d.length*sz:=Nat.mul_le_mul_right sz (by omega)
    rw [Nat.add_mul,Nat.one_mul] at h4
    simp;omega
   ·rw [<- hfl] at hx
    rw [List.getElem?_take] at hx hy
    split at hx
    ·rw [if_pos (by assumption)] at hy
     rw [List.getElem?_drop] at hx hy
     exact hrp.2 _ x y hx hy
    ·cases hx
  have h5:=hinv w γ _ _ hsub
  have h6:((arr.toList.drop (pre.length+i*sz)).take sz)[c]? = (enc d[i])[c]? := by rw [h5]
  rw [List.getElem?_take,if_pos hcz,List.getElem?_drop] at h6
  have h7:(enc d[i])[c]? = some ((enc d[i])[c]'(by rw [hsz];exact hcz)):=List.getElem?_eq_getElem _
  rw [h7] at h6 |-
  simpa using h6
 have hH:HoldsK enc sz w b pre.length d.toArray:=by
  intro t ht
  rw [size_flatK] at ht
  simp only [List.size_toArray] at ht
  have k0:0 < sz:=by rcases Nat.eq_zero_or_pos sz with h | h;· rw [h] at ht;omega
                     · exact h
  have hq:t / sz < d.length:=Nat.div_lt_of_lt_mul (by rw [Nat.mul_comm];exact ht)
  have hr':t % sz < sz:=Nat.mod_lt _ k0
  rw [get_flatK enc sz _ t (by simpa using ht)]
  refine ⟨?_,Vv hh⟩
  rw [cell_of_block hh]
  have:=hget (t / sz) hq (t % sz) hr'
  rw [show pre.length+t / sz*sz+t % sz=pre.length+t by have:=Nat.div_add_mod t sz;rw [Nat.mul_comm] at this;omega] at this
  rw [this]
  have h8:d.toArray[t / sz]! = d[t / sz]:=by simp [hq]
  rw [h8]
  have h9:t % sz < (enc d[t / sz]).length:=by rw [hsz];exact hr'
  simp [h9]
 refine (hcall w b cap mv γ hmv hH hblk).mono ?_
 rintro e1 w' ⟨rfl,d',n,os,hd',hp,rfl⟩
 have hA':RepL w γ ((d'.map encA).flatten) ((d'.map enc).flatten):=by
  clear hp hd'
  induction d' with
  | nil=>simpa using RepL.nil
  | cons x l ih=>simpa using (hA w γ x).append ih
 have h1':∀ v∈(d'.map enc).flatten,v.oneCell'=true:=by
  intro v hv
  simp only [List.mem_flatten,List.mem_map] at hv
  obtain ⟨l,⟨x,_,rfl⟩,hv⟩:=hv
  exact h1 x v hv
 have hfk:(flatK enc sz d'.toArray).toList=(d'.map enc).flatten:=by
  have flenV:∀ (l:List α),((l.map enc).flatten).length=l.length*sz:=by
   intro l
   induction l with
   | nil=>simp
   | cons x l ih=>simp [ih,hsz,Nat.add_mul];omega
  apply List.ext_getElem?
  intro t
  by_cases ht:t < d'.length*sz
  ·have k0:0 < sz:=by rcases Nat.eq_zero_or_pos sz with h | h;· rw [h] at ht;omega
                      · exact h
   have hq:t / sz < d'.length:=Nat.div_lt_of_lt_mul (by rw [Nat.mul_comm];exact ht)
   have hr':t % sz < sz:=Nat.mod_lt _ k0
   have e2:(flatK enc sz d'.toArray).toList[t]? = some ((flatK enc sz d'.toArray)[t]!):=by
    have:t < (flatK enc sz d'.toArray).size:=by rw [size_flatK];simpa using ht
    rw [Array.getElem?_toList,Array.getElem?_eq_getElem this,getElem!_pos (flatK enc sz d'.toArray) t this]
   rw [e2,get_flatK enc sz _ t (by simpa using ht)]
   have h8:d'.toArray[t / sz]! = d'[t / sz]:=by simp [hq]
   rw [h8]
   have hd:d'=d'.take (t / sz)++d'[t / sz]::d'.drop (t / sz+1):=by simp
   have e3:(d'.map enc).flatten=((d'.take (t / sz)).map enc).flatten++(enc d'[t / sz]++((d'.drop (t / sz+1)).map enc).flatten):=by
    conv=>lhs;rw [hd]
    simp only [List.map_append,List.map_cons,List.flatten_append,List.flatten_cons]
   have hl1:(((d'.take (t / sz)).map enc).flatten).length=t / sz*sz:=by rw [flenV,List.length_take];congr 1;omega
   have e4:t=(((d'.take (t / sz)).map enc).flatten).length+t % sz:=by
    rw [hl1];have:=Nat.div_add_mod t sz;rw [Nat.mul_comm] at this;omega
   have h9:t % sz < (enc d'[t / sz]).length:=by rw [hsz];exact hr'
   rw [e3,List.getElem?_append_right (by omega),List.getElem?_append_left (by rw [hsz];omega)]
   rw [show t - (((d'.take (t / sz)).map enc).flatten).length=t % sz by omega]
   simp [h9]
  ·rw [List.getElem?_eq_none (by simp;omega),List.getElem?_eq_none (by rw [flenV];omega)]
 have harr:pre.length+d'.length*sz<=arr.size:=by
  have:=Nat.mul_le_mul_right sz hle;rw [hd'];omega
 have hheap:(sortWorldK enc sz w b pre.length n d'.toArray os).heap=(w.setCells b pre.length ((d'.map enc).flatten)).heap++os:=by
  have:=putRow_cells _root_.id (Sort.ahead w n) b pre.length (flatK enc sz d'.toArray) (arr:=arr) (e:=e) (f:=(0,0)) hh (by rw [size_flatK];simpa using harr)
  show (putRow _root_.id (Sort.ahead w n) b pre.length (flatK enc sz d'.toArray)).heap++os=_
  rw [this,List.map_id_fun,id_eq,hfk]
  congr 1
  have gen:∀ (vs:List Value) (o:Nat) (w1 w2:World),w1.heap=w2.heap->(w1.setCells b o vs).heap=(w2.setCells b o vs).heap:=by
   intro vs
   induction vs with
   | nil=>intro o w1 w2 h;exact h
   | cons v vs ih=>intro o w1 w2 h;exact ih (o+1) _ _ (by simp [World.setCell,h])
  exact gen _ _ _ _ rfl
 have hbel:Below (w.setCells b pre.length ((d'.map enc).flatten)).heap.size (w.setCells b pre.length ((d'.map enc).flatten)) (sortWorldK enc sz w b pre.length n d'.toArray os):=by
  have hb1:=Xi b (Nat.le_refl b) ((d'.map enc).flatten) pre.length w
  refine ⟨?_,?_,?_,by rw [hheap];simp,fun k hk=>?_⟩
  ·rw [hb1.os];rfl
  ·rw [hb1.tape];rfl
  ·rw [hb1.output];rfl
  ·rw [hheap,Array.getElem?_append_left hk]
 obtain ⟨γ',h3,h4,h5⟩:=sort_end hm hl hB hne hb (o:=pre.length) hA' h1' hbel
 exact ⟨_,γ',.tup [],_,rfl,h3,h4,h5,rep_tup0,hK d' hd' hp⟩
end Go.Abs
