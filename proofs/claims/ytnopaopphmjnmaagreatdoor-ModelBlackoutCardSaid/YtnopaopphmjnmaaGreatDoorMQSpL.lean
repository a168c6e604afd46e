import Derived.Shelf.SortM.SortNone
import Derived.Shelf.SortM.Plain
import Derived.Test.YtnopaopphmjnmaaGreatDoorMQTcA
import Derived.Shelf.SlicesG.Cmp
import Derived.Shelf.SlSortCmp.NoneTotal
set_option linter.all false
set_option maxRecDepth 100000
set_option maxHeartbeats 64000000
namespace Go.Abs
open Go Go.RowKit Go.Sort Go.Proofs
def qx:∀(vs:List Value)(o:Nat)(arr:Array Value)(k:Nat),o+vs.length<=arr.size->k<arr.size->(tZ arr o vs)[k]?=if o<=k/\k<o+vs.length then vs[k-o]? else arr[k]?
 |[],o,arr,k,_,_=>by rw[tZ,if_neg];simp
 |v::vs,o,arr,k,h,hk=>by
  simp only[zzbe]at h;rw[tZ,qx vs (o+1) _ k (by simp;omega) (by simpa using hk)];by_cases h1:o+1<=k/\k<o+1+vs.length
  ·rw[if_pos h1,if_pos (by simp;omega)];obtain⟨u,rfl⟩:∃u,k=o+1+u:=⟨k-(o+1),zE⟩;rw[show o+1+u-o=u+1 by omega,zzdh];congr 1;omega
  rw[if_neg h1];by_cases h2:k=o
  ·subst h2;rw[if_pos zd];simp[zzeu,hk]
  rw[if_neg (by simp;omega)];simp[zzeu,Ne.symm h2]
def ED{α:Type}[Inhabited α](enc:α->Value)(w:World)(b off:Nat)(d:Array α){arr:Array Value}{e:TypeId}{f:Nat×Nat}(h:w.heap[b]?=some (.cells arr e f))(hs:off+d.size<=arr.size):
  (putRow enc w b off d).heap=(w.setCells b off (d.toList.map enc)).heap:=by
 apply zzgk;intro k;by_cases hk:k=b
 ·subst hk;rw[Xb k _ off w arr e f h]
  have e1:(putRow enc w k off d).heap[k]?=some (.cells (putCells enc off d arr) e f):=by
   simp[putRow,mapBlock,zzet,h,onCells]
  rw[e1];congr 2;apply zzgk;intro j;by_cases hj:j<arr.size
  ·rw[qx _ off arr j (by simpa using hs) hj];simp only[putCells,zzhr,zzbj,zzbk];by_cases hc:off<=j/\j<off+d.size
   ·rw[if_pos hc,zzaj hj];have ai:j-off<d.size:=zE
    simp[hc,ai]
   rw[if_neg hc,zzaj hj];simp[hc]
  have s1:(putCells enc off d arr).size=arr.size:=by simp[putCells]
  have s2:=Vd (d.toList.map enc) arr off;rw[zzcv zE,zzcv zE]
 rw[Qx b _ off w k hk];simp[putRow,mapBlock,zzet,Ne.symm hk]
section
variable {N:Nat} {w0:fF} {aq:Nat->Nat->Prop} {γ:G} {w:World}
def ach{m:AM}(hm:au N w0 aq γ w m.B m.L)(hl:cZ γ w m){id b:Nat}{cells:List AV}(hB:m.boxes[id]?=some cells)(aM:cells≠[])(hb:γ.β id=some b){o:Nat}{xs:List AV}{vs:List Value}
  (ha:ak w γ xs vs)(h1v:∀v∈vs,v.oneCell'=true){w':World}(ahS:Below (w.setCells b o vs).heap.size (w.setCells b o vs) w'):
  ∃γ',eP w γ w' γ'/\au N w0 aq γ' w' (m.wr id (setA cells o xs)).B (m.wr id (setA cells o xs)).L/\cZ γ' w' (m.wr id (setA cells o xs)):=by
 obtain⟨arr,e,hh,hr,Q5⟩:=hm.box id cells b hB hb;have h1:=hm.store hB hb hh hr Q5 (o:=o) ha h1v aM;have e1:=hm.cG hb o vs;have e2:=h1.dA ahS;have ev:=e1.trans e2;refine⟨_,ev.cK,?_,hl.mono' ev rfl⟩;have h2:=h1.grow ahS;rw[ayb m id _ hB];exact h2
end
def Cj{α:Type}[Inhabited α]{P:Program}{gl:Nat->AV}{Y:YT}{f:FuncId}(hc:bD P f)(enc:α->List Value)(fM:α->List AV)(sz:Nat)(hsz:∀x,(enc x).length=sz)
  (hA:∀(w:World)(γ:G)x,ak w γ (fM x) (enc x))(azk:∀(w:World)(γ:G)x vs,ak w γ (fM x) vs->vs=enc x)(h1:∀x,∀v∈enc x,v.oneCell'=true)
  {m:AM}{id off:Nat}{d:List α}{more:List AV}{cells:List AV}(hB:m.boxes[id]?=some cells)(aM:cells≠[])(ao5:∃pre post,cells=pre++(d.map fM).flatten++post/\pre.length=off){d2:List α->Prop}{K:AV->AM->Prop}
  (
   YL:∀(w:World)(b cap:Nat)(mv:List Value)(γ:G),ak w γ more mv->HoldsK enc sz w b off d.toArray->b<w.heap.size->Calls P f (Value.slice (some ⟨b,off,none⟩) d.length cap::mv).toArray w fun e w'=>
   e=.returned (.tuple #[])/\∃(d':List α)(n:Nat)(os:Array Obj),d'.length=d.length/\d2 d'/\w'=sortWorldK enc sz w b off n d'.toArray os)
  (hK:∀d':List α,d'.length=d.length->d2 d'->K (.aZ []) (m.wr id (setA cells off ((d'.map fM).flatten)))):
  an P gl Y f (.bs id off d.length sz::more) m K:=by
 refine an.gr hc fun N w0 aq γ w vs hm hl hr=>?_
 match vs,hr with
 |[],hr=>exact absurd hr.1 zd
 |v::mv,hr=>
 have hv:aC w γ (.bs id off d.length sz) v:=hr.2 0 _ _ rfl rfl;have hmv:ak w γ more mv:=⟨by have:=hr.1;simpa using this,fun i x y h1 h2=>hr.2 (i+1) x y (by simpa using h1) (by simpa using h2)⟩;cases hv with
 |@bs _ _ _ _ _ cap b arr e hb cw hh hs=>
 obtain⟨bR,e',hh',hrp,Q5⟩:=hm.box id cells b hB hb;rw[hh]at hh';cases hh';have hblk:b<w.heap.size:=aS hh;obtain⟨pre,post,rfl,rfl⟩:=ao5;have ao6:∀x,(fM x).length=sz:=fun x=>by rw[(hA w γ x).1,hsz]
 have azl:∀(l:List α),((l.map fM).flatten).length=l.length*sz:=by
  intro l;induction l with
  |nil=>simp
  |cons x l ih=>simp[ih,ao6,zzbr];omega
 have cA:∀i(hi:i<d.length),∀c,c<sz->arr[pre.length+i*sz+c]?=some ((enc d[i])[c]?.getD undef):=by
  intro i hi c hcz
  have aoX:ak w γ (fM d[i]) ((arr.toList.drop (pre.length+i*sz)).take sz):=by
   have eG:((pre++(d.map fM).flatten++post).drop (pre.length+i*sz)).take sz=fM d[i]:=by
    have hd:d=d.take i++d[i]::d.drop (i+1):=zd
    have:(d.map fM).flatten=((d.take i).map fM).flatten++(fM d[i]++((d.drop (i+1)).map fM).flatten):=by
     conv=>lhs;rw[hd]
     simp only[zzca,zzay,zzek,zzcl]
    rw[this];rw[show pre++(((d.take i).map fM).flatten++(fM d[i]++((d.drop (i+1)).map fM).flatten))++post=(pre++((d.take i).map fM).flatten)++(fM d[i]++(((d.drop (i+1)).map fM).flatten++post)) by simp[zzb]]
    have ez:(pre++((d.take i).map fM).flatten).length=pre.length+i*sz:=by
     rw[zzai,azl,zzaq];congr 2;omega
    rw[<- ez,zzfq,<- ao6 d[i],List.take_left]
   refine⟨?_,fun j x y hx hy=>?_⟩
   ·rw[ao6]
    have h3:pre.length+d.length*sz<=arr.size:=by
     have:=zzbc sz cw;omega
    have h4:(i+1)*sz<=d.length*sz:=zzbc sz zE;rw[zzbr,zzds]at h4;simp;omega
   rw[<- eG]at hx;rw[zzbl]at hx hy;split at hx
   ·rw[if_pos (by assumption)]at hy;rw[zzbm]at hx hy;exact hrp.2 _ x y hx hy
   cases hx
  have h5:=azk w γ _ _ aoX;have h6:((arr.toList.drop (pre.length+i*sz)).take sz)[c]?=(enc d[i])[c]?:=by rw[h5]
  rw[zzbl,if_pos hcz,zzbm]at h6;have h7:(enc d[i])[c]?=some ((enc d[i])[c]'(by rw[hsz];exact hcz)):=zzae _;rw[h7]at h6 |-
  simpa using h6
 have hH:HoldsK enc sz w b pre.length d.toArray:=by
  intro t ht;rw[size_flatK]at ht;simp only[zzeq]at ht
  have k0:0<sz:=by
   rcases zzcn sz with h|h;· rw[h]at ht;omega
   · exact h
  have hq:t/sz<d.length:=Nat.div_lt_of_lt_mul (by rw[zzeg];exact ht);have A1:t%sz<sz:=zzed _ k0;rw[get_flatK enc sz _ t (by simpa using ht)];refine⟨?_,Zu hh⟩;rw[aO hh];have:=cA (t/sz) hq (t%sz) A1;rw[show pre.length+t/sz*sz+t%sz=pre.length+t by have:=zzhf t sz;rw[zzeg]at this;omega]at this;rw[this];have h8:d.toArray[t/sz]! =d[t/sz]:=by simp[hq]
  rw[h8];have h9:t%sz<(enc d[t/sz]).length:=by rw[hsz];exact A1
  simp[h9]
 refine(YL w b cap mv γ hmv hH hblk).mono ?_;rintro e1 w' ⟨rfl,d',n,os,zK,hp,rfl⟩
 have hA':ak w γ ((d'.map fM).flatten) ((d'.map enc).flatten):=by
  clear hp zK;induction d' with
  |nil=>simpa using ak.nil
  |cons x l ih=>simpa using(hA w γ x).append ih
 have oV:∀v∈(d'.map enc).flatten,v.oneCell'=true:=by
  intro v hv;simp only[List.mem_flatten,zzax]at hv;obtain⟨l,⟨x,_,rfl⟩,hv⟩:=hv;exact h1 x v hv
 have Rv:(flatK enc sz d'.toArray).toList=(d'.map enc).flatten:=by
  have ali:∀(l:List α),((l.map enc).flatten).length=l.length*sz:=by
   intro l;induction l with
   |nil=>simp
   |cons x l ih=>simp[ih,hsz,zzbr];omega
  apply zzcm;intro t;by_cases ht:t<d'.length*sz
  ·have k0:0<sz:=by
    rcases zzcn sz with h|h;· rw[h]at ht;omega
    · exact h
   have hq:t/sz<d'.length:=Nat.div_lt_of_lt_mul (by rw[zzeg];exact ht);have A1:t%sz<sz:=zzed _ k0
   have e2:(flatK enc sz d'.toArray).toList[t]?=some ((flatK enc sz d'.toArray)[t]!):=by
    have:t<(flatK enc sz d'.toArray).size:=by rw[size_flatK];simpa using ht
    rw[zzce,zzaj this,getElem!_pos (flatK enc sz d'.toArray) t this]
   rw[e2,get_flatK enc sz _ t (by simpa using ht)];have h8:d'.toArray[t/sz]! =d'[t/sz]:=by simp[hq]
   rw[h8];have hd:d'=d'.take (t/sz)++d'[t/sz]::d'.drop (t/sz+1):=zd
   have e3:(d'.map enc).flatten=((d'.take (t/sz)).map enc).flatten++(enc d'[t/sz]++((d'.drop (t/sz+1)).map enc).flatten):=by
    conv=>lhs;rw[hd]
    simp only[zzca,zzay,zzek,zzcl]
   have ez:(((d'.take (t/sz)).map enc).flatten).length=t/sz*sz:=by rw[ali,zzaq];congr 1;omega
   have e4:t=(((d'.take (t/sz)).map enc).flatten).length+t%sz:=by
    rw[ez];have:=zzhf t sz;rw[zzeg]at this;omega
   have h9:t%sz<(enc d'[t/sz]).length:=by rw[hsz];exact A1
   rw[e3,zzal zE,zzag (by rw[hsz];omega)];rw[show t-(((d'.take (t/sz)).map enc).flatten).length=t%sz by omega];simp[h9]
  rw[zzaw (by simp;omega),zzaw (by rw[ali];omega)]
 have fJ:pre.length+d'.length*sz<=arr.size:=by
  have:=zzbc sz cw;rw[zK];omega
 have alj:(sortWorldK enc sz w b pre.length n d'.toArray os).heap=(w.setCells b pre.length ((d'.map enc).flatten)).heap++os:=by
  have:=ED _root_.id (Sort.ahead w n) b pre.length (flatK enc sz d'.toArray) (arr:=arr) (e:=e) (f:=(0,0)) hh (by rw[size_flatK];simpa using fJ);show(putRow _root_.id (Sort.ahead w n) b pre.length (flatK enc sz d'.toArray)).heap++os=_;rw[this,List.map_id_fun,id_eq,Rv];congr 1
  have EI:∀(vs:List Value)(o:Nat)(w1 w2:World),w1.heap=w2.heap->(w1.setCells b o vs).heap=(w2.setCells b o vs).heap:=by
   intro vs;induction vs with
   |nil=>intro o w1 w2 h;exact h
   |cons v vs ih=>intro o w1 w2 h;exact ih (o+1) _ _ (by simp[World.setCell,h])
  exact EI _ _ _ _ rfl
 have ahS:Below (w.setCells b pre.length ((d'.map enc).flatten)).heap.size (w.setCells b pre.length ((d'.map enc).flatten)) (sortWorldK enc sz w b pre.length n d'.toArray os):=by
  have mM:=Xz b (zzab b) ((d'.map enc).flatten) pre.length w;refine⟨?_,?_,?_,by rw[alj];simp,fun k hk=>?_⟩
  ·rw[mM.os];rfl
  ·rw[mM.tape];rfl
  ·rw[mM.output];rfl
  rw[alj,zzfd hk]
 obtain⟨γ',h3,h4,h5⟩:=ach hm hl hB aM hb (o:=pre.length) hA' oV ahS;exact⟨_,γ',.aZ [],_,rfl,h3,h4,h5,xR,hK d' zK hp⟩
end Go.Abs
namespace Go.Proofs.YtnopaopphmjnmaaGreatDoor
open Go Go.Abs Go.Shelf Go.RowKit Go.Lib Go.Sort
def Nn:Go.Shelf.Ren:=⟨fun|6=>250|15=>231|14=>308|28=>292|29=>293|20=>337|21=>338|22=>339|23=>340|24=>341|25=>342|26=>343|27=>344|46=>355|47=>324|48=>325|49=>356|50=>357|57=>360|n=>n,fun|22=>285|24=>287|25=>291|3=>3|39=>274|0=>0|53=>330|55=>175|4=>4|46=>324|45=>323|50=>97|5=>5|9=>9|66=>354|70=>357|76=>374|77=>44|n=>n,fun|n=>n⟩
def aci:Go.Proofs.SlLaysF0.n6 Tryz.prog Nn:={
 mixed:=by kernel_rfl,
 f6:=⟨Tryz.f250.name,by decide,Tryz.func250.trans (congrArg some (by kernel_rfl))⟩,
 f14:=⟨Tryz.f308.name,by decide,Tryz.func308.trans (congrArg some (by kernel_rfl))⟩,
 f15:=Tryz.func231.trans (congrArg some (by kernel_rfl)),
 f20:=⟨Tryz.f337.name,by decide,Tryz.func337.trans (congrArg some (by kernel_rfl))⟩,
 f21:=⟨Tryz.f338.name,by decide,Tryz.func338.trans (congrArg some (by kernel_rfl))⟩,
 f22:=⟨Tryz.f339.name,by decide,Tryz.func339.trans (congrArg some (by kernel_rfl))⟩,
 f23:=⟨Tryz.f340.name,by decide,Tryz.func340.trans (congrArg some (by kernel_rfl))⟩,
 f24:=⟨Tryz.f341.name,by decide,Tryz.func341.trans (congrArg some (by kernel_rfl))⟩,
 f25:=⟨Tryz.f342.name,by decide,Tryz.func342.trans (congrArg some (by kernel_rfl))⟩,
 f26:=⟨Tryz.f343.name,by decide,Tryz.func343.trans (congrArg some (by kernel_rfl))⟩,
 f27:=⟨Tryz.f344.name,by decide,Tryz.func344.trans (congrArg some (by kernel_rfl))⟩,
 f28:=Tryz.func292.trans (congrArg some (by kernel_rfl)),
 f29:=Tryz.func293.trans (congrArg some (by kernel_rfl)),
 f46:=⟨Tryz.f355.name,by decide,Tryz.func355.trans (congrArg some (by kernel_rfl))⟩,
 f47:=Tryz.func324.trans (congrArg some (by kernel_rfl)),
 f48:=Tryz.func325.trans (congrArg some (by kernel_rfl)),
 f49:=⟨Tryz.f356.name,by decide,Tryz.func356.trans (congrArg some (by kernel_rfl))⟩,
 f50:=⟨Tryz.f357.name,by decide,Tryz.func357.trans (congrArg some (by kernel_rfl))⟩,
 f57:=⟨Tryz.f360.name,by decide,Tryz.func360.trans (congrArg some (by kernel_rfl))⟩,
 t0:=Tryz.underlying0,
 a0:=Tryz.isAgg0,
 z0:=Tryz.sizeOf0,
 v0:=Tryz.zeroValue0,
 t3:=Tryz.underlying3,
 a3:=Tryz.isAgg3,
 z3:=Tryz.sizeOf3,
 v3:=Tryz.zeroValue3,
 t4:=Tryz.underlying4,
 a4:=Tryz.isAgg4,
 z4:=Tryz.sizeOf4,
 v4:=Tryz.zeroValue4,
 t5:=Tryz.underlying5,
 a5:=Tryz.isAgg5,
 z5:=Tryz.sizeOf5,
 v5:=Tryz.zeroValue5,
 t9:=Tryz.underlying9,
 a9:=Tryz.isAgg9,
 z9:=Tryz.sizeOf9,
 v9:=Tryz.zeroValue9,
 t22:=Tryz.underlying285,
 a22:=Tryz.isAgg285,
 z22:=Tryz.sizeOf285,
 v22:=Tryz.zeroValue285,
 t25:=Tryz.underlying291,
 a25:=Tryz.isAgg291,
 z25:=Tryz.sizeOf291,
 v25:=Tryz.zeroValue291,
 t39:=Tryz.underlying274,
 a39:=Tryz.isAgg274,
 z39:=Tryz.sizeOf274,
 v39:=Tryz.zeroValue274,
 t45:=Tryz.underlying323,
 a45:=Tryz.isAgg323,
 z45:=Tryz.sizeOf323,
 v45:=Tryz.zeroValue323,
 t46:=Tryz.underlying324,
 a46:=Tryz.isAgg324,
 z46:=Tryz.sizeOf324,
 v46:=Tryz.zeroValue324,
 t50:=Tryz.underlying97,
 a50:=Tryz.isAgg97,
 z50:=Tryz.sizeOf97,
 v50:=Tryz.zeroValue97,
 t53:=Tryz.underlying330,
 a53:=Tryz.isAgg330,
 z53:=Tryz.sizeOf330,
 v53:=Tryz.zeroValue330,
 t55:=Tryz.underlying175,
 a55:=Tryz.isAgg175,
 z55:=Tryz.sizeOf175,
 v55:=Tryz.zeroValue175,
 t66:=Tryz.underlying354,
 a66:=Tryz.isAgg354,
 z66:=Tryz.sizeOf354,
 v66:=Tryz.zeroValue354,
 t70:=Tryz.underlying357,
 a70:=Tryz.isAgg357,
 z70:=Tryz.sizeOf357,
 v70:=Tryz.zeroValue357,
 t76:=Tryz.underlying374,
 a76:=Tryz.isAgg374,
 z76:=Tryz.sizeOf374,
 v76:=Tryz.zeroValue374,
 t77:=Tryz.underlying44,
 a77:=Tryz.isAgg44,
 z77:=Tryz.sizeOf44,
 v77:=Tryz.zeroValue44}
def JB:Go.Shelf.Ren:=⟨fun|5=>160|8=>231|7=>230|19=>292|20=>293|10=>283|11=>284|12=>285|13=>286|14=>287|15=>288|16=>289|17=>290|18=>291|30=>323|31=>324|32=>325|33=>326|34=>327|35=>328|40=>350|n=>n,fun|23=>59|25=>3|3=>3|32=>274|22=>59|0=>0|44=>330|46=>175|4=>4|36=>324|35=>323|41=>97|5=>5|9=>9|53=>354|57=>357|63=>374|64=>44|n=>n,fun|n=>n⟩
def sortInt:Go.Proofs.SlLaysM.n5 Tryz.prog JB:={
 mixed:=by kernel_rfl,
 f5:=⟨Tryz.f160.name,by decide,Tryz.func160.trans (congrArg some (by kernel_rfl))⟩,
 f7:=⟨Tryz.f230.name,by decide,Tryz.func230.trans (congrArg some (by kernel_rfl))⟩,
 f8:=Tryz.func231.trans (congrArg some (by kernel_rfl)),
 f10:=⟨Tryz.f283.name,by decide,Tryz.func283.trans (congrArg some (by kernel_rfl))⟩,
 f11:=⟨Tryz.f284.name,by decide,Tryz.func284.trans (congrArg some (by kernel_rfl))⟩,
 f12:=⟨Tryz.f285.name,by decide,Tryz.func285.trans (congrArg some (by kernel_rfl))⟩,
 f13:=⟨Tryz.f286.name,by decide,Tryz.func286.trans (congrArg some (by kernel_rfl))⟩,
 f14:=⟨Tryz.f287.name,by decide,Tryz.func287.trans (congrArg some (by kernel_rfl))⟩,
 f15:=⟨Tryz.f288.name,by decide,Tryz.func288.trans (congrArg some (by kernel_rfl))⟩,
 f16:=⟨Tryz.f289.name,by decide,Tryz.func289.trans (congrArg some (by kernel_rfl))⟩,
 f17:=⟨Tryz.f290.name,by decide,Tryz.func290.trans (congrArg some (by kernel_rfl))⟩,
 f18:=⟨Tryz.f291.name,by decide,Tryz.func291.trans (congrArg some (by kernel_rfl))⟩,
 f19:=Tryz.func292.trans (congrArg some (by kernel_rfl)),
 f20:=Tryz.func293.trans (congrArg some (by kernel_rfl)),
 f30:=⟨Tryz.f323.name,by decide,Tryz.func323.trans (congrArg some (by kernel_rfl))⟩,
 f31:=Tryz.func324.trans (congrArg some (by kernel_rfl)),
 f32:=Tryz.func325.trans (congrArg some (by kernel_rfl)),
 f33:=⟨Tryz.f326.name,by decide,Tryz.func326.trans (congrArg some (by kernel_rfl))⟩,
 f34:=⟨Tryz.f327.name,by decide,Tryz.func327.trans (congrArg some (by kernel_rfl))⟩,
 f35:=⟨Tryz.f328.name,by decide,Tryz.func328.trans (congrArg some (by kernel_rfl))⟩,
 f40:=⟨Tryz.f350.name,by decide,Tryz.func350.trans (congrArg some (by kernel_rfl))⟩,
 t0:=Tryz.underlying0,
 a0:=Tryz.isAgg0,
 z0:=Tryz.sizeOf0,
 v0:=Tryz.zeroValue0,
 t3:=Tryz.underlying3,
 a3:=Tryz.isAgg3,
 z3:=Tryz.sizeOf3,
 v3:=Tryz.zeroValue3,
 t4:=Tryz.underlying4,
 a4:=Tryz.isAgg4,
 z4:=Tryz.sizeOf4,
 v4:=Tryz.zeroValue4,
 t5:=Tryz.underlying5,
 a5:=Tryz.isAgg5,
 z5:=Tryz.sizeOf5,
 v5:=Tryz.zeroValue5,
 t9:=Tryz.underlying9,
 a9:=Tryz.isAgg9,
 z9:=Tryz.sizeOf9,
 v9:=Tryz.zeroValue9,
 t22:=Tryz.underlying59,
 a22:=Tryz.isAgg59,
 z22:=Tryz.sizeOf59,
 v22:=Tryz.zeroValue59,
 t23:=Tryz.underlying59,
 a23:=Tryz.isAgg59,
 z23:=Tryz.sizeOf59,
 v23:=Tryz.zeroValue59,
 t25:=Tryz.underlying3,
 a25:=Tryz.isAgg3,
 z25:=Tryz.sizeOf3,
 v25:=Tryz.zeroValue3,
 t32:=Tryz.underlying274,
 a32:=Tryz.isAgg274,
 z32:=Tryz.sizeOf274,
 v32:=Tryz.zeroValue274,
 t35:=Tryz.underlying323,
 a35:=Tryz.isAgg323,
 z35:=Tryz.sizeOf323,
 v35:=Tryz.zeroValue323,
 t36:=Tryz.underlying324,
 a36:=Tryz.isAgg324,
 z36:=Tryz.sizeOf324,
 v36:=Tryz.zeroValue324,
 t41:=Tryz.underlying97,
 a41:=Tryz.isAgg97,
 z41:=Tryz.sizeOf97,
 v41:=Tryz.zeroValue97,
 t44:=Tryz.underlying330,
 a44:=Tryz.isAgg330,
 z44:=Tryz.sizeOf330,
 v44:=Tryz.zeroValue330,
 t46:=Tryz.underlying175,
 a46:=Tryz.isAgg175,
 z46:=Tryz.sizeOf175,
 v46:=Tryz.zeroValue175,
 t53:=Tryz.underlying354,
 a53:=Tryz.isAgg354,
 z53:=Tryz.sizeOf354,
 v53:=Tryz.zeroValue354,
 t57:=Tryz.underlying357,
 a57:=Tryz.isAgg357,
 z57:=Tryz.sizeOf357,
 v57:=Tryz.zeroValue357,
 t63:=Tryz.underlying374,
 a63:=Tryz.isAgg374,
 z63:=Tryz.sizeOf374,
 v63:=Tryz.zeroValue374,
 t64:=Tryz.underlying44,
 a64:=Tryz.isAgg44,
 z64:=Tryz.sizeOf44,
 v64:=Tryz.zeroValue44}
def No:Go.Shelf.Ren:=⟨fun|5=>309|7=>328|n=>n,fun|22=>3|3=>3|4=>4|n=>n,fun|n=>n⟩
def ao7:Go.Proofs.SlLaysC2.n5 Tryz.prog No:={
 mixed:=by kernel_rfl,
 f5:=⟨Tryz.f309.name,by decide,Tryz.func309.trans (congrArg some (by kernel_rfl))⟩,
 f7:=⟨Tryz.f328.name,by decide,Tryz.func328.trans (congrArg some (by kernel_rfl))⟩,
 t3:=Tryz.underlying3,
 a3:=Tryz.isAgg3,
 z3:=Tryz.sizeOf3,
 v3:=Tryz.zeroValue3,
 t4:=Tryz.underlying4,
 a4:=Tryz.isAgg4,
 z4:=Tryz.sizeOf4,
 v4:=Tryz.zeroValue4,
 t22:=Tryz.underlying3,
 a22:=Tryz.isAgg3,
 z22:=Tryz.sizeOf3,
 v22:=Tryz.zeroValue3}
def Np(x:Int×Int):List Value:=[.int .i64 x.1,.int .i64 x.2]
def Nq(x y:Int×Int)(W:World):Calls Tryz.prog 251 #[.agg #[.int .i64 x.1,.int .i64 x.2],.agg #[.int .i64 y.1,.int .i64 y.2]] W fun e w'=>e=.returned (.int .i64 (Lib.compareInt x.1 y.1))/\∃q os',w'=grow (W.drewN q) os':=by
 have gA:=fun W'=>AnyG.cmp_Compare_int ao7 x.1 y.1 W';change∀W',Calls Tryz.prog 309 _ _ _ at gA;generalize Lib.compareInt x.1 y.1=r at gA |-
 go_enter Tryz.func251,Tryz.ntmps251
 go_wp2_with (go_at_call 309;refine(gA _).mono ?_;rintro e w' ⟨rfl,rfl⟩)
 go_ret
 exact⟨rfl,0,_,by rw[alloc_eq_grow,alloc_eq_grow,grow_grow];rfl⟩
def Nr(blk off size:Nat)(w:World):CmpLays Tryz.prog 251 #[] Np 2 (fun x y=>Lib.compareInt x.1 y.1) blk off size w:=
 fun _ _ _ _ x y=>Nq x y _
def ahT(x y:Int×Int):ltOf (fun x y:Int×Int=>Lib.compareInt x.1 y.1) x y=decide (x.1<y.1):=by
 unfold ltOf Lib.compareInt;by_cases h1:x.1<y.1
 ·simp[h1]
 by_cases h2:y.1<x.1<;>simp[h1,h2]
def avC:SWO (ltOf fun x y:Int×Int=>Lib.compareInt x.1 y.1) where
 irrefl x:=by rw[ahT];simp
 trans x y z h1 h2:=by rw[ahT]at*;simp at*;omega
 ntrans x y z h1 h2:=by rw[ahT]at*;simp at*;omega
def acj{w:World}{γ:G}(x:Int×Int):ak w γ (Qf x) (Np x):=.cons (.int _ _) (.cons (.int _ _) .nil)
def Yq{w:World}{γ:G}{a:AV}{vs:List Value}(h:ak w γ [a] vs):∃v,vs=[v]/\aC w γ a v:=by
 match vs,h with
 |[v],h=>exact⟨v,rfl,h.2 0 _ _ rfl rfl⟩
 |[],h=>exact absurd h.1 zd
 |_::_::_,h=>exact absurd h.1 zd
def TR{w:World}{γ:G}(x:Int×Int){vs:List Value}(h:ak w γ (Qf x) vs):vs=Np x:=by
 match vs,h with
 |[u,v],h=>
  have h1:aC w γ (I x.1) u:=h.2 0 _ _ rfl rfl;have h2:aC w γ (I x.2) v:=h.2 1 _ _ rfl rfl;cases h1;cases h2;rfl
 |[],h=>exact absurd h.1 (by simp[Qf])
 |[_],h=>exact absurd h.1 (by simp[Qf])
 |_::_::_::_,h=>exact absurd h.1 (by simp[Qf])
def ao8{w:World}{γ:G}{f:FuncId}{v:Value}(h:aC w γ (.fn f [] []) v):v=.func (.func f) #[] #[]:=by
 cases h with
 |fn hl _ eM _=>
  rename_i fa ca _ _;have e1:fa=#[]:=zzen hl.symm;have e2:ca=#[]:=zzen eM.symm;rw[e1,e2]
def LZ(Y:YT)(d:List Sp)(hd:d.length<=1000000000)(m:AM)(id:Nat)(post:List AV)(hB:m.boxes[id]?=some (cI d++post))(aM:cI d++post≠[])(K:AV->AM->Prop)
  (hK:∀d':List Sp,d'.Perm d->d'.Pairwise (fun a b=>a.1<=b.1)->K (.aZ []) (m.wr id (cI d'++post))):
  an Tryz.prog aA Y 250 [.bs id 0 d.length 2,.fn 251 [] []] m K:=by
 refine Cj (α:=Int×Int) (d:=d) (more:=[.fn 251 [] []]) (sz:=2) (off:=0) Og.bD Np Qf (fun _=>rfl) (fun _ _ x=>acj x) (fun _ _ x _ h=>TR x h) (fun x v hv=>by simp[Np]at hv;rcases hv with rfl|rfl<;>rfl) hB aM
  ⟨[],post,by rw[GU];rfl,rfl⟩ (d2:=fun d'=>d'.Perm d/\d'.Pairwise fun a b=>a.1<=b.1) ?_ ?_
 ·intro w b cap mv γ hmv hH hblk;obtain⟨v,rfl,hv⟩:=Yq hmv;have:=ao8 hv;subst this;have eg:∀args w,(callFunc 251 args).run Tryz.prog w=.ok (.enter 251 args) w:=enters_of Tryz.func251 (by kernel_rfl) rfl;have gA:=AnyQ.slices_SortFunc aci 2 Tryz.isAgg287 Tryz.sizeOf287 Np (fun _=>rfl) (fun x v hv=>by simp[Np]at hv;rcases hv with rfl|rfl<;>rfl) (fun x y=>Lib.compareInt x.1 y.1) avC 251 #[] b 0 cap d.toArray w eg (Nr b 0 _ w) hH hblk (by simp;omega);change Calls Tryz.prog 250 _ _ _ at gA;refine gA.mono ?_;rintro e w' ⟨rfl,d',n,os,hP,hS,rfl⟩;obtain⟨p1,_,p3⟩:=hP;have hsz:d'.size=d.length:=by simpa using p1
  refine⟨rfl,d'.toList,n,os,by simpa using hsz,⟨?_,?_⟩,zd⟩
  ·have e1:d'.extract 0 d.toArray.size=d':=by rw[<- p1];simp
   rw[e1]at p3;simpa using p3
  rw[zzdr];intro i j hi hj eE;have di:i<d'.size:=by simpa using hi
  have OA:j<d'.size:=by simpa using hj
  have:=hS i j (zzbt _) eE (by simp;omega);rw[ahT]at this;simp only[getElem!_pos d' i di,getElem!_pos d' j OA,decide_eq_false_iff_not,Int.not_lt]at this;simpa using this
 rintro d' hl ⟨h1,h2⟩;rw[GU,jV _ _ _ (by rw[Yb,Yb,hl])];exact hK d' h1 h2
def GN(Y:YT)(rt:Rt)(m:AM)(K:AV->AM->Prop)(hK:K (.aZ []) m):an Tryz.prog aA Y 250 [.sl rt [],.fn 251 [] []] m K:=by
 refine an.gr Og.bD fun N w0 aq γ w vs hm hl hr=>?_
 match vs,hr with
 |[u,v],hr=>
  have h1:aC w γ (.sl rt []) u:=hr.2 0 _ _ rfl rfl;cases h1 with
  |@sl _ _ _ a cap b off sz cv _ _ _ _ _ _ _=>
   have gA:=AnyF.slices_SortFunc_none {aci with} a cap v w;change Calls Tryz.prog 250 _ _ _ at gA;refine gA.mono ?_;rintro e w' ⟨rfl,rfl⟩;exact⟨_,γ,_,m,rfl,(Ev.refl _ _).cK,hm,hl,xR,hK⟩
 |[],hr=>exact absurd hr.1 zd
 |[_],hr=>exact absurd hr.1 zd
 |_::_::_::_,hr=>exact absurd hr.1 zd
def encI(x:Int):List Value:=[.int .i64 x]
def jf(d:Array Int):flatK encI 1 d=d.map (Value.int .i64):=by
 refine Array.ext zd fun t h1 h2=>?_;have ht:t<d.size:=by simpa using h2
 have:=get_flatK encI 1 d t (by simpa using ht);rw[getElem!_pos _ t h1]at this;rw[this];have e2:d[t]! =d[t]:=getElem!_pos d t ht;simp[Nat.div_one,Nat.mod_one,encI,ht]
def sR(Y:YT)(d:List Int)(hd:d.length<=1000000000)(m:AM)(id:Nat)(post:List AV)(hB:m.boxes[id]?=some (aj d++post))(aM:aj d++post≠[])(K:AV->AM->Prop)
  (hK:K (.aZ []) (m.wr id (aj (d.mergeSort fun x y=>decide (x<=y))++post))):
  an Tryz.prog aA Y 160 [.bs id 0 d.length 1] m K:=by
 have alk:∀l:List Int,(l.map fun x=>[I x]).flatten=aj l:=by
  intro l;induction l with
  |nil=>rfl
  |cons x l ih=>simp[aj]at ih |-;exact ih
 refine Cj (α:=Int) (d:=d) (more:=[]) (sz:=1) (off:=0) NV.bD encI (fun x=>[I x]) (fun _=>rfl) (fun _ _ x=>.cons (.int _ _) .nil) (fun w γ x vs h=>?_) (fun x v hv=>by simp[encI]at hv;subst hv;rfl) hB aM
  ⟨[],post,by rw[alk];rfl,rfl⟩ (d2:=fun d'=>d'=d.mergeSort fun x y=>decide (x<=y)) ?_ ?_
 ·obtain⟨v,rfl,hv⟩:=Yq h;cases hv;rfl
 ·intro w b cap mv γ hmv hH hblk;have:mv=[]:=zzcd.1 hmv.1.symm;subst this
  have hH':Holds (Value.int .i64) w b 0 d.toArray:=by
   intro j hj;unfold HoldsK at hH;rw[jf]at hH;have:=hH j (by simpa using hj);have OA:j<d.length:=by simpa using hj
   simpa[OA]using this
  have gA:=AnyM.slices_Sort_int sortInt b 0 cap d w hH' hblk zE;change Calls Tryz.prog 160 _ _ _ at gA;refine gA.mono ?_;rintro e w' ⟨rfl,n,os,rfl⟩;refine⟨rfl,_,n,os,zd,rfl,?_⟩;unfold sortWorldK putRowK;rw[jf];congr 1;unfold putRow;refine mapBlock_congr _ _ _ _ fun c e fr _=>?_;unfold putCells;apply zzgk;intro k;simp only[zzhr,Array.size_map];cases c[k]? with
  |none=>rfl
  |some x=>
   simp only[zzcw];congr 1;by_cases hc:0<=k/\k<0+(d.mergeSort fun x y=>decide (x<=y)).toArray.size
   ·rw[if_pos hc,if_pos hc];have hk:k<(d.mergeSort fun x y=>decide (x<=y)).toArray.size:=zE
    have zI:k<((d.mergeSort fun x y=>decide (x<=y)).toArray.map (Value.int .i64)).size:=by simpa using hk
    simp only[zzfm];rw[getElem!_pos _ k hk,getElem!_pos _ k zI];simp
   rw[if_neg hc,if_neg hc]
 rintro d' hl rfl;rw[alk,jV _ _ _ (by simp[aj])];exact hK
def pP(Y:YT)(rt:Rt)(m:AM)(K:AV->AM->Prop)(hK:K (.aZ []) m):an Tryz.prog aA Y 160 [.sl rt []] m K:=by
 refine an.gr NV.bD fun N w0 aq γ w vs hm hl hr=>?_;obtain⟨u,rfl,h1⟩:=Yq hr;cases h1 with
 |@sl _ _ _ a cap b off sz cv _ _ _ _ _ _ _=>
  have gA:=AnyM.slices_Sort_int_none sortInt a cap w;change Calls Tryz.prog 160 _ _ _ at gA;refine gA.mono ?_;rintro e w' ⟨rfl,rfl⟩;exact⟨_,γ,_,m,rfl,(Ev.refl _ _).cK,hm,hl,xR,hK⟩
