import Derived.Shelf.SortM.SortNone
import Derived.Shelf.SortM.Plain
import Derived.Test.YtfliagpjbbkijaaGreatDoorVATcA
import Derived.Shelf.SlicesG.Cmp
import Derived.Shelf.SlSortCmp.NoneTotal
set_option linter.all false
set_option maxRecDepth 100000
set_option maxHeartbeats 64000000
namespace Go.Abs
open Go Go.RowKit Go.Sort Go.Proofs
def pH:∀(vs:PH)(o:Nat)(arr:PP)(k:Nat),o+vs.length<=arr.size->k<arr.size->(Ww arr o vs)[k]?=if o<=k/\k<o+vs.length then vs[k-o]? else arr[k]?
 |[],o,arr,k,_,_=>by rw[Ww,if_neg];simp
 |v::vs,o,arr,k,h,hk=>by
  simp only[zzav]at h;rw[Ww,pH vs (o+1) _ k (by simp;omega) (Pi hk)];by_cases h1:o+1<=k/\k<o+1+vs.length
  ·rw[if_pos h1,if_pos (by simp;omega)];obtain⟨u,rfl⟩:∃u,k=o+1+u:=⟨k-(o+1),zE⟩;rw[show o+1+u-o=u+1 by omega,zzdk];congr 1;omega
  rw[if_neg h1];by_cases h2:k=o
  ·subst h2;rw[if_pos zd];simp[zzes,hk]
  rw[if_neg (by simp;omega)];simp[zzes,Ne.symm h2]
def Dj{α:Type}[Inhabited α](enc:α->Value)(w:World)(b off:Nat)(d:Array α){arr:PP}{e:TypeId}{f:Nat×Nat}(h:w.heap[b]?=some (.cells arr e f))(hs:off+d.size<=arr.size):
  (putRow enc w b off d).heap=(w.setCells b off (d.toList.map enc)).heap:=by
 apply zzgf;intro k;by_cases hk:k=b
 ·subst hk;rw[Qz k _ off w arr e f h]
  have e1:(putRow enc w k off d).heap[k]?=some (.cells (putCells enc off d arr) e f):=by
   simp[putRow,mapBlock,zzdp,h,onCells]
  rw[e1];congr 2;apply zzgf;intro j;by_cases hj:j<arr.size
  ·rw[pH _ off arr j (Pi hs) hj];simp only[putCells,zzhh,zzbu,zzbj];by_cases hc:off<=j/\j<off+d.size
   ·rw[if_pos hc,zzag hj];have aa:j-off<d.size:=zE
    simp[hc,aa]
   rw[if_neg hc,zzag hj];simp[hc]
  have s1:(putCells enc off d arr).size=arr.size:=by simp[putCells]
  have s2:=Vb (d.toList.map enc) arr off;rw[zzbt zE,zzbt zE]
 rw[Qx b _ off w k hk];simp[putRow,mapBlock,zzdp,Ne.symm hk]
section
variable {N:Nat} {w0:fc} {an:Nat->Nat->Prop} {γ:G} {w:World}
def WY{m:AM}(hm:aq N w0 an γ w m.B m.L)(hl:cD γ w m){id b:Nat}{cells:PQ}(hB:m.boxes[id]?=some cells)(aJ:cells≠[])(hb:γ.β id=some b){o:Nat}{xs:PQ}{vs:PH}
  (ha:ak w γ xs vs)(h1v:∀v∈vs,v.oneCell'=true){w':World}(aew:Below (w.setCells b o vs).heap.size (w.setCells b o vs) w'):
  ∃γ',ek w γ w' γ'/\aq N w0 an γ' w' (m.wr id (setA cells o xs)).B (m.wr id (setA cells o xs)).L/\cD γ' w' (m.wr id (setA cells o xs)):=by
 obtain⟨arr,e,hh,hr,zj⟩:=hm.box id cells b hB hb;have h1:=hm.store hB hb hh hr zj (o:=o) ha h1v aJ;have e1:=hm.cH hb o vs;have e2:=h1.cG aew;have ev:=e1.trans e2;refine⟨_,ev.cL,?_,hl.mono' ev rfl⟩;have h2:=h1.grow aew;rw[aw2 m id _ hB];exact h2
end
def Bl{α:Type}[Inhabited α]{P:Program}{gl:Nat->AV}{Y:YT}{f:FuncId}(hc:bw P f)(enc:α->PH)(fK:α->PQ)(sz:Nat)(hsz:∀x,(enc x).length=sz)
  (hA:∀(w:World)(γ:G)x,ak w γ (fK x) (enc x))(aw3:∀(w:World)(γ:G)x vs,ak w γ (fK x) vs->vs=enc x)(h1:∀x,∀v∈enc x,v.oneCell'=true)
  {m:AM}{id off:Nat}{d:List α}{more:PQ}{cells:PQ}(hB:m.boxes[id]?=some cells)(aJ:cells≠[])(alQ:∃pre post,cells=pre++(d.map fK).flatten++post/\pre.length=off){d2:List α->Prop}{K:UV}
  (
   WQ:∀(w:World)(b cap:Nat)(mv:PH)(γ:G),ak w γ more mv->HoldsK enc sz w b off d.toArray->b<w.heap.size->Calls P f (Value.slice (some ⟨b,off,none⟩) d.length cap::mv).toArray w fun e w'=>
   e=.returned (.tuple #[])/\∃(d':List α)(n:Nat)(os:Array Obj),d'.length=d.length/\d2 d'/\w'=sortWorldK enc sz w b off n d'.toArray os)
  (hK:∀d':List α,d'.length=d.length->d2 d'->K (.aQ []) (m.wr id (setA cells off ((d'.map fK).flatten)))):
  aA P gl Y f (.bs id off d.length sz::more) m K:=by
 refine aA.gh hc fun N w0 an γ w vs hm hl hr=>?_
 match vs,hr with
 |[],hr=>exact absurd hr.1 zd
 |v::mv,hr=>
 have hv:au w γ (.bs id off d.length sz) v:=hr.2 0 _ _ rfl rfl;have hmv:ak w γ more mv:=⟨by have:=hr.1;simpa using this,fun i x y h1 h2=>hr.2 (i+1) x y (Pi h1) (Pi h2)⟩;cases hv with
 |@bs _ _ _ _ _ cap b arr e hb cR hh hs=>
 obtain⟨bN,e',hh',hrp,zj⟩:=hm.box id cells b hB hb;rw[hh]at hh';cases hh';have hblk:b<w.heap.size:=aS hh;obtain⟨pre,post,rfl,rfl⟩:=alQ;have alR:∀x,(fK x).length=sz:=fun x=>by rw[(hA w γ x).1,hsz]
 have aw4:∀(l:List α),((l.map fK).flatten).length=l.length*sz:=by
  intro l;induction l with
  |nil=>simp
  |cons x l ih=>simp[ih,alR,zzbl];omega
 have cB:∀i(hi:i<d.length),∀c,c<sz->arr[pre.length+i*sz+c]?=some ((enc d[i])[c]?.getD undef):=by
  intro i hi c hcz
  have alS:ak w γ (fK d[i]) ((arr.toList.drop (pre.length+i*sz)).take sz):=by
   have gG:((pre++(d.map fK).flatten++post).drop (pre.length+i*sz)).take sz=fK d[i]:=by
    have hd:d=d.take i++d[i]::d.drop (i+1):=zd
    have:(d.map fK).flatten=((d.take i).map fK).flatten++(fK d[i]++((d.drop (i+1)).map fK).flatten):=by
     conv=>lhs;rw[hd]
     simp only[zzch,zzay,zzem,zzci]
    rw[this];rw[show pre++(((d.take i).map fK).flatten++(fK d[i]++((d.drop (i+1)).map fK).flatten))++post=(pre++((d.take i).map fK).flatten)++(fK d[i]++(((d.drop (i+1)).map fK).flatten++post)) by simp[zzaz]]
    have gr:(pre++((d.take i).map fK).flatten).length=pre.length+i*sz:=by
     rw[zzah,aw4,zzaq];congr 2;omega
    rw[<- gr,zzeg,<- alR d[i],List.take_left]
   refine⟨?_,fun j x y hx hy=>?_⟩
   ·rw[alR]
    have h3:pre.length+d.length*sz<=arr.size:=by
     have:=zzbb sz cR;omega
    have h4:(i+1)*sz<=d.length*sz:=zzbb sz zE;rw[zzbl,zzdl]at h4;simp;omega
   rw[<- gG]at hx;rw[zzbk]at hx hy;split at hx
   ·rw[if_pos (by assumption)]at hy;rw[zzbo]at hx hy;exact hrp.2 _ x y hx hy
   cases hx
  have h5:=aw3 w γ _ _ alS;have h6:((arr.toList.drop (pre.length+i*sz)).take sz)[c]?=(enc d[i])[c]?:=by rw[h5]
  rw[zzbk,if_pos hcz,zzbo]at h6;have h7:(enc d[i])[c]?=some ((enc d[i])[c]'(by rw[hsz];exact hcz)):=zzad _;rw[h7]at h6 |-
  simpa using h6
 have hH:HoldsK enc sz w b pre.length d.toArray:=by
  intro t ht;rw[size_flatK]at ht;simp only[zzeo]at ht
  have k0:0<sz:=by
   rcases zzcc sz with h|h;· rw[h]at ht;omega
   · exact h
  have hq:t/sz<d.length:=zzfa (by rw[zzct];exact ht);have IJ:t%sz<sz:=zzds _ k0;rw[get_flatK enc sz _ t (Pi ht)];refine⟨?_,Zo hh⟩;rw[aN hh];have:=cB (t/sz) hq (t%sz) IJ;rw[show pre.length+t/sz*sz+t%sz=pre.length+t by have:=zzgx t sz;rw[zzct]at this;omega]at this;rw[this];have h8:d.toArray[t/sz]! =d[t/sz]:=by simp[hq]
  rw[h8];have h9:t%sz<(enc d[t/sz]).length:=by rw[hsz];exact IJ
  simp[h9]
 refine(WQ w b cap mv γ hmv hH hblk).mono ?_;rintro e1 w' ⟨rfl,d',n,os,zI,hp,rfl⟩
 have hA':ak w γ ((d'.map fK).flatten) ((d'.map enc).flatten):=by
  clear hp zI;induction d' with
  |nil=>simpa using ak.nil
  |cons x l ih=>simpa using(hA w γ x).append ih
 have qP:∀v∈(d'.map enc).flatten,v.oneCell'=true:=by
  intro v hv;simp only[List.mem_flatten,zzbh]at hv;obtain⟨l,⟨x,_,rfl⟩,hv⟩:=hv;exact h1 x v hv
 have P4:(flatK enc sz d'.toArray).toList=(d'.map enc).flatten:=by
  have ai8:∀(l:List α),((l.map enc).flatten).length=l.length*sz:=by
   intro l;induction l with
   |nil=>simp
   |cons x l ih=>simp[ih,hsz,zzbl];omega
  apply zzcz;intro t;by_cases ht:t<d'.length*sz
  ·have k0:0<sz:=by
    rcases zzcc sz with h|h;· rw[h]at ht;omega
    · exact h
   have hq:t/sz<d'.length:=zzfa (by rw[zzct];exact ht);have IJ:t%sz<sz:=zzds _ k0
   have e2:(flatK enc sz d'.toArray).toList[t]?=some ((flatK enc sz d'.toArray)[t]!):=by
    have:t<(flatK enc sz d'.toArray).size:=by rw[size_flatK];simpa using ht
    rw[zzbw,zzag this,getElem!_pos (flatK enc sz d'.toArray) t this]
   rw[e2,get_flatK enc sz _ t (Pi ht)];have h8:d'.toArray[t/sz]! =d'[t/sz]:=by simp[hq]
   rw[h8];have hd:d'=d'.take (t/sz)++d'[t/sz]::d'.drop (t/sz+1):=zd
   have e3:(d'.map enc).flatten=((d'.take (t/sz)).map enc).flatten++(enc d'[t/sz]++((d'.drop (t/sz+1)).map enc).flatten):=by
    conv=>lhs;rw[hd]
    simp only[zzch,zzay,zzem,zzci]
   have gr:(((d'.take (t/sz)).map enc).flatten).length=t/sz*sz:=by rw[ai8,zzaq];congr 1;omega
   have e4:t=(((d'.take (t/sz)).map enc).flatten).length+t%sz:=by
    rw[gr];have:=zzgx t sz;rw[zzct]at this;omega
   have h9:t%sz<(enc d'[t/sz]).length:=by rw[hsz];exact IJ
   rw[e3,zzat zE,zzak (by rw[hsz];omega)];rw[show t-(((d'.take (t/sz)).map enc).flatten).length=t%sz by omega];simp[h9]
  rw[zzau (by simp;omega),zzau (by rw[ai8];omega)]
 have dD:pre.length+d'.length*sz<=arr.size:=by
  have:=zzbb sz cR;rw[zI];omega
 have ai9:(sortWorldK enc sz w b pre.length n d'.toArray os).heap=(w.setCells b pre.length ((d'.map enc).flatten)).heap++os:=by
  have:=Dj _root_.id (Sort.ahead w n) b pre.length (flatK enc sz d'.toArray) (arr:=arr) (e:=e) (f:=(0,0)) hh (by rw[size_flatK];simpa using dD);show(putRow _root_.id (Sort.ahead w n) b pre.length (flatK enc sz d'.toArray)).heap++os=_;rw[this,List.map_id_fun,id_eq,P4];congr 1
  have EA:∀(vs:PH)(o:Nat)(w1 w2:World),w1.heap=w2.heap->(w1.setCells b o vs).heap=(w2.setCells b o vs).heap:=by
   intro vs;induction vs with
   |nil=>intro o w1 w2 h;exact h
   |cons v vs ih=>intro o w1 w2 h;exact ih (o+1) _ _ (by simp[World.setCell,h])
  exact EA _ _ _ _ rfl
 have aew:Below (w.setCells b pre.length ((d'.map enc).flatten)).heap.size (w.setCells b pre.length ((d'.map enc).flatten)) (sortWorldK enc sz w b pre.length n d'.toArray os):=by
  have di:=Xt b (zzaa b) ((d'.map enc).flatten) pre.length w;refine⟨?_,?_,?_,by rw[ai9];simp,fun k hk=>?_⟩
  ·rw[di.os];rfl
  ·rw[di.tape];rfl
  ·rw[di.output];rfl
  rw[ai9,zzfd hk]
 obtain⟨γ',h3,h4,h5⟩:=WY hm hl hB aJ hb (o:=pre.length) hA' qP aew;exact⟨_,γ',.aQ [],_,rfl,h3,h4,h5,wO,hK d' zI hp⟩
end Go.Abs
namespace Go.Proofs.YtfliagpjbbkijaaGreatDoor
noncomputable section
open Go Go.Abs Go.Shelf Go.RowKit Go.Lib Go.Sort
def KO:Go.Shelf.Ren:=⟨fun|6=>244|15=>172|14=>259|28=>209|29=>210|20=>272|21=>273|22=>274|23=>275|24=>276|25=>277|26=>278|27=>279|46=>282|47=>234|48=>235|49=>283|50=>284|57=>285|n=>n,fun|22=>330|24=>314|25=>334|3=>3|39=>207|0=>0|53=>298|55=>130|4=>4|46=>292|45=>291|50=>236|5=>5|9=>9|66=>322|70=>83|76=>346|77=>347|n=>n,fun|n=>n⟩
def WZ:Go.Proofs.SlLaysF0.n6 Tryz.prog KO:={
 mixed:=by kernel_rfl,
 f6:=⟨Tryz.f244.name,by decide,Tryz.func244.trans (congrArg some (by kernel_rfl))⟩,
 f14:=⟨Tryz.f259.name,by decide,Tryz.func259.trans (congrArg some (by kernel_rfl))⟩,
 f15:=Tryz.func172.trans (congrArg some (by kernel_rfl)),
 f20:=⟨Tryz.f272.name,by decide,Tryz.func272.trans (congrArg some (by kernel_rfl))⟩,
 f21:=⟨Tryz.f273.name,by decide,Tryz.func273.trans (congrArg some (by kernel_rfl))⟩,
 f22:=⟨Tryz.f274.name,by decide,Tryz.func274.trans (congrArg some (by kernel_rfl))⟩,
 f23:=⟨Tryz.f275.name,by decide,Tryz.func275.trans (congrArg some (by kernel_rfl))⟩,
 f24:=⟨Tryz.f276.name,by decide,Tryz.func276.trans (congrArg some (by kernel_rfl))⟩,
 f25:=⟨Tryz.f277.name,by decide,Tryz.func277.trans (congrArg some (by kernel_rfl))⟩,
 f26:=⟨Tryz.f278.name,by decide,Tryz.func278.trans (congrArg some (by kernel_rfl))⟩,
 f27:=⟨Tryz.f279.name,by decide,Tryz.func279.trans (congrArg some (by kernel_rfl))⟩,
 f28:=Tryz.func209.trans (congrArg some (by kernel_rfl)),
 f29:=Tryz.func210.trans (congrArg some (by kernel_rfl)),
 f46:=⟨Tryz.f282.name,by decide,Tryz.func282.trans (congrArg some (by kernel_rfl))⟩,
 f47:=Tryz.func234.trans (congrArg some (by kernel_rfl)),
 f48:=Tryz.func235.trans (congrArg some (by kernel_rfl)),
 f49:=⟨Tryz.f283.name,by decide,Tryz.func283.trans (congrArg some (by kernel_rfl))⟩,
 f50:=⟨Tryz.f284.name,by decide,Tryz.func284.trans (congrArg some (by kernel_rfl))⟩,
 f57:=⟨Tryz.f285.name,by decide,Tryz.func285.trans (congrArg some (by kernel_rfl))⟩,
 t0:=Tryz.underlying0,
 a0:=Tryz.isAgg0,
 z0:=Tryz.sizeOf0,
 v0:=Tryz.zeroValue0,
 t3:=Tryz.underlying3,
 a3:=Tryz.isAgg3,
 z3:=Tryz.sizeOf3,
 v3:=Tryz.zeroValue3,
 t4:=Tryz.underlying4,
 a4:=Tryz.isAgg4,
 z4:=Tryz.sizeOf4,
 v4:=Tryz.zeroValue4,
 t5:=Tryz.underlying5,
 a5:=Tryz.isAgg5,
 z5:=Tryz.sizeOf5,
 v5:=Tryz.zeroValue5,
 t9:=Tryz.underlying9,
 a9:=Tryz.isAgg9,
 z9:=Tryz.sizeOf9,
 v9:=Tryz.zeroValue9,
 t22:=Tryz.underlying330,
 a22:=Tryz.isAgg330,
 z22:=Tryz.sizeOf330,
 v22:=Tryz.zeroValue330,
 t25:=Tryz.underlying334,
 a25:=Tryz.isAgg334,
 z25:=Tryz.sizeOf334,
 v25:=Tryz.zeroValue334,
 t39:=Tryz.underlying207,
 a39:=Tryz.isAgg207,
 z39:=Tryz.sizeOf207,
 v39:=Tryz.zeroValue207,
 t45:=Tryz.underlying291,
 a45:=Tryz.isAgg291,
 z45:=Tryz.sizeOf291,
 v45:=Tryz.zeroValue291,
 t46:=Tryz.underlying292,
 a46:=Tryz.isAgg292,
 z46:=Tryz.sizeOf292,
 v46:=Tryz.zeroValue292,
 t50:=Tryz.underlying236,
 a50:=Tryz.isAgg236,
 z50:=Tryz.sizeOf236,
 v50:=Tryz.zeroValue236,
 t53:=Tryz.underlying298,
 a53:=Tryz.isAgg298,
 z53:=Tryz.sizeOf298,
 v53:=Tryz.zeroValue298,
 t55:=Tryz.underlying130,
 a55:=Tryz.isAgg130,
 z55:=Tryz.sizeOf130,
 v55:=Tryz.zeroValue130,
 t66:=Tryz.underlying322,
 a66:=Tryz.isAgg322,
 z66:=Tryz.sizeOf322,
 v66:=Tryz.zeroValue322,
 t70:=Tryz.underlying83,
 a70:=Tryz.isAgg83,
 z70:=Tryz.sizeOf83,
 v70:=Tryz.zeroValue83,
 t76:=Tryz.underlying346,
 a76:=Tryz.isAgg346,
 z76:=Tryz.sizeOf346,
 v76:=Tryz.zeroValue346,
 t77:=Tryz.underlying347,
 a77:=Tryz.isAgg347,
 z77:=Tryz.sizeOf347,
 v77:=Tryz.zeroValue347}
def FX:Go.Shelf.Ren:=⟨fun|5=>113|8=>172|7=>171|19=>209|20=>210|10=>200|11=>201|12=>202|13=>203|14=>204|15=>205|16=>206|17=>207|18=>208|30=>233|31=>234|32=>235|33=>236|34=>237|35=>238|40=>255|n=>n,fun|23=>57|25=>3|3=>3|32=>207|22=>57|0=>0|44=>298|46=>130|4=>4|36=>292|35=>291|41=>236|5=>5|9=>9|53=>322|57=>83|63=>346|64=>347|n=>n,fun|n=>n⟩
def sortInt:Go.Proofs.SlLaysM.n5 Tryz.prog FX:={
 mixed:=by kernel_rfl,
 f5:=⟨Tryz.f113.name,by decide,Tryz.func113.trans (congrArg some (by kernel_rfl))⟩,
 f7:=⟨Tryz.f171.name,by decide,Tryz.func171.trans (congrArg some (by kernel_rfl))⟩,
 f8:=Tryz.func172.trans (congrArg some (by kernel_rfl)),
 f10:=⟨Tryz.f200.name,by decide,Tryz.func200.trans (congrArg some (by kernel_rfl))⟩,
 f11:=⟨Tryz.f201.name,by decide,Tryz.func201.trans (congrArg some (by kernel_rfl))⟩,
 f12:=⟨Tryz.f202.name,by decide,Tryz.func202.trans (congrArg some (by kernel_rfl))⟩,
 f13:=⟨Tryz.f203.name,by decide,Tryz.func203.trans (congrArg some (by kernel_rfl))⟩,
 f14:=⟨Tryz.f204.name,by decide,Tryz.func204.trans (congrArg some (by kernel_rfl))⟩,
 f15:=⟨Tryz.f205.name,by decide,Tryz.func205.trans (congrArg some (by kernel_rfl))⟩,
 f16:=⟨Tryz.f206.name,by decide,Tryz.func206.trans (congrArg some (by kernel_rfl))⟩,
 f17:=⟨Tryz.f207.name,by decide,Tryz.func207.trans (congrArg some (by kernel_rfl))⟩,
 f18:=⟨Tryz.f208.name,by decide,Tryz.func208.trans (congrArg some (by kernel_rfl))⟩,
 f19:=Tryz.func209.trans (congrArg some (by kernel_rfl)),
 f20:=Tryz.func210.trans (congrArg some (by kernel_rfl)),
 f30:=⟨Tryz.f233.name,by decide,Tryz.func233.trans (congrArg some (by kernel_rfl))⟩,
 f31:=Tryz.func234.trans (congrArg some (by kernel_rfl)),
 f32:=Tryz.func235.trans (congrArg some (by kernel_rfl)),
 f33:=⟨Tryz.f236.name,by decide,Tryz.func236.trans (congrArg some (by kernel_rfl))⟩,
 f34:=⟨Tryz.f237.name,by decide,Tryz.func237.trans (congrArg some (by kernel_rfl))⟩,
 f35:=⟨Tryz.f238.name,by decide,Tryz.func238.trans (congrArg some (by kernel_rfl))⟩,
 f40:=⟨Tryz.f255.name,by decide,Tryz.func255.trans (congrArg some (by kernel_rfl))⟩,
 t0:=Tryz.underlying0,
 a0:=Tryz.isAgg0,
 z0:=Tryz.sizeOf0,
 v0:=Tryz.zeroValue0,
 t3:=Tryz.underlying3,
 a3:=Tryz.isAgg3,
 z3:=Tryz.sizeOf3,
 v3:=Tryz.zeroValue3,
 t4:=Tryz.underlying4,
 a4:=Tryz.isAgg4,
 z4:=Tryz.sizeOf4,
 v4:=Tryz.zeroValue4,
 t5:=Tryz.underlying5,
 a5:=Tryz.isAgg5,
 z5:=Tryz.sizeOf5,
 v5:=Tryz.zeroValue5,
 t9:=Tryz.underlying9,
 a9:=Tryz.isAgg9,
 z9:=Tryz.sizeOf9,
 v9:=Tryz.zeroValue9,
 t22:=Tryz.underlying57,
 a22:=Tryz.isAgg57,
 z22:=Tryz.sizeOf57,
 v22:=Tryz.zeroValue57,
 t23:=Tryz.underlying57,
 a23:=Tryz.isAgg57,
 z23:=Tryz.sizeOf57,
 v23:=Tryz.zeroValue57,
 t25:=Tryz.underlying3,
 a25:=Tryz.isAgg3,
 z25:=Tryz.sizeOf3,
 v25:=Tryz.zeroValue3,
 t32:=Tryz.underlying207,
 a32:=Tryz.isAgg207,
 z32:=Tryz.sizeOf207,
 v32:=Tryz.zeroValue207,
 t35:=Tryz.underlying291,
 a35:=Tryz.isAgg291,
 z35:=Tryz.sizeOf291,
 v35:=Tryz.zeroValue291,
 t36:=Tryz.underlying292,
 a36:=Tryz.isAgg292,
 z36:=Tryz.sizeOf292,
 v36:=Tryz.zeroValue292,
 t41:=Tryz.underlying236,
 a41:=Tryz.isAgg236,
 z41:=Tryz.sizeOf236,
 v41:=Tryz.zeroValue236,
 t44:=Tryz.underlying298,
 a44:=Tryz.isAgg298,
 z44:=Tryz.sizeOf298,
 v44:=Tryz.zeroValue298,
 t46:=Tryz.underlying130,
 a46:=Tryz.isAgg130,
 z46:=Tryz.sizeOf130,
 v46:=Tryz.zeroValue130,
 t53:=Tryz.underlying322,
 a53:=Tryz.isAgg322,
 z53:=Tryz.sizeOf322,
 v53:=Tryz.zeroValue322,
 t57:=Tryz.underlying83,
 a57:=Tryz.isAgg83,
 z57:=Tryz.sizeOf83,
 v57:=Tryz.zeroValue83,
 t63:=Tryz.underlying346,
 a63:=Tryz.isAgg346,
 z63:=Tryz.sizeOf346,
 v63:=Tryz.zeroValue346,
 t64:=Tryz.underlying347,
 a64:=Tryz.isAgg347,
 z64:=Tryz.sizeOf347,
 v64:=Tryz.zeroValue347}
def KP:Go.Shelf.Ren:=⟨fun|5=>260|7=>238|n=>n,fun|22=>3|3=>3|4=>4|n=>n,fun|n=>n⟩
def alT:Go.Proofs.SlLaysC2.n5 Tryz.prog KP:={
 mixed:=by kernel_rfl,
 f5:=⟨Tryz.f260.name,by decide,Tryz.func260.trans (congrArg some (by kernel_rfl))⟩,
 f7:=⟨Tryz.f238.name,by decide,Tryz.func238.trans (congrArg some (by kernel_rfl))⟩,
 t3:=Tryz.underlying3,
 a3:=Tryz.isAgg3,
 z3:=Tryz.sizeOf3,
 v3:=Tryz.zeroValue3,
 t4:=Tryz.underlying4,
 a4:=Tryz.isAgg4,
 z4:=Tryz.sizeOf4,
 v4:=Tryz.zeroValue4,
 t22:=Tryz.underlying3,
 a22:=Tryz.isAgg3,
 z22:=Tryz.sizeOf3,
 v22:=Tryz.zeroValue3}
def KQ(x:Int×Int):PH:=[.int .i64 x.1,.int .i64 x.2]
def KR(x y:Int×Int)(W:World):Calls Tryz.prog 245 #[.agg #[.int .i64 x.1,.int .i64 x.2],.agg #[.int .i64 y.1,.int .i64 y.2]] W fun e w'=>e=.returned (.int .i64 (Lib.compareInt x.1 y.1))/\∃q os',w'=grow (W.drewN q) os':=by
 have gi:=fun W'=>AnyG.cmp_Compare_int alT x.1 y.1 W';change∀W',Calls Tryz.prog 260 _ _ _ at gi;generalize Lib.compareInt x.1 y.1=r at gi |-
 go_enter Tryz.func245,Tryz.ntmps245
 go_wp2_with (go_at_call 260;refine(gi _).mono ?_;rintro e w' ⟨rfl,rfl⟩)
 go_ret
 exact⟨rfl,0,_,by rw[alloc_eq_grow,alloc_eq_grow,grow_grow];rfl⟩
def KS(blk off size:Nat)(w:World):CmpLays Tryz.prog 245 #[] KQ 2 (fun x y=>Lib.compareInt x.1 y.1) blk off size w:=
 fun _ _ _ _ x y=>KR x y _
def aex(x y:Int×Int):ltOf (fun x y:Int×Int=>Lib.compareInt x.1 y.1) x y=decide (x.1<y.1):=by
 unfold ltOf Lib.compareInt;by_cases h1:x.1<y.1
 ·simp[h1]
 by_cases h2:y.1<x.1<;>simp[h1,h2]
def arQ:SWO (ltOf fun x y:Int×Int=>Lib.compareInt x.1 y.1) where
 irrefl x:=by rw[aex];simp
 trans x y z h1 h2:=by rw[aex]at*;simp at*;omega
 ntrans x y z h1 h2:=by rw[aex]at*;simp at*;omega
def W4{w:World}{γ:G}(x:Int×Int):ak w γ (Qe x) (KQ x):=.cons (.int _ _) (.cons (.int _ _) .nil)
def Yl{w:World}{γ:G}{a:AV}{vs:PH}(h:ak w γ [a] vs):∃v,vs=[v]/\au w γ a v:=by
 match vs,h with
 |[v],h=>exact⟨v,rfl,h.2 0 _ _ rfl rfl⟩
 |[],h=>exact absurd h.1 zd
 |_::_::_,h=>exact absurd h.1 zd
def QV{w:World}{γ:G}(x:Int×Int){vs:PH}(h:ak w γ (Qe x) vs):vs=KQ x:=by
 match vs,h with
 |[u,v],h=>
  have h1:au w γ (I x.1) u:=h.2 0 _ _ rfl rfl;have h2:au w γ (I x.2) v:=h.2 1 _ _ rfl rfl;cases h1;cases h2;rfl
 |[],h=>exact absurd h.1 (by simp[Qe])
 |[_],h=>exact absurd h.1 (by simp[Qe])
 |_::_::_::_,h=>exact absurd h.1 (by simp[Qe])
def alU{w:World}{γ:G}{f:FuncId}{v:Value}(h:au w γ (.fn f [] []) v):v=.func (.func f) #[] #[]:=by
 cases h with
 |fn hl _ fG _=>
  rename_i fa ca _ _;have e1:fa=#[]:=zzen hl.symm;have e2:ca=#[]:=zzen fG.symm;rw[e1,e2]
def KT(Y:YT)(d:List Sp)(hd:d.length<=1000000000)(m:AM)(id:Nat)(post:PQ)(hB:m.boxes[id]?=some (cM d++post))(aJ:cM d++post≠[])(K:UV)
  (hK:∀d':List Sp,d'.Perm d->d'.Pairwise (fun a b=>a.1<=b.1)->K (.aQ []) (m.wr id (cM d'++post))):
  aA Tryz.prog aD Y 244 [.bs id 0 d.length 2,.fn 245 [] []] m K:=by
 refine Bl (α:=Int×Int) (d:=d) (more:=[.fn 245 [] []]) (sz:=2) (off:=0) NA.bw KQ Qe (fun _=>rfl) (fun _ _ x=>W4 x) (fun _ _ x _ h=>QV x h) (fun x v hv=>by simp[KQ]at hv;rcases hv with rfl|rfl<;>rfl) hB aJ
  ⟨[],post,by rw[FY];rfl,rfl⟩ (d2:=fun d'=>d'.Perm d/\d'.Pairwise fun a b=>a.1<=b.1) ?_ ?_
 ·intro w b cap mv γ hmv hH hblk;obtain⟨v,rfl,hv⟩:=Yl hmv;have:=alU hv;subst this;have eg:∀args w,(callFunc 245 args).run Tryz.prog w=.ok (.enter 245 args) w:=enters_of Tryz.func245 (by kernel_rfl) rfl;have gi:=AnyQ.slices_SortFunc WZ 2 Tryz.isAgg314 Tryz.sizeOf314 KQ (fun _=>rfl) (fun x v hv=>by simp[KQ]at hv;rcases hv with rfl|rfl<;>rfl) (fun x y=>Lib.compareInt x.1 y.1) arQ 245 #[] b 0 cap d.toArray w eg (KS b 0 _ w) hH hblk (by simp;omega);change Calls Tryz.prog 244 _ _ _ at gi;refine gi.mono ?_;rintro e w' ⟨rfl,d',n,os,hP,hS,rfl⟩;obtain⟨p1,_,p3⟩:=hP;have hsz:d'.size=d.length:=by simpa using p1
  refine⟨rfl,d'.toList,n,os,Pi hsz,⟨?_,?_⟩,zd⟩
  ·have e1:d'.extract 0 d.toArray.size=d':=by rw[<- p1];simp
   rw[e1]at p3;simpa using p3
  rw[zzdr];intro i j hi hj fL;have dn:i<d'.size:=by simpa using hi
  have NP:j<d'.size:=by simpa using hj
  have:=hS i j (zzbi _) fL (by simp;omega);rw[aex]at this;simp only[getElem!_pos d' i dn,getElem!_pos d' j NP,decide_eq_false_iff_not,Int.not_lt]at this;simpa using this
 rintro d' hl ⟨h1,h2⟩;rw[FY,jj _ _ _ (by rw[Vy,Vy,hl])];exact hK d' h1 h2
def FZ(Y:YT)(rt:Rt)(m:AM)(K:UV)(hK:K (.aQ []) m):aA Tryz.prog aD Y 244 [.sl rt [],.fn 245 [] []] m K:=by
 refine aA.gh NA.bw fun N w0 an γ w vs hm hl hr=>?_
 match vs,hr with
 |[u,v],hr=>
  have h1:au w γ (.sl rt []) u:=hr.2 0 _ _ rfl rfl;cases h1 with
  |@sl _ _ _ a cap b off sz cv _ _ _ _ _ _ _=>
   have gi:=AnyF.slices_SortFunc_none {WZ with} a cap v w;change Calls Tryz.prog 244 _ _ _ at gi;refine gi.mono ?_;rintro e w' ⟨rfl,rfl⟩;exact⟨_,γ,_,m,rfl,(Ev.refl _ _).cL,hm,hl,wO,hK⟩
 |[],hr=>exact absurd hr.1 zd
 |[_],hr=>exact absurd hr.1 zd
 |_::_::_::_,hr=>exact absurd hr.1 zd
def encI(x:Int):PH:=[.int .i64 x]
def iU(d:Array Int):flatK encI 1 d=d.map (Value.int .i64):=by
 refine Array.ext zd fun t h1 h2=>?_;have ht:t<d.size:=by simpa using h2
 have:=get_flatK encI 1 d t (Pi ht);rw[getElem!_pos _ t h1]at this;rw[this];have e2:d[t]! =d[t]:=getElem!_pos d t ht;simp[Nat.div_one,Nat.mod_one,encI,ht]
def sO(Y:YT)(d:P2)(hd:d.length<=1000000000)(m:AM)(id:Nat)(post:PQ)(hB:m.boxes[id]?=some (aj d++post))(aJ:aj d++post≠[])(K:UV)
  (hK:K (.aQ []) (m.wr id (aj (d.mergeSort fun x y=>decide (x<=y))++post))):
  aA Tryz.prog aD Y 113 [.bs id 0 d.length 1] m K:=by
 have aja:∀l:P2,(l.map fun x=>[I x]).flatten=aj l:=by
  intro l;induction l with
  |nil=>rfl
  |cons x l ih=>simp[aj]at ih |-;exact ih
 refine Bl (α:=Int) (d:=d) (more:=[]) (sz:=1) (off:=0) M6.bw encI (fun x=>[I x]) (fun _=>rfl) (fun _ _ x=>.cons (.int _ _) .nil) (fun w γ x vs h=>?_) (fun x v hv=>by simp[encI]at hv;subst hv;rfl) hB aJ
  ⟨[],post,by rw[aja];rfl,rfl⟩ (d2:=fun d'=>d'=d.mergeSort fun x y=>decide (x<=y)) ?_ ?_
 ·obtain⟨v,rfl,hv⟩:=Yl h;cases hv;rfl
 ·intro w b cap mv γ hmv hH hblk;have:mv=[]:=zzc.1 hmv.1.symm;subst this
  have hH':Holds (Value.int .i64) w b 0 d.toArray:=by
   intro j hj;unfold HoldsK at hH;rw[iU]at hH;have:=hH j (Pi hj);have NP:j<d.length:=by simpa using hj
   simpa[NP]using this
  have gi:=AnyM.slices_Sort_int sortInt b 0 cap d w hH' hblk zE;change Calls Tryz.prog 113 _ _ _ at gi;refine gi.mono ?_;rintro e w' ⟨rfl,n,os,rfl⟩;refine⟨rfl,_,n,os,zd,rfl,?_⟩;unfold sortWorldK putRowK;rw[iU];congr 1;unfold putRow;refine mapBlock_congr _ _ _ _ fun c e fr _=>?_;unfold putCells;apply zzgf;intro k;simp only[zzhh,Array.size_map];cases c[k]? with
  |none=>rfl
  |some x=>
   simp only[zzcf];congr 1;by_cases hc:0<=k/\k<0+(d.mergeSort fun x y=>decide (x<=y)).toArray.size
   ·rw[if_pos hc,if_pos hc];have hk:k<(d.mergeSort fun x y=>decide (x<=y)).toArray.size:=zE
    have zk:k<((d.mergeSort fun x y=>decide (x<=y)).toArray.map (Value.int .i64)).size:=by simpa using hk
    simp only[zzet];rw[getElem!_pos _ k hk,getElem!_pos _ k zk];simp
   rw[if_neg hc,if_neg hc]
 rintro d' hl rfl;rw[aja,jj _ _ _ (by simp[aj])];exact hK
def pI(Y:YT)(rt:Rt)(m:AM)(K:UV)(hK:K (.aQ []) m):aA Tryz.prog aD Y 113 [.sl rt []] m K:=by
 refine aA.gh M6.bw fun N w0 an γ w vs hm hl hr=>?_;obtain⟨u,rfl,h1⟩:=Yl hr;cases h1 with
 |@sl _ _ _ a cap b off sz cv _ _ _ _ _ _ _=>
  have gi:=AnyM.slices_Sort_int_none sortInt a cap w;change Calls Tryz.prog 113 _ _ _ at gi;refine gi.mono ?_;rintro e w' ⟨rfl,rfl⟩;exact⟨_,γ,_,m,rfl,(Ev.refl _ _).cL,hm,hl,wO,hK⟩
end
end Go.Proofs.YtfliagpjbbkijaaGreatDoor
namespace Go.Proofs.YtfliagpjbbkijaaGreatDoor
noncomputable section
open Go Go.Abs
def F0(Y:YT)(rt:Rt)(bk:∀m,bE m 6 (.sl rt [])=.sl rt [])(m:AM)(K:UV)(hK:K (.sl rt []) m):aA Tryz.prog aD Y 243 [.sl rt [],.fn 223 [] []] m K:=by
 have h:=Xp (l:=[.sl rt [],.fn 223 [] []]) (pJ [] zd) ⟨Wk.sl rt [],Pa,trivial⟩;simp only[pK]at h;refine Xh Nz (nA (-1)) zd ?_;simp[E5,Ny,nA,bk];exact⟨h,hK⟩
def F1:X1:=fun d f _=>if f=999999 then(if d=12 then .aL 0 []else if d=70 then .aL 0 []else .junk)else .gd false .junk
def ri(a b:Int):(if a<b then b else a)=max a b:=by split<;>omega
def arR(B:X2)(id:Nat)(out:List Sp)(a:AV):Prop:=
 (out=[]/\a=.sl .nil [])\/∃gU,out≠[]/\a=.bs gU 0 out.length 2/\gU≠id/\gU<B.length/\Qg B gU=cM out
def KU{out:List Sp}(h:out≠[]):∃p u,out=p++[u]:=⟨out.dropLast,out.getLast h,(zzev h).symm⟩
def Dk(l:List Sp)(hl:l.length<=100000000):Pure Tryz.prog aD 222 [.sl .ro (l.map Qe)] (if Xj l=[]then .sl .nil []else .sl .ro ((Xj l).map Qe)):=by
 refine Qn adz F1 zd ?_;by_cases aJ:l=[]
 ·subst aJ;have hn:Xj []=[]:=by simp[Xj,F2]
  simp[Ns,F1,hn];refine Qj vL (fun f m=>f 15=I 0/\f 3=.sl .full []/\m=⟨[[]],[],fun _=>.gone,0⟩) (fun _ _=>0) ?_ ?_
  ·simp
  rintro f m ⟨sP,h3,rfl⟩;simp[sP,h3,vL];refine F0 _ _ (fun _=>rfl) _ _ ?_;refine FZ _ _ _ _ ?_;simp;refine Qj iR (fun f m=>f 31=I 0/\f 6=.sl .nil []/\m=⟨[[]],[],fun _=>.gone,0⟩) (fun _ _=>0) ?_ ?_
  ·simp
  rintro f m ⟨h31,h6,rfl⟩;simp[h31,h6,iR,Nt]
 have ay1:l.length≠0:=by simpa using aJ
 have iW:0<l.length:=zE
 simp[Ns,F1,aJ];refine⟨⟨zE,zE⟩,?_⟩
 refine Qj vL (fun f m=>∃(i id:Nat)(B:X2),i<=l.length/\f 15=I i/\f 3=.bs id 0 i 2/\m=⟨B,[],fun _=>.gone,0⟩/\id<B.length/\Qg B id≠[]/\i*2<=(Qg B id).length/\(Qg B id).take (i*2)=cM (l.take i)/\(0<i->Qg B id=cM (l.take i)))
  (fun f _=>l.length-(numOf (f 15)).toNat) ?_ ?_
 ·exact⟨0,0,[List.replicate (l.length*2) .junk],zE,zd,zd,rfl,zd,by simp;omega,zd,zd,zd⟩
 rintro f m ⟨i,id,B,hi,sP,h3,rfl,aM,A2,cR,bB,A6⟩;rcases zzab i l.length with aa|bu
 ·obtain⟨s,hs⟩:=aY aa;have ai:=Zv hs;have ah:(i:Int)<(l.length:Int):=zE
  have hw:=bR i zE;have eX:∀x,Qg (B++x) id=Qg B id:=fun x=>Qk aM;have lM:∀x v,(B++x).set id v=B.set id v++x:=fun x v=>Yi v aM;have gG:cM (l.take (i+1))=cM (l.take i)++[I s.1,I s.2]:=by rw[zzax,hs,Qca];rfl
  simp[sP,h3,ah,aa,ai,vL,hw,eX,lM,A2,cR,bB,F1];refine⟨⟨zE,zE⟩,aR,⟨i+1,zE,zd,?_⟩,zE⟩
  ·refine⟨B.length+1,⟨rfl,rfl⟩,zE,?_⟩
   have e:Qg (B.set id []++[[AV.int IntKind.i64 s.fst,AV.int IntKind.i64 s.snd],cM (List.take i l)++[AV.int IntKind.i64 s.fst,AV.int IntKind.i64 s.snd]]) (B.length+1)=cM (l.take (i+1)):=by
    have:=Zk (B.set id []) [[AV.int IntKind.i64 s.fst,AV.int IntKind.i64 s.snd],cM (List.take i l)++[AV.int IntKind.i64 s.fst,AV.int IntKind.i64 s.snd]] 1;rw[zzcm]at this;rw[this,gG];rfl
   rw[e];have e2:(cM (l.take (i+1))).length=(i+1)*2:=by rw[Vy,zzaq];congr 1;omega
   refine⟨?_,zE,?_,fun _=>rfl⟩
   ·intro h;rw[h]at e2;simp at e2
   rw[<- e2,zzbs]
 obtain rfl:i=l.length:=zE
 have hB:=A6 iW;rw[zzbs]at hB;have bU:¬((l.length:Nat):Int)<(l.length:Int):=zE
 simp[sP,h3,vL,F1];refine KV _ l zE B _ _ _ id aM aJ hB _ ?_;intro B1 z nB hB1 hz;have alV:id<B1.length:=zzar aM nB.1;rw[Qca]at hB1;have WR:B1[id]?=some (cM (l.filter mh)++cM z):=by rw[Je alV,hB1]
 refine KT _ (l.filter mh) zE _ id (cM z) WR ?_ _ ?_
 ·intro h;have:=congrArg List.length h;rw[zzah,Vy,Vy]at this;simp at this;omega
 intro d hp hs;have W5:=alW hp hs;have hdl:d.length=(l.filter mh).length:=hp.length_eq;rw[<- hdl];have ay2:d.length<=100000000:=zE
 simp[AM.wr]
 refine Qj iR (fun f m=>∃(i:Nat)(B:X2)(out:List Sp),i<=d.length/\f 31=I i/\m=⟨B,[],fun _=>.gone,0⟩/\out.length<=i/\id<B.length/\Qg B id=cM d++cM z/\F2 out (d.drop i)=Xj l/\arR B id out (f 6))
  (fun f _=>d.length-(numOf (f 31)).toNat) ?_ ?_
 ·exact⟨0,B1.set id (cM d++cM z),[],zE,zd,rfl,zd,Pi alV,Zg _ alV,Pi W5,.inl ⟨rfl,zd⟩⟩
 rintro f m ⟨i,B,out,hi,h31,rfl,hol,aM,hB,hm,hout⟩;rcases zzab i d.length with aa|bu
 ·obtain⟨v,hv⟩:=aY aa;have ah:(i:Int)<(d.length:Int):=zE
  have hw:=bR i zE
  have hg:(cM d++cM z).drop (i*2)=I v.1::I v.2::(cM (d.drop (i+1))++cM z):=by
   rw[zzdt (by rw[Vy];omega),uG hv];rfl
  have eY:d.drop i=v::d.drop (i+1):=by
   rw[zzaf aa,(zza.1 hv).2]
  rw[eY,F2]at hm;have eX:∀x,Qg (B++x) id=cM d++cM z:=fun x=>by rw[Qk aM,hB]
  obtain⟨rfl,h6⟩|⟨gU,hon,h6,eP,fW,tQ⟩:=hout
  ·simp[h31,h6,ah,aa,hB,eX,hg,iR,hw,F1];refine⟨aR,⟨i+1,zE,zd,?_⟩,zE⟩
   ·refine⟨[v],zd,zE,by simpa[QW]using hm,.inr ⟨B.length+1,zd,zd,zE,zd,zd⟩⟩
  obtain⟨p,u,rfl⟩:=KU hon;have arS:p.length+1<=i:=by simpa using hol
  have eG:(cM (p++[u])).drop (p.length*2+1)=[I u.2]:=by
   have:=F3 (l:=p++[u]) (i:=p.length) (s:=u) zd;simpa using this
  have bW:=wP (p++[u]) p.length u (max u.2 v.2) zd;have arT:(p++[u]).set p.length (u.1,max u.2 v.2)=p++[(u.1,max u.2 v.2)]:=zd
  rw[arT]at bW;have hwp:IntKind.i64.wrap (p.length:Int)=(p.length:Int):=by rw[Qi]<;>omega
  have kK:(0:Int)<(p.length:Int)+1:=zE
  have arU:∀x,Qg (B++x) gU=cM (p++[u]):=fun x=>by rw[Qk fW,tQ]
  have lM:∀x v,(B++x).set gU v=B.set gU v++x:=fun x v=>Yi v fW;have gG:=Vy (p++[u]);simp only[zzah,zzav,zzcd,zzbm]at gG h6;have aw5:QW (p++[u]) v=if v.1<=u.2 then p++[(u.1,max u.2 v.2)]else p++[u]++[v]:=by simp[QW]
  rw[aw5]at hm;by_cases hc:v.1<=u.2
  ·rw[if_pos hc]at hm;simp[h31,h6,ah,aa,hB,eX,arU,lM,hg,eG,iR,hw,hwp,kK,hc,ri,bW,gG,F1];refine⟨zE,⟨zE,zE⟩,aR,⟨i+1,zE,zd,?_⟩,zE⟩
   ·refine⟨p++[(u.1,max u.2 v.2)],by simp;omega,zE,by rw[Qk (Pi aM),Xl _ eP,hB],hm,.inr ⟨gU,zd,zd,eP,by simp;omega,by rw[Qk (Pi fW),Zg _ fW]⟩⟩
  rw[if_neg hc]at hm;simp[h31,h6,ah,aa,hB,eX,arU,lM,hg,eG,iR,hw,hwp,kK,hc,gG,F1];refine⟨zE,⟨⟨zE,by simp[Qca]⟩,zE⟩,aR,⟨i+1,zE,zd,?_⟩,zE⟩
  ·have bB:(cM (p++[u])).take ((p.length+1)*2)=cM (p++[u]):=zzal (by rw[gG];exact zzaa _);rw[bB];refine⟨p++[u]++[v],by simp;omega,zE,by rw[Qk (Pi aM),Xl _ eP,hB],hm,.inr ⟨B.length+1,zd,zd,zE,zd,?_⟩⟩;have:=Zk (B.set gU []) [[I v.1,I v.2],cM (p++[u])++[AV.int IntKind.i64 v.fst,AV.int IntKind.i64 v.snd]] 1;rw[zzcm]at this;rw[this,Qca (p++[u]) [v]];rfl
 obtain rfl:i=d.length:=zE
 rw[zzbx,F2]at hm;obtain⟨rfl,h6⟩|⟨gU,hon,h6,eP,fW,tQ⟩:=hout
 ·simp[h31,h6,iR,Nt,<- hm]
 have gK:=Vd ⟨B,[],fun _=>.gone,0⟩ 4 (Dl out);have mg:=Qdw out;have gG:=Vy out;simp[h31,h6,iR,Nt,<- hm,hon,tQ,gK,mg,gG]
def Uo(l:List Sp)(hl:l.length<=100000000):Pure Tryz.prog aD 222 [.sl .ro (l.map Qe)] (.sl .ro ((Xj l).map Qe)):=by
 have h:=Dk l hl;by_cases hn:Xj l=[]
 ·rw[if_pos hn]at h;rw[hn];exact Zx h (Wk.sl _ _)
 rw[if_neg hn]at h;exact h
def KW(a b:Int):(if b<a then b else a)=min a b:=by split<;>omega
def Bm(s:Sp):PQ:=[.agg [I s.1,I s.2]]
def W6(A B:List Sp)(hA:A.length<=100000000)(hB:B.length<=100000000):
  Iter Tryz.prog aD 270 [] [.ep [.sl .ro (A.map Qe)] 0,.ep [.sl .ro (B.map Qe)] 0] ((tU (A.length+B.length) A B).map Bm):=by
 intro Y l m K hF;refine Xh ad9 (fun _ _ _=>.junk) zd ?_;simp[US]
 refine Qj qK (fun f mm=>∃(i j:Nat),i<=A.length/\j<=B.length/\f 4=I i/\f 5=I j/\wQ (Y l) K ((tU (A.length-i+(B.length-j)) (A.drop i) (B.drop j)).map Bm) mm)
  (fun f _=>A.length-(numOf (f 4)).toNat+(B.length-(numOf (f 5)).toNat)) ?_ ?_
 ·exact⟨0,0,zE,zE,zd,zd,Pi hF⟩
 rintro f mm ⟨i,j,hi,hj,h4,h5,hF⟩;by_cases W7:i=A.length\/j=B.length
 ·have hnil:tU (A.length-i+(B.length-j)) (A.drop i) (B.drop j)=[]:=by
   obtain rfl|rfl:=W7
   ·rw[zzbx];cases A.length-A.length+(B.length-j)<;>rfl
   rw[zzbx];cases A.length-i+(B.length-B.length)with
   |zero=>rfl
   |succ n=>cases A.drop i<;>rfl
  rw[hnil]at hF;have hK:K mm:=hF mm (fN.refl _);by_cases h1:i<A.length
  ·have N8:¬(j:Int)<(B.length:Int):=zE
   have ah:(i:Int)<(A.length:Int):=zE
   simp[h4,h5,h1,ah,N8,qK,NK];exact hK
  have bU:¬(i:Int)<(A.length:Int):=zE
  simp[h4,h5,h1,bU,qK,NK];exact hK
 have h1:i<A.length:=zE
 have h2:j<B.length:=zE
 obtain⟨s,hs⟩:=aY h1;obtain⟨t,ht⟩:=aY h2;have zT:=Zv hs;have bk:=Zv ht;have hda:A.drop i=s::A.drop (i+1):=by rw[zzaf h1,(zza.1 hs).2]
 have hdb:B.drop j=t::B.drop (j+1):=by rw[zzaf h2,(zza.1 ht).2]
 have hn:A.length-i+(B.length-j)=(A.length-i+(B.length-j)-1)+1:=zE
 have qM:A.length-i+(B.length-j)-1=A.length-(i+1)+(B.length-j):=zE
 have eP:A.length-i+(B.length-j)-1=A.length-i+(B.length-(j+1)):=zE
 have ah:(i:Int)<(A.length:Int):=zE
 have eS:(j:Int)<(B.length:Int):=zE
 have Bn:=bR i zE;have uH:=bR j zE;rw[hda,hdb,hn,tU,<- hda,<- hdb]at hF;by_cases hc:max s.1 t.1<min s.2 t.2
 ·rw[if_pos hc]at hF;simp only[zzew,zzay]at hF;simp[h4,h5,h1,h2,ah,eS,zT,bk,qK,ri,KW,hc];refine hF _ (fN.box mm _) _ (fun m2 gL=>?_) (fun m2 hK=>?_)
  ·by_cases hd:s.2<t.2
   ·rw[if_pos hd,qM]at gL;have zI:¬t.2<=s.2:=zE
    simp[h1,h2,ah,eS,zT,bk,hd,zI,Bn];refine⟨aR,⟨i+1,zE,j,zE,zd,rfl,gL⟩,zE⟩
   rw[if_neg hd,eP]at gL;have zI:t.2<=s.2:=zE
   simp[h1,h2,ah,eS,zT,bk,hd,zI,uH];refine⟨aR,⟨i,zE,j+1,zE,rfl,zd,gL⟩,zE⟩
  simp[NK];exact hK _ (fN.refl _)
 rw[if_neg hc]at hF;simp only[zzaj]at hF;have hF':=wQ.ext hF (fN.box mm [[I (max s.1 t.1),I (min s.2 t.2)]]);by_cases hd:s.2<t.2
 ·rw[if_pos hd,qM]at hF';simp[h4,h5,h1,h2,ah,eS,zT,bk,qK,ri,KW,hc,hd,Bn];refine⟨aR,⟨i+1,zE,j,zE,zd,rfl,hF'⟩,zE⟩
 rw[if_neg hd,eP]at hF';simp[h4,h5,h1,h2,ah,eS,zT,bk,qK,ri,KW,hc,hd,uH];refine⟨aR,⟨i,zE,j+1,zE,rfl,zd,hF'⟩,zE⟩
def zU(A B:List Sp):Pure Tryz.prog aD 253 [.sl .ro (A.map Qe),.sl .ro (B.map Qe)] (.fn 270 [] [.ep [.sl .ro (A.map Qe)] 0,.ep [.sl .ro (B.map Qe)] 0]):=by
 refine Qn adX (fun _ _ _=>.junk) zd ?_;simp[aiI,aiJ]
def aey(A B:List Sp):X1:=fun d f _=>
 if f=999999 then .junk else if d=8 then .sl .ro ((Xj A).map Qe)else if d=10 then .sl .ro ((Xj B).map Qe)else if d=11 then .fn 270 [] [.ep [.sl .ro ((Xj A).map Qe)] 0,.ep [.sl .ro ((Xj B).map Qe)] 0]else .junk
def Dm:∀(n:Nat)(A B:List Sp),(tU n A B).length<=n
 |0,_,_=>by simp[tU]
 |n+1,[],_=>by simp[tU]
 |n+1,s::A,[]=>by simp[tU]
 |n+1,s::A,t::B=>by
  have h1:=Dm n A (t::B);have h2:=Dm n (s::A) B;rw[tU,zzah];split<;>split<;>simp<;>omega
def jk(A B:List Sp)(hA:A.length<=10000000)(hB:B.length<=10000000):
  Pure Tryz.prog aD 230 [.sl .ro (A.map Qe),.sl .ro (B.map Qe)] (.sl .ro ((zV A B).map Qe)):=by
 have h1:=Uo A zE;have h2:=Uo B zE;have l1:=Yt A;have l2:=Yt B;have h3:=zU (Xj A) (Xj B);have cN:=W6 (Xj A) (Xj B) zE zE;have hX:zV A B=tU ((Xj A).length+(Xj B).length) (Xj A) (Xj B):=rfl;have hXl:=Dm ((Xj A).length+(Xj B).length) (Xj A) (Xj B);rw[<- hX]at cN hXl;generalize zV A B=X at cN hXl;clear hX
 have key:∀r,r=(if X=[]then AV.sl .nil []else .sl .ro (X.map Qe))->Pure Tryz.prog aD 230 [.sl .ro (A.map Qe),.sl .ro (B.map Qe)] r:=by
  rintro r rfl;refine Qn adJ (aey A B) zd ?_;simp[aiw,aey];refine⟨h1,h2,h3,?_⟩
  refine jm (xs:=X.map Bm) zd cN (by intro x hx;simp at hx;obtain⟨a,b,_,rfl⟩:=hx;rfl)
   (fun i m=>∃(bx:X2)(rt:Rt),m.boxes=[.sl rt ((X.take i).map Qe)]::bx/\((i=0/\rt=.nil)\/(0<i/\∃id,rt=.own id 2/\m.lens[id]?=some i))) (fun _ _=>False) ⟨[],.nil,zd,.inl ⟨rfl,rfl⟩⟩ ?_ (fun _ _ _ h=>h.elim) ?_ ?_ (fun _ _ h=>h.elim)
  ·rintro i m m' ⟨bx,rt,hb,bk⟩ ⟨⟨b2,e1⟩,⟨l2,e2⟩,_⟩;refine⟨bx++b2,rt,by rw[e1,hb];rfl,?_⟩;obtain h|⟨h0,id,h1,h2⟩:=bk
   ·exact .inl h
   refine .inr ⟨h0,id,h1,?_⟩;rw[e2,zzak (zza.1 h2).1];exact h2
  ·rintro l i m x hg hr ⟨bx,rt,hb,bk⟩ hx K' k1 _ _
   obtain⟨s,hs,rfl⟩:∃s,X[i]?=some s/\Bm s=x:=by
    rw[zzbf]at hx;cases hq:X[i]? with
    |none=>rw[hq]at hx;cases hx
    |some y=>rw[hq]at hx;exact⟨y,rfl,Option.some.inj hx⟩
   have hi:i<X.length:=(zza.1 hs).1;have bB:X.take (i+1)=X.take i++[s]:=by rw[zzax,hs];rfl
   have iJ:(X.take i).length=i:=by rw[zzaq];omega
   rw[Us]at hb
   have gX:∀row∈(X.take i).map Qe,row.length=2:=by
    intro row h;rw[zzbh]at h;obtain⟨a,_,rfl⟩:=h;rfl
   generalize X.take i=T at hb bB iJ gX;obtain⟨rfl,rfl⟩|⟨h0,id,rfl,hL⟩:=bk
   ·have hTn:T=[]:=zzc.1 iJ;subst hTn;simp[hr,Zi,Bm,hb,aey];refine k1 _ ⟨bx++[[I s.1,I s.2]],.own m.lens.length 2,?_,.inr ⟨zE,m.lens.length,rfl,?_⟩⟩
    ·rw[bB];rfl
    simp
   have tV:m.lens[id]?=some T.length:=by rw[iJ];simpa using hL
   have aa:=(zza.1 tV).1;simp[hr,Zi,Bm,hb,aey,tV];refine⟨⟨?_,zE⟩,?_⟩
   ·rintro row (⟨a,b,_,rfl⟩|rfl)<;>rfl
   refine k1 _ ⟨bx++[[I s.1,I s.2]],.own id 2,?_,.inr ⟨zE,id,rfl,?_⟩⟩
   ·rw[bB,zzch];rfl
   simp[aa,iJ]
  rintro m ⟨bx,rt,hb,bk⟩;rw[zzbu]at hb bk;rw[zzbs]at hb;by_cases hn:X=[]
  ·subst hn;obtain⟨_,rfl⟩|⟨h0,_⟩:=bk
   ·simp[hb,UJ]
   simp at h0
  obtain⟨h0,_⟩|⟨_,id,rfl,_⟩:=bk
  ·exact absurd (zzc.1 h0) hn
  simp[hb,UJ,hn]
 have hk:=key _ rfl;by_cases hn:X=[]
 ·rw[if_pos hn]at hk;rw[hn];exact Zx hk (Wk.sl _ _)
 rw[if_neg hn]at hk;exact hk
def Out(m:AM)(id:Nat)(L:List Sp):Prop:=∃rt,Qg m.boxes id=[.sl rt (L.map Qe)]/\id<m.boxes.length/\((L=[]/\rt=.nil)\/(L≠[]/\∃k,rt=.own k 2/\m.lens[k]?=some L.length))
def Out.box{m:AM}{id:Nat}{L:List Sp}(h:Out m id L)(b:X2):Out {m with boxes:=m.boxes++b} id L:=by
 obtain⟨rt,h1,h2,h3⟩:=h;exact⟨rt,by show Qg (m.boxes++b) id=_;rw[Qk h2];exact h1,by show id<(m.boxes++b).length;simp;omega,h3⟩
def Dn(Y:YT)(f t:Int)(id:Nat)(L:List Sp)(m:AM)(hO:Out m id L)(hl:L.length<=1000000000)(K:UV)
  (hK:∀m',Out m' id (L++Dp f t)->bC (·=id) m.boxes m'.boxes->m'.st=m.st->m'.ln=m.ln->K (.aQ []) m'):aA Tryz.prog aD Y 247 [I f,I t,.ptr id 0] m K:=by
 obtain⟨rt,h1,h2,h3⟩:=hO;refine Xh adR (fun _ _ _=>.junk) zd ?_;by_cases IS:f<t
 ·have ha:Dp f t=[(f,t)]:=by simp[Dp,IS]
  rw[ha]at hK
  have gX:∀row∈L.map Qe,row.length=2:=by
   intro row h;rw[zzbh]at h;obtain⟨a,_,rfl⟩:=h;rfl
  obtain⟨rfl,rfl⟩|⟨aJ,k,rfl,hk⟩:=h3
  ·simp[NB,NC,IS,h1,h2];refine hK _ ⟨.own m.lens.length 2,?_,Pi h2,.inr ⟨zd,m.lens.length,rfl,zd⟩⟩ (bC.set (S:=(·=id)) (bC.refl _ _) (.inl rfl) _) rfl rfl;simp[Zg _ h2,Qe]
  have sM:=(zza.1 hk).1;simp[NB,NC,IS,h1,h2,hk];refine⟨⟨?_,zE⟩,?_⟩
  ·rintro row (⟨a,b,_,rfl⟩|rfl)<;>rfl
  refine hK _ ⟨.own k 2,?_,Pi h2,.inr ⟨zd,k,rfl,by simp[sM]⟩⟩ (bC.set (S:=(·=id)) (bC.refl _ _) (.inl rfl) _) rfl rfl;simp[Zg _ h2,Qe]
 have ha:Dp f t=[]:=by simp[Dp,IS]
 rw[ha,zzas]at hK;simp[NB,NC,IS];exact hK m ⟨rt,h1,h2,h3⟩ (bC.refl _ _) rfl rfl
def wR(f t:Int):(Dp f t).length<=1:=by unfold Dp;split<;>simp
def F4:∀(H:List Sp)(f t:Int),(jo f t H).1.length+(jo f t H).2.length<=H.length+1
 |[],f,t=>by have:=wR f t;simp[jo];omega
 |h::r,f,t=>by
  have h1:=wR f h.1;have h2:=wR f t;rw[jo];split
  ·split
   ·simp;omega
   have:=F4 r (max f h.2) t;simp;omega
  simp;omega
def F5:∀(A H:List Sp),(tW A H).length<=A.length+H.length
 |[],H=>by simp[tW]
 |s::A,H=>by
  have h1:=F4 H s.1 s.2;have h2:=F5 A (jo s.1 s.2 H).2;simp[tW];omega
def rj(a b:List Sp):X1:=fun d f _=>
 if f=999999 then .junk else if d=14 then .sl .ro ((Xj b).map Qe)else if d=16 then .sl .ro ((Xj a).map Qe)else .gd false .junk
def zW(a b:List Sp)(ha:a.length<=10000000)(hb:b.length<=10000000):
  Pure Tryz.prog aD 226 [.sl .ro (a.map Qe),.sl .ro (b.map Qe)] (.sl .ro ((Dq a b).map Qe)):=by
 have h1:=Uo a zE;have h2:=Uo b zE;have hR:Dq a b=tW (Xj a) (Xj b):=rfl;have hRl:=F5 (Xj a) (Xj b);have l1:=Yt a;have l2:=Yt b;rw[<- hR]at hRl;generalize Dq a b=R at hR hRl
 have key:∀r,r=(if R=[]then AV.sl .nil []else .sl .ro (R.map Qe))->Pure Tryz.prog aD 226 [.sl .ro (a.map Qe),.sl .ro (b.map Qe)] r:=by
  rintro r rfl;refine Qn adD (rj a b) zd ?_;simp[Nu,rj];refine⟨h2,h1,?_⟩;generalize Xj a=A at hR hRl l1 |-
  generalize Xj b=H at hR hRl l2 |-
  clear h1 h2;refine Qj CJ (fun f m=>∃(k i:Nat)(L:List Sp),k<=A.length/\i<=H.length/\f 18=I k/\f 8=I i/\Out m 0 L/\L++tW (A.drop k) (H.drop i)=R) (fun f _=>A.length-(numOf (f 18)).toNat) ?_ ?_
  ·exact⟨0,0,[],zE,zE,zd,zd,⟨.nil,rfl,zd,.inl ⟨rfl,rfl⟩⟩,Pi hR.symm⟩
  rintro f m ⟨k,i,L,hk,hi,h18,h8,hO,hL⟩;rcases zzab k A.length with aa|bu
  ·obtain⟨s,hs⟩:=aY aa;have ai:=Zv hs;have aez:(k:Int)<(A.length:Int):=zE
   have W8:=bR k zE;have hda:A.drop k=s::A.drop (k+1):=by rw[zzaf aa,(zza.1 hs).2]
   rw[hda,tW]at hL;have hO0:=hO;obtain⟨_,_,KH,_⟩:=hO0;simp[h18,aa,aez,ai,CJ,rj]
   refine Qj CK (fun g m2=>∃(i:Nat)(fr:Int)(L:List Sp),i<=H.length/\g 8=I i/\g 11=I fr/\Out m2 0 L/\m.boxes.length<m2.boxes.length/\Qg m2.boxes m.boxes.length=[I s.1,I s.2]/\
     L++((jo fr s.2 (H.drop i)).1++tW (A.drop (k+1)) (jo fr s.2 (H.drop i)).2)=R) (fun g _=>H.length-(numOf (g 8)).toNat) ?_ ?_
   ·refine⟨i,s.1,L,hi,by simp[h8],zd,hO.box _,zd,zd,hL⟩
   rintro g m2 ⟨i,fr,L,hi,h8,pL,hO,oy,hbx,hL⟩
   have hLl:L.length<=1000000000:=by
    have:=congrArg List.length hL;rw[zzah]at this;omega
   have lF:m.boxes.length≠0:=zE
   have fin:∀(hd:H.drop i=[]\/∃h r,H.drop i=h::r/\s.2<=h.1),L++Dp fr s.2++tW (A.drop (k+1)) (H.drop i)=R:=by
    rintro(hd|⟨h,r,hd,hc⟩)
    ·rw[hd]at hL |-;simpa[jo]using hL
    rw[hd]at hL |-
    rw[jo,if_neg zE]at hL;simpa using hL
   rcases zzab i H.length with iI|hig
   ·obtain⟨h,hh⟩:=aY iI;have hrh:=Zv hh;have ah:(i:Int)<(H.length:Int):=zE
    have Bn:=bR i zE;have hdh:H.drop i=h::H.drop (i+1):=by rw[zzaf iI,(zza.1 hh).2]
    by_cases hc:h.1<s.2
    ·rw[hdh,jo,if_pos hc,<- hdh]at hL;simp[h8,pL,iI,ah,hrh,hbx,hc,CK,rj];refine Dn Y0 fr h.1 0 L m2 hO hLl _ (fun m3 hO3 tX _ _=>?_);have arV:Qg m3.boxes m.boxes.length=[I s.1,I s.2]:=by rw[tX.2 _ oy lF];exact hbx
     have hm3:m.boxes.length<m3.boxes.length:=by have:=tX.1;omega
     by_cases hd:s.2<=max fr h.2
     ·rw[if_pos hd]at hL;simp[arV,ri,hd,W8,h18];refine⟨aR,⟨k+1,zE,i,zE,zd,rfl,L++Dp fr h.1,hO3,by rw[zzaz];exact hL⟩,zE⟩
     rw[if_neg hd]at hL;simp[arV,ri,hd,Bn,h8];refine⟨aR,⟨i+1,zE,zd,L++Dp fr h.1,hO3,hm3,by rw[zzaz,<- zzaz (Dp fr h.1)];exact hL⟩,zE⟩
    simp[h8,pL,iI,ah,hrh,hbx,hc,CK,rj];refine Dn Y0 fr s.2 0 L m2 hO hLl _ (fun m3 hO3 tX _ _=>?_);simp[W8,h18];refine⟨aR,⟨k+1,zE,i,zE,zd,rfl,L++Dp fr s.2,hO3,fin (.inr ⟨h,_,hdh,zE⟩)⟩,zE⟩
   have bU:¬(i:Int)<(H.length:Int):=zE
   simp[h8,pL,bU,zzbn.2 hig,hbx,CK,rj];refine Dn Y0 fr s.2 0 L m2 hO hLl _ (fun m3 hO3 tX _ _=>?_);simp[W8,h18];refine⟨aR,⟨k+1,zE,i,zE,zd,rfl,L++Dp fr s.2,hO3,fin (.inl (zzam hig))⟩,zE⟩
  obtain rfl:k=A.length:=zE
  rw[zzbx,tW,zzas]at hL;subst hL;obtain⟨rt,o1,o2,o3⟩:=hO;obtain⟨rfl,rfl⟩|⟨aJ,k,rfl,_⟩:=o3
  ·simp[h18,o1,CJ,UI]
  simp[h18,o1,CJ,UI,aJ]
 have hk:=key _ rfl;by_cases hn:R=[]
 ·rw[if_pos hn]at hk;rw[hn];exact Zx hk (Wk.sl _ _)
 rw[if_neg hn]at hk;exact hk
structure It where
 id:Int
 ki:Int
 fr:Int
 sp:Int
 ra:Int
structure Cl where
 ki:Int
 it:Int
 fr:Int
 to:Int
 re:Int
 n:Int
 a:Int
 b:Int
structure En where
 id:Int
 it:Int
 fr:Int
 ea:Int
 la:Int
 bo:Int
 al:List Sp
structure Bk where
 id:Int
 it:Int
 re:Int
 fr:Int
 to:Int
 un:Int
 pr:Int
structure Pl where
 ch:Int
 nu:Int
 de:Int
 of:Int
 sh:List Sp
 ep:Int
 rg:Int
 ln:Int
 fi:Int
 aO:List It
 ens:List En
 bks:List Bk
 cls:List Cl
def Qm(x:It):PQ:=[I x.id,I x.ki,I x.fr,I x.sp,I x.ra]
def Qh(x:Cl):PQ:=[I x.ki,I x.it,I x.fr,I x.to,I x.re,I x.n,I x.a,I x.b]
def Qd(x:En):PQ:=[I x.id,I x.it,I x.fr,I x.ea,I x.la,I x.bo,.sl .ro (x.al.map Qe)]
def Xk(x:Bk):PQ:=[I x.id,I x.it,I x.re,I x.fr,I x.to,I x.un,I x.pr]
def Qa(p:Pl):PQ:=[I p.ch,I p.nu,I p.de,I p.of,.sl .ro (p.sh.map Qe),I p.ep,I p.rg,I p.ln,I p.fi,.sl .ro (p.aO.map Qm),.sl .ro (p.ens.map Qd),.sl .ro (p.bks.map Xk),.sl .ro (p.cls.map Qh)]
def F6(l:List Sp)(s:Sp)(hl:l.length<=10000000):Pure Tryz.prog aD 193 [.sl .ro (l.map Qe),.agg [I s.1,I s.2]] (.bool (Dq [s] l).isEmpty):=by
 have h:=zW [s] l zd hl;have h':=Xp (l:=[.sl .full [[I s.1,I s.2]],.sl .ro (l.map Qe)]) h ⟨Wk.sl _ _,Pa,trivial⟩;generalize Dq [s] l=R at h';refine Qn adi (fun _ f _=>if f=226 then .sl .ro (R.map Qe)else .junk) zd ?_;cases R with
 |nil=>simp[UC,UD];exact h'
 |cons a r=>
  have:¬(r.length:Int)+1=0:=zE
  simp[UC,UD,this];exact h'
def Xg(id:Int):List It->Option It
 |[]=>none
 |x::r=>if x.id=id then some x else Xg id r
def wU{id:Int}{x:It}:∀{l:List It},Xg id l=some x->x∈l/\x.id=id
 |[],h=>by cases h
 |y::r,h=>by
  simp only[Xg]at h;split at h
  ·rename_i hy;cases h;exact⟨zd,hy⟩
  obtain⟨h1,h2⟩:=wU h;exact⟨by simp[h1],h2⟩
def Zq:Option It->AV
 |some x=>.aQ [.agg (Qm x),.bool true]
 |none=>.aQ [.agg [I 0,I 0,I 0,I 0,I 0],.bool false]
def kS(p:Pl)(id:Int)(hl:p.aO.length<=1000000000):Pure Tryz.prog aD 218 [.agg (Qa p),I id] (Zq (Xg id p.aO)):=by
 refine Qn adv (fun _ _ _=>.junk) zd ?_;simp[aii,Qa];refine Qj CI (fun f m=>∃(i:Nat)(bx:X2),f 11=I i/\i<=p.aO.length/\Xg id (p.aO.drop i)=Xg id p.aO/\m=⟨Qa p::[I 0,I 0,I 0,I 0,I 0]::bx,[],fun _=>.gone,0⟩) (fun f _=>p.aO.length-(numOf (f 11)).toNat) ?_ ?_
 ·exact⟨0,[],zd,zE,rfl,rfl⟩
 rintro f m ⟨i,bx,pL,hi,hf,rfl⟩;rcases zzab i p.aO.length with aa|bu
 ·obtain⟨x,hx⟩:=aY aa;have ai:Qg (p.aO.map Qm) i=Qm x:=Qv (by simp[hx]);have ah:(i:Int)<(p.aO.length:Int):=zE
  have hw:=bR i zE;have hd:p.aO.drop i=x::p.aO.drop (i+1):=by rw[zzaf aa,(zza.1 hx).2]
  rw[hd,Xg]at hf;by_cases aM:x.id=id
  ·rw[if_pos aM]at hf;simp[pL,aa,ah,ai,Qm,aM,CI,UG,<- hf,Zq]
  rw[if_neg aM]at hf;simp[pL,aa,ah,ai,Qm,aM,CI,hw];refine⟨aR,⟨i+1,zd,zE,hf⟩,zE⟩
 rw[zzam bu]at hf;have bU:¬(i:Int)<(p.aO.length:Int):=zE
 simp[pL,zzbn.2 bu,bU,CI,UG,<- hf,Zq,Xg]
def wV:List (Int×Int×Int×Int):=[(24000,1001,24,0),(24,1,24,0),(25,1,25,0),(30000,1001,30,2),(30,1,30,0),(50,1,50,0),(60000,1001,60,4),(60,1,60,0)]
def zX(nu de:Int):List (Int×Int×Int×Int)->Option (Int×Int×Int×Int)
 |[]=>none
 |x::r=>if x.1=nu/\x.2.1=de then some x else zX nu de r
def Vg(nu de:Int):Bool:=(zX nu de wV).isSome
def F7:Option (Int×Int×Int×Int)->AV
 |some x=>.aQ [.agg [I x.1,I x.2.1,I x.2.2.1,I x.2.2.2],.bool true]
 |none=>.aQ [.agg [I 0,I 0,I 0,I 0],.bool false]
def QY:∀i:Nat,i<8->∃x,wV[i]?=some x/\(Dr.drop (i*4)).take 4=[I x.1,I x.2.1,I x.2.2.1,I x.2.2.2]/\wV.drop i=x::wV.drop (i+1)
 |0,_=>⟨_,rfl,rfl,rfl⟩
 |1,_=>⟨_,rfl,rfl,rfl⟩
 |2,_=>⟨_,rfl,rfl,rfl⟩
 |3,_=>⟨_,rfl,rfl,rfl⟩
 |4,_=>⟨_,rfl,rfl,rfl⟩
 |5,_=>⟨_,rfl,rfl,rfl⟩
 |6,_=>⟨_,rfl,rfl,rfl⟩
 |7,_=>⟨_,rfl,rfl,rfl⟩
 |n+8,h=>zE
def Jp{nu de:Int}(h:Vg nu de=true):24<=nu/\nu<=60000/\1<=de/\de<=1001/\de<nu:=by
 simp only[Vg,wV,zX]at h;repeat' split at h
 all_goals first|(cases h;done)|omega
theorem W9:Dr.length=32:=rfl
def QZ(nu de:Int):Pure Tryz.prog aD 211 [.agg [I nu,I de]] (F7 (zX nu de wV)):=by
 refine Qn adn (fun _ _ _=>.junk) zd ?_;have hg:aD 2=.ep Dr 0:=rfl;have iJ:=W9;have bB:Dr.take 32=Dr:=rfl;simp[ah6,hg,iJ,bB];refine Qj vI (fun f m=>∃(i:Nat)(bx:X2),f 7=I i/\i<=8/\zX nu de (wV.drop i)=zX nu de wV/\m=⟨[I nu,I de]::[I 0,I 0,I 0,I 0]::bx,[],fun _=>.gone,0⟩) (fun f _=>8-(numOf (f 7)).toNat) ?_ ?_
 ·exact⟨0,[],zd,zE,rfl,rfl⟩
 rintro f m ⟨i,bx,h7,hi,hf,rfl⟩;by_cases h8:i=8
 ·subst h8;have:zX nu de (wV.drop 8)=none:=rfl;rw[this]at hf;simp[h7,vI,UE,<- hf,F7]
 have aa:i<8:=zE
 obtain⟨x,hx,ai,hd⟩:=QY i aa;have ah:(i:Int)<8:=zE
 have hw:=bR i zE;have wW:min 4 (32-i*4)=4:=zE
 rw[hd,zX]at hf;by_cases hc:x.1=nu/\x.2.1=de
 ·rw[if_pos hc]at hf;simp[h7,aa,ah,iJ,ai,wW,hc.1,hc.2,vI,UE,<- hf,F7]
 rw[if_neg hc]at hf;by_cases fe:x.1=nu
 ·have zH:¬x.2.1=de:=fun h=>hc ⟨fe,h⟩;simp[h7,aa,ah,iJ,ai,wW,fe,zH,vI,hw];refine⟨aR,⟨i+1,zd,zE,hf⟩,zE⟩
 simp[h7,aa,ah,iJ,ai,wW,fe,vI,hw];refine⟨aR,⟨i+1,zd,zE,hf⟩,zE⟩
def Wm(nu de:Int):Pure Tryz.prog aD 176 [.agg [I nu,I de]] (.bool (Vg nu de)):=by
 have h:=QZ nu de;unfold Vg;refine Qn ac3 (fun _ _ _=>F7 (zX nu de wV)) zd ?_;cases hf:zX nu de wV with
 |none=>rw[hf]at h;simp only[F7]at h;simp[T1,T2,F7];exact h
 |some x=>rw[hf]at h;simp only[F7]at h;simp[T1,T2,F7];exact h
def F8(f:Int):Pure Tryz.prog aD 262 [I f] (.bool (decide (0<=f/\f<=100000000))):=by
 refine Qn ad1 (fun _ _ _=>.junk) zd ?_;by_cases h1:0<=f<;>by_cases h2:f<=100000000<;>simp[aiO,aiP,h1,h2]
def sQ(f:Int):Pure Tryz.prog aD 192 [I f] (.bool (decide (0<=f/\f<=100000000))):=by
 refine Qn adh (fun _ _ _=>.junk) zd ?_;by_cases h1:0<=f<;>by_cases h2:f<=100000000<;>simp[ahY,ahZ,h1,h2]
def Yk(nu de f:Int):Int:=if Vg nu de=true/\0<=f/\f<=100000000 then(f*de).tdiv nu else -1
def wX(nu de s:Int):Int:=if Vg nu de=true/\0<=s/\s<=10000000000 then(s*nu+de-1).tdiv de else -1
def Ds{x y a b:Int}(h1:0<=x/\x<=a)(h2:0<=y/\y<=b):0<=x*y/\x*y<=a*b:=
 ⟨zzeh h1.1 h2.1,Int.mul_le_mul h1.2 h2.2 h2.1 (zzhq h1.1 h1.2)⟩
def Dt{x y:Int}(h:0<=x)(hy:1<=y):0<=x.tdiv y/\x.tdiv y<=x:=by
 rw[zzcj h];exact⟨Int.ediv_nonneg h zE,Int.ediv_le_self _ h⟩
def Q0(nu de f:Int):Pure Tryz.prog aD 248 [.agg [I nu,I de],I f] (I (Yk nu de f)):=by
 have h1:=Wm nu de;have h2:=F8 f;refine Qn adS (fun _ g _=>if g=176 then .bool (Vg nu de)else .bool (decide (0<=f/\f<=100000000))) zd ?_;cases hv:Vg nu de with
 |false=>rw[hv]at h1;simp[ND,NF,hv,Yk];exact h1
 |true=>
  rw[hv]at h1;by_cases hf:0<=f/\f<=100000000
  ·obtain⟨b1,b2,b3,b4,_⟩:=Jp hv;obtain⟨p1,p2⟩:=Ds (x:=f) (y:=de) (a:=100000000) (b:=1001) ⟨hf.1,hf.2⟩ ⟨zE,zE⟩;have w1:IntKind.i64.wrap (f*de)=f*de:=by rw[Qi]<;>omega
   obtain⟨d1,d2⟩:=Dt (x:=f*de) (y:=nu) p1 zE;have w2:IntKind.i64.wrap ((f*de).tdiv nu)=(f*de).tdiv nu:=by rw[Qi]<;>omega
   have hnz:¬nu=0:=zE
   simp[hf]at h2;simp[ND,NF,hv,Yk,hf,w1,w2,hnz];exact⟨h1,h2⟩
  simp only[hf,decide_false]at h2;simp[ND,NF,hv,Yk,hf];exact⟨h1,h2⟩
def aeA(a b:Int)(ha:0<=a/\a<=1000000000000000)(hb:1<=b/\b<=1001):Pure Tryz.prog aD 242 [I a,I b] (I ((a+b-1).tdiv b)):=by
 refine Qn adP (fun _ _ _=>.junk) zd ?_;have w1:IntKind.i64.wrap (a+b)=a+b:=by rw[Qi]<;>omega
 have w2:IntKind.i64.wrap (a+b-1)=a+b-1:=by rw[Qi]<;>omega
 obtain⟨d1,d2⟩:=Dt (x:=a+b-1) (y:=b) zE zE;have w3:IntKind.i64.wrap ((a+b-1).tdiv b)=(a+b-1).tdiv b:=by rw[Qi]<;>omega
 have hnz:¬b=0:=zE
 simp[aiE,aiF,w1,w2,w3,hnz]
def Bo(nu de s:Int):Pure Tryz.prog aD 220 [.agg [I nu,I de],I s] (I (wX nu de s)):=by
 have h1:=Wm nu de;refine Qn adx (fun _ g _=>if g=176 then .bool (Vg nu de)else I (wX nu de s)) zd ?_;cases hv:Vg nu de with
 |false=>rw[hv]at h1;simp[EZ,E3,hv,wX];exact h1
 |true=>
  rw[hv]at h1;by_cases J6:s<0
  ·have:¬(0<=s/\s<=10000000000):=zE
   simp[EZ,E3,hv,wX,J6,this];exact h1
  by_cases hs1:10000000000<s
  ·have:¬(0<=s/\s<=10000000000):=zE
   simp[EZ,E3,hv,wX,J6,hs1,this];exact h1
  have hs:0<=s/\s<=10000000000:=zE
  obtain⟨b1,b2,b3,b4,_⟩:=Jp hv;obtain⟨p1,p2⟩:=Ds (x:=s) (y:=nu) (a:=10000000000) (b:=60000) ⟨hs.1,hs.2⟩ ⟨zE,zE⟩;have w1:IntKind.i64.wrap (s*nu)=s*nu:=by rw[Qi]<;>omega
  have h2:=aeA (s*nu) de ⟨p1,zE⟩ ⟨zE,zE⟩;simp[EZ,E3,hv,wX,J6,hs1,hs,w1];exact⟨h1,h2⟩
def gY(n:Int):Bool:=decide (-50400<=n/\n<=50400)
def wY(n:Int):Pure Tryz.prog aD 212 [I n] (.bool (gY n)):=by
 refine Qn ado (fun _ _ _=>.junk) zd ?_;by_cases h1: -50400<=n<;>by_cases h2:n<=50400<;>simp[ah7,ah8,gY,h1,h2]
def tY:Int->List Sp->Bool
 |_,[]=>true
 |last,s::r=>if s.1<=last\/10000000000<s.1\/gY s.2=false then false else tY s.1 r
def Yb(of:Int)(sh:List Sp):Bool:=decide (sh.length<=40)&&gY of&&tY (-1) sh
def jq(of:Int)(sh:List Sp)(hl:sh.length<=1000000000):Pure Tryz.prog aD 177 [.agg [I of,.sl .ro (sh.map Qe)]] (.bool (Yb of sh)):=by
 have h1:=wY of;refine Qn ac4 (fun d f a=>match a with|[.int _ n]=>.bool (gY n)|_=>.junk) zd ?_;by_cases h40:40<sh.length
 ·have aeB:(40:Int)<(sh.length:Int):=zE
  have:Yb of sh=false:=by simp[Yb];intro h;omega
  simp[EX,vC,h40,aeB,this]
 have aeB:¬(40:Int)<(sh.length:Int):=zE
 cases ho:gY of with
 |false=>
  have:Yb of sh=false:=by simp[Yb,ho]
  rw[ho]at h1;simp[EX,vC,h40,aeB,this,ho];exact h1
 |true=>
  have hv:Yb of sh=tY (-1) sh:=by simp[Yb,ho];intro _;omega
  rw[ho]at h1;simp[EX,h40,aeB,ho];refine⟨h1,?_⟩;refine Qj qH (fun f m=>∃(i:Nat)(last:Int)(bx:X2),f 19=I i/\f 3=I last/\i<=sh.length/\tY last (sh.drop i)=tY (-1) sh/\m=⟨[I of,.sl .ro (sh.map Qe)]::bx,[],fun _=>.gone,0⟩) (fun f _=>sh.length-(numOf (f 19)).toNat) ?_ ?_
  ·exact⟨0,-1,[],zd,zd,zE,rfl,rfl⟩
  rintro f m ⟨i,last,bx,h19,h3,hi,ha,rfl⟩;rcases zzab i sh.length with aa|bu
  ·obtain⟨s,hs⟩:=aY aa;have ai:=Zv hs;have ah:(i:Int)<(sh.length:Int):=zE
   have hw:=bR i zE;have hd:sh.drop i=s::sh.drop (i+1):=by rw[zzaf aa,(zza.1 hs).2]
   rw[hd,tY]at ha;have hp:=wY s.2;by_cases c1:s.1<=last
   ·rw[if_pos (.inl c1)]at ha;simp[h19,h3,aa,ah,ai,c1,qH,vC,hv,<- ha]
   by_cases c2:10000000000<s.1
   ·rw[if_pos (.inr (.inl c2))]at ha;simp[h19,h3,aa,ah,ai,c1,c2,qH,vC,hv,<- ha]
   cases c3:gY s.2 with
   |false=>
    rw[if_pos (.inr (.inr c3))]at ha;rw[c3]at hp;simp[h19,h3,aa,ah,ai,c1,c2,c3,qH,vC,hv,<- ha];exact hp
   |true=>
    rw[if_neg (by rintro(h|h|h);exact c1 h;exact c2 h;rw[c3]at h;cases h)]at ha;rw[c3]at hp;simp[h19,h3,aa,ah,ai,c1,c2,c3,qH,hw];refine⟨hp,aR,⟨i+1,zd,zE,ha⟩,zE⟩
  rw[zzam bu,tY]at ha;have bU:¬(i:Int)<(sh.length:Int):=zE
  simp[h19,zzbn.2 bu,bU,qH,vC,hv,<- ha]
def Jz(p:Pl):Bool:=Vg p.nu p.de&&Yb p.of p.sh&&decide (0<=p.ep/\p.ep<=9000000000)
def KX(p:Pl)(hl:p.sh.length<=1000000000):Pure Tryz.prog aD 227 [.agg (Qa p)] (.bool (Jz p)):=by
 have h1:=Wm p.nu p.de;have h2:=jq p.of p.sh hl;refine Qn adG (fun _ g _=>if g=176 then .bool (Vg p.nu p.de)else .bool (Yb p.of p.sh)) zd ?_;cases hv:Vg p.nu p.de with
 |false=>rw[hv]at h1;simp[Nv,Nw,Qa,Jz,hv];exact h1
 |true=>
  rw[hv]at h1;cases hz:Yb p.of p.sh with
  |false=>rw[hz]at h2;simp[Nv,Nw,Qa,Jz,hv,hz];exact⟨h1,h2⟩
  |true=>
   rw[hz]at h2;by_cases c1:0<=p.ep<;>by_cases c2:p.ep<=9000000000<;>simp[Nv,Nw,Qa,Jz,hv,hz,c1,c2]<;>exact⟨h1,h2⟩
instance:DecidableEq Cl:=fun x y=>decidable_of_iff (x.ki=y.ki/\x.it=y.it/\x.fr=y.fr/\x.to=y.to/\x.re=y.re/\x.n=y.n/\x.a=y.a/\x.b=y.b) (by cases x;cases y;simp)
def wi(n lo hi:Int):Bool:=decide (lo<=n/\n<=hi)
def Vk(n lo hi:Int):Pure Tryz.prog aD 69 [I n,I lo,I hi] (.bool (wi n lo hi)):=by
 refine Qn akQ (fun _ _ _=>.junk) zd ?_;by_cases h1:lo<=n<;>by_cases h2:n<=hi<;>simp[apo,apq,wi,h1,h2]
def Q1(c:Cl):Cl:=
 if c.ki=1\/c.ki=2 then⟨c.ki,c.it,c.fr,c.to,c.re,0,0,0⟩else if c.ki=3\/c.ki=4 then⟨c.ki,c.it,0,0,c.re,c.n,0,0⟩else
 if c.ki=5 then⟨c.ki,0,0,0,0,c.n,c.a,c.b⟩else if c.ki=6 then⟨c.ki,0,c.fr,c.to,0,0,c.a,0⟩else⟨0,0,0,0,0,0,0,0⟩
def Q2(c:Cl):Pure Tryz.prog aD 67 [.agg (Qh c)] (.agg (Qh (Q1 c))):=by
 refine Qn akM (fun _ _ _=>.junk) zd ?_;by_cases h1:c.ki=1
 ·simp[EH,EI,Qh,Q1,h1]
 by_cases h2:c.ki=2
 ·simp[EH,EI,Qh,Q1,h2]
 by_cases h3:c.ki=3
 ·simp[EH,EI,Qh,Q1,h3]
 by_cases h4:c.ki=4
 ·simp[EH,EI,Qh,Q1,h4]
 by_cases h5:c.ki=5
 ·simp[EH,EI,Qh,Q1,h5]
 by_cases h6:c.ki=6
 ·simp[EH,EI,Qh,Q1,h6]
 simp[EH,EI,Qh,Q1,h1,h2,h3,h4,h5,h6]
def Ue(c:Cl):Bool:=wi c.it 1 4611686018427387903&&wi c.re 1 255
def wZ:X1:=fun _ _ l=>match l with
 |[.int _ n,.int _ lo,.int _ hi]=>.bool (wi n lo hi)
 |_=>.junk
def F9(c:Cl):Pure Tryz.prog aD 68 [.agg (Qh c)] (.bool (Ue c)):=by
 have h1:=Vk c.it 1 4611686018427387903;have h2:=Vk c.re 1 255;refine Qn akP wZ zd ?_;cases e1:wi c.it 1 4611686018427387903 with
 |false=>rw[e1]at h1;simp[akN,akO,Qh,wZ,Ue,e1];exact h1
 |true=>rw[e1]at h1;simp[akN,akO,Qh,wZ,Ue,e1];exact⟨h1,h2⟩
def Jj(n:Int):Bool:=wi n 0 86340&&decide (n.tmod 60=0)
def sR(n:Int):Pure Tryz.prog aD 70 [I n] (.bool (Jj n)):=by
 have h1:=Vk n 0 86340;refine Qn akT wZ zd ?_;cases e1:wi n 0 86340 with
 |false=>rw[e1]at h1;simp[akR,akS,wZ,Jj,e1];exact h1
 |true=>
  rw[e1]at h1;by_cases e2:n.tmod 60=0<;>simp[akR,akS,wZ,Jj,e1,e2]<;>exact h1
def Kn(c:Cl):Bool:=
 if c.ki=1\/c.ki=2 then Ue c&&(decide (0<=c.fr)&&(decide (c.fr<c.to)&&decide (c.to<=10000000000)))else if c.ki=3 then Ue c&&wi c.n 0 1000 else
 if c.ki=4 then Ue c&&wi c.n 0 10000000000 else if c.ki=5 then wi c.a 1 200&&(wi c.b 1 200&&(decide (c.a≠c.b)&&wi c.n 0 86400))else
 if c.ki=6 then wi c.a 1 3&&(Jj c.fr&&(Jj c.to&&decide (c.fr≠c.to)))else false
def Xv(c:Cl):Bool:=decide (Q1 c=c)&&Kn c
def aw6(c u:Cl):eqFs [I c.ki,I c.it,I c.fr,I c.to,I c.re,I c.n,I c.a,I c.b] [I u.ki,I u.it,I u.fr,I u.to,I u.re,I u.n,I u.a,I u.b]=decide (u=c):=by
 obtain⟨a1,a2,a3,a4,a5,a6,a7,a8⟩:=c;obtain⟨b1,b2,b3,b4,b5,b6,b7,b8⟩:=u;simp only[eqFs,eqF,Cl.mk.injEq,zzgj];by_cases h:(b1=a1/\b2=a2/\b3=a3/\b4=a4/\b5=a5/\b6=a6/\b7=a7/\b8=a8)
 ·obtain⟨rfl,rfl,rfl,rfl,rfl,rfl,rfl,rfl⟩:=h;simp
 rw[decide_eq_false h];apply Bool.eq_false_iff.2;intro hh;simp only[zzai,beq_iff_eq]at hh;obtain⟨e1,e2,e3,e4,e5,e6,e7,e8⟩:=hh;exact h ⟨e1.symm,e2.symm,e3.symm,e4.symm,e5.symm,e6.symm,e7.symm,e8.symm⟩
def alX(c:Cl):X1:=fun _ f l=>
 if f=67 then .agg (Qh (Q1 c))else if f=68 then .bool (Ue c)else if f=69 then(match l with
 |[.int _ n,.int _ lo,.int _ hi]=>.bool (wi n lo hi)
 |_=>.junk)else match l with
 |[.int _ n]=>.bool (Jj n)
 |_=>.junk
def Kq(c:Cl):Pure Tryz.prog aD 31 [.agg (Qh c)] (.bool (Xv c)):=by
 have h0:=Q2 c;have hE:=aw6 c (Q1 c);have hi:=F9 c;refine Qn akt (alX c) zd ?_;by_cases hu:Q1 c=c
 ·rw[hu]at h0 hE;simp only[decide_true]at hE;have hv:Xv c=Kn c:=by simp[Xv,hu]
  rw[hv];simp[-eqFs,aks,Qh,alX,hu,hE];refine⟨h0,?_⟩;by_cases h1:c.ki=1\/c.ki=2
  ·have hk:Kn c=(Ue c&&(decide (0<=c.fr)&&(decide (c.fr<c.to)&&decide (c.to<=10000000000)))):=by unfold Kn;rw[if_pos h1]
   rw[hk];clear hk hv;cases e1:Ue c with
   |false=>rw[e1]at hi;rcases h1 with h1|h1<;>(simp[iw,h1,e1];simpa[Qh,h1]using hi)
   |true=>
    rw[e1]at hi;by_cases e2:0<=c.fr<;>by_cases e3:c.fr<c.to<;>by_cases e4:c.to<=10000000000<;>rcases h1 with h1|h1<;>(simp[iw,h1,e1,e2,e3,e4];simpa[Qh,h1]using hi)
  have pL:¬c.ki=1:=fun h=>h1 (.inl h);have oA:¬c.ki=2:=fun h=>h1 (.inr h);by_cases h3:c.ki=3
  ·have hk:Kn c=(Ue c&&wi c.n 0 1000):=by unfold Kn;rw[if_neg h1,if_pos h3]
   rw[hk];clear hk hv;have hw:=Vk c.n 0 1000;cases e1:Ue c with
   |false=>rw[e1]at hi;simp[iw,h3,e1];simpa[Qh,h3]using hi
   |true=>rw[e1]at hi;simp[iw,h3,e1];exact⟨by simpa[Qh,h3]using hi,hw⟩
  by_cases h4:c.ki=4
  ·have hk:Kn c=(Ue c&&wi c.n 0 10000000000):=by unfold Kn;rw[if_neg h1,if_neg h3,if_pos h4]
   rw[hk];clear hk hv;have hw:=Vk c.n 0 10000000000;cases e1:Ue c with
   |false=>rw[e1]at hi;simp[iw,h4,e1];simpa[Qh,h4]using hi
   |true=>rw[e1]at hi;simp[iw,h4,e1];exact⟨by simpa[Qh,h4]using hi,hw⟩
  by_cases h5:c.ki=5
  ·have hk:Kn c=(wi c.a 1 200&&(wi c.b 1 200&&(decide (c.a≠c.b)&&wi c.n 0 86400))):=by unfold Kn;rw[if_neg h1,if_neg h3,if_neg h4,if_pos h5]
   rw[hk];clear hk hv hi;have w1:=Vk c.a 1 200;have w2:=Vk c.b 1 200;have w3:=Vk c.n 0 86400;cases e1:wi c.a 1 200 with
   |false=>rw[e1]at w1;simp[iw,h5,e1];exact w1
   |true=>
    rw[e1]at w1;cases e2:wi c.b 1 200 with
    |false=>rw[e2]at w2;simp[iw,h5,e1,e2];exact⟨w1,w2⟩
    |true=>
     rw[e2]at w2;by_cases e3:c.a=c.b
     ·simp[iw,h5,e1,e2,e3];exact w2
     simp[iw,h5,e1,e2,e3];exact⟨w1,w2,w3⟩
  by_cases h6:c.ki=6
  ·have hk:Kn c=(wi c.a 1 3&&(Jj c.fr&&(Jj c.to&&decide (c.fr≠c.to)))):=by unfold Kn;rw[if_neg h1,if_neg h3,if_neg h4,if_neg h5,if_pos h6]
   rw[hk];clear hk hv hi;have w1:=Vk c.a 1 3;have w2:=sR c.fr;have w3:=sR c.to;cases e1:wi c.a 1 3 with
   |false=>rw[e1]at w1;simp[iw,h6,e1];exact w1
   |true=>
    rw[e1]at w1;cases e2:Jj c.fr with
    |false=>rw[e2]at w2;simp[iw,h6,e1,e2];exact⟨w1,w2⟩
    |true=>
     rw[e2]at w2;cases e4:Jj c.to with
     |false=>rw[e4]at w3;simp[iw,h6,e1,e2,e4];exact⟨w1,w2,w3⟩
     |true=>
      rw[e4]at w3;by_cases e3:c.fr=c.to
      ·simp[iw,h6,e1,e2,e4,e3];exact⟨w1,w3⟩
      simp[iw,h6,e1,e2,e4,e3];exact⟨w1,w2,w3⟩
  have hk:Kn c=false:=by unfold Kn;rw[if_neg h1,if_neg h3,if_neg h4,if_neg h5,if_neg h6]
  rw[hk];simp[iw,pL,oA,h3,h4,h5,h6]
 simp only[hu,decide_false]at hE;have hv:Xv c=false:=by simp[Xv,hu]
 rw[hv];simp[-eqFs,aks,iw,Qh,alX,hE];exact h0
def arW(a:Int):IntKind.i64.wrap ((BitVec.ofInt 64 a&&& 1#64).toNat:Int)=a%2:=by
 have h:(BitVec.ofInt 64 a&&& 1#64).toNat=(BitVec.ofInt 64 a).toNat%2:=by
  rw[BitVec.toNat_and];exact Nat.and_one_is_mod _
 rw[h,BitVec.toNat_ofInt,Qi]<;>omega
def alY(c:Cl)(region:Int):Bool:=decide (c.re.fdiv (2 ^ (min region.toNat 64))%2=1)
def gZ(c:Cl)(item region:Int):Bool:=wi region 0 7&&(decide (c.it=item)&&alY c region)
def mj(c:Cl)(item region:Int):Pure Tryz.prog aD 257 [.agg (Qh c),I item,I region] (.bool (gZ c item region)):=by
 have h1:=Vk region 0 7;refine Qn adZ wZ zd ?_;cases e1:wi region 0 7 with
 |false=>rw[e1]at h1;simp[E7,E8,Qh,wZ,gZ,e1];exact h1
 |true=>
  have hr:0<=region:=by simp[wi]at e1;omega
  rw[e1]at h1;by_cases e2:c.it=item
  ·by_cases e3:c.re.fdiv (2 ^ (min region.toNat 64))%2=1
   ·simp[E7,E8,Qh,wZ,gZ,e1,e2,e3,hr,alY,IntKind.bits];exact⟨h1,(arW _).trans e3⟩
   simp[E7,E8,Qh,wZ,gZ,e1,e2,e3,hr,alY,IntKind.bits];exact⟨h1,fun h=>e3 ((arW _).symm.trans h)⟩
  simp[E7,E8,Qh,wZ,gZ,e1,e2];exact h1
def Ga(cm:Int)(c:Cl):Bool:=decide (c.ki=6)&&(decide (c.a<=cm)&&Xv c)
def uI(cs:List Cl)(cm:Int):List Sp:=(cs.filter (Ga cm)).map fun c=>(c.fr,c.to)
def tZ(cs:List Cl)(cm:Int)(hl:cs.length<=100000000):Pure Tryz.prog aD 251 [.sl .ro (cs.map Qh),I cm] (.sl .ro ((uI cs cm).map Qe)):=by
 have key:∀r,r=(if uI cs cm=[]then AV.sl .nil []else .sl .ro ((uI cs cm).map Qe))->Pure Tryz.prog aD 251 [.sl .ro (cs.map Qh),I cm] r:=by
  rintro r rfl
  refine Qn adV (fun d f l=>if f=999999 then .junk else match l with
   |[.agg [.int _ a,.int _ b,.int _ c,.int _ d,.int _ e,.int _ f,.int _ g,.int _ h]]=>.bool (Xv ⟨a,b,c,d,e,f,g,h⟩)
   |_=>.junk) zd ?_
  simp[UM]
  refine Qj iS (fun f m=>∃(i:Nat)(bx:X2)(rt:Rt)(L':P1)(o:List Sp),i<=cs.length/\f 10=I i/\f 5=.sl rt (o.map Qe)/\m=⟨bx,L',fun _=>.gone,0⟩/\o.length<=i/\o++uI (cs.drop i) cm=uI cs cm/\
   ((o=[]/\rt=.nil/\L'=[])\/(o≠[]/\rt=.own 0 2/\L'=[o.length]))) (fun f _=>cs.length-(numOf (f 10)).toNat) ?_ ?_
  ·exact⟨0,[],.nil,[],[],zE,zd,zd,rfl,zd,zd,.inl ⟨rfl,rfl,rfl⟩⟩
  rintro f m ⟨i,bx,rt,L',o,hi,lN,h5,rfl,hol,ho,bk⟩;rcases zzab i cs.length with aa|bu
  ·obtain⟨c,hc⟩:=aY aa;have ai:Qg (cs.map Qh) i=Qh c:=Qv (by simp[hc]);have ah:(i:Int)<(cs.length:Int):=zE
   have hw:=bR i zE;have hd:cs.drop i=c::cs.drop (i+1):=by rw[zzaf aa,(zza.1 hc).2]
   have XA:=Kq c;rw[hd]at ho
   have gX:∀row∈o.map Qe,row.length=2:=by
    intro row h;rw[zzbh]at h;obtain⟨a,_,rfl⟩:=h;rfl
   have skip:Ga cm c=false->o++uI (cs.drop (i+1)) cm=uI cs cm:=by
    intro hb;rw[<- ho];simp[uI,hb]
   have take:Ga cm c=true->(o++[(c.fr,c.to)])++uI (cs.drop (i+1)) cm=uI cs cm:=by
    intro hb;rw[<- ho];simp[uI,hb]
   by_cases c1:c.ki=6
   ·have hc6:(⟨6,c.it,c.fr,c.to,c.re,c.n,c.a,c.b⟩:Cl)=c:=by cases c;simp at c1;subst c1;rfl
    have nC:Pure Tryz.prog aD 31 [.agg [I 6,I c.it,I c.fr,I c.to,I c.re,I c.n,I c.a,I c.b]] (.bool (Xv c)):=by simpa[Qh,c1]using XA
    by_cases c2:c.a<=cm
    ·cases c3:Xv c with
     |true=>
      have ht:=take (by simp[Ga,c1,c2,c3]);rw[c3]at nC;obtain⟨rfl,rfl,rfl⟩|⟨aJ,rfl,rfl⟩:=bk
      ·simp[lN,h5,aa,ah,ai,Qh,c1,c2,hc6,c3,iS,hw];refine⟨nC,aR,⟨i+1,zE,zd,_,.own 0 2,[1],[(c.fr,c.to)],⟨rfl,rfl⟩,⟨rfl,rfl⟩,zd,ht,zd⟩,zE⟩
      simp[lN,h5,aa,ah,ai,Qh,c1,c2,hc6,c3,iS,hw];refine⟨nC,⟨?_,zE⟩,aR,⟨i+1,zE,zd,_,.own 0 2,[o.length+1],o++[(c.fr,c.to)],⟨rfl,by simp[Qe]⟩,⟨rfl,rfl⟩,by simp;omega,ht,zd⟩,zE⟩
      ·rintro row (⟨a,b,_,rfl⟩|rfl)<;>rfl
     |false=>
      have hs:=skip (by simp[Ga,c3]);rw[c3]at nC;simp[lN,h5,aa,ah,ai,Qh,c1,c2,hc6,c3,iS,hw];refine⟨nC,aR,⟨i+1,zE,zd,_,rt,L',o,⟨rfl,rfl⟩,⟨rfl,rfl⟩,zE,hs,bk⟩,zE⟩
    have hs:=skip (by simp[Ga,c2]);simp[lN,h5,aa,ah,ai,Qh,c1,c2,iS,hw];refine⟨aR,⟨i+1,zE,zd,_,rt,L',o,⟨rfl,rfl⟩,⟨rfl,rfl⟩,zE,hs,bk⟩,zE⟩
   have hs:=skip (by simp[Ga,c1]);simp[lN,h5,aa,ah,ai,Qh,c1,iS,hw];refine⟨aR,⟨i+1,zE,zd,_,rt,L',o,⟨rfl,rfl⟩,⟨rfl,rfl⟩,zE,hs,bk⟩,zE⟩
  obtain rfl:i=cs.length:=zE
  have he:uI cs cm=o:=by rw[<- ho];simp[uI]
  rw[he];obtain⟨rfl,rfl,rfl⟩|⟨aJ,rfl,rfl⟩:=bk
  ·simp[lN,h5,iS,UN]
  simp[lN,h5,iS,UN,aJ]
 have hk:=key _ rfl;by_cases hn:uI cs cm=[]
 ·rw[if_pos hn]at hk;rw[hn];exact Zx hk (Wk.sl _ _)
 rw[if_neg hn]at hk;exact hk
def w8(n:Int):Pure Tryz.prog aD 265 [I n] (.bool (decide (0<=n/\n<86400))):=by
 refine Qn ad4 (fun _ _ _=>.junk) zd ?_;by_cases h1:0<=n<;>by_cases h2:n<86400<;>simp[aiR,aiS,h1,h2]
def Gb(n:Int)(h: -100000000000<=n/\n<=100000000000):Pure Tryz.prog aD 268 [I n] (.aQ [I (n/86400),I (n%86400)]):=by
 refine Qn ad7 (fun _ _ _=>.junk) zd ?_
 have ht:n.tdiv 86400=if 0<=n\/n%86400=0 then n/86400 else n/86400+1:=by
  by_cases h0:0<=n
  ·rw[if_pos (.inl h0),zzcj h0]
  rw[Int.tdiv_eq_ediv];by_cases h1:n%86400=0
  ·rw[if_pos (.inr (Int.dvd_of_emod_eq_zero h1)),if_pos (.inr h1)];simp
  rw[if_neg (by rintro(h|h);exact h0 h;exact h1 (Int.emod_eq_zero_of_dvd h)),if_neg (by rintro(h|h);exact h0 h;exact h1 h)];rfl
 have hm:n.tmod 86400=n-n.tdiv 86400*86400:=by have:=Int.mul_tdiv_add_tmod n 86400;omega
 have w1:IntKind.i64.wrap (n.tdiv 86400)=n.tdiv 86400:=by rw[ht];split<;>rw[Qi]<;>omega
 by_cases oW:n.tmod 86400<0
 ·have e1:n.tdiv 86400=n/86400+1:=by
   rw[ht]at hm |-
   split
   ·rename_i hc;rw[if_pos hc]at hm;omega
   rfl
  have w2:IntKind.i64.wrap (n/86400+1)=n/86400+1:=by rw[Qi]<;>omega
  have w3:IntKind.i64.wrap (n/86400)=n/86400:=by rw[Qi]<;>omega
  have e2:n.tmod 86400=n%86400-86400:=by rw[hm,e1];omega
  have w4:IntKind.i64.wrap (n%86400)=n%86400:=by rw[Qi]<;>omega
  have eP:n%86400<86400:=zE
  have hn3:¬86400<=n%86400:=zE
  simp[UQ,UR,e1,e2,w2,w3,w4,eP,hn3]
 have e1:n.tdiv 86400=n/86400:=by
  rw[ht]at hm |-
  split
  ·rfl
  rename_i hc;rw[if_neg hc]at hm;omega
 have e2:n.tmod 86400=n%86400:=by rw[hm,e1];omega
 have w3:IntKind.i64.wrap (n/86400)=n/86400:=by rw[Qi]<;>omega
 have eP:¬n%86400<0:=zE
 simp[UQ,UR,e1,e2,w3,eP]
def zY(fr to:Int):List Sp:=if fr<to then[(fr,to)]else if to<fr then[(0,to),(fr,86400)]else[(0,86400)]
def Du(fr to:Int):Pure Tryz.prog aD 269 [I fr,I to] (.sl .full ((zY fr to).map Qe)):=by
 refine Qn ad8 (fun _ _ _=>.junk) zd ?_;by_cases h1:fr<to
 ·simp[NI,NJ,h1,zY,Qe]
 by_cases h2:to<fr
 ·simp[NI,NJ,h1,h2,zY,Qe]
 simp[NI,NJ,h1,h2,zY,Qe]
def uJ:Int->Int->List Sp->List (Int×Int×Int)
 |f,o,[]=>[(f,10000000001,o)]
 |f,o,s::r=>(if f<s.1 then[(f,s.1,o)]else[])++uJ s.1 s.2 r
def Bp(x:Int×Int×Int):PQ:=[.agg [I x.1,I x.2.1,I x.2.2]]
def w9(of:Int)(sh:List Sp):Pure Tryz.prog aD 267 [.agg [I of,.sl .ro (sh.map Qe)]] (.fn 281 [] [.ep [I of,.sl .ro (sh.map Qe)] 0]):=by
 refine Qn ad6 (fun _ _ _=>.junk) zd ?_;simp[aiT,aiU]
def bQ.put{O:Nat->Prop}{m:AM}{b:Nat}(hb:O b)(v:PQ)(x:X2):bQ O m {m with boxes:=m.boxes.set b v++x}:=
 ⟨zd,fun j hj ho=>by show Qg (m.boxes.set b v++x) j=_;rw[Qk (Pi hj),Xl v (by rintro rfl;exact ho hb)],⟨[],zd⟩,fun _ _=>rfl⟩
def bQ.arX{O:Nat->Prop}{m:AM}{b:Nat}(hb:O b)(v:PQ):bQ O m {m with boxes:=m.boxes.set b v}:=
 ⟨zd,fun j hj ho=>by show Qg (m.boxes.set b v) j=_;rw[Xl v (by rintro rfl;exact ho hb)],⟨[],zd⟩,fun _ _=>rfl⟩
def xb(of:Int)(sh:List Sp)(hl:sh.length<=1000000000):Gd Tryz.prog aD 281 [] [.ep [I of,.sl .ro (sh.map Qe)] 0] ((uJ 0 of sh).map Bp):=by
 intro Y l m K hF;refine Xh aec (fun _ _ _=>.junk) zd ?_;simp[UU];obtain⟨b,hbe⟩:∃b,m.boxes.length=b:=⟨_,rfl⟩;refine Qj CQ (fun f mm=>∃(i:Nat)(fr t o:Int)(O:Nat->Prop),f 12=I i/\i<=sh.length/\b<mm.boxes.length/\Qg mm.boxes b=[I fr,I t,I o]/\O b/\mq (Y l) K ((uJ fr o (sh.drop i)).map Bp) O mm) (fun f _=>sh.length-(numOf (f 12)).toNat) ?_ ?_
 ·refine⟨0,0,0,of,OU (fun _=>False) m.boxes.length (m.boxes.length+1),zd,zE,by simp[hbe],by simp[<- hbe],.inr ⟨zE,zE⟩,?_⟩;have:=hF.ext ((fN.box m [[I 0,I 0,I of]]).toO _);simpa using this
 rintro f mm ⟨i,fr,t,o,O,oA,hi,KY,ai,zZ,hF⟩;rcases zzab i sh.length with aa|bu
 ·obtain⟨s,hs⟩:=aY aa;have zT:=Zv hs;have ah:(i:Int)<(sh.length:Int):=zE
  have hw:=bR i zE;have hd:sh.drop i=s::sh.drop (i+1):=by rw[zzaf aa,(zza.1 hs).2]
  rw[hd,uJ]at hF;have eX:∀x,Qg (mm.boxes++x) b=[I fr,I t,I o]:=fun x=>by rw[Qk KY];exact ai
  have lM:∀x y,(mm.boxes++x).set b y=mm.boxes.set b y++x:=fun x y=>Yi y KY;have ou:∀y x,Qg (mm.boxes.set b y++x) b=y:=fun y x=>by rw[Qk (Pi KY),Zg _ KY]
  have fB:∀y x,Qg (mm.boxes.set b y++[x]) mm.boxes.length=x:=fun y x=>by
   have:=Zk (mm.boxes.set b y) [x] 0;rw[zzcm]at this;simpa using this
  have hsc:∀y x z,(mm.boxes.set b y++x).set b z=mm.boxes.set b z++x:=fun y x z=>by rw[Yi z (Pi KY),List.set_set]
  by_cases hfs:fr<s.1
  ·rw[if_pos hfs]at hF;simp only[zzew,zzay]at hF;simp[oA,aa,ah,zT,eX,lM,ou,fB,CQ,hbe,hfs,KY];refine⟨zE,hF _ (bQ.put zZ _ _) _ (fun m2 zw gL=>?_) (fun m2 hK=>?_)⟩
   ·have aze:mm.boxes.length+1<=m2.boxes.length:=by have:=zw.1;simpa using this
    have q1:Qg m2.boxes b=[I fr,I s.1,I o]:=by rw[zw.2 b (.inl zZ)];exact ou _ _
    have q2:Qg m2.boxes mm.boxes.length=[I s.1,I s.2]:=by
     rw[zw.2 mm.boxes.length (.inr ⟨zzaa _,zd⟩)];exact fB _ _
    have fO:b<m2.boxes.length:=zE
    have arY:OU O mm.boxes.length (mm.boxes.length+1) b:=.inl zZ;simp at gL;have q3:∀y,Qg (m2.boxes.set b y) b=y:=fun y=>Zg _ fO;simp[q1,q2,q3,fO,hw];refine⟨aR,⟨i+1,zd,zE,s.1,0,s.2,⟨rfl,rfl,rfl⟩,_,.inl arY,gL.ext (bQ.arX arY _)⟩,zE⟩
   simp[NL];exact hK _ (bQ.refl _ _)
  rw[if_neg hfs]at hF;simp only[zzaj]at hF;simp[oA,aa,ah,zT,eX,lM,ou,fB,hsc,CQ,hbe,hfs,KY,hw];refine⟨zE,aR,⟨i+1,zd,zE,zE,s.1,0,s.2,⟨rfl,rfl,rfl⟩,_,.inl zZ,hF.ext (bQ.put zZ _ _)⟩,zE⟩
 obtain rfl:i=sh.length:=zE
 rw[zzbx,uJ]at hF;simp only[zzay,zzcu]at hF;simp[oA,CQ,hbe,ai,KY,Zg _ KY];refine hF _ (bQ.arX zZ _) _ (fun m2 _ gL=>?_) (fun m2 hK=>?_)
 ·simp[NL];exact gL _ (bQ.refl _ _)
 simp[NL];exact hK _ (bQ.refl _ _)
def nD(L:List Sp)(f t:Int):List Sp:=
 if f<t then(match L.getLast? with|some s=>if s.2=f then L.dropLast++[(s.1,t)]else L++[(f,t)]|none=>[(f,t)])else L
def iC(m:AM)(id k:Nat)(L:List Sp):Prop:=id<m.boxes.length/\((L=[]/\Qg m.boxes id=[.sl .nil []])\/(L≠[]/\k<m.boxes.length/\k≠id/\Qg m.boxes id=[.bs k 0 L.length 2]/\Qg m.boxes k=cM L))
def aeC:X1:=fun d f _=>if f=999999 then(if d=34 then .aL 0 []else .junk)else .junk
def XB(Y:YT)(f t:Int)(id k:Nat)(L:List Sp)(m:AM)(hO:iC m id k L)(hl:L.length<=1000000000)(K:UV)
  (hK:∀m' k',iC m' id k' (nD L f t)->(k'=k\/m.boxes.length<=k')->bC (fun j=>j=id\/(L≠[]/\j=k)) m.boxes m'.boxes->m'.st=m.st->m'.ln=m.ln->m'.lens=m.lens->K (.aQ []) m'):aA Tryz.prog aD Y 266 [I f,I t,.ptr id 0] m K:=by
 obtain⟨h2,h3⟩:=hO;refine Xh ad5 aeC zd ?_;have eX:∀x,Qg (m.boxes++x) id=Qg m.boxes id:=fun x=>Qk h2;have lM:∀x y,(m.boxes++x).set id y=m.boxes.set id y++x:=fun x y=>Yi y h2;by_cases IS:f<t
 ·have XC:¬t<=f:=zE
  obtain⟨rfl,h1⟩|⟨aJ,hk,fM,h1,ai⟩:=h3
  ·have ha:nD [] f t=[(f,t)]:=by simp[nD,IS]
   rw[ha]at hK;simp[E9,Fa,aeC,IS,XC,h1,h2,eX,lM];refine⟨zE,hK _ m.boxes.length ⟨by simp;omega,.inr ⟨zd,zd,zE,?_,?_⟩⟩ (.inr (zzaa _)) ((bC.set (S:=fun j=>j=id\/(([]:List Sp)≠[]/\j=k)) (bC.refl _ _) (.inl (.inl rfl)) _).app _) rfl rfl rfl⟩
   ·simp only[zzhi];rw[Qk (Pi h2),Zg _ h2]
   have:=Zk (m.boxes.set id [.bs m.boxes.length 0 1 2]) [[I f,I t]] 0;rw[zzcm]at this;simpa using this
  obtain⟨A,s,rfl⟩:∃A s,L=A++[s]:=⟨L.dropLast,L.getLast aJ,(zzev aJ).symm⟩;have ha:nD (A++[s]) f t=if s.2=f then A++[(s.1,t)]else A++[s]++[(f,t)]:=by simp[nD,IS]
  rw[ha]at hK;have hw:IntKind.i64.wrap (A.length:Int)=(A.length:Int):=by simp at hl;rw[Qi]<;>omega
  have hg:(A++[s])[A.length]?=some s:=zd
  have g0:=uG hg;have g1:=F3 hg;have ei:(A++[s]).length=A.length+1:=zd
  rw[ei]at h1;have gl:(cM (A++[s])).length=A.length*2+2:=by rw[Vy,ei];omega
  have hR2:cM (A++[s]++[(f,t)])=cM (A++[s])++[I f,I t]:=by rw[Qca];rfl
  have hR1:(cM (A++[s])).set (A.length*2+1) (I t)=cM (A++[(s.1,t)]):=by rw[wP _ _ s _ hg];simp
  have hrk:∀x,Qg (m.boxes++x) k=cM (A++[s]):=fun x=>by rw[Qk hk];exact ai
  have hsk:∀x y,(m.boxes++x).set k y=m.boxes.set k y++x:=fun x y=>Yi y hk;generalize hR:cM (A++[s])=R at*
  by_cases hs:s.2=f
  ·rw[if_pos hs]at hK;simp[E9,Fa,aeC,IS,XC,h1,h2,hw,ai,g0,g1,gl,eX,lM,hrk,hsk,hk,hs];refine⟨zE,hK _ k ⟨Pi h2,.inr ⟨zd,Pi hk,fM,?_,?_⟩⟩ (.inl rfl) (bC.set (S:=fun j=>j=id\/(A++[s]≠[]/\j=k)) (bC.refl _ _) (.inl (.inr ⟨zd,rfl⟩)) _) rfl rfl rfl⟩
   ·show Qg (m.boxes.set k _) id=_;rw[Xl _ fM,h1];simp
   show Qg (m.boxes.set k _) k=_;rw[Zg _ hk];exact hR1
  rw[if_neg hs]at hK;simp[E9,Fa,aeC,IS,XC,h1,h2,hw,ai,g0,g1,gl,eX,lM,hrk,hsk,hk,hs];have hRt:List.take ((A.length+1)*2) R=R:=zzal zE;have aw7:¬R=[]:=by rintro rfl;simp at gl
  have hri:∀x,Qg (m.boxes.set k []++x) id=[AV.bs k 0 (A.length+1) 2]:=fun x=>by rw[Qk (Pi h2),Xl _ fM,h1]
  simp only[hRt,hri];refine⟨zE,⟨⟨aw7,zE⟩,by simp at hl;omega⟩,⟨zd,zE⟩,?_⟩;refine hK _ m.boxes.length ⟨by simp;omega,.inr ⟨zd,zd,zE,?_,?_⟩⟩ (.inr (zzaa _)) ?_ rfl rfl rfl
  ·show Qg ((m.boxes.set k []).set id _++_) id=_;rw[Qk (Pi h2),Zg _ (Pi h2)];simp
  ·have:=Zk ((m.boxes.set k []).set id [.bs m.boxes.length 0 (A.length+1+1) 2]) [R++[I f,I t]] 0;simp only[zzcm]at this;rw[hR2];simpa using this
  exact((bC.set (S:=fun j=>j=id\/(A++[s]≠[]/\j=k)) (bC.refl _ _) (.inl (.inr ⟨zd,rfl⟩)) _).set (.inl (.inl rfl)) _).app _
 have ha:nD L f t=L:=by simp[nD,IS]
 rw[ha]at hK;have XC:t<=f:=zE
 simp[E9,Fa,IS,XC];exact hK m k ⟨h2,h3⟩ (.inl rfl) (bC.refl _ _) rfl rfl rfl
def Ge(L:List Sp)(f t:Int):(nD L f t).length<=L.length+1:=by
 unfold nD;split
 ·split
  ·rename_i s hs;split
   ·have:0<L.length:=by cases L with
     |nil=>simp at hs
     |cons=>simp
    simp<;>omega
   simp
  simp
 omega
def pM(sf st mid:Int):List Sp->List Sp->List Sp
 |[],L=>L
 |w::W,L=>pM sf st mid W (nD L (max sf (mid+w.1)) (min st (mid+w.2)))
def Gf(sf st mid:Int):∀(W L:List Sp),(pM sf st mid W L).length<=L.length+W.length
 |[],L=>by simp[pM]
 |w::W,L=>by
  have h1:=Gf sf st mid W (nD L (max sf (mid+w.1)) (min st (mid+w.2)));have h2:=Ge L (max sf (mid+w.1)) (min st (mid+w.2));simp[pM];omega
def nF(W:List Sp)(sf st mid:Int)(L:List Sp):List Sp:=
 if mid<st then nF W sf st (mid+86400) (pM sf st mid W L)else L
termination_by(st-mid).toNat
decreasing_by omega
def rq(m0:AM)(k0:Nat)(m:AM)(k:Nat)(L:List Sp):Prop:=
 iC m 4 k L/\(k=k0\/m0.boxes.length<=k)/\bC (fun j=>j=4\/j=k0) m0.boxes m.boxes/\m.st=m0.st/\m.ln=m0.ln/\m.lens=m0.lens
def iC.app{m:AM}{id k:Nat}{L:List Sp}(h:iC m id k L)(x:X2):iC {m with boxes:=m.boxes++x} id k L:=by
 obtain⟨h1,h2⟩:=h;refine⟨by simp;omega,?_⟩;obtain⟨h2,h3⟩|⟨h2,h3,h4,h5,h6⟩:=h2
 ·exact .inl ⟨h2,by show Qg (m.boxes++x) id=_;rw[Qk h1];exact h3⟩
 exact .inr ⟨h2,by simp;omega,h4,by show Qg (m.boxes++x) id=_;rw[Qk h1];exact h5,by show Qg (m.boxes++x) k=_;rw[Qk h3];exact h6⟩
def rq.refl{m:AM}{k:Nat}{L:List Sp}(h:iC m 4 k L):rq m k m k L:=⟨h,.inl rfl,bC.refl _ _,rfl,rfl,rfl⟩
def rq.app{m0 m:AM}{k0 k:Nat}{L:List Sp}(h:rq m0 k0 m k L)(x:X2):rq m0 k0 {m with boxes:=m.boxes++x} k L:=
 ⟨h.1.app x,h.2.1,h.2.2.1.app x,h.2.2.2⟩
def rq.step{m0 m m':AM}{k0 k k':Nat}{L L':List Sp}(h:rq m0 k0 m k L)(hO:iC m' 4 k' L')(hk:k'=k\/m.boxes.length<=k')(hK:bC (fun j=>j=4\/(L≠[]/\j=k)) m.boxes m'.boxes)(h1:m'.st=m.st)(h2:m'.ln=m.ln)(h3:m'.lens=m.lens):rq m0 k0 m' k' L':=by
 obtain⟨a1,a2,a3,a4,a5,a6⟩:=h;refine⟨hO,?_,bC.trans a3 (hK.mono ?_),by rw[h1,a4],by rw[h2,a5],by rw[h3,a6]⟩
 ·have:=a3.1;omega
 rintro i (rfl|⟨_,rfl⟩)
 ·exact .inl (.inl rfl)
 obtain a2|a2:=a2
 ·exact .inl (.inr a2)
 exact .inr a2
def IT(s:Sp)(fr to:Int)(m:AM):Prop:=5<m.boxes.length/\Qg m.boxes 1=[I s.1,I s.2]/\Qg m.boxes 2=[I fr]/\Qg m.boxes 3=[I to]/\Qg m.boxes 5=[.fn 266 [] [.ptr 4 0]]
def IT.keep{s:Sp}{fr to:Int}{m m':AM}(h:IT s fr to m){S:Nat->Prop}(hK:bC S m.boxes m'.boxes)(hS:∀j,S j->j=4\/6<=j):IT s fr to m':=by
 obtain⟨h1,h2,h3,h4,h5⟩:=h;have q:∀j,j<6->j≠4->Qg m'.boxes j=Qg m.boxes j:=fun j hj h4=>hK.2 j zE (fun h=>by have:=hS j h;omega);exact⟨zzar h1 hK.1,by rw[q 1 zE zE];exact h2,by rw[q 2 zE zE];exact h3,by rw[q 3 zE zE];exact h4,by rw[q 5 zE zE];exact h5⟩
def IT.day{s:Sp}{fr to:Int}{m0 m:AM}{k0 k:Nat}{L:List Sp}(h:IT s fr to m0)(hD:rq m0 k0 m k L)(hk:k0=4\/6<=k0):IT s fr to m:=
 h.keep hD.2.2.1 (by rintro j (h|h)<;>omega)
def IT.app{s:Sp}{fr to:Int}{m:AM}(h:IT s fr to m)(x:X2):IT s fr to {m with boxes:=m.boxes++x}:=
 h.keep (S:=fun _=>False) ((bC.refl _ _).app x) (fun _ h=>h.elim)
def XD(of:Int)(sh:List Sp)(fr to:Int):X1:=fun d f l=>
 if f=999999 then .junk else
 if f=177 then .bool (Yb of sh)else
 if f=265 then(match l with|[.int _ n]=>.bool (decide (0<=n/\n<86400))|_=>.junk)else
 if f=267 then .fn 281 [] [.ep [I of,.sl .ro (sh.map Qe)] 0]else
 if f=268 then(match l with|[.int _ n]=>.aQ [I (n/86400),I (n%86400)]|_=>.junk)else
 if f=269 then .sl .full ((zY fr to).map Qe)else .gd false .junk
def XE:SC:=(⟨_,by cbv⟩:KM [1,0,1,1,1,1,1,0,1,0,1,0,1,1,1,1,1] AQ).1
def xd:SC->SC:=(⟨_,fun _=>by cbv⟩:FO [1,0,1,1,1,1,1,0,1,0,1,0,1,1,1,1,1] AQ).1
theorem XF:AQ=xd XE:=rfl
def uK{fr to:Int}(h1:0<=fr/\fr<86400)(h2:0<=to/\to<86400):(zY fr to).length<=2/\∀w∈zY fr to,0<=w.1/\w.1<=86400/\0<=w.2/\w.2<=86400:=by
 unfold zY;split
 ·simp;omega
 split
 ·simp;omega
 simp
def aeD(Y:YT)(of:Int)(sh:List Sp)(fr to:Int)(zQ:0<=fr/\fr<86400)(hto:0<=to/\to<86400)(E:R0)(m:AM)(k0:Nat)(L0:List Sp)(sf st KZ:Int)(Q:T5)
  (s:Sp)(h6:Abs.look E 6=.ptr 2 0)(h7:Abs.look E 7=.ptr 3 0)(lN:Abs.look E 10=.ptr 5 0)(oA:Abs.look E 12=I sf)(fD:Abs.look E 13=I st)(K3:Abs.look E 16=I KZ)
  (hf:IT s fr to m)(hO:iC m 4 k0 L0)(hk:k0=4\/6<=k0)
  (hb: -100000000000<=KZ/\KZ<=100000000000/\st<=100000000000)(hl:L0.length+2*((st-KZ)/86400+1).toNat<=100000)
  (hQ:∀T m' k',rq m k0 m' k' (nF (zY fr to) sf st KZ L0)->Q .normal ⟨T,m'⟩):
  vc Tryz.prog aD (XD of sh fr to) Y XE ⟨Zr 111 E,m⟩ Q:=by
 obtain⟨uL,hWb⟩:=uK zQ hto;have aw8:=Du fr to;simp[XE];refine Qj JU (fun f mm=>∃(mid:Int)(k:Nat)(L:List Sp),f 16=I mid/\rq m k0 mm k L/\ -100000000000<=mid/\mid<=100000086400/\L.length+2*((st-mid)/86400+1).toNat<=100000/\nF (zY fr to) sf st mid L=nF (zY fr to) sf st KZ L0) (fun f _=>(st-numOf (f 16)).toNat) ?_ ?_
 ·exact⟨KZ,k0,L0,by simp[K3],rq.refl hO,zE,zE,hl,rfl⟩
 rintro f mm ⟨mid,k,L,hm16,hD,b1,b2,b3,hR⟩;by_cases aa:mid<st
 ·have aw9:IntKind.i64.wrap (mid+86400)=mid+86400:=by rw[Qi]<;>omega
  rw[nF,if_pos aa]at hR;obtain⟨f0,f1,f2,f3,f5⟩:=hf.day hD hk;generalize hWe:zY fr to=W at*
  simp[hm16,h6,h7,lN,oA,fD,JU,aa,XD,hWe,f2,f3];refine⟨aw8,?_⟩;refine Qj JV (fun f' m'=>∃(i k':Nat)(L':List Sp),f' 91=I i/\i<=W.length/\rq m k0 m' k' L'/\L'.length<=L.length+i/\pM sf st mid (W.drop i) L'=pM sf st mid W L) (fun f' _=>W.length-(numOf (f' 91)).toNat) ?_ ?_
  ·exact⟨0,k,L,zd,zE,hD,zE,rfl⟩
  rintro f' m' ⟨i,k',L',h91,hi,hD',tV,XG⟩;obtain⟨g0,g1,g2,g3,g5⟩:=hf.day hD' hk;rcases zzab i W.length with hiw|bu
  ·obtain⟨w,hw⟩:=aY hiw;have SV:=Zv hw;obtain⟨c1,c2,c3,c4⟩:=hWb w (zzac hw);have ah:(i:Int)<(W.length:Int):=zE
   have Bn:=bR i zE;have iL:IntKind.i64.wrap (mid+w.1)=mid+w.1:=by rw[Qi]<;>omega
   have fE:IntKind.i64.wrap (mid+w.2)=mid+w.2:=by rw[Qi]<;>omega
   have hd:W.drop i=w::W.drop (i+1):=by rw[zzaf hiw,(zza.1 hw).2]
   rw[hd,pM]at XG;have eX:∀x,Qg (m'.boxes++x) 5=[.fn 266 [] [.ptr 4 0]]:=fun x=>by rw[Qk g0];exact g5
   have Bq:∀x,Qg (m'.boxes++[x]) m'.boxes.length=x:=fun x=>by
    simp
   have hmx:(if sf<mid+w.1 then mid+w.1 else sf)=max sf (mid+w.1):=zE
   have hmn:(if mid+w.2<st then mid+w.2 else st)=min st (mid+w.2):=zE
   have axa:=fun K hK=>XB Y (max sf (mid+w.1)) (min st (mid+w.2)) 4 k' L' {m' with boxes:=m'.boxes++[[I w.1,I w.2]]} (hD'.1.app _) zE K hK;simp[h91,hiw,ah,SV,JV,lN,oA,fD,hm16,g5,eX,Bq,iL,fE,g0,hmx,hmn,Bn,XD];refine axa _ fun m2 k2 e1 e2 e3 e4 e5 e6=>?_;have hD2:=(hD'.app [[I w.1,I w.2]]).step e1 e2 e3 e4 e5 e6;have:=Ge L' (max sf (mid+w.1)) (min st (mid+w.2));refine⟨aR,⟨i+1,zE,zE,k2,_,hD2,zE,XG⟩,zE⟩
  obtain rfl:i=W.length:=zE
  rw[zzbx,pM]at XG;rw[<- XG]at hR;simp[h91,JV,hm16,aw9];refine⟨aR,⟨k',L',hD',zE,zE,zE,hR⟩,zE⟩
 have hR0:=hR;rw[nF,if_neg aa]at hR;simp[hm16,fD,JU,aa];exact hQ _ _ k (by rw[<- hR];exact hD)
def stL(s:Sp)(W:List Sp)(x:Int×Int×Int)(L:List Sp):List Sp:=
 if min x.2.1 s.2<=max x.1 s.1 then L else nF W (max x.1 s.1) (min x.2.1 s.2) ((max x.1 s.1+x.2.2)/86400*86400-x.2.2) L
def ua(s:Sp)(W:List Sp):List (Int×Int×Int)->List Sp->List Sp
 |[],L=>L
 |x::r,L=>if s.2<=x.1 then L else ua s W r (stL s W x L)
def z6(n:Int):Bool:=decide (0<=n/\n<86400)
def xe(of:Int)(sh:List Sp)(s:Sp)(fr to:Int):Bool:=Yb of sh&&z6 fr&&z6 to&&decide (s.1<s.2/\s.2-s.1<=1000000)
def iD(of:Int)(sh:List Sp)(s:Sp)(fr to:Int):List Sp:=if xe of sh s fr to then ua s (zY fr to) (uJ 0 of sh) []else[]
def aeE(x:Int×Int×Int):Prop:=0<=x.1/\x.1<=10000000000/\x.2.1<=10000000001/\ -50400<=x.2.2/\x.2.2<=50400
def Dv:∀(sh:List Sp)(f o last:Int),0<=f->f<=10000000000-> -1<=last-> -50400<=o->o<=50400->tY last sh=true->(∀x∈uJ f o sh,aeE x)
 |[],f,o,last,h1,h2,_,h3,h4,_=>by simp[uJ,aeE];omega
 |s::r,f,o,last,h1,h2,hla,h3,h4,ha=>by
  rw[tY]at ha;split at ha
  ·cases ha
  rename_i hn;simp only[not_or,zzgn,gY,decide_eq_true_eq]at hn;have ih:=Dv r s.1 s.2 s.1 zE zE zE zE zE ha;intro x hx;rw[uJ,zzap]at hx;obtain hx|hx:=hx
  ·split at hx
   ·simp at hx;subst hx;simp[aeE];omega
   simp at hx
  exact ih x hx
def xg:∀(sh:List Sp)(f o:Int),(uJ f o sh).length<=sh.length+1
 |[],f,o=>by simp[uJ]
 |s::r,f,o=>by
  have:=xg r s.1 s.2;rw[uJ];split<;>simp<;>omega
def Gg(W:List Sp)(hW:W.length<=2)(sf st:Int):∀(n:Nat)(mid:Int)(L:List Sp),(st-mid).toNat<=n->(nF W sf st mid L).length<=L.length+2*((st-mid)/86400+1).toNat:=by
 intro n;induction n with
 |zero=>intro mid L h;rw[nF,if_neg zE];omega
 |succ n ih=>
  intro mid L h;rw[nF];split
  ·have:=ih (mid+86400) (pM sf st mid W L) zE;have:=Gf sf st mid W L;omega
  omega
def aeF(R:List Sp)(s:Sp)(fr to:Int)(xs:List (Int×Int×Int))(O:Nat->Prop)(i:Nat)(m:AM):Prop:=
 ∃k L,iC m 4 k L/\(k=4\/6<=k)/\¬O k/\k<m.boxes.length/\(∀j,O j->6<=j)/\IT s fr to m/\L.length<=40*i/\ua s (zY fr to) (xs.drop i) L=R
def aeG(R:List Sp)(O:Nat->Prop)(ex:Exit)(m:AM):Prop:=ex=.exit 0/\∃k,iC m 4 k R/\¬O k/\(∀j,O j->6<=j)
def iC.cg{m m':AM}{id k:Nat}{L:List Sp}(h:iC m id k L)(e:m'.boxes=m.boxes):iC m' id k L:=by unfold iC at*;rw[e];exact h
def IT.cg{s:Sp}{fr to:Int}{m m':AM}(h:IT s fr to m)(e:m'.boxes=m.boxes):IT s fr to m':=by unfold IT at*;rw[e];exact h
def iC.XH{O:Nat->Prop}{m m':AM}{k:Nat}{L:List Sp}(h:iC m 4 k L)(e:bQ O m m')(h0:¬O 4)(hk:¬O k):iC m' 4 k L:=by
 obtain⟨h1,h2⟩:=h;refine⟨zzar h1 e.1,?_⟩;obtain⟨h2,h3⟩|⟨h2,h3,h4,h5,h6⟩:=h2
 ·exact .inl ⟨h2,by rw[e.2.1 4 h1 h0];exact h3⟩
 exact .inr ⟨h2,zzar h3 e.1,h4,by rw[e.2.1 4 h1 h0];exact h5,by rw[e.2.1 k h3 hk];exact h6⟩
def aeF.ext{R:List Sp}{s:Sp}{fr to:Int}{xs:List (Int×Int×Int)}{O:Nat->Prop}{i:Nat}{m m':AM}(h:aeF R s fr to xs O i m)(e:bQ O m m'):aeF R s fr to xs (OU O m.boxes.length m'.boxes.length) i m':=by
 obtain⟨k,L,h1,h2,h3,h4,h5,h6,h8,h9⟩:=h;refine⟨k,L,h1.XH e (fun h=>by have:=h5 4 h;omega) h3,h2,?_,zzar h4 e.1,?_,h6.keep (S:=O) ⟨e.1,e.2.1⟩ (fun j h=>.inr (h5 j h)),h8,h9⟩
 ·rintro(h|h)
  ·exact h3 h
  omega
 have:=h6.1;rintro j (h|h)
 ·exact h5 j h
 omega
def aeG.ext{R:List Sp}{O:Nat->Prop}{ex:Exit}{m m':AM}(h:aeG R O ex m)(e:bQ O m m'):aeG R O ex m':=by
 obtain⟨h0,k,h1,h3,h5⟩:=h;exact⟨h0,k,h1.XH e (fun h=>by have:=h5 4 h;omega) h3,h3,h5⟩
def xh(of:Int)(sh:List Sp)(s:Sp)(fr to:Int)(fP:sh.length<=1000000000)(h1: -9223372036854775808<=s.1/\s.1<=9223372036854775807)(h2: -9223372036854775808<=s.2/\s.2<=9223372036854775807):
  Pure Tryz.prog aD 252 [.agg [I of,.sl .ro (sh.map Qe)],.agg [I s.1,I s.2],I fr,I to] (if iD of sh s fr to=[]then .sl .nil []else .sl .ro ((iD of sh s fr to).map Qe)):=by
 have k89:=jq of sh fP;have K4:=w8 fr;have Br:=w8 to;have arZ:=w9 of sh;refine Qn adW (XD of sh fr to) zd ?_;rw[XF];generalize hR:iD of sh s fr to=R;by_cases hv:Yb of sh=true
 ·rw[hv]at k89;by_cases hf:0<=fr/\fr<86400
  ·rw[decide_eq_true hf]at K4;by_cases ht:0<=to/\to<86400
   ·rw[decide_eq_true ht]at Br;by_cases aa:s.1<s.2
    ·have cR:¬s.2<=s.1:=zE
     have hu:IntKind.u64.wrap (IntKind.u64.wrap s.2-IntKind.u64.wrap s.1)=s.2-s.1:=by
      have q:∀z:Int,IntKind.u64.wrap z=z%18446744073709551616:=fun z=>by simp[IntKind.wrap,IntKind.bits,IntKind.signed]
      rw[q,q,q];omega
     by_cases hm:s.2-s.1<=1000000
     ·have oy:¬1000000<s.2-s.1:=zE
      simp[xd,XD,hv,hf,ht,aa,cR,hu,hm,oy];refine⟨k89,K4,Br,arZ,?_⟩;have cN:=xb of sh fP;have hz:sh.length<=40/\gY of=true/\tY (-1) sh=true:=by simpa[Yb,and_assoc]using hv
      have hof: -50400<=of/\of<=50400:=by simpa[gY]using hz.2.1
      have ck:=Dv sh 0 of (-1) (by decide) (by decide) (by decide) hof.1 hof.2 hz.2.2;have hxl:=xg sh 0 of;have hRc:ua s (zY fr to) (uJ 0 of sh) []=R:=by rw[<- hR,iD,if_pos (by simp[xe,hv,z6,hf,ht,aa,hm])]
      clear k89 K4 Br arZ hu;generalize hX:uJ 0 of sh=xs at*
      refine kT (xs:=xs.map Bp) zd cN (by intro x hx;simp at hx;obtain⟨a,b,c,_,rfl⟩:=hx;rfl) (aeF R s fr to xs) (aeG R) ?_ (fun _ _ _ _ h e=>h.ext e) (fun _ _ _ _ h e=>h.ext e) ?_ ?_ ?_
      ·refine⟨4,[],⟨zd,.inl ⟨rfl,zd⟩⟩,.inl rfl,id,zd,fun _ h=>h.elim,⟨zd,zd,zd,zd,zd⟩,zd,Pi hRc⟩
      ·rintro O l i m x hO hle0 hg0 fB ⟨k,L,i1,i2,i3,i4,i5,i6,i8,i9⟩ hx K' q1 q2 q3;rw[zzbf,zzbd]at hx;obtain⟨⟨a,b,o⟩,hx,rfl⟩:=hx;obtain⟨o1,o2,o3,o4,o5⟩:=ck _ (zzac hx);simp only at o1 o2 o3 o4 o5;have iI:i<xs.length:=(zza.1 hx).1;have hd:xs.drop i=(a,b,o)::xs.drop (i+1):=by rw[zzaf iI,(zza.1 hx).2]
       rw[hd,ua]at i9;simp only[Us]at i4;have hf6:=i6;obtain⟨f0,f1,f2,f3,f5⟩:=i6;have hOl:∀j,O j->j<m.boxes.length:=fun j h=>(hO j h).2;have alH:xs.length<=41:=zE
       clear hO hle0 hg0 cN hR hX;simp only[Us]at f0 f1 f2 f3 f5;have eX:∀x,Qg (m.boxes++x) 1=[I s.1,I s.2]:=fun x=>by rw[Qk zE];exact f1
       have Bq:∀x,Qg (m.boxes++[x]) m.boxes.length=x:=fun x=>by
        simp
       by_cases hc:s.2<=a
       ·rw[if_pos hc]at i9;simp[fB,Zi,Bp,eX,Bq,hc];subst i9;refine q3 0 _ zd ⟨rfl,k,?_,i3,i5⟩;exact(i1.app [[I a,I b,I o]]).cg zd
       rw[if_neg hc]at i9;have hmx:(if a<s.1 then s.1 else a)=max a s.1:=zE
       have hmn:(if s.2<b then s.2 else b)=min b s.2:=zE
       by_cases he:min b s.2<=max a s.1
       ·rw[stL,if_pos he]at i9;simp[fB,Zi,Bp,eX,Bq,hc,hmx,hmn,he];refine q1 _ ⟨zd,fun j hj=>Qk (hOl j hj)⟩ ⟨k,L,(i1.app [[I a,I b,I o]]).cg zd,i2,i3,by simp;omega,i5,(hf6.app [[I a,I b,I o]]).cg zd,zE,i9⟩
       rw[stL,if_neg he]at i9;have hw0:IntKind.i64.wrap (max a s.1+o)=max a s.1+o:=by rw[Qi]<;>omega
       have hdv:=Gb (max a s.1+o) zE;have iL:IntKind.i64.wrap ((max a s.1+o)/86400*86400)=(max a s.1+o)/86400*86400:=by rw[Qi]<;>omega
       have fE:IntKind.i64.wrap ((max a s.1+o)/86400*86400-o)=(max a s.1+o)/86400*86400-o:=by rw[Qi]<;>omega
       simp[fB,Zi,Bp,eX,Bq,hc,hmx,hmn,he,hw0,iL,fE,XD];refine⟨hdv,?_⟩;refine aeD Y0 of sh fr to hf ht _ _ k L (max a s.1) (min b s.2) ((max a s.1+o)/86400*86400-o) _ s zd zd zd zd zd zd ((hf6.app [[I a,I b,I o]]).cg zd) ((i1.app [[I a,I b,I o]]).cg zd) i2 zE zE ?_;intro T m' k' hD;have aH:m.boxes.length+1<=m'.boxes.length:=by have:=hD.2.2.1.1;simpa using this
       have tV:=Gg (zY fr to) (uK hf ht).1 (max a s.1) (min b s.2) _ ((max a s.1+o)/86400*86400-o) L (zzaa _);have hFx:=IT.day (s:=s) (fr:=fr) (to:=to) ((hf6.app [[I a,I b,I o]]).cg zd) hD i2;have zk:k'=k\/m.boxes.length+1<=k':=by have:=hD.2.1;simpa using this
       have hS:N9 O m m':=⟨zE,fun j hj=>by
        have:=hD.2.2.1.2 j (by simp;have:=hOl j hj;omega) (by rintro(rfl|rfl);have:=i5 4 hj;omega;exact i3 hj);rw[this];exact Qk (hOl j hj)⟩
       simp;refine q1 ⟨T,m'⟩ hS ?_;by_cases hLe:nF (zY fr to) (max a s.1) (min b s.2) ((max a s.1+o)/86400*86400-o) L=[]
       ·rw[hLe]at i9 hD;refine⟨4,[],⟨hD.1.1,?_⟩,.inl rfl,(fun h=>by have:=i5 4 h;omega),(by show 4<m'.boxes.length;omega),i5,hFx,zd,i9⟩;rcases hD.1.2 with h|h
        ·exact .inl h
        exact absurd rfl h.1
       have sM:k'<m'.boxes.length:=by
        rcases hD.1.2 with h|h
        ·exact absurd h.1 hLe
        exact h.2.1
       refine⟨k',_,hD.1,zE,?_,sM,i5,hFx,zE,i9⟩;obtain rfl|zk:=zk
       ·exact i3
       intro h;have:=hOl k' h;omega
      ·rintro O m ⟨k,L,i1,i2,i3,i4,i5,i6,i8,i9⟩;rw[zzbu,zzbx,ua]at i9;subst i9;rcases i1.2 with⟨hL0,h⟩|⟨aJ,h2,h3,h4,h5⟩
       ·simp[h,lV,i1.1,hL0]
       have gK:=Vd m 4 (Dl L);have mg:=Qdw L;have gG:=Vy L;simp[h4,lV,aJ,h5,gK,mg,gG,i1.1]
      rintro O ex m ⟨rfl,k,i1,i3,i5⟩;rcases i1.2 with⟨hL0,h⟩|⟨aJ,h2,h3,h4,h5⟩
      ·simp[h,lV,i1.1,hL0]
      have gK:=Vd m 4 (Dl R);have mg:=Qdw R;have gG:=Vy R;simp[h4,lV,aJ,h5,gK,mg,gG,i1.1]
     have hR0:R=[]:=by rw[<- hR,iD,if_neg (by simp[xe];omega)]
     have oy:1000000<s.2-s.1:=zE
     simp[xd,XD,hv,hf,ht,aa,cR,hu,hm,oy,lV,hR0,k89,K4,Br]
    have hR0:R=[]:=by rw[<- hR,iD,if_neg (by simp[xe];omega)]
    have cR:s.2<=s.1:=zE
    simp[xd,XD,hv,hf,ht,aa,cR,lV,hR0,k89,K4,Br]
   have hR0:R=[]:=by rw[<- hR,iD,if_neg (by simp[xe,z6];omega)]
   simp[xd,XD,hv,hf,ht,lV,hR0,k89,K4];simpa[ht]using Br
  have hR0:R=[]:=by rw[<- hR,iD,if_neg (by simp[xe,z6];omega)]
  simp[xd,XD,hv,hf,lV,hR0,k89];simpa[hf]using K4
 have hR0:R=[]:=by rw[<- hR,iD,if_neg (by simp[xe,hv])]
 simp[xd,XD,hv,lV,hR0];simpa[hv]using k89
def z7(of:Int)(sh:List Sp)(s:Sp)(fr to:Int)(fP:sh.length<=1000000000)(h1: -9223372036854775808<=s.1/\s.1<=9223372036854775807)(h2: -9223372036854775808<=s.2/\s.2<=9223372036854775807):
  Pure Tryz.prog aD 252 [.agg [I of,.sl .ro (sh.map Qe)],.agg [I s.1,I s.2],I fr,I to] (.sl .ro ((iD of sh s fr to).map Qe)):=by
 have h:=xh of sh s fr to fP h1 h2;by_cases hn:iD of sh s fr to=[]
 ·rw[if_pos hn]at h;rw[hn];exact Zx h (Wk.sl _ _)
 rw[if_neg hn]at h;exact h
def Gh(s:Sp)(W:List Sp)(hW:W.length<=2)(hs:s.2-s.1<=1000000):∀(xs:List (Int×Int×Int))(L:List Sp),(∀x∈xs,aeE x)->(ua s W xs L).length<=L.length+40*xs.length
 |[],L,_=>by simp[ua]
 |x::r,L,h=>by
  rw[ua];split
  ·omega
  have ih:=Gh s W hW hs r (stL s W x L) (fun y hy=>h y (by simp[hy]));obtain⟨o1,o2,o3,o4,o5⟩:=h x zd
  have:(stL s W x L).length<=L.length+40:=by
   unfold stL;split
   ·omega
   have:=Gg W hW (max x.1 s.1) (min x.2.1 s.2) _ ((max x.1 s.1+x.2.2)/86400*86400-x.2.2) L (zzaa _);omega
  simp only[zzav];omega
def XI(of:Int)(sh:List Sp)(s:Sp)(fr to:Int):(iD of sh s fr to).length<=2000:=by
 unfold iD;split
 ·rename_i h;simp only[xe,Yb,z6,gY,zzai,decide_eq_true_eq]at h;obtain⟨⟨⟨⟨⟨a1,a2⟩,a3⟩,a4⟩,a5⟩,a6,a7⟩:=h;have h1:=Gh s (zY fr to) (uK a4 a5).1 a7 (uJ 0 of sh) [] (Dv sh 0 of (-1) (by decide) (by decide) (by decide) a2.1 a2.2 a3);have h2:=xg sh 0 of;simp at h1;omega
 simp
end
