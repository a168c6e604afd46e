import Derived.Shelf.SortM.SortNone
import Derived.Shelf.SortM.Plain
import Derived.Test.YthjppoincojfkaaGreatDoorRBSpB
import Derived.Shelf.SlicesG.Cmp
import Derived.Shelf.SlSortCmp.NoneTotal
set_option linter.all false
set_option maxRecDepth 100000
set_option maxHeartbeats 64000000
namespace Go.Abs
open Go Go.RowKit Go.Sort Go.Proofs
def qf:∀(vs:PQ)(o:Nat)(arr:P1)(k:Nat),o+vs.length<=arr.size->k<arr.size->(tG arr o vs)[k]?=if o<=k/\k<o+vs.length then vs[k-o]? else arr[k]?
 |[],o,arr,k,_,_=>by rw[tG,if_neg];simp
 |v::vs,o,arr,k,h,hk=>by
  simp only[zzbg]at h;rw[tG,qf vs (o+1) _ k (by simp;omega) (Nm hk)];by_cases h1:o+1<=k/\k<o+1+vs.length
  ·rw[if_pos h1,if_pos (by simp;omega)];obtain⟨u,rfl⟩:∃u,k=o+1+u:=⟨k-(o+1),zE⟩;rw[show o+1+u-o=u+1 by omega,zzcw];congr 1;omega
  rw[if_neg h1];by_cases h2:k=o
  ·subst h2;rw[if_pos zd];simp[zzes,hk]
  rw[if_neg (by simp;omega)];simp[zzes,Ne.symm h2]
def DX{α:Type}[Inhabited α](enc:α->Value)(w:World)(b off:Nat)(d:Array α){arr:P1}{e:TypeId}{f:Nat×Nat}(h:w.heap[b]?=some (.cells arr e f))(hs:off+d.size<=arr.size):
  (putRow enc w b off d).heap=(w.setCells b off (d.toList.map enc)).heap:=by
 apply zzgc;intro k;by_cases hk:k=b
 ·subst hk;rw[Xc k _ off w arr e f h]
  have e1:(putRow enc w k off d).heap[k]?=some (.cells (putCells enc off d arr) e f):=by
   simp[putRow,mapBlock,zzdn,h,onCells]
  rw[e1];congr 2;apply zzgc;intro j;by_cases hj:j<arr.size
  ·rw[qf _ off arr j (Nm hs) hj];simp only[putCells,zzhh,zzbt,zzbi];by_cases hc:off<=j/\j<off+d.size
   ·rw[if_pos hc,zzag hj];have ai:j-off<d.size:=zE
    simp[hc,ai]
   rw[if_neg hc,zzag hj];simp[hc]
  have s1:(putCells enc off d arr).size=arr.size:=by simp[putCells]
  have s2:=Zz (d.toList.map enc) arr off;rw[zzbo zE,zzbo zE]
 rw[Qy b _ off w k hk];simp[putRow,mapBlock,zzdn,Ne.symm hk]
section
variable {N:Nat} {w0:eS} {an:Nat->Nat->Prop} {γ:G} {w:World}
def aaZ{m:AM}(hm:au N w0 an γ w m.B m.L)(hl:cS γ w m){id b:Nat}{cells:P2}(hB:m.boxes[id]?=some cells)(aN:cells≠[])(hb:γ.β id=some b){o:Nat}{xs:P2}{vs:PQ}
  (ha:ak w γ xs vs)(h1v:∀v∈vs,v.oneCell'=true){w':World}(af1:Below (w.setCells b o vs).heap.size (w.setCells b o vs) w'):
  ∃γ',eD w γ w' γ'/\au N w0 an γ' w' (m.wr id (setA cells o xs)).B (m.wr id (setA cells o xs)).L/\cS γ' w' (m.wr id (setA cells o xs)):=by
 obtain⟨arr,e,hh,hr,Ie⟩:=hm.box id cells b hB hb;have h1:=hm.store hB hb hh hr Ie (o:=o) ha h1v aN;have e1:=hm.cz hb o vs;have e2:=h1.dn af1;have ev:=e1.trans e2;refine⟨_,ev.cH,?_,hl.mono' ev rfl⟩;have h2:=h1.grow af1;rw[awN m id _ hB];exact h2
end
def BI{α:Type}[Inhabited α]{P:Program}{gl:Nat->AV}{Y:YT}{f:FuncId}(hc:bw P f)(enc:α->PQ)(fq:α->P2)(sz:Nat)(hsz:∀x,(enc x).length=sz)
  (hA:∀(w:World)(γ:G)x,ak w γ (fq x) (enc x))(aym:∀(w:World)(γ:G)x vs,ak w γ (fq x) vs->vs=enc x)(h1:∀x,∀v∈enc x,v.oneCell'=true)
  {m:AM}{id off:Nat}{d:List α}{more:P2}{cells:P2}(hB:m.boxes[id]?=some cells)(aN:cells≠[])(anF:∃pre post,cells=pre++(d.map fq).flatten++post/\pre.length=off){d2:List α->Prop}{K:So}
  (
   V4:∀(w:World)(b cap:Nat)(mv:PQ)(γ:G),ak w γ more mv->HoldsK enc sz w b off d.toArray->b<w.heap.size->Calls P f (Value.slice (some ⟨b,off,none⟩) d.length cap::mv).toArray w fun e w'=>
   e=.returned (.tuple #[])/\∃(d':List α)(n:Nat)(os:Array Obj),d'.length=d.length/\d2 d'/\w'=sortWorldK enc sz w b off n d'.toArray os)
  (hK:∀d':List α,d'.length=d.length->d2 d'->K (.aS []) (m.wr id (setA cells off ((d'.map fq).flatten)))):
  aB P gl Y f (.bs id off d.length sz::more) m K:=by
 refine aB.fO hc fun N w0 an γ w vs hm hl hr=>?_
 match vs,hr with
 |[],hr=>exact absurd hr.1 zd
 |v::mv,hr=>
 have hv:aA w γ (.bs id off d.length sz) v:=hr.2 0 _ _ rfl rfl;have hmv:ak w γ more mv:=⟨by have:=hr.1;simpa using this,fun i x y h1 h2=>hr.2 (i+1) x y (Nm h1) (Nm h2)⟩;cases hv with
 |@bs _ _ _ _ _ cap b arr e hb cm hh hs=>
 obtain⟨bN,e',hh',hrp,Ie⟩:=hm.box id cells b hB hb;rw[hh]at hh';cases hh';have hblk:b<w.heap.size:=aR hh;obtain⟨pre,post,rfl,rfl⟩:=anF;have anG:∀x,(fq x).length=sz:=fun x=>by rw[(hA w γ x).1,hsz]
 have ayn:∀(l:List α),((l.map fq).flatten).length=l.length*sz:=by
  intro l;induction l with
  |nil=>simp
  |cons x l ih=>simp[ih,anG,zzbq];omega
 have cp:∀i(hi:i<d.length),∀c,c<sz->arr[pre.length+i*sz+c]?=some ((enc d[i])[c]?.getD undef):=by
  intro i hi c hcz
  have anb:ak w γ (fq d[i]) ((arr.toList.drop (pre.length+i*sz)).take sz):=by
   have fB:((pre++(d.map fq).flatten++post).drop (pre.length+i*sz)).take sz=fq d[i]:=by
    have hd:d=d.take i++d[i]::d.drop (i+1):=zd
    have:(d.map fq).flatten=((d.take i).map fq).flatten++(fq d[i]++((d.drop (i+1)).map fq).flatten):=by
     conv=>lhs;rw[hd]
     simp only[zzch,zzaz,zzek,zzci]
    rw[this];rw[show pre++(((d.take i).map fq).flatten++(fq d[i]++((d.drop (i+1)).map fq).flatten))++post=(pre++((d.take i).map fq).flatten)++(fq d[i]++(((d.drop (i+1)).map fq).flatten++post)) by simp[zzbe]]
    have gM:(pre++((d.take i).map fq).flatten).length=pre.length+i*sz:=by
     rw[zzak,ayn,zzap];congr 2;omega
    rw[<- gM,zzg,<- anG d[i],List.take_left]
   refine⟨?_,fun j x y hx hy=>?_⟩
   ·rw[anG]
    have h3:pre.length+d.length*sz<=arr.size:=by
     have:=zzbc sz cm;omega
    have h4:(i+1)*sz<=d.length*sz:=zzbc sz zE;rw[zzbq,zzdq]at h4;simp;omega
   rw[<- fB]at hx;rw[zzbj]at hx hy;split at hx
   ·rw[if_pos (by assumption)]at hy;rw[zzbl]at hx hy;exact hrp.2 _ x y hx hy
   cases hx
  have h5:=aym w γ _ _ anb;have h6:((arr.toList.drop (pre.length+i*sz)).take sz)[c]?=(enc d[i])[c]?:=by rw[h5]
  rw[zzbj,if_pos hcz,zzbl]at h6;have h7:(enc d[i])[c]?=some ((enc d[i])[c]'(by rw[hsz];exact hcz)):=zzaf _;rw[h7]at h6 |-
  simpa using h6
 have hH:HoldsK enc sz w b pre.length d.toArray:=by
  intro t ht;rw[size_flatK]at ht;simp only[zzep]at ht
  have k0:0<sz:=by
   rcases zzcj sz with h|h;· rw[h]at ht;omega
   · exact h
  have hq:t/sz<d.length:=Nat.div_lt_of_lt_mul (by rw[zzef];exact ht);have zu:t%sz<sz:=zzeb _ k0;rw[get_flatK enc sz _ t (Nm ht)];refine⟨?_,Zo hh⟩;rw[aO hh];have:=cp (t/sz) hq (t%sz) zu;rw[show pre.length+t/sz*sz+t%sz=pre.length+t by have:=zzgv t sz;rw[zzef]at this;omega]at this;rw[this];have h8:d.toArray[t/sz]! =d[t/sz]:=by simp[hq]
  rw[h8];have h9:t%sz<(enc d[t/sz]).length:=by rw[hsz];exact zu
  simp[h9]
 refine(V4 w b cap mv γ hmv hH hblk).mono ?_;rintro e1 w' ⟨rfl,d',n,os,zo,hp,rfl⟩
 have hA':ak w γ ((d'.map fq).flatten) ((d'.map enc).flatten):=by
  clear hp zo;induction d' with
  |nil=>simpa using ak.nil
  |cons x l ih=>simpa using(hA w γ x).append ih
 have mV:∀v∈(d'.map enc).flatten,v.oneCell'=true:=by
  intro v hv;simp only[List.mem_flatten,zzb]at hv;obtain⟨l,⟨x,_,rfl⟩,hv⟩:=hv;exact h1 x v hv
 have Py:(flatK enc sz d'.toArray).toList=(d'.map enc).flatten:=by
  have ajg:∀(l:List α),((l.map enc).flatten).length=l.length*sz:=by
   intro l;induction l with
   |nil=>simp
   |cons x l ih=>simp[ih,hsz,zzbq];omega
  apply zzcz;intro t;by_cases ht:t<d'.length*sz
  ·have k0:0<sz:=by
    rcases zzcj sz with h|h;· rw[h]at ht;omega
    · exact h
   have hq:t/sz<d'.length:=Nat.div_lt_of_lt_mul (by rw[zzef];exact ht);have zu:t%sz<sz:=zzeb _ k0
   have e2:(flatK enc sz d'.toArray).toList[t]?=some ((flatK enc sz d'.toArray)[t]!):=by
    have:t<(flatK enc sz d'.toArray).size:=by rw[size_flatK];simpa using ht
    rw[zzca,zzag this,getElem!_pos (flatK enc sz d'.toArray) t this]
   rw[e2,get_flatK enc sz _ t (Nm ht)];have h8:d'.toArray[t/sz]! =d'[t/sz]:=by simp[hq]
   rw[h8];have hd:d'=d'.take (t/sz)++d'[t/sz]::d'.drop (t/sz+1):=zd
   have e3:(d'.map enc).flatten=((d'.take (t/sz)).map enc).flatten++(enc d'[t/sz]++((d'.drop (t/sz+1)).map enc).flatten):=by
    conv=>lhs;rw[hd]
    simp only[zzch,zzaz,zzek,zzci]
   have gM:(((d'.take (t/sz)).map enc).flatten).length=t/sz*sz:=by rw[ajg,zzap];congr 1;omega
   have e4:t=(((d'.take (t/sz)).map enc).flatten).length+t%sz:=by
    rw[gM];have:=zzgv t sz;rw[zzef]at this;omega
   have h9:t%sz<(enc d'[t/sz]).length:=by rw[hsz];exact zu
   rw[e3,zzao zE,zzaj (by rw[hsz];omega)];rw[show t-(((d'.take (t/sz)).map enc).flatten).length=t%sz by omega];simp[h9]
  rw[zzar (by simp;omega),zzar (by rw[ajg];omega)]
 have fe:pre.length+d'.length*sz<=arr.size:=by
  have:=zzbc sz cm;rw[zo];omega
 have ajh:(sortWorldK enc sz w b pre.length n d'.toArray os).heap=(w.setCells b pre.length ((d'.map enc).flatten)).heap++os:=by
  have:=DX _root_.id (Sort.ahead w n) b pre.length (flatK enc sz d'.toArray) (arr:=arr) (e:=e) (f:=(0,0)) hh (by rw[size_flatK];simpa using fe);show(putRow _root_.id (Sort.ahead w n) b pre.length (flatK enc sz d'.toArray)).heap++os=_;rw[this,List.map_id_fun,id_eq,Py];congr 1
  have uo:∀(vs:PQ)(o:Nat)(w1 w2:World),w1.heap=w2.heap->(w1.setCells b o vs).heap=(w2.setCells b o vs).heap:=by
   intro vs;induction vs with
   |nil=>intro o w1 w2 h;exact h
   |cons v vs ih=>intro o w1 w2 h;exact ih (o+1) _ _ (by simp[World.setCell,h])
  exact uo _ _ _ _ rfl
 have af1:Below (w.setCells b pre.length ((d'.map enc).flatten)).heap.size (w.setCells b pre.length ((d'.map enc).flatten)) (sortWorldK enc sz w b pre.length n d'.toArray os):=by
  have dy:=Xx b (zzab b) ((d'.map enc).flatten) pre.length w;refine⟨?_,?_,?_,by rw[ajh];simp,fun k hk=>?_⟩
  ·rw[dy.os];rfl
  ·rw[dy.tape];rfl
  ·rw[dy.output];rfl
  rw[ajh,zzfb hk]
 obtain⟨γ',h3,h4,h5⟩:=aaZ hm hl hB aN hb (o:=pre.length) hA' mV af1;exact⟨_,γ',.aS [],_,rfl,h3,h4,h5,wO,hK d' zo hp⟩
end Go.Abs
namespace Go.Proofs.YthjppoincojfkaaGreatDoor
open Go Go.Abs Go.Shelf Go.RowKit Go.Lib Go.Sort
def Mi:Go.Shelf.Ren:=⟨fun|6=>186|15=>167|14=>232|28=>223|29=>224|20=>253|21=>254|22=>255|23=>256|24=>257|25=>258|26=>259|27=>260|46=>267|47=>244|48=>245|49=>268|50=>269|57=>271|n=>n,fun|22=>286|24=>288|25=>292|3=>3|39=>253|0=>0|53=>326|55=>161|4=>4|46=>320|45=>319|50=>65|5=>5|9=>9|66=>348|70=>152|76=>363|77=>308|n=>n,fun|n=>n⟩
def aa0:Go.Proofs.SlLaysF0.n6 Tryz.prog Mi:={
 mixed:=by kernel_rfl,
 f6:=⟨Tryz.f186.name,by decide,Tryz.func186.trans (congrArg some (by kernel_rfl))⟩,
 f14:=⟨Tryz.f232.name,by decide,Tryz.func232.trans (congrArg some (by kernel_rfl))⟩,
 f15:=Tryz.func167.trans (congrArg some (by kernel_rfl)),
 f20:=⟨Tryz.f253.name,by decide,Tryz.func253.trans (congrArg some (by kernel_rfl))⟩,
 f21:=⟨Tryz.f254.name,by decide,Tryz.func254.trans (congrArg some (by kernel_rfl))⟩,
 f22:=⟨Tryz.f255.name,by decide,Tryz.func255.trans (congrArg some (by kernel_rfl))⟩,
 f23:=⟨Tryz.f256.name,by decide,Tryz.func256.trans (congrArg some (by kernel_rfl))⟩,
 f24:=⟨Tryz.f257.name,by decide,Tryz.func257.trans (congrArg some (by kernel_rfl))⟩,
 f25:=⟨Tryz.f258.name,by decide,Tryz.func258.trans (congrArg some (by kernel_rfl))⟩,
 f26:=⟨Tryz.f259.name,by decide,Tryz.func259.trans (congrArg some (by kernel_rfl))⟩,
 f27:=⟨Tryz.f260.name,by decide,Tryz.func260.trans (congrArg some (by kernel_rfl))⟩,
 f28:=Tryz.func223.trans (congrArg some (by kernel_rfl)),
 f29:=Tryz.func224.trans (congrArg some (by kernel_rfl)),
 f46:=⟨Tryz.f267.name,by decide,Tryz.func267.trans (congrArg some (by kernel_rfl))⟩,
 f47:=Tryz.func244.trans (congrArg some (by kernel_rfl)),
 f48:=Tryz.func245.trans (congrArg some (by kernel_rfl)),
 f49:=⟨Tryz.f268.name,by decide,Tryz.func268.trans (congrArg some (by kernel_rfl))⟩,
 f50:=⟨Tryz.f269.name,by decide,Tryz.func269.trans (congrArg some (by kernel_rfl))⟩,
 f57:=⟨Tryz.f271.name,by decide,Tryz.func271.trans (congrArg some (by kernel_rfl))⟩,
 t0:=Tryz.underlying0,
 a0:=Tryz.isAgg0,
 z0:=Tryz.sizeOf0,
 v0:=Tryz.zeroValue0,
 t3:=Tryz.underlying3,
 a3:=Tryz.isAgg3,
 z3:=Tryz.sizeOf3,
 v3:=Tryz.zeroValue3,
 t4:=Tryz.underlying4,
 a4:=Tryz.isAgg4,
 z4:=Tryz.sizeOf4,
 v4:=Tryz.zeroValue4,
 t5:=Tryz.underlying5,
 a5:=Tryz.isAgg5,
 z5:=Tryz.sizeOf5,
 v5:=Tryz.zeroValue5,
 t9:=Tryz.underlying9,
 a9:=Tryz.isAgg9,
 z9:=Tryz.sizeOf9,
 v9:=Tryz.zeroValue9,
 t22:=Tryz.underlying286,
 a22:=Tryz.isAgg286,
 z22:=Tryz.sizeOf286,
 v22:=Tryz.zeroValue286,
 t25:=Tryz.underlying292,
 a25:=Tryz.isAgg292,
 z25:=Tryz.sizeOf292,
 v25:=Tryz.zeroValue292,
 t39:=Tryz.underlying253,
 a39:=Tryz.isAgg253,
 z39:=Tryz.sizeOf253,
 v39:=Tryz.zeroValue253,
 t45:=Tryz.underlying319,
 a45:=Tryz.isAgg319,
 z45:=Tryz.sizeOf319,
 v45:=Tryz.zeroValue319,
 t46:=Tryz.underlying320,
 a46:=Tryz.isAgg320,
 z46:=Tryz.sizeOf320,
 v46:=Tryz.zeroValue320,
 t50:=Tryz.underlying65,
 a50:=Tryz.isAgg65,
 z50:=Tryz.sizeOf65,
 v50:=Tryz.zeroValue65,
 t53:=Tryz.underlying326,
 a53:=Tryz.isAgg326,
 z53:=Tryz.sizeOf326,
 v53:=Tryz.zeroValue326,
 t55:=Tryz.underlying161,
 a55:=Tryz.isAgg161,
 z55:=Tryz.sizeOf161,
 v55:=Tryz.zeroValue161,
 t66:=Tryz.underlying348,
 a66:=Tryz.isAgg348,
 z66:=Tryz.sizeOf348,
 v66:=Tryz.zeroValue348,
 t70:=Tryz.underlying152,
 a70:=Tryz.isAgg152,
 z70:=Tryz.sizeOf152,
 v70:=Tryz.zeroValue152,
 t76:=Tryz.underlying363,
 a76:=Tryz.isAgg363,
 z76:=Tryz.sizeOf363,
 v76:=Tryz.zeroValue363,
 t77:=Tryz.underlying308,
 a77:=Tryz.isAgg308,
 z77:=Tryz.sizeOf308,
 v77:=Tryz.zeroValue308}
def Ib:Go.Shelf.Ren:=⟨fun|5=>110|8=>167|7=>166|19=>223|20=>224|10=>214|11=>215|12=>216|13=>217|14=>218|15=>219|16=>220|17=>221|18=>222|30=>243|31=>244|32=>245|33=>246|34=>247|35=>248|40=>264|n=>n,fun|23=>42|25=>3|3=>3|32=>253|22=>42|0=>0|44=>326|46=>161|4=>4|36=>320|35=>319|41=>65|5=>5|9=>9|53=>348|57=>152|63=>363|64=>308|n=>n,fun|n=>n⟩
def sortInt:Go.Proofs.SlLaysM.n5 Tryz.prog Ib:={
 mixed:=by kernel_rfl,
 f5:=⟨Tryz.f110.name,by decide,Tryz.func110.trans (congrArg some (by kernel_rfl))⟩,
 f7:=⟨Tryz.f166.name,by decide,Tryz.func166.trans (congrArg some (by kernel_rfl))⟩,
 f8:=Tryz.func167.trans (congrArg some (by kernel_rfl)),
 f10:=⟨Tryz.f214.name,by decide,Tryz.func214.trans (congrArg some (by kernel_rfl))⟩,
 f11:=⟨Tryz.f215.name,by decide,Tryz.func215.trans (congrArg some (by kernel_rfl))⟩,
 f12:=⟨Tryz.f216.name,by decide,Tryz.func216.trans (congrArg some (by kernel_rfl))⟩,
 f13:=⟨Tryz.f217.name,by decide,Tryz.func217.trans (congrArg some (by kernel_rfl))⟩,
 f14:=⟨Tryz.f218.name,by decide,Tryz.func218.trans (congrArg some (by kernel_rfl))⟩,
 f15:=⟨Tryz.f219.name,by decide,Tryz.func219.trans (congrArg some (by kernel_rfl))⟩,
 f16:=⟨Tryz.f220.name,by decide,Tryz.func220.trans (congrArg some (by kernel_rfl))⟩,
 f17:=⟨Tryz.f221.name,by decide,Tryz.func221.trans (congrArg some (by kernel_rfl))⟩,
 f18:=⟨Tryz.f222.name,by decide,Tryz.func222.trans (congrArg some (by kernel_rfl))⟩,
 f19:=Tryz.func223.trans (congrArg some (by kernel_rfl)),
 f20:=Tryz.func224.trans (congrArg some (by kernel_rfl)),
 f30:=⟨Tryz.f243.name,by decide,Tryz.func243.trans (congrArg some (by kernel_rfl))⟩,
 f31:=Tryz.func244.trans (congrArg some (by kernel_rfl)),
 f32:=Tryz.func245.trans (congrArg some (by kernel_rfl)),
 f33:=⟨Tryz.f246.name,by decide,Tryz.func246.trans (congrArg some (by kernel_rfl))⟩,
 f34:=⟨Tryz.f247.name,by decide,Tryz.func247.trans (congrArg some (by kernel_rfl))⟩,
 f35:=⟨Tryz.f248.name,by decide,Tryz.func248.trans (congrArg some (by kernel_rfl))⟩,
 f40:=⟨Tryz.f264.name,by decide,Tryz.func264.trans (congrArg some (by kernel_rfl))⟩,
 t0:=Tryz.underlying0,
 a0:=Tryz.isAgg0,
 z0:=Tryz.sizeOf0,
 v0:=Tryz.zeroValue0,
 t3:=Tryz.underlying3,
 a3:=Tryz.isAgg3,
 z3:=Tryz.sizeOf3,
 v3:=Tryz.zeroValue3,
 t4:=Tryz.underlying4,
 a4:=Tryz.isAgg4,
 z4:=Tryz.sizeOf4,
 v4:=Tryz.zeroValue4,
 t5:=Tryz.underlying5,
 a5:=Tryz.isAgg5,
 z5:=Tryz.sizeOf5,
 v5:=Tryz.zeroValue5,
 t9:=Tryz.underlying9,
 a9:=Tryz.isAgg9,
 z9:=Tryz.sizeOf9,
 v9:=Tryz.zeroValue9,
 t22:=Tryz.underlying42,
 a22:=Tryz.isAgg42,
 z22:=Tryz.sizeOf42,
 v22:=Tryz.zeroValue42,
 t23:=Tryz.underlying42,
 a23:=Tryz.isAgg42,
 z23:=Tryz.sizeOf42,
 v23:=Tryz.zeroValue42,
 t25:=Tryz.underlying3,
 a25:=Tryz.isAgg3,
 z25:=Tryz.sizeOf3,
 v25:=Tryz.zeroValue3,
 t32:=Tryz.underlying253,
 a32:=Tryz.isAgg253,
 z32:=Tryz.sizeOf253,
 v32:=Tryz.zeroValue253,
 t35:=Tryz.underlying319,
 a35:=Tryz.isAgg319,
 z35:=Tryz.sizeOf319,
 v35:=Tryz.zeroValue319,
 t36:=Tryz.underlying320,
 a36:=Tryz.isAgg320,
 z36:=Tryz.sizeOf320,
 v36:=Tryz.zeroValue320,
 t41:=Tryz.underlying65,
 a41:=Tryz.isAgg65,
 z41:=Tryz.sizeOf65,
 v41:=Tryz.zeroValue65,
 t44:=Tryz.underlying326,
 a44:=Tryz.isAgg326,
 z44:=Tryz.sizeOf326,
 v44:=Tryz.zeroValue326,
 t46:=Tryz.underlying161,
 a46:=Tryz.isAgg161,
 z46:=Tryz.sizeOf161,
 v46:=Tryz.zeroValue161,
 t53:=Tryz.underlying348,
 a53:=Tryz.isAgg348,
 z53:=Tryz.sizeOf348,
 v53:=Tryz.zeroValue348,
 t57:=Tryz.underlying152,
 a57:=Tryz.isAgg152,
 z57:=Tryz.sizeOf152,
 v57:=Tryz.zeroValue152,
 t63:=Tryz.underlying363,
 a63:=Tryz.isAgg363,
 z63:=Tryz.sizeOf363,
 v63:=Tryz.zeroValue363,
 t64:=Tryz.underlying308,
 a64:=Tryz.isAgg308,
 z64:=Tryz.sizeOf308,
 v64:=Tryz.zeroValue308}
def Mj:Go.Shelf.Ren:=⟨fun|5=>233|7=>248|n=>n,fun|22=>3|3=>3|4=>4|n=>n,fun|n=>n⟩
def anH:Go.Proofs.SlLaysC2.n5 Tryz.prog Mj:={
 mixed:=by kernel_rfl,
 f5:=⟨Tryz.f233.name,by decide,Tryz.func233.trans (congrArg some (by kernel_rfl))⟩,
 f7:=⟨Tryz.f248.name,by decide,Tryz.func248.trans (congrArg some (by kernel_rfl))⟩,
 t3:=Tryz.underlying3,
 a3:=Tryz.isAgg3,
 z3:=Tryz.sizeOf3,
 v3:=Tryz.zeroValue3,
 t4:=Tryz.underlying4,
 a4:=Tryz.isAgg4,
 z4:=Tryz.sizeOf4,
 v4:=Tryz.zeroValue4,
 t22:=Tryz.underlying3,
 a22:=Tryz.isAgg3,
 z22:=Tryz.sizeOf3,
 v22:=Tryz.zeroValue3}
def Mk(x:Int×Int):PQ:=[.int .i64 x.1,.int .i64 x.2]
def Ml(x y:Int×Int)(W:World):Calls Tryz.prog 187 #[.agg #[.int .i64 x.1,.int .i64 x.2],.agg #[.int .i64 y.1,.int .i64 y.2]] W fun e w'=>e=.returned (.int .i64 (Lib.compareInt x.1 y.1))/\∃q os',w'=grow (W.drewN q) os':=by
 have fR:=fun W'=>AnyG.cmp_Compare_int anH x.1 y.1 W';change∀W',Calls Tryz.prog 233 _ _ _ at fR;generalize Lib.compareInt x.1 y.1=r at fR |-
 go_enter Tryz.func187,Tryz.ntmps187
 go_wp2_with (go_at_call 233;refine(fR _).mono ?_;rintro e w' ⟨rfl,rfl⟩)
 go_ret
 exact⟨rfl,0,_,by rw[alloc_eq_grow,alloc_eq_grow,grow_grow];rfl⟩
def Mm(blk off size:Nat)(w:World):CmpLays Tryz.prog 187 #[] Mk 2 (fun x y=>Lib.compareInt x.1 y.1) blk off size w:=
 fun _ _ _ _ x y=>Ml x y _
def af2(x y:Int×Int):ltOf (fun x y:Int×Int=>Lib.compareInt x.1 y.1) x y=decide (x.1<y.1):=by
 unfold ltOf Lib.compareInt;by_cases h1:x.1<y.1
 ·simp[h1]
 by_cases h2:y.1<x.1<;>simp[h1,h2]
def auh:SWO (ltOf fun x y:Int×Int=>Lib.compareInt x.1 y.1) where
 irrefl x:=by rw[af2];simp
 trans x y z h1 h2:=by rw[af2]at*;simp at*;omega
 ntrans x y z h1 h2:=by rw[af2]at*;simp at*;omega
def aa1{w:World}{γ:G}(x:Int×Int):ak w γ (Qf x) (Mk x):=.cons (.int _ _) (.cons (.int _ _) .nil)
def Yo{w:World}{γ:G}{a:AV}{vs:PQ}(h:ak w γ [a] vs):∃v,vs=[v]/\aA w γ a v:=by
 match vs,h with
 |[v],h=>exact⟨v,rfl,h.2 0 _ _ rfl rfl⟩
 |[],h=>exact absurd h.1 zd
 |_::_::_,h=>exact absurd h.1 zd
def R4{w:World}{γ:G}(x:Int×Int){vs:PQ}(h:ak w γ (Qf x) vs):vs=Mk x:=by
 match vs,h with
 |[u,v],h=>
  have h1:aA w γ (I x.1) u:=h.2 0 _ _ rfl rfl;have h2:aA w γ (I x.2) v:=h.2 1 _ _ rfl rfl;cases h1;cases h2;rfl
 |[],h=>exact absurd h.1 (by simp[Qf])
 |[_],h=>exact absurd h.1 (by simp[Qf])
 |_::_::_::_,h=>exact absurd h.1 (by simp[Qf])
def anI{w:World}{γ:G}{f:FuncId}{v:Value}(h:aA w γ (.fn f [] []) v):v=.func (.func f) #[] #[]:=by
 cases h with
 |fn hl _ eY _=>
  rename_i fa ca _ _;have e1:fa=#[]:=zzem hl.symm;have e2:ca=#[]:=zzem eY.symm;rw[e1,e2]
def KO(Y:YT)(d:List Sp)(hd:d.length<=1000000000)(m:AM)(id:Nat)(post:P2)(hB:m.boxes[id]?=some (cF d++post))(aN:cF d++post≠[])(K:So)
  (hK:∀d':List Sp,d'.Perm d->d'.Pairwise (fun a b=>a.1<=b.1)->K (.aS []) (m.wr id (cF d'++post))):
  aB Tryz.prog aD Y 186 [.bs id 0 d.length 2,.fn 187 [] []] m K:=by
 refine BI (α:=Int×Int) (d:=d) (more:=[.fn 187 [] []]) (sz:=2) (off:=0) MX.bw Mk Qf (fun _=>rfl) (fun _ _ x=>aa1 x) (fun _ _ x _ h=>R4 x h) (fun x v hv=>by simp[Mk]at hv;rcases hv with rfl|rfl<;>rfl) hB aN
  ⟨[],post,by rw[FB];rfl,rfl⟩ (d2:=fun d'=>d'.Perm d/\d'.Pairwise fun a b=>a.1<=b.1) ?_ ?_
 ·intro w b cap mv γ hmv hH hblk;obtain⟨v,rfl,hv⟩:=Yo hmv;have:=anI hv;subst this;have eg:∀args w,(callFunc 187 args).run Tryz.prog w=.ok (.enter 187 args) w:=enters_of Tryz.func187 (by kernel_rfl) rfl;have fR:=AnyQ.slices_SortFunc aa0 2 Tryz.isAgg288 Tryz.sizeOf288 Mk (fun _=>rfl) (fun x v hv=>by simp[Mk]at hv;rcases hv with rfl|rfl<;>rfl) (fun x y=>Lib.compareInt x.1 y.1) auh 187 #[] b 0 cap d.toArray w eg (Mm b 0 _ w) hH hblk (by simp;omega);change Calls Tryz.prog 186 _ _ _ at fR;refine fR.mono ?_;rintro e w' ⟨rfl,d',n,os,hP,hS,rfl⟩;obtain⟨p1,_,p3⟩:=hP;have hsz:d'.size=d.length:=by simpa using p1
  refine⟨rfl,d'.toList,n,os,Nm hsz,⟨?_,?_⟩,zd⟩
  ·have e1:d'.extract 0 d.toArray.size=d':=by rw[<- p1];simp
   rw[e1]at p3;simpa using p3
  rw[zzdp];intro i j hi hj eH;have di:i<d'.size:=by simpa using hi
  have Nj:j<d'.size:=by simpa using hj
  have:=hS i j (zzbp _) eH (by simp;omega);rw[af2]at this;simp only[getElem!_pos d' i di,getElem!_pos d' j Nj,decide_eq_false_iff_not,Int.not_lt]at this;simpa using this
 rintro d' hl ⟨h1,h2⟩;rw[FB,jt _ _ _ (by rw[Ye,Ye,hl])];exact hK d' h1 h2
def F8(Y:YT)(rt:Rt)(m:AM)(K:So)(hK:K (.aS []) m):aB Tryz.prog aD Y 186 [.sl rt [],.fn 187 [] []] m K:=by
 refine aB.fO MX.bw fun N w0 an γ w vs hm hl hr=>?_
 match vs,hr with
 |[u,v],hr=>
  have h1:aA w γ (.sl rt []) u:=hr.2 0 _ _ rfl rfl;cases h1 with
  |@sl _ _ _ a cap b off sz cv _ _ _ _ _ _ _=>
   have fR:=AnyF.slices_SortFunc_none {aa0 with} a cap v w;change Calls Tryz.prog 186 _ _ _ at fR;refine fR.mono ?_;rintro e w' ⟨rfl,rfl⟩;exact⟨_,γ,_,m,rfl,(Ev.refl _ _).cH,hm,hl,wO,hK⟩
 |[],hr=>exact absurd hr.1 zd
 |[_],hr=>exact absurd hr.1 zd
 |_::_::_::_,hr=>exact absurd hr.1 zd
def encI(x:Int):PQ:=[.int .i64 x]
def iS(d:Array Int):flatK encI 1 d=d.map (Value.int .i64):=by
 refine Array.ext zd fun t h1 h2=>?_;have ht:t<d.size:=by simpa using h2
 have:=get_flatK encI 1 d t (Nm ht);rw[getElem!_pos _ t h1]at this;rw[this];have e2:d[t]! =d[t]:=getElem!_pos d t ht;simp[Nat.div_one,Nat.mod_one,encI,ht]
def sF(Y:YT)(d:Pi)(hd:d.length<=1000000000)(m:AM)(id:Nat)(post:P2)(hB:m.boxes[id]?=some (aj d++post))(aN:aj d++post≠[])(K:So)
  (hK:K (.aS []) (m.wr id (aj (d.mergeSort fun x y=>decide (x<=y))++post))):
  aB Tryz.prog aD Y 110 [.bs id 0 d.length 1] m K:=by
 have aji:∀l:Pi,(l.map fun x=>[I x]).flatten=aj l:=by
  intro l;induction l with
  |nil=>rfl
  |cons x l ih=>simp[aj]at ih |-;exact ih
 refine BI (α:=Int) (d:=d) (more:=[]) (sz:=1) (off:=0) Mz.bw encI (fun x=>[I x]) (fun _=>rfl) (fun _ _ x=>.cons (.int _ _) .nil) (fun w γ x vs h=>?_) (fun x v hv=>by simp[encI]at hv;subst hv;rfl) hB aN
  ⟨[],post,by rw[aji];rfl,rfl⟩ (d2:=fun d'=>d'=d.mergeSort fun x y=>decide (x<=y)) ?_ ?_
 ·obtain⟨v,rfl,hv⟩:=Yo h;cases hv;rfl
 ·intro w b cap mv γ hmv hH hblk;have:mv=[]:=zzc.1 hmv.1.symm;subst this
  have hH':Holds (Value.int .i64) w b 0 d.toArray:=by
   intro j hj;unfold HoldsK at hH;rw[iS]at hH;have:=hH j (Nm hj);have Nj:j<d.length:=by simpa using hj
   simpa[Nj]using this
  have fR:=AnyM.slices_Sort_int sortInt b 0 cap d w hH' hblk zE;change Calls Tryz.prog 110 _ _ _ at fR;refine fR.mono ?_;rintro e w' ⟨rfl,n,os,rfl⟩;refine⟨rfl,_,n,os,zd,rfl,?_⟩;unfold sortWorldK putRowK;rw[iS];congr 1;unfold putRow;refine mapBlock_congr _ _ _ _ fun c e fr _=>?_;unfold putCells;apply zzgc;intro k;simp only[zzhh,Array.size_map];cases c[k]? with
  |none=>rfl
  |some x=>
   simp only[zzcs];congr 1;by_cases hc:0<=k/\k<0+(d.mergeSort fun x y=>decide (x<=y)).toArray.size
   ·rw[if_pos hc,if_pos hc];have hk:k<(d.mergeSort fun x y=>decide (x<=y)).toArray.size:=zE
    have Ck:k<((d.mergeSort fun x y=>decide (x<=y)).toArray.map (Value.int .i64)).size:=by simpa using hk
    simp only[zzet];rw[getElem!_pos _ k hk,getElem!_pos _ k Ck];simp
   rw[if_neg hc,if_neg hc]
 rintro d' hl rfl;rw[aji,jt _ _ _ (by simp[aj])];exact hK
def pz(Y:YT)(rt:Rt)(m:AM)(K:So)(hK:K (.aS []) m):aB Tryz.prog aD Y 110 [.sl rt []] m K:=by
 refine aB.fO Mz.bw fun N w0 an γ w vs hm hl hr=>?_;obtain⟨u,rfl,h1⟩:=Yo hr;cases h1 with
 |@sl _ _ _ a cap b off sz cv _ _ _ _ _ _ _=>
  have fR:=AnyM.slices_Sort_int_none sortInt a cap w;change Calls Tryz.prog 110 _ _ _ at fR;refine fR.mono ?_;rintro e w' ⟨rfl,rfl⟩;exact⟨_,γ,_,m,rfl,(Ev.refl _ _).cH,hm,hl,wO,hK⟩
