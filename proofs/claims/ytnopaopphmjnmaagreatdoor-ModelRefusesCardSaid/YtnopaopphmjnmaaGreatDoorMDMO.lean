import Derived.Shelf.SortM.SortNone
import Derived.Shelf.SortM.Plain
import Derived.Test.YtnopaopphmjnmaaGreatDoorMDTcA
import Derived.Shelf.SlicesG.Cmp
import Derived.Shelf.SlSortCmp.NoneTotal
set_option linter.all false
set_option maxRecDepth 100000
set_option maxHeartbeats 64000000
namespace Go.Abs
open Go Go.RowKit Go.Sort Go.Proofs
def pq:∀(vs:List Value)(o:Nat)(arr:Array Value)(k:Nat),o+vs.length<=arr.size->k<arr.size->(tF arr o vs)[k]?=if o<=k/\k<o+vs.length then vs[k-o]? else arr[k]?
 |[],o,arr,k,_,_=>by rw[tF,if_neg];simp
 |v::vs,o,arr,k,h,hk=>by
  simp only[zzbd]at h;rw[tF,pq vs (o+1) _ k (by simp;omega) (by simpa using hk)];by_cases h1:o+1<=k/\k<o+1+vs.length
  ·rw[if_pos h1,if_pos (by simp;omega)];obtain⟨u,rfl⟩:∃u,k=o+1+u:=⟨k-(o+1),by omega⟩;rw[show o+1+u-o=u+1 by omega,zzdf];congr 1;omega
  rw[if_neg h1];by_cases h2:k=o
  ·subst h2;rw[if_pos (by simp)];simp[hk]
  rw[if_neg (by simp;omega)];simp[Ne.symm h2]
def CZ{α:Type}[Inhabited α](enc:α->Value)(w:World)(b off:Nat)(d:Array α){arr:Array Value}{e:TypeId}{f:Nat×Nat}(h:w.heap[b]?=some (.cells arr e f))(hs:off+d.size<=arr.size):
  (putRow enc w b off d).heap=(w.setCells b off (d.toList.map enc)).heap:=by
 apply zzg;intro k;by_cases hk:k=b
 ·subst hk;rw[Xb k _ off w arr e f h]
  have e1:(putRow enc w k off d).heap[k]?=some (.cells (putCells enc off d arr) e f):=by
   simp[putRow,mapBlock,zzep,h,onCells]
  rw[e1];congr 2;apply zzg;intro j;by_cases hj:j<arr.size
  ·rw[pq _ off arr j (by simpa using hs) hj];simp only[putCells,zzhh,zzbg,zzbi];by_cases hc:off<=j/\j<off+d.size
   ·rw[if_pos hc,zzaj hj];have ai:j-off<d.size:=by omega
    simp[hc,ai]
   rw[if_neg hc,zzaj hj];simp[hc]
  have s1:(putCells enc off d arr).size=arr.size:=by simp[putCells]
  have s2:=Zy (d.toList.map enc) arr off;rw[zzcz (by omega),zzcz (by omega)]
 rw[Qw b _ off w k hk];simp[putRow,mapBlock,zzep,Ne.symm hk]
section
variable {N:Nat} {w0:iu} {au:Nat->Nat->Prop} {γ:G} {w:World}
def Y2{m:AM}(hm:az N w0 au γ w m.B m.L)(hl:cQ γ w m){id b:Nat}{cells:List AV}(hB:m.boxes[id]?=some cells)(aJ:cells≠[])(hb:γ.β id=some b){o:Nat}{xs:List AV}{vs:List Value}
  (ha:ak w γ xs vs)(h1v:∀v∈vs,v.oneCell'=true){w':World}(afx:Below (w.setCells b o vs).heap.size (w.setCells b o vs) w'):
  ∃γ',eG w γ w' γ'/\az N w0 au γ' w' (m.wr id (setA cells o xs)).B (m.wr id (setA cells o xs)).L/\cQ γ' w' (m.wr id (setA cells o xs)):=by
 obtain⟨arr,e,hh,hr,V3⟩:=hm.box id cells b hB hb;have h1:=hm.store hB hb hh hr V3 (o:=o) ha h1v aJ;have e1:=hm.cr hb o vs;have e2:=h1.di afx;have ev:=e1.trans e2;refine⟨_,ev.dD,?_,hl.mono' ev rfl⟩;have h2:=h1.grow afx;rw[axR m id _ hB];exact h2
end
def A2{α:Type}[Inhabited α]{P:Program}{gl:Nat->AV}{Y:YT}{f:FuncId}(hc:bC P f)(enc:α->List Value)(fD:α->List AV)(sz:Nat)(hsz:∀x,(enc x).length=sz)
  (hA:∀(w:World)(γ:G)x,ak w γ (fD x) (enc x))(axS:∀(w:World)(γ:G)x vs,ak w γ (fD x) vs->vs=enc x)(h1:∀x,∀v∈enc x,v.oneCell'=true)
  {m:AM}{id off:Nat}{d:List α}{more:List AV}{cells:List AV}(hB:m.boxes[id]?=some cells)(aJ:cells≠[])(Y3:∃pre post,cells=pre++(d.map fD).flatten++post/\pre.length=off){d2:List α->Prop}{K:AV->AM->Prop}
  (
   XM:∀(w:World)(b cap:Nat)(mv:List Value)(γ:G),ak w γ more mv->HoldsK enc sz w b off d.toArray->b<w.heap.size->Calls P f (Value.slice (some ⟨b,off,none⟩) d.length cap::mv).toArray w fun e w'=>
   e=.returned (.tuple #[])/\∃(d':List α)(n:Nat)(os:Array Obj),d'.length=d.length/\d2 d'/\w'=sortWorldK enc sz w b off n d'.toArray os)
  (hK:∀d':List α,d'.length=d.length->d2 d'->K (.aU []) (m.wr id (setA cells off ((d'.map fD).flatten)))):
  an P gl Y f (.bs id off d.length sz::more) m K:=by
 refine an.fU hc fun N w0 au γ w vs hm hl hr=>?_
 match vs,hr with
 |[],hr=>exact absurd hr.1 (by simp)
 |v::mv,hr=>
 have hv:aB w γ (.bs id off d.length sz) v:=hr.2 0 _ _ rfl rfl;have hmv:ak w γ more mv:=⟨by have:=hr.1;simpa using this,fun i x y h1 h2=>hr.2 (i+1) x y (by simpa using h1) (by simpa using h2)⟩;cases hv with
 |@bs _ _ _ _ _ cap b arr e hb bX hh hs=>
 obtain⟨bR,e',hh',hrp,V3⟩:=hm.box id cells b hB hb;rw[hh]at hh';cases hh';have hblk:b<w.heap.size:=aS hh;obtain⟨pre,post,rfl,rfl⟩:=Y3;have anx:∀x,(fD x).length=sz:=fun x=>by rw[(hA w γ x).1,hsz]
 have axT:∀(l:List α),((l.map fD).flatten).length=l.length*sz:=by
  intro l;induction l with
  |nil=>simp
  |cons x l ih=>simp[ih,anx,zzbp];omega
 have cm:∀i(hi:i<d.length),∀c,c<sz->arr[pre.length+i*sz+c]?=some ((enc d[i])[c]?.getD undef):=by
  intro i hi c hcz
  have anz:ak w γ (fD d[i]) ((arr.toList.drop (pre.length+i*sz)).take sz):=by
   have gr:((pre++(d.map fD).flatten++post).drop (pre.length+i*sz)).take sz=fD d[i]:=by
    have hd:d=d.take i++d[i]::d.drop (i+1):=by simp
    have:(d.map fD).flatten=((d.take i).map fD).flatten++(fD d[i]++((d.drop (i+1)).map fD).flatten):=by
     conv=>lhs;rw[hd]
     simp only[zzbw,zzay,zzeg,zzci]
    rw[this];rw[show pre++(((d.take i).map fD).flatten++(fD d[i]++((d.drop (i+1)).map fD).flatten))++post=(pre++((d.take i).map fD).flatten)++(fD d[i]++(((d.drop (i+1)).map fD).flatten++post)) by simp[zzba]]
    have ef:(pre++((d.take i).map fD).flatten).length=pre.length+i*sz:=by
     rw[zzai,axT,zzaq];congr 2;omega
    rw[<- ef,zzff,<- anx d[i],List.take_left]
   refine⟨?_,fun j x y hx hy=>?_⟩
   ·rw[anx]
    have h3:pre.length+d.length*sz<=arr.size:=by
     have:=zzb sz bX;omega
    have h4:(i+1)*sz<=d.length*sz:=zzb sz (by omega);rw[zzbp,zzdj]at h4;simp;omega
   rw[<- gr]at hx;rw[zzbj]at hx hy;split at hx
   ·rw[if_pos (by assumption)]at hy;rw[zzbk]at hx hy;exact hrp.2 _ x y hx hy
   cases hx
  have h5:=axS w γ _ _ anz;have h6:((arr.toList.drop (pre.length+i*sz)).take sz)[c]?=(enc d[i])[c]?:=by rw[h5]
  rw[zzbj,if_pos hcz,zzbk]at h6;have h7:(enc d[i])[c]?=some ((enc d[i])[c]'(by rw[hsz];exact hcz)):=zzad _;rw[h7]at h6 |-
  simpa using h6
 have hH:HoldsK enc sz w b pre.length d.toArray:=by
  intro t ht;rw[size_flatK]at ht;simp only[zzem]at ht
  have k0:0<sz:=by
   rcases zzck sz with h|h;· rw[h]at ht;omega
   · exact h
  have hq:t/sz<d.length:=Nat.div_lt_of_lt_mul (by rw[zzec];exact ht);have Aq:t%sz<sz:=zze _ k0;rw[get_flatK enc sz _ t (by simpa using ht)];refine⟨?_,Zm hh⟩;rw[aM hh];have:=cm (t/sz) hq (t%sz) Aq;rw[show pre.length+t/sz*sz+t%sz=pre.length+t by have:=zzgu t sz;rw[zzec]at this;omega]at this;rw[this];have h8:d.toArray[t/sz]! =d[t/sz]:=by simp[hq]
  rw[h8];have h9:t%sz<(enc d[t/sz]).length:=by rw[hsz];exact Aq
  simp[h9]
 refine(XM w b cap mv γ hmv hH hblk).mono ?_;rintro e1 w' ⟨rfl,d',n,os,ES,hp,rfl⟩
 have hA':ak w γ ((d'.map fD).flatten) ((d'.map enc).flatten):=by
  clear hp ES;induction d' with
  |nil=>simpa using ak.nil
  |cons x l ih=>simpa using(hA w γ x).append ih
 have qG:∀v∈(d'.map enc).flatten,v.oneCell'=true:=by
  intro v hv;simp only[List.mem_flatten,zzaw]at hv;obtain⟨l,⟨x,_,rfl⟩,hv⟩:=hv;exact h1 x v hv
 have QI:(flatK enc sz d'.toArray).toList=(d'.map enc).flatten:=by
  have akw:∀(l:List α),((l.map enc).flatten).length=l.length*sz:=by
   intro l;induction l with
   |nil=>simp
   |cons x l ih=>simp[ih,hsz,zzbp];omega
  apply zzcj;intro t;by_cases ht:t<d'.length*sz
  ·have k0:0<sz:=by
    rcases zzck sz with h|h;· rw[h]at ht;omega
    · exact h
   have hq:t/sz<d'.length:=Nat.div_lt_of_lt_mul (by rw[zzec];exact ht);have Aq:t%sz<sz:=zze _ k0
   have e2:(flatK enc sz d'.toArray).toList[t]?=some ((flatK enc sz d'.toArray)[t]!):=by
    have:t<(flatK enc sz d'.toArray).size:=by rw[size_flatK];simpa using ht
    rw[zzcb,zzaj this,getElem!_pos (flatK enc sz d'.toArray) t this]
   rw[e2,get_flatK enc sz _ t (by simpa using ht)];have h8:d'.toArray[t/sz]! =d'[t/sz]:=by simp[hq]
   rw[h8];have hd:d'=d'.take (t/sz)++d'[t/sz]::d'.drop (t/sz+1):=by simp
   have e3:(d'.map enc).flatten=((d'.take (t/sz)).map enc).flatten++(enc d'[t/sz]++((d'.drop (t/sz+1)).map enc).flatten):=by
    conv=>lhs;rw[hd]
    simp only[zzbw,zzay,zzeg,zzci]
   have ef:(((d'.take (t/sz)).map enc).flatten).length=t/sz*sz:=by rw[akw,zzaq];congr 1;omega
   have e4:t=(((d'.take (t/sz)).map enc).flatten).length+t%sz:=by
    rw[ef];have:=zzgu t sz;rw[zzec]at this;omega
   have h9:t%sz<(enc d'[t/sz]).length:=by rw[hsz];exact Aq
   rw[e3,zzal (by omega),zzag (by rw[hsz];omega)];rw[show t-(((d'.take (t/sz)).map enc).flatten).length=t%sz by omega];simp[h9]
  rw[zzax (by simp;omega),zzax (by rw[akw];omega)]
 have fA:pre.length+d'.length*sz<=arr.size:=by
  have:=zzb sz bX;rw[ES];omega
 have akx:(sortWorldK enc sz w b pre.length n d'.toArray os).heap=(w.setCells b pre.length ((d'.map enc).flatten)).heap++os:=by
  have:=CZ _root_.id (Sort.ahead w n) b pre.length (flatK enc sz d'.toArray) (arr:=arr) (e:=e) (f:=(0,0)) hh (by rw[size_flatK];simpa using fA);show(putRow _root_.id (Sort.ahead w n) b pre.length (flatK enc sz d'.toArray)).heap++os=_;rw[this,List.map_id_fun,id_eq,QI];congr 1
  have D5:∀(vs:List Value)(o:Nat)(w1 w2:World),w1.heap=w2.heap->(w1.setCells b o vs).heap=(w2.setCells b o vs).heap:=by
   intro vs;induction vs with
   |nil=>intro o w1 w2 h;exact h
   |cons v vs ih=>intro o w1 w2 h;exact ih (o+1) _ _ (by simp[World.setCell,h])
  exact D5 _ _ _ _ rfl
 have afx:Below (w.setCells b pre.length ((d'.map enc).flatten)).heap.size (w.setCells b pre.length ((d'.map enc).flatten)) (sortWorldK enc sz w b pre.length n d'.toArray os):=by
  have mw:=Xt b (zzab b) ((d'.map enc).flatten) pre.length w;refine⟨?_,?_,?_,by rw[akx];simp,fun k hk=>?_⟩
  ·rw[mw.os];rfl
  ·rw[mw.tape];rfl
  ·rw[mw.output];rfl
  rw[akx,zzeu hk]
 obtain⟨γ',h3,h4,h5⟩:=Y2 hm hl hB aJ hb (o:=pre.length) hA' qG afx;exact⟨_,γ',.aU [],_,rfl,h3,h4,h5,w8,hK d' ES hp⟩
end Go.Abs
namespace Go.Proofs.YtnopaopphmjnmaaGreatDoor
open Go Go.Abs Go.Shelf Go.RowKit Go.Lib Go.Sort
def K9:Go.Shelf.Ren:=⟨fun|6=>250|15=>231|14=>308|28=>292|29=>293|20=>337|21=>338|22=>339|23=>340|24=>341|25=>342|26=>343|27=>344|46=>355|47=>324|48=>325|49=>356|50=>357|57=>360|n=>n,fun|22=>285|24=>287|25=>291|3=>3|39=>274|0=>0|53=>330|55=>175|4=>4|46=>324|45=>323|50=>97|5=>5|9=>9|66=>354|70=>357|76=>374|77=>44|n=>n,fun|n=>n⟩
def Y4:Go.Proofs.SlLaysF0.n6 Tryz.prog K9:={
 mixed:=by kernel_rfl,
 f6:=⟨Tryz.f250.name,by decide,Tryz.func250.trans (congrArg some (by kernel_rfl))⟩,
 f14:=⟨Tryz.f308.name,by decide,Tryz.func308.trans (congrArg some (by kernel_rfl))⟩,
 f15:=Tryz.func231.trans (congrArg some (by kernel_rfl)),
 f20:=⟨Tryz.f337.name,by decide,Tryz.func337.trans (congrArg some (by kernel_rfl))⟩,
 f21:=⟨Tryz.f338.name,by decide,Tryz.func338.trans (congrArg some (by kernel_rfl))⟩,
 f22:=⟨Tryz.f339.name,by decide,Tryz.func339.trans (congrArg some (by kernel_rfl))⟩,
 f23:=⟨Tryz.f340.name,by decide,Tryz.func340.trans (congrArg some (by kernel_rfl))⟩,
 f24:=⟨Tryz.f341.name,by decide,Tryz.func341.trans (congrArg some (by kernel_rfl))⟩,
 f25:=⟨Tryz.f342.name,by decide,Tryz.func342.trans (congrArg some (by kernel_rfl))⟩,
 f26:=⟨Tryz.f343.name,by decide,Tryz.func343.trans (congrArg some (by kernel_rfl))⟩,
 f27:=⟨Tryz.f344.name,by decide,Tryz.func344.trans (congrArg some (by kernel_rfl))⟩,
 f28:=Tryz.func292.trans (congrArg some (by kernel_rfl)),
 f29:=Tryz.func293.trans (congrArg some (by kernel_rfl)),
 f46:=⟨Tryz.f355.name,by decide,Tryz.func355.trans (congrArg some (by kernel_rfl))⟩,
 f47:=Tryz.func324.trans (congrArg some (by kernel_rfl)),
 f48:=Tryz.func325.trans (congrArg some (by kernel_rfl)),
 f49:=⟨Tryz.f356.name,by decide,Tryz.func356.trans (congrArg some (by kernel_rfl))⟩,
 f50:=⟨Tryz.f357.name,by decide,Tryz.func357.trans (congrArg some (by kernel_rfl))⟩,
 f57:=⟨Tryz.f360.name,by decide,Tryz.func360.trans (congrArg some (by kernel_rfl))⟩,
 t0:=Tryz.underlying0,
 a0:=Tryz.isAgg0,
 z0:=Tryz.sizeOf0,
 v0:=Tryz.zeroValue0,
 t3:=Tryz.underlying3,
 a3:=Tryz.isAgg3,
 z3:=Tryz.sizeOf3,
 v3:=Tryz.zeroValue3,
 t4:=Tryz.underlying4,
 a4:=Tryz.isAgg4,
 z4:=Tryz.sizeOf4,
 v4:=Tryz.zeroValue4,
 t5:=Tryz.underlying5,
 a5:=Tryz.isAgg5,
 z5:=Tryz.sizeOf5,
 v5:=Tryz.zeroValue5,
 t9:=Tryz.underlying9,
 a9:=Tryz.isAgg9,
 z9:=Tryz.sizeOf9,
 v9:=Tryz.zeroValue9,
 t22:=Tryz.underlying285,
 a22:=Tryz.isAgg285,
 z22:=Tryz.sizeOf285,
 v22:=Tryz.zeroValue285,
 t25:=Tryz.underlying291,
 a25:=Tryz.isAgg291,
 z25:=Tryz.sizeOf291,
 v25:=Tryz.zeroValue291,
 t39:=Tryz.underlying274,
 a39:=Tryz.isAgg274,
 z39:=Tryz.sizeOf274,
 v39:=Tryz.zeroValue274,
 t45:=Tryz.underlying323,
 a45:=Tryz.isAgg323,
 z45:=Tryz.sizeOf323,
 v45:=Tryz.zeroValue323,
 t46:=Tryz.underlying324,
 a46:=Tryz.isAgg324,
 z46:=Tryz.sizeOf324,
 v46:=Tryz.zeroValue324,
 t50:=Tryz.underlying97,
 a50:=Tryz.isAgg97,
 z50:=Tryz.sizeOf97,
 v50:=Tryz.zeroValue97,
 t53:=Tryz.underlying330,
 a53:=Tryz.isAgg330,
 z53:=Tryz.sizeOf330,
 v53:=Tryz.zeroValue330,
 t55:=Tryz.underlying175,
 a55:=Tryz.isAgg175,
 z55:=Tryz.sizeOf175,
 v55:=Tryz.zeroValue175,
 t66:=Tryz.underlying354,
 a66:=Tryz.isAgg354,
 z66:=Tryz.sizeOf354,
 v66:=Tryz.zeroValue354,
 t70:=Tryz.underlying357,
 a70:=Tryz.isAgg357,
 z70:=Tryz.sizeOf357,
 v70:=Tryz.zeroValue357,
 t76:=Tryz.underlying374,
 a76:=Tryz.isAgg374,
 z76:=Tryz.sizeOf374,
 v76:=Tryz.zeroValue374,
 t77:=Tryz.underlying44,
 a77:=Tryz.isAgg44,
 z77:=Tryz.sizeOf44,
 v77:=Tryz.zeroValue44}
def F8:Go.Shelf.Ren:=⟨fun|5=>160|8=>231|7=>230|19=>292|20=>293|10=>283|11=>284|12=>285|13=>286|14=>287|15=>288|16=>289|17=>290|18=>291|30=>323|31=>324|32=>325|33=>326|34=>327|35=>328|40=>350|n=>n,fun|23=>59|25=>3|3=>3|32=>274|22=>59|0=>0|44=>330|46=>175|4=>4|36=>324|35=>323|41=>97|5=>5|9=>9|53=>354|57=>357|63=>374|64=>44|n=>n,fun|n=>n⟩
def sortInt:Go.Proofs.SlLaysM.n5 Tryz.prog F8:={
 mixed:=by kernel_rfl,
 f5:=⟨Tryz.f160.name,by decide,Tryz.func160.trans (congrArg some (by kernel_rfl))⟩,
 f7:=⟨Tryz.f230.name,by decide,Tryz.func230.trans (congrArg some (by kernel_rfl))⟩,
 f8:=Tryz.func231.trans (congrArg some (by kernel_rfl)),
 f10:=⟨Tryz.f283.name,by decide,Tryz.func283.trans (congrArg some (by kernel_rfl))⟩,
 f11:=⟨Tryz.f284.name,by decide,Tryz.func284.trans (congrArg some (by kernel_rfl))⟩,
 f12:=⟨Tryz.f285.name,by decide,Tryz.func285.trans (congrArg some (by kernel_rfl))⟩,
 f13:=⟨Tryz.f286.name,by decide,Tryz.func286.trans (congrArg some (by kernel_rfl))⟩,
 f14:=⟨Tryz.f287.name,by decide,Tryz.func287.trans (congrArg some (by kernel_rfl))⟩,
 f15:=⟨Tryz.f288.name,by decide,Tryz.func288.trans (congrArg some (by kernel_rfl))⟩,
 f16:=⟨Tryz.f289.name,by decide,Tryz.func289.trans (congrArg some (by kernel_rfl))⟩,
 f17:=⟨Tryz.f290.name,by decide,Tryz.func290.trans (congrArg some (by kernel_rfl))⟩,
 f18:=⟨Tryz.f291.name,by decide,Tryz.func291.trans (congrArg some (by kernel_rfl))⟩,
 f19:=Tryz.func292.trans (congrArg some (by kernel_rfl)),
 f20:=Tryz.func293.trans (congrArg some (by kernel_rfl)),
 f30:=⟨Tryz.f323.name,by decide,Tryz.func323.trans (congrArg some (by kernel_rfl))⟩,
 f31:=Tryz.func324.trans (congrArg some (by kernel_rfl)),
 f32:=Tryz.func325.trans (congrArg some (by kernel_rfl)),
 f33:=⟨Tryz.f326.name,by decide,Tryz.func326.trans (congrArg some (by kernel_rfl))⟩,
 f34:=⟨Tryz.f327.name,by decide,Tryz.func327.trans (congrArg some (by kernel_rfl))⟩,
 f35:=⟨Tryz.f328.name,by decide,Tryz.func328.trans (congrArg some (by kernel_rfl))⟩,
 f40:=⟨Tryz.f350.name,by decide,Tryz.func350.trans (congrArg some (by kernel_rfl))⟩,
 t0:=Tryz.underlying0,
 a0:=Tryz.isAgg0,
 z0:=Tryz.sizeOf0,
 v0:=Tryz.zeroValue0,
 t3:=Tryz.underlying3,
 a3:=Tryz.isAgg3,
 z3:=Tryz.sizeOf3,
 v3:=Tryz.zeroValue3,
 t4:=Tryz.underlying4,
 a4:=Tryz.isAgg4,
 z4:=Tryz.sizeOf4,
 v4:=Tryz.zeroValue4,
 t5:=Tryz.underlying5,
 a5:=Tryz.isAgg5,
 z5:=Tryz.sizeOf5,
 v5:=Tryz.zeroValue5,
 t9:=Tryz.underlying9,
 a9:=Tryz.isAgg9,
 z9:=Tryz.sizeOf9,
 v9:=Tryz.zeroValue9,
 t22:=Tryz.underlying59,
 a22:=Tryz.isAgg59,
 z22:=Tryz.sizeOf59,
 v22:=Tryz.zeroValue59,
 t23:=Tryz.underlying59,
 a23:=Tryz.isAgg59,
 z23:=Tryz.sizeOf59,
 v23:=Tryz.zeroValue59,
 t25:=Tryz.underlying3,
 a25:=Tryz.isAgg3,
 z25:=Tryz.sizeOf3,
 v25:=Tryz.zeroValue3,
 t32:=Tryz.underlying274,
 a32:=Tryz.isAgg274,
 z32:=Tryz.sizeOf274,
 v32:=Tryz.zeroValue274,
 t35:=Tryz.underlying323,
 a35:=Tryz.isAgg323,
 z35:=Tryz.sizeOf323,
 v35:=Tryz.zeroValue323,
 t36:=Tryz.underlying324,
 a36:=Tryz.isAgg324,
 z36:=Tryz.sizeOf324,
 v36:=Tryz.zeroValue324,
 t41:=Tryz.underlying97,
 a41:=Tryz.isAgg97,
 z41:=Tryz.sizeOf97,
 v41:=Tryz.zeroValue97,
 t44:=Tryz.underlying330,
 a44:=Tryz.isAgg330,
 z44:=Tryz.sizeOf330,
 v44:=Tryz.zeroValue330,
 t46:=Tryz.underlying175,
 a46:=Tryz.isAgg175,
 z46:=Tryz.sizeOf175,
 v46:=Tryz.zeroValue175,
 t53:=Tryz.underlying354,
 a53:=Tryz.isAgg354,
 z53:=Tryz.sizeOf354,
 v53:=Tryz.zeroValue354,
 t57:=Tryz.underlying357,
 a57:=Tryz.isAgg357,
 z57:=Tryz.sizeOf357,
 v57:=Tryz.zeroValue357,
 t63:=Tryz.underlying374,
 a63:=Tryz.isAgg374,
 z63:=Tryz.sizeOf374,
 v63:=Tryz.zeroValue374,
 t64:=Tryz.underlying44,
 a64:=Tryz.isAgg44,
 z64:=Tryz.sizeOf44,
 v64:=Tryz.zeroValue44}
def La:Go.Shelf.Ren:=⟨fun|5=>309|7=>328|n=>n,fun|22=>3|3=>3|4=>4|n=>n,fun|n=>n⟩
def anA:Go.Proofs.SlLaysC2.n5 Tryz.prog La:={
 mixed:=by kernel_rfl,
 f5:=⟨Tryz.f309.name,by decide,Tryz.func309.trans (congrArg some (by kernel_rfl))⟩,
 f7:=⟨Tryz.f328.name,by decide,Tryz.func328.trans (congrArg some (by kernel_rfl))⟩,
 t3:=Tryz.underlying3,
 a3:=Tryz.isAgg3,
 z3:=Tryz.sizeOf3,
 v3:=Tryz.zeroValue3,
 t4:=Tryz.underlying4,
 a4:=Tryz.isAgg4,
 z4:=Tryz.sizeOf4,
 v4:=Tryz.zeroValue4,
 t22:=Tryz.underlying3,
 a22:=Tryz.isAgg3,
 z22:=Tryz.sizeOf3,
 v22:=Tryz.zeroValue3}
def Lb(x:Int×Int):List Value:=[.int .i64 x.1,.int .i64 x.2]
def Lc(x y:Int×Int)(W:World):Calls Tryz.prog 251 #[.agg #[.int .i64 x.1,.int .i64 x.2],.agg #[.int .i64 y.1,.int .i64 y.2]] W fun e w'=>e=.returned (.int .i64 (Lib.compareInt x.1 y.1))/\∃q os',w'=grow (W.drewN q) os':=by
 have fV:=fun W'=>AnyG.cmp_Compare_int anA x.1 y.1 W';change∀W',Calls Tryz.prog 309 _ _ _ at fV;generalize Lib.compareInt x.1 y.1=r at fV |-
 go_enter Tryz.func251,Tryz.ntmps251
 go_wp2_with (go_at_call 309;refine(fV _).mono ?_;rintro e w' ⟨rfl,rfl⟩)
 go_ret
 exact⟨rfl,0,_,by rw[alloc_eq_grow,alloc_eq_grow,grow_grow];rfl⟩
def Ld(blk off size:Nat)(w:World):CmpLays Tryz.prog 251 #[] Lb 2 (fun x y=>Lib.compareInt x.1 y.1) blk off size w:=
 fun _ _ _ _ x y=>Lc x y _
def afy(x y:Int×Int):ltOf (fun x y:Int×Int=>Lib.compareInt x.1 y.1) x y=decide (x.1<y.1):=by
 unfold ltOf Lib.compareInt;by_cases h1:x.1<y.1
 ·simp[h1]
 by_cases h2:y.1<x.1<;>simp[h1,h2]
def atg:SWO (ltOf fun x y:Int×Int=>Lib.compareInt x.1 y.1) where
 irrefl x:=by rw[afy];simp
 trans x y z h1 h2:=by rw[afy]at*;simp at*;omega
 ntrans x y z h1 h2:=by rw[afy]at*;simp at*;omega
def Y5{w:World}{γ:G}(x:Int×Int):ak w γ (Qe x) (Lb x):=.cons (.int _ _) (.cons (.int _ _) .nil)
def Ua{w:World}{γ:G}{a:AV}{vs:List Value}(h:ak w γ [a] vs):∃v,vs=[v]/\aB w γ a v:=by
 match vs,h with
 |[v],h=>exact⟨v,rfl,h.2 0 _ _ rfl rfl⟩
 |[],h=>exact absurd h.1 (by simp)
 |_::_::_,h=>exact absurd h.1 (by simp)
def Ri{w:World}{γ:G}(x:Int×Int){vs:List Value}(h:ak w γ (Qe x) vs):vs=Lb x:=by
 match vs,h with
 |[u,v],h=>
  have h1:aB w γ (I x.1) u:=h.2 0 _ _ rfl rfl;have h2:aB w γ (I x.2) v:=h.2 1 _ _ rfl rfl;cases h1;cases h2;rfl
 |[],h=>exact absurd h.1 (by simp[Qe])
 |[_],h=>exact absurd h.1 (by simp[Qe])
 |_::_::_::_,h=>exact absurd h.1 (by simp[Qe])
def anB{w:World}{γ:G}{f:FuncId}{v:Value}(h:aB w γ (.fn f [] []) v):v=.func (.func f) #[] #[]:=by
 cases h with
 |fn hl _ ez _=>
  rename_i fa ca _ _;have e1:fa=#[]:=zzei hl.symm;have e2:ca=#[]:=zzei ez.symm;rw[e1,e2]
def Le(Y:YT)(d:List Sp)(hd:d.length<=1000000000)(m:AM)(id:Nat)(post:List AV)(hB:m.boxes[id]?=some (cC d++post))(aJ:cC d++post≠[])(K:AV->AM->Prop)
  (hK:∀d':List Sp,d'.Perm d->d'.Pairwise (fun a b=>a.1<=b.1)->K (.aU []) (m.wr id (cC d'++post))):
  an Tryz.prog aq Y 250 [.bs id 0 d.length 2,.fn 251 [] []] m K:=by
 refine A2 (α:=Int×Int) (d:=d) (more:=[.fn 251 [] []]) (sz:=2) (off:=0) ND.bC Lb Qe (fun _=>rfl) (fun _ _ x=>Y5 x) (fun _ _ x _ h=>Ri x h) (fun x v hv=>by simp[Lb]at hv;rcases hv with rfl|rfl<;>rfl) hB aJ
  ⟨[],post,by rw[F9];rfl,rfl⟩ (d2:=fun d'=>d'.Perm d/\d'.Pairwise fun a b=>a.1<=b.1) ?_ ?_
 ·intro w b cap mv γ hmv hH hblk;obtain⟨v,rfl,hv⟩:=Ua hmv;have:=anB hv;subst this;have eg:∀args w,(callFunc 251 args).run Tryz.prog w=.ok (.enter 251 args) w:=enters_of Tryz.func251 (by kernel_rfl) rfl;have fV:=AnyQ.slices_SortFunc Y4 2 Tryz.isAgg287 Tryz.sizeOf287 Lb (fun _=>rfl) (fun x v hv=>by simp[Lb]at hv;rcases hv with rfl|rfl<;>rfl) (fun x y=>Lib.compareInt x.1 y.1) atg 251 #[] b 0 cap d.toArray w eg (Ld b 0 _ w) hH hblk (by simp;omega);change Calls Tryz.prog 250 _ _ _ at fV;refine fV.mono ?_;rintro e w' ⟨rfl,d',n,os,hP,hS,rfl⟩;obtain⟨p1,_,p3⟩:=hP;have hsz:d'.size=d.length:=by simpa using p1
  refine⟨rfl,d'.toList,n,os,by simpa using hsz,⟨?_,?_⟩,by simp⟩
  ·have e1:d'.extract 0 d.toArray.size=d':=by rw[<- p1];simp
   rw[e1]at p3;simpa using p3
  rw[zzdi];intro i j hi hj fc;have dX:i<d'.size:=by simpa using hi
  have NU:j<d'.size:=by simpa using hj
  have:=hS i j (zzcc _) fc (by simp;omega);rw[afy]at this;simp only[getElem!_pos d' i dX,getElem!_pos d' j NU,decide_eq_false_iff_not,Int.not_lt]at this;simpa using this
 rintro d' hl ⟨h1,h2⟩;rw[F9,jH _ _ _ (by rw[Vv,Vv,hl])];exact hK d' h1 h2
def Ga(Y:YT)(rt:Rt)(m:AM)(K:AV->AM->Prop)(hK:K (.aU []) m):an Tryz.prog aq Y 250 [.sl rt [],.fn 251 [] []] m K:=by
 refine an.fU ND.bC fun N w0 au γ w vs hm hl hr=>?_
 match vs,hr with
 |[u,v],hr=>
  have h1:aB w γ (.sl rt []) u:=hr.2 0 _ _ rfl rfl;cases h1 with
  |@sl _ _ _ a cap b off sz cv _ _ _ _ _ _ _=>
   have fV:=AnyF.slices_SortFunc_none {Y4 with} a cap v w;change Calls Tryz.prog 250 _ _ _ at fV;refine fV.mono ?_;rintro e w' ⟨rfl,rfl⟩;exact⟨_,γ,_,m,rfl,(Ev.refl _ _).dD,hm,hl,w8,hK⟩
 |[],hr=>exact absurd hr.1 (by simp)
 |[_],hr=>exact absurd hr.1 (by simp)
 |_::_::_::_,hr=>exact absurd hr.1 (by simp)
def encI(x:Int):List Value:=[.int .i64 x]
def iS(d:Array Int):flatK encI 1 d=d.map (Value.int .i64):=by
 refine Array.ext (by simp) fun t h1 h2=>?_;have ht:t<d.size:=by simpa using h2
 have:=get_flatK encI 1 d t (by simpa using ht);rw[getElem!_pos _ t h1]at this;rw[this];have e2:d[t]! =d[t]:=getElem!_pos d t ht;simp[Nat.div_one,Nat.mod_one,encI,ht]
def sD(Y:YT)(d:List Int)(hd:d.length<=1000000000)(m:AM)(id:Nat)(post:List AV)(hB:m.boxes[id]?=some (aj d++post))(aJ:aj d++post≠[])(K:AV->AM->Prop)
  (hK:K (.aU []) (m.wr id (aj (d.mergeSort fun x y=>decide (x<=y))++post))):
  an Tryz.prog aq Y 160 [.bs id 0 d.length 1] m K:=by
 have aky:∀l:List Int,(l.map fun x=>[I x]).flatten=aj l:=by
  intro l;induction l with
  |nil=>rfl
  |cons x l ih=>simp[aj]at ih |-;exact ih
 refine A2 (α:=Int) (d:=d) (more:=[]) (sz:=1) (off:=0) Ni.bC encI (fun x=>[I x]) (fun _=>rfl) (fun _ _ x=>.cons (.int _ _) .nil) (fun w γ x vs h=>?_) (fun x v hv=>by simp[encI]at hv;subst hv;rfl) hB aJ
  ⟨[],post,by rw[aky];rfl,rfl⟩ (d2:=fun d'=>d'=d.mergeSort fun x y=>decide (x<=y)) ?_ ?_
 ·obtain⟨v,rfl,hv⟩:=Ua h;cases hv;rfl
 ·intro w b cap mv γ hmv hH hblk;have:mv=[]:=zzc.1 hmv.1.symm;subst this
  have hH':Holds (Value.int .i64) w b 0 d.toArray:=by
   intro j hj;unfold HoldsK at hH;rw[iS]at hH;have:=hH j (by simpa using hj);have NU:j<d.length:=by simpa using hj
   simpa[NU]using this
  have fV:=AnyM.slices_Sort_int sortInt b 0 cap d w hH' hblk (by omega);change Calls Tryz.prog 160 _ _ _ at fV;refine fV.mono ?_;rintro e w' ⟨rfl,n,os,rfl⟩;refine⟨rfl,_,n,os,by simp,rfl,?_⟩;unfold sortWorldK putRowK;rw[iS];congr 1;unfold putRow;refine mapBlock_congr _ _ _ _ fun c e fr _=>?_;unfold putCells;apply zzg;intro k;simp only[zzhh,Array.size_map];cases c[k]? with
  |none=>rfl
  |some x=>
   simp only[zzcs];congr 1;by_cases hc:0<=k/\k<0+(d.mergeSort fun x y=>decide (x<=y)).toArray.size
   ·rw[if_pos hc,if_pos hc];have hk:k<(d.mergeSort fun x y=>decide (x<=y)).toArray.size:=by omega
    have y9:k<((d.mergeSort fun x y=>decide (x<=y)).toArray.map (Value.int .i64)).size:=by simpa using hk
    simp only[zzfb];rw[getElem!_pos _ k hk,getElem!_pos _ k y9];simp
   rw[if_neg hc,if_neg hc]
 rintro d' hl rfl;rw[aky,jH _ _ _ (by simp[aj])];exact hK
def oW(Y:YT)(rt:Rt)(m:AM)(K:AV->AM->Prop)(hK:K (.aU []) m):an Tryz.prog aq Y 160 [.sl rt []] m K:=by
 refine an.fU Ni.bC fun N w0 au γ w vs hm hl hr=>?_;obtain⟨u,rfl,h1⟩:=Ua hr;cases h1 with
 |@sl _ _ _ a cap b off sz cv _ _ _ _ _ _ _=>
  have fV:=AnyM.slices_Sort_int_none sortInt a cap w;change Calls Tryz.prog 160 _ _ _ at fV;refine fV.mono ?_;rintro e w' ⟨rfl,rfl⟩;exact⟨_,γ,_,m,rfl,(Ev.refl _ _).dD,hm,hl,w8,hK⟩
end Go.Proofs.YtnopaopphmjnmaaGreatDoor
namespace Go.Proofs.YtnopaopphmjnmaaGreatDoor
open Go Go.Abs
def Gb(Y:YT)(rt:Rt)(aT:∀m,bF m 6 (.sl rt [])=.sl rt [])(m:AM)(K:AV->AM->Prop)(hK:K (.sl rt []) m):an Tryz.prog aq Y 248 [.sl rt [],.fn 249 [] []] m K:=by
 have h:=Zj (l:=[.sl rt [],.fn 249 [] []]) (pz [] (by simp)) ⟨Wk.sl rt [],Wk.refl _,trivial⟩;simp only[pE]at h;refine Xe NC (nK (-1)) (by simp) ?_;simp[EG,NB,nK,aT];exact⟨h,hK⟩
def Lg:Nat->FuncId->List AV->AV:=fun d f _=>if f=999999 then(if d=12 then .aK 0 []else if d=70 then .aK 0 []else .junk)else .gd false .junk
def rq(a b:Int):(if a<b then b else a)=max a b:=by split<;>omega
def ath(B:List (List AV))(id:Nat)(out:List Sp)(a:AV):Prop:=
 (out=[]/\a=.sl .nil [])\/∃gK,out≠[]/\a=.bs gK 0 out.length 2/\gK≠id/\gK<B.length/\Qh B gK=cC out
def Lh{out:List Sp}(h:out≠[]):∃p u,out=p++[u]:=⟨out.dropLast,out.getLast h,(zzer h).symm⟩
def C0(l:List Sp)(hl:l.length<=100000000):Pure Tryz.prog aq 182 [.sl .ro (l.map Qe)] (if Xk l=[]then .sl .nil []else .sl .ro ((Xk l).map Qe)):=by
 refine Qn adk Lg (by simp) ?_;by_cases aJ:l=[]
 ·subst aJ;have hn:Xk []=[]:=by simp[Xk,Gd]
  simp[No,Lg,hn];refine Qi u6 (fun f m=>f 15=I 0/\f 3=.sl .full []/\m=⟨[[]],[],fun _=>.gone,0⟩) (fun _ _=>0) ?_ ?_
  ·simp
  rintro f m ⟨oh,h3,rfl⟩;simp[oh,h3,u6];refine Gb _ _ (fun _=>rfl) _ _ ?_;refine Ga _ _ _ _ ?_;simp;refine Qi iO (fun f m=>f 31=I 0/\f 6=.sl .nil []/\m=⟨[[]],[],fun _=>.gone,0⟩) (fun _ _=>0) ?_ ?_
  ·simp
  rintro f m ⟨h31,h6,rfl⟩;simp[h31,h6,iO,Np]
 have gR:l.length≠0:=by simpa using aJ
 have eS:0<l.length:=by omega
 simp[No,Lg,aJ];refine⟨⟨by omega,by omega⟩,?_⟩
 refine Qi u6 (fun f m=>∃(i id:Nat)(B:List (List AV)),i<=l.length/\f 15=I i/\f 3=.bs id 0 i 2/\m=⟨B,[],fun _=>.gone,0⟩/\id<B.length/\Qh B id≠[]/\i*2<=(Qh B id).length/\(Qh B id).take (i*2)=cC (l.take i)/\(0<i->Qh B id=cC (l.take i)))
  (fun f _=>l.length-(numOf (f 15)).toNat) ?_ ?_
 ·exact⟨0,0,[List.replicate (l.length*2) .junk],by omega,by simp,by simp,rfl,by simp,by simp;omega,by simp,by simp,by simp⟩
 rintro f m ⟨i,id,B,hi,oh,h3,rfl,aO,Ap,bX,bA,NX⟩;rcases zzaa i l.length with ai|bw
 ·obtain⟨s,hs⟩:=aP ai;have aa:=Zd hs;have ah:(i:Int)<(l.length:Int):=by omega
  have hw:=bH i (by omega);have lI:∀x,Qh (B++x) id=Qh B id:=fun x=>Ql aO;have qn:∀x v,(B++x).set id v=B.set id v++x:=fun x v=>Yf v aO;have gr:cC (l.take (i+1))=cC (l.take i)++[I s.1,I s.2]:=by rw[zzar,hs,Qbu];rfl
  simp[oh,h3,ah,aa,u6,hw,lI,qn,Ap,bX,bA,Lg];refine⟨⟨by omega,by omega⟩,aN,⟨i+1,by omega,by simp,?_⟩,by omega⟩
  ·refine⟨B.length+1,⟨rfl,rfl⟩,by omega,?_⟩
   have e:Qh (B.set id []++[[AV.int IntKind.i64 s.fst,AV.int IntKind.i64 s.snd],cC (List.take i l)++[AV.int IntKind.i64 s.fst,AV.int IntKind.i64 s.snd]]) (B.length+1)=cC (l.take (i+1)):=by
    have:=Vi (B.set id []) [[AV.int IntKind.i64 s.fst,AV.int IntKind.i64 s.snd],cC (List.take i l)++[AV.int IntKind.i64 s.fst,AV.int IntKind.i64 s.snd]] 1;rw[zzcg]at this;rw[this,gr];rfl
   rw[e];have e2:(cC (l.take (i+1))).length=(i+1)*2:=by rw[Vv,zzaq];congr 1;omega
   refine⟨?_,by omega,?_,fun _=>rfl⟩
   ·intro h;rw[h]at e2;simp at e2
   rw[<- e2,zzbn]
 obtain rfl:i=l.length:=by omega
 have hB:=NX eS;rw[zzbn]at hB;have bJ:¬((l.length:Nat):Int)<(l.length:Int):=by omega
 simp[oh,h3,u6,Lg];refine Li _ l (by omega) B _ _ _ id aO aJ hB _ ?_;intro B1 z eU hB1 hz;have anC:id<B1.length:=zzbb aO eU.1;rw[Qbu]at hB1;have XN:B1[id]?=some (cC (l.filter mF)++cC z):=by rw[Yz anC,hB1]
 refine Le _ (l.filter mF) (by omega) _ id (cC z) XN ?_ _ ?_
 ·intro h;have:=congrArg List.length h;rw[zzai,Vv,Vv]at this;simp at this;omega
 intro d hp hs;have am7:=anD hp hs;have hdl:d.length=(l.filter mF).length:=hp.length_eq;rw[<- hdl];have azd:d.length<=100000000:=by omega
 simp[AM.wr]
 refine Qi iO (fun f m=>∃(i:Nat)(B:List (List AV))(out:List Sp),i<=d.length/\f 31=I i/\m=⟨B,[],fun _=>.gone,0⟩/\out.length<=i/\id<B.length/\Qh B id=cC d++cC z/\Gd out (d.drop i)=Xk l/\ath B id out (f 6))
  (fun f _=>d.length-(numOf (f 31)).toNat) ?_ ?_
 ·exact⟨0,B1.set id (cC d++cC z),[],by omega,by simp,rfl,by simp,by simpa using anC,Vn _ anC,by simpa using am7,.inl ⟨rfl,by simp⟩⟩
 rintro f m ⟨i,B,out,hi,h31,rfl,Iv,aO,hB,hm,hout⟩;rcases zzaa i d.length with ai|bw
 ·obtain⟨v,hv⟩:=aP ai;have ah:(i:Int)<(d.length:Int):=by omega
  have hw:=bH i (by omega)
  have hg:(cC d++cC z).drop (i*2)=I v.1::I v.2::(cC (d.drop (i+1))++cC z):=by
   rw[zzdm (by rw[Vv];omega),uu hv];rfl
  have dZ:d.drop i=v::d.drop (i+1):=by
   rw[zzaf ai,(zza.1 hv).2]
  rw[dZ,Gd]at hm;have lI:∀x,Qh (B++x) id=cC d++cC z:=fun x=>by rw[Ql aO,hB]
  obtain⟨rfl,h6⟩|⟨gK,hon,h6,r6,fQ,oZ⟩:=hout
  ·simp[h31,h6,ah,hB,lI,hg,iO,hw,Lg];refine⟨aN,⟨i+1,by omega,by simp,?_⟩,by omega⟩
   ·refine⟨[v],by simp,by omega,by simpa[Rj]using hm,.inr ⟨B.length+1,by simp,by simp,by omega,by simp,by simp⟩⟩
  obtain⟨p,u,rfl⟩:=Lh hon;have ati:p.length+1<=i:=by simpa using Iv
  have iV:(cC (p++[u])).drop (p.length*2+1)=[I u.2]:=by
   have:=FN (l:=p++[u]) (i:=p.length) (s:=u) (by simp);simpa using this
  have bW:=wO (p++[u]) p.length u (max u.2 v.2) (by simp);have atj:(p++[u]).set p.length (u.1,max u.2 v.2)=p++[(u.1,max u.2 v.2)]:=by simp
  rw[atj]at bW;have hwp:IntKind.i64.wrap (p.length:Int)=(p.length:Int):=by rw[Qk]<;>omega
  have gC:(0:Int)<(p.length:Int)+1:=by omega
  have atk:∀x,Qh (B++x) gK=cC (p++[u]):=fun x=>by rw[Ql fQ,oZ]
  have qn:∀x v,(B++x).set gK v=B.set gK v++x:=fun x v=>Yf v fQ;have gr:=Vv (p++[u]);simp only[zzai,zzbd,zzcf,zzbt]at gr h6;have axU:Rj (p++[u]) v=if v.1<=u.2 then p++[(u.1,max u.2 v.2)]else p++[u]++[v]:=by simp[Rj]
  rw[axU]at hm;by_cases hc:v.1<=u.2
  ·rw[if_pos hc]at hm;simp[h31,h6,ah,hB,atk,qn,hg,iV,iO,hw,hwp,gC,hc,rq,bW,gr];refine⟨by omega,⟨by omega,by omega⟩,aN,⟨i+1,by omega,by simp,?_⟩,by omega⟩
   ·refine⟨p++[(u.1,max u.2 v.2)],by simp;omega,by omega,by rw[Ql (by simpa using aO),Zu _ r6,hB],hm,.inr ⟨gK,by simp,by simp,r6,by simp;omega,by rw[Ql (by simpa using fQ),Vn _ fQ]⟩⟩
  rw[if_neg hc]at hm;simp[h31,h6,ah,hB,atk,qn,hg,iV,iO,hw,hwp,gC,hc,gr,Lg];refine⟨by omega,⟨⟨by omega,by simp[Qbu]⟩,by omega⟩,aN,⟨i+1,by omega,by simp,?_⟩,by omega⟩
  ·have bA:(cC (p++[u])).take ((p.length+1)*2)=cC (p++[u]):=zzam (by rw[gr];exact zzab _);rw[bA];refine⟨p++[u]++[v],by simp;omega,by omega,by rw[Ql (by simpa using aO),Zu _ r6,hB],hm,.inr ⟨B.length+1,by simp,by simp,by omega,by simp,?_⟩⟩;have:=Vi (B.set gK []) [[I v.1,I v.2],cC (p++[u])++[AV.int IntKind.i64 v.fst,AV.int IntKind.i64 v.snd]] 1;rw[zzcg]at this;rw[this,Qbu (p++[u]) [v]];rfl
 obtain rfl:i=d.length:=by omega
 rw[zzbo,Gd]at hm;obtain⟨rfl,h6⟩|⟨gK,hon,h6,r6,fQ,oZ⟩:=hout
 ·simp[h31,h6,iO,Np,<- hm]
 have fG:=Zk ⟨B,[],fun _=>.gone,0⟩ 4 (CT out);have jg:=Qds out;have gr:=Vv out;simp[h31,h6,iO,Np,<- hm,hon,oZ,fG,jg,gr]
def Um(l:List Sp)(hl:l.length<=100000000):Pure Tryz.prog aq 182 [.sl .ro (l.map Qe)] (.sl .ro ((Xk l).map Qe)):=by
 have h:=C0 l hl;by_cases hn:Xk l=[]
 ·rw[if_pos hn]at h;rw[hn];exact Qz h (Wk.sl _ _)
 rw[if_neg hn]at h;exact h
def Lj(a b:Int):(if b<a then b else a)=min a b:=by split<;>omega
def A3(s:Sp):List AV:=[.agg [I s.1,I s.2]]
def Y6(A B:List Sp)(hA:A.length<=100000000)(hB:B.length<=100000000):
  Iter Tryz.prog aq 264 [] [.ep [.sl .ro (A.map Qe)] 0,.ep [.sl .ro (B.map Qe)] 0] ((tQ (A.length+B.length) A B).map A3):=by
 intro Y l m K hF;refine Xe aeh (fun _ _ _=>.junk) (by simp) ?_;simp[VJ]
 refine Qi qz (fun f mm=>∃(i j:Nat),i<=A.length/\j<=B.length/\f 4=I i/\f 5=I j/\wj (Y l) K ((tQ (A.length-i+(B.length-j)) (A.drop i) (B.drop j)).map A3) mm)
  (fun f _=>A.length-(numOf (f 4)).toNat+(B.length-(numOf (f 5)).toNat)) ?_ ?_
 ·exact⟨0,0,by omega,by omega,by simp,by simp,by simpa using hF⟩
 rintro f mm ⟨i,j,hi,hj,h4,h5,hF⟩;by_cases KJ:i=A.length\/j=B.length
 ·have hnil:tQ (A.length-i+(B.length-j)) (A.drop i) (B.drop j)=[]:=by
   obtain rfl|rfl:=KJ
   ·rw[zzbo];cases A.length-A.length+(B.length-j)<;>rfl
   rw[zzbo];cases A.length-i+(B.length-B.length)with
   |zero=>rfl
   |succ n=>cases A.drop i<;>rfl
  rw[hnil]at hF;have hK:K mm:=hF mm (fF.refl _);by_cases h1:i<A.length
  ·have hjn:¬(j:Int)<(B.length:Int):=by omega
   have ah:(i:Int)<(A.length:Int):=by omega
   simp[h4,h5,ah,hjn,qz,NI];exact hK
  have bJ:¬(i:Int)<(A.length:Int):=by omega
  simp[h4,h5,bJ,qz,NI];exact hK
 have h1:i<A.length:=by omega
 have h2:j<B.length:=by omega
 obtain⟨s,hs⟩:=aP h1;obtain⟨t,ht⟩:=aP h2;have yW:=Zd hs;have aT:=Zd ht;have hda:A.drop i=s::A.drop (i+1):=by rw[zzaf h1,(zza.1 hs).2]
 have hdb:B.drop j=t::B.drop (j+1):=by rw[zzaf h2,(zza.1 ht).2]
 have hn:A.length-i+(B.length-j)=(A.length-i+(B.length-j)-1)+1:=by omega
 have qD:A.length-i+(B.length-j)-1=A.length-(i+1)+(B.length-j):=by omega
 have r6:A.length-i+(B.length-j)-1=A.length-i+(B.length-(j+1)):=by omega
 have ah:(i:Int)<(A.length:Int):=by omega
 have nL:(j:Int)<(B.length:Int):=by omega
 have On:=bH i (by omega);have w9:=bH j (by omega);rw[hda,hdb,hn,tQ,<- hda,<- hdb]at hF;by_cases hc:max s.1 t.1<min s.2 t.2
 ·rw[if_pos hc]at hF;simp only[zzdw,zzay]at hF;simp[h4,h5,ah,nL,yW,aT,qz,rq,Lj,hc];refine hF _ (fF.box mm _) _ (fun m2 qm=>?_) (fun m2 hK=>?_)
  ·by_cases hd:s.2<t.2
   ·rw[if_pos hd,qD]at qm;have ES:¬t.2<=s.2:=by omega
    simp[hd,On];refine⟨aN,⟨i+1,by omega,j,by omega,by simp,rfl,qm⟩,by omega⟩
   rw[if_neg hd,r6]at qm;have ES:t.2<=s.2:=by omega
   simp[hd,w9];refine⟨aN,⟨i,by omega,j+1,by omega,rfl,by simp,qm⟩,by omega⟩
  simp[NI];exact hK _ (fF.refl _)
 rw[if_neg hc]at hF;simp only[zzah]at hF;have hF':=wj.ext hF (fF.box mm [[I (max s.1 t.1),I (min s.2 t.2)]]);by_cases hd:s.2<t.2
 ·rw[if_pos hd,qD]at hF';simp[h4,h5,ah,nL,yW,aT,qz,rq,Lj,hc,hd,On];refine⟨aN,⟨i+1,by omega,j,by omega,by simp,rfl,hF'⟩,by omega⟩
 rw[if_neg hd,r6]at hF';simp[h4,h5,ah,nL,yW,aT,qz,rq,Lj,hc,hd,w9];refine⟨aN,⟨i,by omega,j+1,by omega,rfl,by simp,hF'⟩,by omega⟩
def zB(A B:List Sp):Pure Tryz.prog aq 190 [.sl .ro (A.map Qe),.sl .ro (B.map Qe)] (.fn 264 [] [.ep [.sl .ro (A.map Qe)] 0,.ep [.sl .ro (B.map Qe)] 0]):=by
 refine Qn ads (fun _ _ _=>.junk) (by simp) ?_;simp[ait,aiu]
def afz(A B:List Sp):Nat->FuncId->List AV->AV:=fun d f _=>
 if f=999999 then .junk else if d=8 then .sl .ro ((Xk A).map Qe)else if d=10 then .sl .ro ((Xk B).map Qe)else if d=11 then .fn 264 [] [.ep [.sl .ro ((Xk A).map Qe)] 0,.ep [.sl .ro ((Xk B).map Qe)] 0]else .junk
def C1:∀(n:Nat)(A B:List Sp),(tQ n A B).length<=n
 |0,_,_=>by simp[tQ]
 |n+1,[],_=>by simp[tQ]
 |n+1,s::A,[]=>by simp[tQ]
 |n+1,s::A,t::B=>by
  have h1:=C1 n A (t::B);have h2:=C1 n (s::A) B;rw[tQ,zzai];split<;>split<;>simp<;>omega
def jv(A B:List Sp)(hA:A.length<=10000000)(hB:B.length<=10000000):
  Pure Tryz.prog aq 117 [.sl .ro (A.map Qe),.sl .ro (B.map Qe)] (.sl .ro ((zy A B).map Qe)):=by
 have h1:=Um A (by omega);have h2:=Um B (by omega);have l1:=Yv A;have l2:=Yv B;have h3:=zB (Xk A) (Xk B);have cH:=Y6 (Xk A) (Xk B) (by omega) (by omega);have hX:zy A B=tQ ((Xk A).length+(Xk B).length) (Xk A) (Xk B):=rfl;have hXl:=C1 ((Xk A).length+(Xk B).length) (Xk A) (Xk B);rw[<- hX]at cH hXl;generalize zy A B=X at cH hXl;clear hX
 have key:∀r,r=(if X=[]then AV.sl .nil []else .sl .ro (X.map Qe))->Pure Tryz.prog aq 117 [.sl .ro (A.map Qe),.sl .ro (B.map Qe)] r:=by
  rintro r rfl;refine Qn acD (afz A B) (by simp) ?_;simp[ahI,afz];refine⟨h1,h2,h3,?_⟩
  refine jh (xs:=X.map A3) (by simp) cH (by intro x hx;simp at hx;obtain⟨a,b,_,rfl⟩:=hx;rfl)
   (fun i m=>∃(bx:List (List AV))(rt:Rt),m.boxes=[.sl rt ((X.take i).map Qe)]::bx/\((i=0/\rt=.nil)\/(0<i/\∃id,rt=.own id 2/\m.lens[id]?=some i))) (fun _ _=>False) ⟨[],.nil,by simp,.inl ⟨rfl,rfl⟩⟩ ?_ (fun _ _ _ h=>h.elim) ?_ ?_ (fun _ _ h=>h.elim)
  ·rintro i m m' ⟨bx,rt,hb,aT⟩ ⟨⟨b2,e1⟩,⟨l2,e2⟩,_⟩;refine⟨bx++b2,rt,by rw[e1,hb];rfl,?_⟩;obtain h|⟨h0,id,h1,h2⟩:=aT
   ·exact .inl h
   refine .inr ⟨h0,id,h1,?_⟩;rw[e2,zzag (zza.1 h2).1];exact h2
  ·rintro l i m x hg hr ⟨bx,rt,hb,aT⟩ hx K' k1 _ _
   obtain⟨s,hs,rfl⟩:∃s,X[i]?=some s/\A3 s=x:=by
    rw[zzbl]at hx;cases hq:X[i]? with
    |none=>rw[hq]at hx;cases hx
    |some y=>rw[hq]at hx;exact⟨y,rfl,Option.some.inj hx⟩
   have hi:i<X.length:=(zza.1 hs).1;have bA:X.take (i+1)=X.take i++[s]:=by rw[zzar,hs];rfl
   have qQ:(X.take i).length=i:=by rw[zzaq];omega
   rw[Uc]at hb
   have iw:∀row∈(X.take i).map Qe,row.length=2:=by
    intro row h;rw[zzaw]at h;obtain⟨a,_,rfl⟩:=h;rfl
   generalize X.take i=T at hb bA qQ iw;obtain⟨rfl,rfl⟩|⟨h0,id,rfl,hL⟩:=aT
   ·have hTn:T=[]:=zzc.1 qQ;subst hTn;simp[hr,Zi,A3,hb,afz];refine k1 _ ⟨bx++[[I s.1,I s.2]],.own m.lens.length 2,?_,.inr ⟨by omega,m.lens.length,rfl,?_⟩⟩
    ·rw[bA];rfl
    simp
   have tK:m.lens[id]?=some T.length:=by rw[qQ];simpa using hL
   have ai:=(zza.1 tK).1;simp[hr,Zi,A3,hb,afz,tK];refine⟨⟨?_,by omega⟩,?_⟩
   ·rintro row (⟨a,b,_,rfl⟩|rfl)<;>rfl
   refine k1 _ ⟨bx++[[I s.1,I s.2]],.own id 2,?_,.inr ⟨by omega,id,rfl,?_⟩⟩
   ·rw[bA,zzbw];rfl
   simp[ai,qQ]
  rintro m ⟨bx,rt,hb,aT⟩;rw[zzbg]at hb aT;rw[zzbn]at hb;by_cases hn:X=[]
  ·subst hn;obtain⟨_,rfl⟩|⟨h0,_⟩:=aT
   ·simp[hb,T1]
   simp at h0
  obtain⟨h0,_⟩|⟨_,id,rfl,_⟩:=aT
  ·exact absurd (zzc.1 h0) hn
  simp[hb,T1,hn]
 have hk:=key _ rfl;by_cases hn:X=[]
 ·rw[if_pos hn]at hk;rw[hn];exact Qz hk (Wk.sl _ _)
 rw[if_neg hn]at hk;exact hk
def Out(m:AM)(id:Nat)(L:List Sp):Prop:=∃rt,Qh m.boxes id=[.sl rt (L.map Qe)]/\id<m.boxes.length/\((L=[]/\rt=.nil)\/(L≠[]/\∃k,rt=.own k 2/\m.lens[k]?=some L.length))
def Out.box{m:AM}{id:Nat}{L:List Sp}(h:Out m id L)(b:List (List AV)):Out {m with boxes:=m.boxes++b} id L:=by
 obtain⟨rt,h1,h2,h3⟩:=h;exact⟨rt,by show Qh (m.boxes++b) id=_;rw[Ql h2];exact h1,by show id<(m.boxes++b).length;simp;omega,h3⟩
def C3(Y:YT)(f t:Int)(id:Nat)(L:List Sp)(m:AM)(hO:Out m id L)(hl:L.length<=1000000000)(K:AV->AM->Prop)
  (hK:∀m',Out m' id (L++C4 f t)->aZ (·=id) m.boxes m'.boxes->m'.st=m.st->m'.ln=m.ln->K (.aU []) m'):an Tryz.prog aq Y 181 [I f,I t,.ptr id 0] m K:=by
 obtain⟨rt,h1,h2,h3⟩:=hO;refine Xe adj (fun _ _ _=>.junk) (by simp) ?_;by_cases Ti:f<t
 ·have ha:C4 f t=[(f,t)]:=by simp[C4,Ti]
  rw[ha]at hK
  have iw:∀row∈L.map Qe,row.length=2:=by
   intro row h;rw[zzaw]at h;obtain⟨a,_,rfl⟩:=h;rfl
  obtain⟨rfl,rfl⟩|⟨aJ,k,rfl,hk⟩:=h3
  ·simp[Nl,Nn,Ti,h1,h2];refine hK _ ⟨.own m.lens.length 2,?_,by simpa using h2,.inr ⟨by simp,m.lens.length,rfl,by simp⟩⟩ (aZ.set (S:=(·=id)) (aZ.refl _ _) (.inl rfl) _) rfl rfl;simp[Vn _ h2,Qe]
  have zj:=(zza.1 hk).1;simp[Nl,Nn,Ti,h1,h2,hk];refine⟨⟨?_,by omega⟩,?_⟩
  ·rintro row (⟨a,b,_,rfl⟩|rfl)<;>rfl
  refine hK _ ⟨.own k 2,?_,by simpa using h2,.inr ⟨by simp,k,rfl,by simp[zj]⟩⟩ (aZ.set (S:=(·=id)) (aZ.refl _ _) (.inl rfl) _) rfl rfl;simp[Vn _ h2,Qe]
 have ha:C4 f t=[]:=by simp[C4,Ti]
 rw[ha,zzat]at hK;simp[Nl,Nn,Ti];exact hK m ⟨rt,h1,h2,h3⟩ (aZ.refl _ _) rfl rfl
def xb(f t:Int):(C4 f t).length<=1:=by unfold C4;split<;>simp
def Ge:∀(H:List Sp)(f t:Int),(jI f t H).1.length+(jI f t H).2.length<=H.length+1
 |[],f,t=>by have:=xb f t;simp[jI];omega
 |h::r,f,t=>by
  have h1:=xb f h.1;have h2:=xb f t;rw[jI];split
  ·split
   ·simp;omega
   have:=Ge r (max f h.2) t;simp;omega
  simp;omega
def Gf:∀(A H:List Sp),(tT A H).length<=A.length+H.length
 |[],H=>by simp[tT]
 |s::A,H=>by
  have h1:=Ge H s.1 s.2;have h2:=Gf A (jI s.1 s.2 H).2;simp[tT];omega
def xd(a b:List Sp):Nat->FuncId->List AV->AV:=fun d f _=>
 if f=999999 then .junk else if d=14 then .sl .ro ((Xk b).map Qe)else if d=16 then .sl .ro ((Xk a).map Qe)else .gd false .junk
def zC(a b:List Sp)(ha:a.length<=10000000)(hb:b.length<=10000000):
  Pure Tryz.prog aq 112 [.sl .ro (a.map Qe),.sl .ro (b.map Qe)] (.sl .ro ((C5 a b).map Qe)):=by
 have h1:=Um a (by omega);have h2:=Um b (by omega);have hR:C5 a b=tT (Xk a) (Xk b):=rfl;have hRl:=Gf (Xk a) (Xk b);have l1:=Yv a;have l2:=Yv b;rw[<- hR]at hRl;generalize C5 a b=R at hR hRl
 have key:∀r,r=(if R=[]then AV.sl .nil []else .sl .ro (R.map Qe))->Pure Tryz.prog aq 112 [.sl .ro (a.map Qe),.sl .ro (b.map Qe)] r:=by
  rintro r rfl;refine Qn acy (xd a b) (by simp) ?_;simp[MY,xd];refine⟨h2,h1,?_⟩;generalize Xk a=A at hR hRl l1 |-
  generalize Xk b=H at hR hRl l2 |-
  clear h1 h2;refine Qi BN (fun f m=>∃(k i:Nat)(L:List Sp),k<=A.length/\i<=H.length/\f 18=I k/\f 8=I i/\Out m 0 L/\L++tT (A.drop k) (H.drop i)=R) (fun f _=>A.length-(numOf (f 18)).toNat) ?_ ?_
  ·exact⟨0,0,[],by omega,by omega,by simp,by simp,⟨.nil,rfl,by simp,.inl ⟨rfl,rfl⟩⟩,by simpa using hR.symm⟩
  rintro f m ⟨k,i,L,hk,hi,h18,h8,hO,hL⟩;rcases zzaa k A.length with ai|bw
  ·obtain⟨s,hs⟩:=aP ai;have aa:=Zd hs;have afm:(k:Int)<(A.length:Int):=by omega
   have Oe:=bH k (by omega);have hda:A.drop k=s::A.drop (k+1):=by rw[zzaf ai,(zza.1 hs).2]
   rw[hda,tT]at hL;have hO0:=hO;obtain⟨_,_,Td,_⟩:=hO0;simp[h18,afm,aa,BN]
   refine Qi BO (fun g m2=>∃(i:Nat)(fr:Int)(L:List Sp),i<=H.length/\g 8=I i/\g 11=I fr/\Out m2 0 L/\m.boxes.length<m2.boxes.length/\Qh m2.boxes m.boxes.length=[I s.1,I s.2]/\
     L++((jI fr s.2 (H.drop i)).1++tT (A.drop (k+1)) (jI fr s.2 (H.drop i)).2)=R) (fun g _=>H.length-(numOf (g 8)).toNat) ?_ ?_
   ·refine⟨i,s.1,L,hi,by simp[h8],by simp,hO.box _,by simp,by simp,hL⟩
   rintro g m2 ⟨i,fr,L,hi,h8,iz,hO,AA,hbx,hL⟩
   have hLl:L.length<=1000000000:=by
    have:=congrArg List.length hL;rw[zzai]at this;omega
   have qB:m.boxes.length≠0:=by omega
   have fin:∀(hd:H.drop i=[]\/∃h r,H.drop i=h::r/\s.2<=h.1),L++C4 fr s.2++tT (A.drop (k+1)) (H.drop i)=R:=by
    rintro(hd|⟨h,r,hd,hc⟩)
    ·rw[hd]at hL |-;simpa[jI]using hL
    rw[hd]at hL |-
    rw[jI,if_neg (by omega)]at hL;simpa using hL
   rcases zzaa i H.length with gL|hig
   ·obtain⟨h,hh⟩:=aP gL;have hrh:=Zd hh;have ah:(i:Int)<(H.length:Int):=by omega
    have On:=bH i (by omega);have hdh:H.drop i=h::H.drop (i+1):=by rw[zzaf gL,(zza.1 hh).2]
    by_cases hc:h.1<s.2
    ·rw[hdh,jI,if_pos hc,<- hdh]at hL;simp[h8,iz,ah,hrh,hbx,hc,BO,xd];refine C3 Y0 fr h.1 0 L m2 hO hLl _ (fun m3 hO3 A4 _ _=>?_);have atl:Qh m3.boxes m.boxes.length=[I s.1,I s.2]:=by rw[A4.2 _ AA qB];exact hbx
     have hm3:m.boxes.length<m3.boxes.length:=by have:=A4.1;omega
     by_cases hd:s.2<=max fr h.2
     ·rw[if_pos hd]at hL;simp[atl,rq,hd,Oe,h18];refine⟨aN,⟨k+1,by omega,i,by omega,by simp,rfl,L++C4 fr h.1,hO3,by rw[zzba];exact hL⟩,by omega⟩
     rw[if_neg hd]at hL;simp[atl,rq,hd,On];refine⟨aN,⟨i+1,by omega,by simp,L++C4 fr h.1,hO3,hm3,by rw[zzba,<- zzba (C4 fr h.1)];exact hL⟩,by omega⟩
    simp[h8,iz,ah,hrh,hbx,hc,BO,xd];refine C3 Y0 fr s.2 0 L m2 hO hLl _ (fun m3 hO3 A4 _ _=>?_);simp[Oe,h18];refine⟨aN,⟨k+1,by omega,i,by omega,by simp,rfl,L++C4 fr s.2,hO3,fin (.inr ⟨h,_,hdh,by omega⟩)⟩,by omega⟩
   have bJ:¬(i:Int)<(H.length:Int):=by omega
   simp[h8,iz,bJ,hbx,BO,xd];refine C3 Y0 fr s.2 0 L m2 hO hLl _ (fun m3 hO3 A4 _ _=>?_);simp[Oe,h18];refine⟨aN,⟨k+1,by omega,i,by omega,by simp,rfl,L++C4 fr s.2,hO3,fin (.inl (zzan hig))⟩,by omega⟩
  obtain rfl:k=A.length:=by omega
  rw[zzbo,tT,zzat]at hL;subst hL;obtain⟨rt,o1,o2,o3⟩:=hO;obtain⟨rfl,rfl⟩|⟨aJ,k,rfl,_⟩:=o3
  ·simp[h18,o1,BN,TY]
  simp[h18,o1,BN,TY,aJ]
 have hk:=key _ rfl;by_cases hn:R=[]
 ·rw[if_pos hn]at hk;rw[hn];exact Qz hk (Wk.sl _ _)
 rw[if_neg hn]at hk;exact hk
end Go.Proofs.YtnopaopphmjnmaaGreatDoor
