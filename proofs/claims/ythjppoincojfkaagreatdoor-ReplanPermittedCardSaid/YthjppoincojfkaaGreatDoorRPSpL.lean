import Derived.Shelf.SortM.SortNone
import Derived.Shelf.SortM.Plain
import Derived.Test.YthjppoincojfkaaGreatDoorRPSnA
import Derived.Shelf.SlicesG.Cmp
import Derived.Shelf.SlSortCmp.NoneTotal
set_option linter.all false
set_option maxRecDepth 100000
set_option maxHeartbeats 64000000
namespace Go.Abs
open Go Go.RowKit Go.Sort Go.Proofs
def qm:∀(vs:PQ)(o:Nat)(arr:P1)(k:Nat),o+vs.length<=arr.size->k<arr.size->(tF arr o vs)[k]?=if o<=k/\k<o+vs.length then vs[k-o]? else arr[k]?
 |[],o,arr,k,_,_=>by rw[tF,if_neg];simp
 |v::vs,o,arr,k,h,hk=>by
  simp only[zzaz]at h;rw[tF,qm vs (o+1) _ k (by simp;omega) (Nm hk)];by_cases h1:o+1<=k/\k<o+1+vs.length
  ·rw[if_pos h1,if_pos (by simp;omega)];obtain⟨u,rfl⟩:∃u,k=o+1+u:=⟨k-(o+1),zE⟩;rw[show o+1+u-o=u+1 by omega,zzcc];congr 1;omega
  rw[if_neg h1];by_cases h2:k=o
  ·subst h2;rw[if_pos zd];simp[zzeq,hk]
  rw[if_neg (by simp;omega)];simp[zzeq,Ne.symm h2]
def D7{α:Type}[Inhabited α](enc:α->Value)(w:World)(b off:Nat)(d:Array α){arr:P1}{e:TypeId}{f:Nat×Nat}(h:w.heap[b]?=some (.cells arr e f))(hs:off+d.size<=arr.size):
  (putRow enc w b off d).heap=(w.setCells b off (d.toList.map enc)).heap:=by
 apply zzgd;intro k;by_cases hk:k=b
 ·subst hk;rw[Xe k _ off w arr e f h]
  have e1:(putRow enc w k off d).heap[k]?=some (.cells (putCells enc off d arr) e f):=by
   simp[putRow,mapBlock,zzdn,h,onCells]
  rw[e1];congr 2;apply zzgd;intro j;by_cases hj:j<arr.size
  ·rw[qm _ off arr j (Nm hs) hj];simp only[putCells,zzhh,zzbv,zzbi];by_cases hc:off<=j/\j<off+d.size
   ·rw[if_pos hc,zzah hj];have ai:j-off<d.size:=zE
    simp[hc,ai]
   rw[if_neg hc,zzah hj];simp[hc]
  have s1:(putCells enc off d arr).size=arr.size:=by simp[putCells]
  have s2:=Zz (d.toList.map enc) arr off;rw[zzbo zE,zzbo zE]
 rw[Qz b _ off w k hk];simp[putRow,mapBlock,zzdn,Ne.symm hk]
section
variable {N:Nat} {w0:eN} {an:Nat->Nat->Prop} {γ:G} {w:World}
def abb{m:AM}(hm:au N w0 an γ w m.B m.L)(hl:cS γ w m){id b:Nat}{cells:P2}(hB:m.boxes[id]?=some cells)(aO:cells≠[])(hb:γ.β id=some b){o:Nat}{xs:P2}{vs:PQ}
  (ha:ak w γ xs vs)(h1v:∀v∈vs,v.oneCell'=true){w':World}(agp:Below (w.setCells b o vs).heap.size (w.setCells b o vs) w'):
  ∃γ',eC w γ w' γ'/\au N w0 an γ' w' (m.wr id (setA cells o xs)).B (m.wr id (setA cells o xs)).L/\cS γ' w' (m.wr id (setA cells o xs)):=by
 obtain⟨arr,e,hh,hr,Is⟩:=hm.box id cells b hB hb;have h1:=hm.store hB hb hh hr Is (o:=o) ha h1v aO;have e1:=hm.cz hb o vs;have e2:=h1.dn agp;have ev:=e1.trans e2;refine⟨_,ev.cG,?_,hl.mono' ev rfl⟩;have h2:=h1.grow agp;rw[ax1 m id _ hB];exact h2
end
def BN{α:Type}[Inhabited α]{P:Program}{gl:Nat->AV}{Y:YT}{f:FuncId}(hc:bw P f)(enc:α->PQ)(fe:α->P2)(sz:Nat)(hsz:∀x,(enc x).length=sz)
  (hA:∀(w:World)(γ:G)x,ak w γ (fe x) (enc x))(ayP:∀(w:World)(γ:G)x vs,ak w γ (fe x) vs->vs=enc x)(h1:∀x,∀v∈enc x,v.oneCell'=true)
  {m:AM}{id off:Nat}{d:List α}{more:P2}{cells:P2}(hB:m.boxes[id]?=some cells)(aO:cells≠[])(anY:∃pre post,cells=pre++(d.map fe).flatten++post/\pre.length=off){d2:List α->Prop}{K:So}
  (
   V6:∀(w:World)(b cap:Nat)(mv:PQ)(γ:G),ak w γ more mv->HoldsK enc sz w b off d.toArray->b<w.heap.size->Calls P f (Value.slice (some ⟨b,off,none⟩) d.length cap::mv).toArray w fun e w'=>
   e=.returned (.tuple #[])/\∃(d':List α)(n:Nat)(os:Array Obj),d'.length=d.length/\d2 d'/\w'=sortWorldK enc sz w b off n d'.toArray os)
  (hK:∀d':List α,d'.length=d.length->d2 d'->K (.aS []) (m.wr id (setA cells off ((d'.map fe).flatten)))):
  aB P gl Y f (.bs id off d.length sz::more) m K:=by
 refine aB.fM hc fun N w0 an γ w vs hm hl hr=>?_
 match vs,hr with
 |[],hr=>exact absurd hr.1 zd
 |v::mv,hr=>
 have hv:aA w γ (.bs id off d.length sz) v:=hr.2 0 _ _ rfl rfl;have hmv:ak w γ more mv:=⟨by have:=hr.1;simpa using this,fun i x y h1 h2=>hr.2 (i+1) x y (Nm h1) (Nm h2)⟩;cases hv with
 |@bs _ _ _ _ _ cap b arr e hb cn hh hs=>
 obtain⟨bN,e',hh',hrp,Is⟩:=hm.box id cells b hB hb;rw[hh]at hh';cases hh';have hblk:b<w.heap.size:=aR hh;obtain⟨pre,post,rfl,rfl⟩:=anY;have anZ:∀x,(fe x).length=sz:=fun x=>by rw[(hA w γ x).1,hsz]
 have ayQ:∀(l:List α),((l.map fe).flatten).length=l.length*sz:=by
  intro l;induction l with
  |nil=>simp
  |cons x l ih=>simp[ih,anZ,zzbq];omega
 have cp:∀i(hi:i<d.length),∀c,c<sz->arr[pre.length+i*sz+c]?=some ((enc d[i])[c]?.getD undef):=by
  intro i hi c hcz
  have anF:ak w γ (fe d[i]) ((arr.toList.drop (pre.length+i*sz)).take sz):=by
   have fh:((pre++(d.map fe).flatten++post).drop (pre.length+i*sz)).take sz=fe d[i]:=by
    have hd:d=d.take i++d[i]::d.drop (i+1):=zd
    have:(d.map fe).flatten=((d.take i).map fe).flatten++(fe d[i]++((d.drop (i+1)).map fe).flatten):=by
     conv=>lhs;rw[hd]
     simp only[zzci,zzbb,zzek,zzcj]
    rw[this];rw[show pre++(((d.take i).map fe).flatten++(fe d[i]++((d.drop (i+1)).map fe).flatten))++post=(pre++((d.take i).map fe).flatten)++(fe d[i]++(((d.drop (i+1)).map fe).flatten++post)) by simp[zzav]]
    have gJ:(pre++((d.take i).map fe).flatten).length=pre.length+i*sz:=by
     rw[zzak,ayQ,zzaq];congr 2;omega
    rw[<- gJ,zzga,<- anZ d[i],List.take_left]
   refine⟨?_,fun j x y hx hy=>?_⟩
   ·rw[anZ]
    have h3:pre.length+d.length*sz<=arr.size:=by
     have:=zzbe sz cn;omega
    have h4:(i+1)*sz<=d.length*sz:=zzbe sz zE;rw[zzbq,zzdt]at h4;simp;omega
   rw[<- fh]at hx;rw[zzbj]at hx hy;split at hx
   ·rw[if_pos (by assumption)]at hy;rw[zzbl]at hx hy;exact hrp.2 _ x y hx hy
   cases hx
  have h5:=ayP w γ _ _ anF;have h6:((arr.toList.drop (pre.length+i*sz)).take sz)[c]?=(enc d[i])[c]?:=by rw[h5]
  rw[zzbj,if_pos hcz,zzbl]at h6;have h7:(enc d[i])[c]?=some ((enc d[i])[c]'(by rw[hsz];exact hcz)):=zzaf _;rw[h7]at h6 |-
  simpa using h6
 have hH:HoldsK enc sz w b pre.length d.toArray:=by
  intro t ht;rw[size_flatK]at ht;simp only[zzeo]at ht
  have k0:0<sz:=by
   rcases zzck sz with h|h;· rw[h]at ht;omega
   · exact h
  have hq:t/sz<d.length:=Nat.div_lt_of_lt_mul (by rw[zzeg];exact ht);have mY:t%sz<sz:=zzee _ k0;rw[get_flatK enc sz _ t (Nm ht)];refine⟨?_,Zp hh⟩;rw[aN hh];have:=cp (t/sz) hq (t%sz) mY;rw[show pre.length+t/sz*sz+t%sz=pre.length+t by have:=zzgw t sz;rw[zzeg]at this;omega]at this;rw[this];have h8:d.toArray[t/sz]! =d[t/sz]:=by simp[hq]
  rw[h8];have h9:t%sz<(enc d[t/sz]).length:=by rw[hsz];exact mY
  simp[h9]
 refine(V6 w b cap mv γ hmv hH hblk).mono ?_;rintro e1 w' ⟨rfl,d',n,os,zj,hp,rfl⟩
 have hA':ak w γ ((d'.map fe).flatten) ((d'.map enc).flatten):=by
  clear hp zj;induction d' with
  |nil=>simpa using ak.nil
  |cons x l ih=>simpa using(hA w γ x).append ih
 have mX:∀v∈(d'.map enc).flatten,v.oneCell'=true:=by
  intro v hv;simp only[List.mem_flatten,zzar]at hv;obtain⟨l,⟨x,_,rfl⟩,hv⟩:=hv;exact h1 x v hv
 have Pz:(flatK enc sz d'.toArray).toList=(d'.map enc).flatten:=by
  have ajz:∀(l:List α),((l.map enc).flatten).length=l.length*sz:=by
   intro l;induction l with
   |nil=>simp
   |cons x l ih=>simp[ih,hsz,zzbq];omega
  apply zzcz;intro t;by_cases ht:t<d'.length*sz
  ·have k0:0<sz:=by
    rcases zzck sz with h|h;· rw[h]at ht;omega
    · exact h
   have hq:t/sz<d'.length:=Nat.div_lt_of_lt_mul (by rw[zzeg];exact ht);have mY:t%sz<sz:=zzee _ k0
   have e2:(flatK enc sz d'.toArray).toList[t]?=some ((flatK enc sz d'.toArray)[t]!):=by
    have:t<(flatK enc sz d'.toArray).size:=by rw[size_flatK];simpa using ht
    rw[zzcd,zzah this,getElem!_pos (flatK enc sz d'.toArray) t this]
   rw[e2,get_flatK enc sz _ t (Nm ht)];have h8:d'.toArray[t/sz]! =d'[t/sz]:=by simp[hq]
   rw[h8];have hd:d'=d'.take (t/sz)++d'[t/sz]::d'.drop (t/sz+1):=zd
   have e3:(d'.map enc).flatten=((d'.take (t/sz)).map enc).flatten++(enc d'[t/sz]++((d'.drop (t/sz+1)).map enc).flatten):=by
    conv=>lhs;rw[hd]
    simp only[zzci,zzbb,zzek,zzcj]
   have gJ:(((d'.take (t/sz)).map enc).flatten).length=t/sz*sz:=by rw[ajz,zzaq];congr 1;omega
   have e4:t=(((d'.take (t/sz)).map enc).flatten).length+t%sz:=by
    rw[gJ];have:=zzgw t sz;rw[zzeg]at this;omega
   have h9:t%sz<(enc d'[t/sz]).length:=by rw[hsz];exact mY
   rw[e3,zzao zE,zzaj (by rw[hsz];omega)];rw[show t-(((d'.take (t/sz)).map enc).flatten).length=t%sz by omega];simp[h9]
  rw[zzas (by simp;omega),zzas (by rw[ajz];omega)]
 have eY:pre.length+d'.length*sz<=arr.size:=by
  have:=zzbe sz cn;rw[zj];omega
 have ajA:(sortWorldK enc sz w b pre.length n d'.toArray os).heap=(w.setCells b pre.length ((d'.map enc).flatten)).heap++os:=by
  have:=D7 _root_.id (Sort.ahead w n) b pre.length (flatK enc sz d'.toArray) (arr:=arr) (e:=e) (f:=(0,0)) hh (by rw[size_flatK];simpa using eY);show(putRow _root_.id (Sort.ahead w n) b pre.length (flatK enc sz d'.toArray)).heap++os=_;rw[this,List.map_id_fun,id_eq,Pz];congr 1
  have uk:∀(vs:PQ)(o:Nat)(w1 w2:World),w1.heap=w2.heap->(w1.setCells b o vs).heap=(w2.setCells b o vs).heap:=by
   intro vs;induction vs with
   |nil=>intro o w1 w2 h;exact h
   |cons v vs ih=>intro o w1 w2 h;exact ih (o+1) _ _ (by simp[World.setCell,h])
  exact uk _ _ _ _ rfl
 have agp:Below (w.setCells b pre.length ((d'.map enc).flatten)).heap.size (w.setCells b pre.length ((d'.map enc).flatten)) (sortWorldK enc sz w b pre.length n d'.toArray os):=by
  have dx:=Xv b (zzab b) ((d'.map enc).flatten) pre.length w;refine⟨?_,?_,?_,by rw[ajA];simp,fun k hk=>?_⟩
  ·rw[dx.os];rfl
  ·rw[dx.tape];rfl
  ·rw[dx.output];rfl
  rw[ajA,zzf hk]
 obtain⟨γ',h3,h4,h5⟩:=abb hm hl hB aO hb (o:=pre.length) hA' mX agp;exact⟨_,γ',.aS [],_,rfl,h3,h4,h5,yl,hK d' zj hp⟩
end Go.Abs
namespace Go.Proofs.YthjppoincojfkaaGreatDoor
abbrev Sp:=Int×Int
def Xu(l:List Sp)(x:Int):Prop:=∃s∈l,s.1<=x/\x<s.2
def VS(l:List Sp):Prop:=(∀s∈l,s.1<s.2)/\l.Pairwise fun a b=>a.2<b.1
@[simp] def Yp(x:Int):Xu [] x<->False:=by simp[Xu]
@[simp] def Xh(s:Sp)(l:List Sp)(x:Int):Xu (s::l) x<->(s.1<=x/\x<s.2)\/Xu l x:=by simp[Xu]
@[simp] def Yq(a b:List Sp)(x:Int):Xu (a++b) x<->Xu a x\/Xu b x:=by
 simp only[Xu,zzam,or_and_right,exists_or]
def Sc{a b:List Sp}(h:a.Perm b)(x:Int):Xu a x<->Xu b x:=by simp only[Xu,h.mem_iff]
def rS:VS []:=⟨fun _ h=>(by cases h),.nil⟩
def cU{s:Sp}{l:List Sp}:VS (s::l)<->s.1<s.2/\(∀t∈l,s.2<t.1)/\VS l:=by
 simp only[VS,zzap,forall_eq_or_imp,zzby];constructor
 ·rintro⟨⟨h1,h2⟩,h3,h4⟩;exact⟨h1,h3,h2,h4⟩
 rintro⟨h1,h3,h2,h4⟩;exact⟨⟨h1,h2⟩,h3,h4⟩
def D8{s:Sp}{l:List Sp}:VS (l++[s])<->VS l/\s.1<s.2/\∀t∈l,t.2<s.1:=by
 simp only[VS,zzam,zzca,List.pairwise_append,List.pairwise_singleton,true_and];constructor
 ·rintro⟨h1,h2,h3⟩;exact⟨⟨fun t ht=>h1 t (.inl ht),h2⟩,h1 s (.inr rfl),fun t ht=>h3 t ht s rfl⟩
 rintro⟨⟨h1,h2⟩,h3,h4⟩;refine⟨?_,h2,?_⟩
 ·rintro t (ht|rfl)
  ·exact h1 t ht
  exact h3
 rintro t ht u rfl;exact h4 t ht
def rT:∀{a b:List Sp},VS a->VS b->(∀x,Xu a x<->Xu b x)->a=b
 |[],[],_,_,_=>rfl
 |[],t::b,_,hb,h=>by
  have:=(h t.1).2 (by rw[Xh];exact .inl ⟨zzbt _,(cU.1 hb).1⟩);simp at this
 |s::a,[],ha,_,h=>by
  have:=(h s.1).1 (by rw[Xh];exact .inl ⟨zzbt _,(cU.1 ha).1⟩);simp at this
 |s::a,t::b,ha,hb,h=>by
  obtain⟨s1,s2,s3⟩:=cU.1 ha;obtain⟨t1,t2,t3⟩:=cU.1 hb
  have key:∀{u v:Sp}{p q:List Sp},u.1<u.2->v.1<v.2->(∀w∈q,v.2<w.1)->(∀x,Xu (u::p) x->Xu (v::q) x)->v.1<=u.1:=by
   intro u v p q h1 mX h2 h3;obtain⟨w,hw,h4,h5⟩:=h3 u.1 (by rw[Xh];exact .inl ⟨zzbt _,h1⟩);rcases zzap.1 hw with rfl|hw
   ·exact h4
   have:=h2 w hw;omega
  have e1:s.1=t.1:=Int.le_antisymm (key t1 s1 s2 fun x hx=>(h x).2 hx) (key s1 t1 t2 fun x hx=>(h x).1 hx)
  have aaX:∀{u v:Sp}{p q:List Sp},u.1<u.2->u.1=v.1->(∀w∈p,u.2<w.1)->(∀x,Xu (v::q) x->Xu (u::p) x)->¬u.2<v.2:=by
   intro u v p q h1 h2 h3 h4 h5;obtain⟨w,hw,h6,h7⟩:=h4 u.2 (by rw[Xh];exact .inl ⟨zE,h5⟩);rcases zzap.1 hw with rfl|hw
   ·omega
   have:=h3 w hw;omega
  have e2:s.2=t.2:=by
   have k1:=aaX s1 e1 s2 fun x hx=>(h x).2 hx;have k2:=aaX t1 e1.symm t2 fun x hx=>(h x).1 hx;omega
  have e:s=t:=Prod.ext e1 e2;subst e;congr 1;refine rT s3 t3 fun x=>?_
  have out:∀{p:List Sp},(∀w∈p,s.2<w.1)->Xu p x->¬(s.1<=x/\x<s.2):=by
   rintro p hp ⟨w,hw,h1,_⟩ ⟨_,h2⟩;have:=hp w hw;omega
  have hx:=h x;rw[Xh,Xh]at hx;constructor
  ·intro h1;exact(hx.1 (.inr h1)).resolve_left (out s2 h1)
  intro h1;exact(hx.2 (.inr h1)).resolve_left (out t2 h1)
def R8(out:List Sp)(v:Sp):List Sp:=match out.getLast? with
 |none=>[v]
 |some u=>if v.1<=u.2 then out.dropLast++[(u.1,max u.2 v.2)]else out++[v]
def Ie:List Sp->List Sp->List Sp
 |out,[]=>out
 |out,v::r=>Ie (R8 out v) r
def an0{out:List Sp}{v:Sp}(ho:VS out)(hv:v.1<v.2)(hl:∀u∈out,u.1<=v.1):
  VS (R8 out v)/\(∀x,Xu (R8 out v) x<->Xu (out++[v]) x)/\∀u∈R8 out v,u.1<=v.1:=by
 unfold R8;cases h:out.getLast? with
 |none=>
  have:out=[]:=List.getLast?_eq_none_iff.1 h;subst this;exact⟨cU.2 ⟨hv,zd,rS⟩,zd,zd⟩
 |some u=>
  obtain⟨p,rfl⟩:∃p,out=p++[u]:=zzfb.1 h;obtain⟨h1,h2,h3⟩:=D8.1 ho;have hu:=hl u zd;by_cases hc:v.1<=u.2
  ·simp only[if_pos hc,zzfs];refine⟨D8.2 ⟨h1,?_,h3⟩,fun x=>?_,?_⟩
   ·show u.1<max u.2 v.2;omega
   ·simp only[Yq,Xh,Yp,or_false];constructor
    ·rintro(h|h)
     ·exact .inl (.inl h)
     by_cases hx:x<u.2
     ·exact .inl (.inr ⟨h.1,hx⟩)
     exact .inr ⟨zE,zE⟩
    rintro((h|h)|h)
    ·exact .inl h
    ·exact .inr ⟨h.1,zE⟩
    exact .inr ⟨zE,zE⟩
   intro w hw;rcases zzam.1 hw with hw|hw
   ·exact hl w (by simp[hw])
   simp at hw;subst hw;exact hu
  simp only[if_neg hc];refine⟨D8.2 ⟨ho,hv,fun t ht=>?_⟩,fun x=>by simp only[],?_⟩
  ·rcases zzam.1 ht with ht|ht
   ·have:=h3 t ht;omega
   simp at ht;subst ht;omega
  intro w hw;rcases zzam.1 hw with hw|hw
  ·exact hl w hw
  simp at hw;subst hw;exact zzbt _
def abc:∀{r out:List Sp},VS out->(∀v∈r,v.1<v.2)->r.Pairwise (fun a b=>a.1<=b.1)->(∀u∈out,∀v∈r,u.1<=v.1)->
  VS (Ie out r)/\∀x,Xu (Ie out r) x<->Xu (out++r) x
 |[],out,h,_,_,_=>⟨h,fun x=>by simp[Ie]⟩
 |v::r,out,h,hn,hp,hl=>by
  obtain⟨h1,h2,h3⟩:=an0 h (hn v zd) fun u hu=>hl u hu v zd;obtain⟨p1,p2⟩:=zzby.1 hp;obtain⟨h4,h5⟩:=abc (r:=r) h1 (fun w hw=>hn w (by simp[hw])) p2 fun u hu w hw=>zzhl (h3 u hu) (p1 w hw);refine⟨h4,fun x=>?_⟩;rw[Ie,h5,Yq,h2];simp only[Yq,Xh,Yp,or_false,or_assoc]
def mO(s:Sp):Bool:=decide (s.1<s.2)
def Xm(l:List Sp):List Sp:=Ie [] ((l.filter mO).mergeSort fun a b=>decide (a.1<=b.1))
def Mr(l:List Sp)(x:Int):Xu (l.filter mO) x<->Xu l x:=by
 simp only[Xu,zzbw,mO,decide_eq_true_eq];constructor
 ·rintro⟨s,⟨h1,_⟩,h2⟩;exact⟨s,h1,h2⟩
 rintro⟨s,h1,h2⟩;exact⟨s,⟨h1,zE⟩,h2⟩
def ot{l d:List Sp}(hp:d.Perm (l.filter mO))(hs:d.Pairwise fun a b=>a.1<=b.1):VS (Ie [] d)/\∀x,Xu (Ie [] d) x<->Xu l x:=by
 obtain⟨h1,h2⟩:=abc (r:=d) rS (fun v hv=>by have:=hp.mem_iff.1 hv;simp[mO]at this;exact this.2) hs zd;exact⟨h1,fun x=>by rw[h2,zzai,Sc hp,Mr]⟩
def Zw(l:List Sp):VS (Xm l)/\∀x,Xu (Xm l) x<->Xu l x:=by
 refine ot (zzfy _ _) ?_;have:=zzgv (le:=fun a b:Sp=>decide (a.1<=b.1)) (fun a b c h1 h2=>by simp at*;omega) (fun a b=>by simp;omega) (l.filter mO);exact this.imp zd
def anV{l d:List Sp}(hp:d.Perm (l.filter mO))(hs:d.Pairwise fun a b=>a.1<=b.1):Ie [] d=Xm l:=
 rT (ot hp hs).1 (Zw l).1 fun x=>by rw[(ot hp hs).2,(Zw l).2]
def abd{l:List Sp}(h:VS l):Xm l=l:=rT (Zw l).1 h (Zw l).2
def an1{P:Int->Prop}{out:List Sp}{v:Sp}(ho:∀u∈out,P u.1/\P u.2)(hv:P v.1/\P v.2):∀u∈R8 out v,P u.1/\P u.2:=by
 unfold R8;cases h:out.getLast? with
 |none=>intro u hu;simp at hu;subst hu;exact hv
 |some w=>
  obtain⟨p,rfl⟩:∃p,out=p++[w]:=zzfb.1 h;have hw:=ho w zd;by_cases hc:v.1<=w.2
  ·simp only[if_pos hc,zzfs];intro u hu;rcases zzam.1 hu with hu|hu
   ·exact ho u (by simp[hu])
   simp at hu;subst hu;refine⟨hw.1,?_⟩;show P (max w.2 v.2);rcases Int.le_total w.2 v.2 with h|h
   ·rw[Int.max_eq_right h];exact hv.2
   rw[Int.max_eq_left h];exact hw.2
  simp only[if_neg hc];intro u hu;rcases zzam.1 hu with hu|hu
  ·exact ho u hu
  simp at hu;subst hu;exact hv
def abe{P:Int->Prop}:∀{r out:List Sp},(∀u∈out,P u.1/\P u.2)->(∀u∈r,P u.1/\P u.2)->∀u∈Ie out r,P u.1/\P u.2
 |[],_,h,_=>h
 |v::r,out,h,hr=>abe (r:=r) (an1 h (hr v zd)) fun u hu=>hr u (by simp[hu])
def YG{P:Int->Prop}{l:List Sp}(h:∀u∈l,P u.1/\P u.2):∀u∈Xm l,P u.1/\P u.2:=
 abe zd fun u hu=>h u (by
  have:=(zzfy (l.filter mO) fun a b=>decide (a.1<=b.1)).mem_iff.1 hu;exact(zzbw.1 this).1)
def Ms(out:List Sp)(v:Sp):(R8 out v).length<=out.length+1:=by
 unfold R8;cases h:out.getLast? with
 |none=>simp
 |some w=>
  have:out≠[]:=by rintro rfl;simp at h
  have:=zzdb.2 this;dsimp only;split<;>simp<;>omega
def yX:∀(r out:List Sp),(Ie out r).length<=out.length+r.length
 |[],out=>by simp[Ie]
 |v::r,out=>by
  have h1:=yX r (R8 out v);have h2:=Ms out v;rw[Ie];simp;omega
def Yu(l:List Sp):(Xm l).length<=l.length:=by
 have h1:=yX ((l.filter mO).mergeSort fun a b=>decide (a.1<=b.1)) [];have h2:=zzce mO l;rw[zzet]at h1;simp at h1;unfold Xm;omega
def ue:Nat->List Sp->List Sp->List Sp
 |0,_,_=>[]
 |_,[],_=>[]
 |_,_,[]=>[]
 |n+1,s::a,t::b=>
  (if max s.1 t.1<min s.2 t.2 then[(max s.1 t.1,min s.2 t.2)]else[])++(if s.2<t.2 then ue n a (t::b)else ue n (s::a) b)
def Mt:∀(n:Nat){a b:List Sp},a.length+b.length<=n->VS a->VS b->VS (ue n a b)/\(∀x,Xu (ue n a b) x<->Xu a x/\Xu b x)/\
  ∀u∈ue n a b,(∃s∈a,s.1<=u.1)/\∃t∈b,t.1<=u.1
 |0,a,b,h,_,_=>by
  have h1:a=[]:=zzc.1 zE;subst h1;exact⟨rS,fun x=>by simp[ue],by simp[ue]⟩
 |n+1,[],b,h,_,_=>⟨by simpa[ue]using rS,fun x=>by simp[ue],by simp[ue]⟩
 |n+1,s::a,[],h,_,_=>⟨by simpa[ue]using rS,fun x=>by simp[ue],by simp[ue]⟩
 |n+1,s::a,t::b,h,ha,hb=>by
  obtain⟨s1,s2,s3⟩:=cU.1 ha;obtain⟨t1,t2,t3⟩:=cU.1 hb;simp only[zzaz]at h
  have mem:∀{p:List Sp}{u:Sp}{x:Int},(∀w∈p,u.2<w.1)->x<=u.2->¬Xu p x:=by
   rintro p u x hp hx ⟨w,hw,h1,_⟩;have:=hp w hw;omega
  rw[ue];by_cases hc:s.2<t.2
  ·rw[if_pos hc];obtain⟨h1,h2,h3⟩:=Mt n (a:=a) (b:=t::b) (by simp;omega) s3 hb
   have hx:∀x,Xu (if max s.1 t.1<min s.2 t.2 then[(max s.1 t.1,min s.2 t.2)]else[]) x<->(s.1<=x/\x<s.2)/\Xu (t::b) x:=by
    intro x;rw[Xh];by_cases hi:max s.1 t.1<min s.2 t.2
    ·rw[if_pos hi];simp only[Xh,Yp,or_false];constructor
     ·rintro⟨h1,h2⟩;exact⟨⟨zE,zE⟩,.inl ⟨zE,zE⟩⟩
     rintro⟨h1,h2|h2⟩
     ·exact⟨zE,zE⟩
     exact absurd h2 (mem (u:=t) t2 zE)
    rw[if_neg hi];simp only[Yp,false_iff];rintro⟨h1,h2|h2⟩
    ·omega
    exact absurd h2 (mem (u:=t) t2 zE)
   refine⟨?_,fun x=>?_,?_⟩
   ·by_cases hi:max s.1 t.1<min s.2 t.2
    ·rw[if_pos hi,zzeu];refine cU.2 ⟨hi,fun u hu=>?_,h1⟩;obtain⟨⟨w,hw,hwu⟩,_⟩:=h3 u hu;have:=s2 w hw;show min s.2 t.2<u.1;omega
    rw[if_neg hi];exact h1
   ·rw[Yq,hx,h2,Xh s];constructor
    ·rintro(⟨h1,h2⟩|⟨h1,h2⟩)
     ·exact⟨.inl h1,h2⟩
     exact⟨.inr h1,h2⟩
    rintro⟨h1|h1,h2⟩
    ·exact .inl ⟨h1,h2⟩
    exact .inr ⟨h1,h2⟩
   intro u hu;rcases zzam.1 hu with hu|hu
   ·split at hu
    ·simp at hu;subst hu;exact⟨⟨s,zd,by show s.1<=max s.1 t.1;omega⟩,⟨t,zd,by show t.1<=max s.1 t.1;omega⟩⟩
    cases hu
   obtain⟨⟨w,hw,hwu⟩,cL⟩:=h3 u hu;exact⟨⟨w,by simp[hw],hwu⟩,cL⟩
  rw[if_neg hc];obtain⟨h1,h2,h3⟩:=Mt n (a:=s::a) (b:=b) (by simp;omega) ha t3
  have hx:∀x,Xu (if max s.1 t.1<min s.2 t.2 then[(max s.1 t.1,min s.2 t.2)]else[]) x<->Xu (s::a) x/\(t.1<=x/\x<t.2):=by
   intro x;rw[Xh];by_cases hi:max s.1 t.1<min s.2 t.2
   ·rw[if_pos hi];simp only[Xh,Yp,or_false];constructor
    ·rintro⟨h1,h2⟩;exact⟨.inl ⟨zE,zE⟩,⟨zE,zE⟩⟩
    rintro⟨h2|h2,h1⟩
    ·exact⟨zE,zE⟩
    exact absurd h2 (mem (u:=s) s2 zE)
   rw[if_neg hi];simp only[Yp,false_iff];rintro⟨h2|h2,h1⟩
   ·omega
   exact absurd h2 (mem (u:=s) s2 zE)
  refine⟨?_,fun x=>?_,?_⟩
  ·by_cases hi:max s.1 t.1<min s.2 t.2
   ·rw[if_pos hi,zzeu];refine cU.2 ⟨hi,fun u hu=>?_,h1⟩;obtain⟨_,⟨w,hw,hwu⟩⟩:=h3 u hu;have:=t2 w hw;show min s.2 t.2<u.1;omega
   rw[if_neg hi];exact h1
  ·rw[Yq,hx,h2,Xh t];constructor
   ·rintro(⟨h1,h2⟩|⟨h1,h2⟩)
    ·exact⟨h1,.inl h2⟩
    exact⟨h1,.inr h2⟩
   rintro⟨h1,h2|h2⟩
   ·exact .inl ⟨h1,h2⟩
   exact .inr ⟨h1,h2⟩
  intro u hu;rcases zzam.1 hu with hu|hu
  ·split at hu
   ·simp at hu;subst hu;exact⟨⟨s,zd,by show s.1<=max s.1 t.1;omega⟩,⟨t,zd,by show t.1<=max s.1 t.1;omega⟩⟩
   cases hu
  obtain⟨ha',⟨w,hw,hwu⟩⟩:=h3 u hu;exact⟨ha',⟨w,by simp[hw],hwu⟩⟩
def zK(a b:List Sp):List Sp:=ue ((Xm a).length+(Xm b).length) (Xm a) (Xm b)
def kN(a b:List Sp):VS (zK a b)/\∀x,Xu (zK a b) x<->Xu a x/\Xu b x:=by
 obtain⟨h1,h2,_⟩:=Mt _ (zzab _) (Zw a).1 (Zw b).1;exact⟨h1,fun x=>by rw[zK,h2,(Zw a).2,(Zw b).2]⟩
def D6(f t:Int):List Sp:=if f<t then[(f,t)]else[]
def j9:Int->Int->List Sp->List Sp×List Sp
 |f,t,[]=>(D6 f t,[])
 |f,t,h::r=>if h.1<t then(if t<=max f h.2 then(D6 f h.1,h::r)else(D6 f h.1++(j9 (max f h.2) t r).1,(j9 (max f h.2) t r).2))else(D6 f t,h::r)
def uf:List Sp->List Sp->List Sp
 |[],_=>[]
 |s::a,hs=>(j9 s.1 s.2 hs).1++uf a (j9 s.1 s.2 hs).2
def D0(a b:List Sp):List Sp:=uf (Xm a) (Xm b)
def qn(f t:Int):D6 f t=[]<->t<=f:=by unfold D6;split<;>simp<;>omega
def Im:∀{H:List Sp}{f t:Int},VS H->((j9 f t H).1=[]<->∀x,f<=x->x<t->Xu H x)
 |[],f,t,_=>by
  simp only[j9,qn,Yp];constructor
  ·intro h x h1 h2;omega
  intro h;rcases zzfh f t with hf|hf
  ·exact(h f (zzbt _) hf).elim
  exact hf
 |h::r,f,t,hV=>by
  obtain⟨h1,h2,h3⟩:=cU.1 hV
  have mem:∀{x:Int},Xu r x->h.2<x:=by
   rintro x ⟨w,hw,h4,_⟩;have:=h2 w hw;omega
  rw[j9];by_cases hc:h.1<t
  ·rw[if_pos hc];by_cases hd:t<=max f h.2
   ·rw[if_pos hd];simp only[qn,Xh];constructor
    ·intro h5 x h6 h7;exact .inl ⟨zE,zE⟩
    intro h5;by_cases hf:f<t
    ·rcases h5 f (zzbt _) hf with h6|h6
     ·exact h6.1
     have:=mem h6;omega
    omega
   rw[if_neg hd];simp only[zzh,qn,Im h3,Xh];constructor
   ·rintro⟨h5,h6⟩ x h7 h8;by_cases hx:x<h.2
    ·exact .inl ⟨zE,hx⟩
    exact .inr (h6 x zE h8)
   intro h5;refine⟨?_,fun x h6 h7=>?_⟩
   ·rcases h5 f (zzbt _) zE with h6|h6
    ·exact h6.1
    have:=mem h6;omega
   exact(h5 x zE h7).resolve_left zE
  rw[if_neg hc];simp only[qn,Xh];constructor
  ·intro h5 x h6 h7;omega
  intro h5;rcases zzfh f t with hf|hf
  ·rcases h5 f (zzbt _) hf with h6|h6
   ·omega
   have:=mem h6;omega
  exact hf
def Mi{s:Sp}(hs:s.1<s.2)(l:List Sp):D0 [s] l=[]<->∀x,s.1<=x->x<s.2->Xu l x:=by
 rw[D0,abd (l:=[s]) (cU.2 ⟨hs,zd,rS⟩)];simp only[uf,zzau,Im (Zw l).1,(Zw l).2]
end Go.Proofs.YthjppoincojfkaaGreatDoor
namespace Go.Proofs.YthjppoincojfkaaGreatDoor
open Go Go.Abs
def em(s:Sp):Bool:=decide (s.2<=s.1)
def Io(s:Sp):mO s=!em s:=by simp[mO,em,<- decide_not,Int.not_le]
def nO(s:Sp):Pure Tryz.prog aD 185 [.agg [I s.1,I s.2]] (.bool (em s)):=by
 refine Qp acZ (fun _ _ _=>.junk) zd ?_;simp[ahw,ahx,em]
def BO:UV:=fun _ _ l=>match l with
 |[.agg [.int _ a,.int _ b]]=>.bool (decide (b<=a))
 |_=>.junk
def ql:List Sp->Nat->Int
 |[],_=> -1
 |s::r,i=>if em s=true then i else ql r (i+1)
def Ip:∀{l:List Sp}{i:Nat},ql l i= -1->l.filter mO=l
 |[],_,_=>rfl
 |s::r,i,h=>by
  simp only[ql]at h;split at h
  ·omega
  rename_i hn;have qt:mO s=true:=by rw[Io];simpa using hn
  simp[zzea,qt,Ip h]
def Iq:∀{l:List Sp}{i:Nat},ql l i≠ -1->∃k:Nat,ql l i=((i+k:Nat):Int)/\k<l.length/\(l.take (k+1)).filter mO=l.take k
 |[],_,h=>absurd rfl h
 |s::r,i,h=>by
  simp only[ql]at h |-
  split
  ·rename_i hs;have qt:mO s=false:=by rw[Io,hs];rfl
   exact⟨0,rfl,zd,by simp[zzea,qt]⟩
  rename_i hs;have qt:mO s=true:=by rw[Io];simpa using hs
  rw[if_neg hs]at h;obtain⟨k,h1,h2,h3⟩:=Iq h;exact⟨k+1,by rw[h1];congr 1;omega,Nm h2,by simp[zzea,qt,h3]⟩
def qj(l:List Sp)(hl:l.length<=1000000000):Pure Tryz.prog aD 231 [.sl .ro (l.map Qf),.fn 185 [] []] (I (ql l 0)):=by
 refine Qp adt BO zd ?_;simp[ahW,ahX];refine Qi Cf (fun s m=>∃i:Nat,s 8=I i/\i<=l.length/\ql (l.drop i) i=ql l 0/\m=⟨[],[],fun _=>.gone,0⟩) (fun s m=>l.length-(numOf (s 8)).toNat) ?_ ?_
 ·exact⟨0,zd,zE,zd,rfl⟩
 rintro f m ⟨i,h8,hi,hr,rfl⟩;rcases zzaa i l.length with ai|bq
 ·obtain⟨s,hs⟩:=aV ai;have ah:=Zv hs
  have fc:l.drop i=s::l.drop (i+1):=by
   rw[zzag ai,(zza.1 hs).2]
  have hw:=bP i zE;have aa:(i:Int)<(l.length:Int):=zE
  have hp:=nO s;rw[fc]at hr;simp only[ql]at hr;by_cases he:s.2<=s.1
  ·have GO:em s=true:=by simp[em,he]
   rw[GO]at hp;rw[if_pos GO]at hr;simp[h8,ai,aa,ah,Cf,BO,he,<- hr];exact hp
  have GO:em s=false:=by simp[em];omega
  rw[GO]at hp;rw[GO]at hr;simp only[zzbh,if_false]at hr;simp[h8,ai,aa,ah,Cf,BO,he,hw];refine⟨hp,aQ,⟨i+1,zd,zE,hr⟩,zE⟩
 have bO:¬(i:Int)<(l.length:Int):=zE
 rw[zzal bq]at hr;simp only[ql]at hr;simp[h8,bO,zzbk.2 bq,Cf,<- hr]
def oq(k:Int):UV:=fun _ f l=>if f=231 then I k else BO 0 0 l
def Mo(Y:YT)(l:List Sp)(hl:l.length<=1000000000)(B:T5)(L:Pa)(st:Nat->LS)(n id:Nat)(aL:id<B.length)(aO:l≠[])(hB:Qh B id=cF l)(K:So)
  (hK:∀(B':T5)(z:List Sp),bB (·=id) B B'->Qh B' id=cF (l.filter mO++z)->(l.filter mO).length+z.length=l.length->K (.bs id 0 (l.filter mO).length 2) ⟨B',L,st,n⟩):
  aB Tryz.prog aD Y 184 [.bs id 0 l.length 2,.fn 185 [] []] ⟨B,L,st,n⟩ K:=by
 have Lp:=qj l hl;have gz:=Va ⟨B,L,st,n⟩ 4 (C7 l);have gX:=Qeh l;have aH:=Ye l;refine Xn M8 (oq (ql l 0)) zd ?_;by_cases hk:ql l 0= -1
 ·have hf:=Ip hk;rw[hk]at Lp;have:=hK B [] (bB.refl _ _) (by rw[hf];simpa using hB) (by rw[hf];simp);rw[hf]at this;simp[EA,M7,oq,hk,hB,gz,gX,aH];exact⟨Lp,this⟩
 obtain⟨k,dA,ef,Bh⟩:=Iq hk;rw[zzbs]at dA;have Eb:¬(k:Int)= -1:=zE
 have KD:=bP k zE;rw[dA]at Lp;simp[EA,M7,oq,dA,Eb,hB,gz,gX,aH,KD];refine⟨Lp,?_⟩
 refine Qi Cd (fun f m=>∃(i j:Nat)(B':T5)(L':List Sp),f 5=I i/\f 6=I j/\i<j/\j<=l.length/\m=⟨B',L,st,n⟩/\bB (·=id) B B'/\Qh B' id=cF L'/\L'.length=l.length/\L'.take i=(l.take j).filter mO/\L'.drop j=l.drop j)
  (fun f m=>l.length-(numOf (f 6)).toNat) ?_ ?_
 ·exact⟨k,k+1,B,l,zd,zd,zE,zE,rfl,bB.refl _ _,hB,rfl,Bh.symm,rfl⟩
 rintro f m ⟨i,j,B',L',h5,h6,eF,hj,rfl,nE,eP,tN,ht,hd⟩;have cH:id<B'.length:=zzba aL nE.1;have jm:=Ye L';rcases zzaa j l.length with ai|bq
 ·obtain⟨s,hs⟩:=aV ai
  have dK:L'[j]?=some s:=by
   have:=congrArg (fun x=>x[0]?) hd;simpa[hs]using this
  have hg:=uB dK;have dH:(j:Int)<(l.length:Int):=zE
  have aa:(i:Int)<(l.length:Int):=zE
  have wN:i<l.length:=zE
  have tU:=bP j zE;have XK:=bP i zE;have hp:=nO s;have bR:=Oo L' i s zE;simp only[setA]at bR;have gV:∀x,Qh (B'++x) id=cF L':=fun x=>by rw[Qn cH,eP]
  have lN:∀x v,(B'++x).set id v=B'.set id v++x:=fun x v=>Yk v cH
  have bA:(l.take (j+1)).filter mO=(l.take j).filter mO++[s].filter mO:=by
   rw[zzb,hs,zzdg];rfl
  have hdj:L'.drop (j+1)=l.drop (j+1):=by
   have:=congrArg (List.drop 1) hd;simpa[zze,zzfe]using this
  by_cases he:s.2<=s.1
  ·have GO:em s=true:=by simp[em,he]
   have qt:mO s=false:=by rw[Io,GO];rfl
   rw[GO]at hp;simp[h5,h6,dH,ai,aa,eP,gV,lN,hg,Cd,oq,BO,he,tU,XK];refine⟨hp,aQ,⟨i,rfl,j+1,zd,zE,zE,nE.app _,?_⟩,zE⟩
   ·refine⟨L',rfl,tN,?_,hdj⟩;rw[bA,ht];simp[qt]
  have GO:em s=false:=by simp[em];omega
  have qt:mO s=true:=by rw[Io,GO];rfl
  rw[GO]at hp;simp[h5,h6,dH,ai,aa,wN,eP,gV,lN,hg,Cd,oq,BO,he,tU,XK,bR,jm,tN];refine⟨hp,zE,aQ,⟨i+1,zd,j+1,zd,zE,zE,(nE.set (.inl rfl) _).app _,?_⟩,zE⟩
  ·refine⟨L'.set i s,by rw[Qn (Nm cH),Yg _ cH],Nm tN,?_,?_⟩
   ·rw[bA,<- ht,zzb,zzbg zE,zzfv zE];simp[qt]
   rw[zzfw zE];exact hdj
 obtain rfl:j=l.length:=zE
 rw[zzbz]at ht;have fh:(l.filter mO).length=i:=by rw[<- ht,zzaq];omega
 have N1:¬((l.length:Nat):Int)<(l.length:Int):=zE
 have bO:(i:Int)<=(l.length:Int):=zE
 have aa:(i:Int)<(l.length:Int):=zE
 have wN:i<l.length:=eF
 have fG:cF L'≠[]:=by
  intro h;have:=congrArg List.length h;rw[jm,tN]at this;simp at this;omega
 have qu:setA (cF L') (i*2) (bF (l.length-i) [I 0,I 0])=cF (l.filter mO++List.replicate (l.length-i) (0,0)):=by
  have e1:L'=L'.take i++L'.drop i:=zd
  conv=>lhs;rw[e1]
  rw[Qcl,Qcl,<- ht,Rj];have e2:(cF (L'.take i)).length=i*2:=by rw[Ye,zzaq];congr 1;omega
  rw[<- e2];exact pn _ _ _ (by rw[Ye,Ye];simp;omega)
 simp[h5,h6,N1,eP,aa,wN,bO,Cd,cH,fG,jm,tN,qu];refine⟨zE,?_⟩;have:=hK (B'.set id (cF (l.filter mO++List.replicate (l.length-i) (0,0)))) (List.replicate (l.length-i) (0,0)) (nE.set (.inl rfl) _) (Yg _ cH) (by simp;omega);rw[fh]at this;exact this
open Go Go.Abs Go.Shelf Go.RowKit Go.Lib Go.Sort
def Mu:Go.Shelf.Ren:=⟨fun|6=>186|15=>167|14=>232|28=>223|29=>224|20=>253|21=>254|22=>255|23=>256|24=>257|25=>258|26=>259|27=>260|46=>267|47=>244|48=>245|49=>268|50=>269|57=>271|n=>n,fun|22=>286|24=>288|25=>292|3=>3|39=>253|0=>0|53=>326|55=>161|4=>4|46=>320|45=>319|50=>65|5=>5|9=>9|66=>348|70=>152|76=>363|77=>308|n=>n,fun|n=>n⟩
def abf:Go.Proofs.SlLaysF0.n6 Tryz.prog Mu:={
 mixed:=by kernel_rfl,
 f6:=⟨Tryz.f186.name,by decide,Tryz.func186.trans (congrArg some (by kernel_rfl))⟩,
 f14:=⟨Tryz.f232.name,by decide,Tryz.func232.trans (congrArg some (by kernel_rfl))⟩,
 f15:=Tryz.func167.trans (congrArg some (by kernel_rfl)),
 f20:=⟨Tryz.f253.name,by decide,Tryz.func253.trans (congrArg some (by kernel_rfl))⟩,
 f21:=⟨Tryz.f254.name,by decide,Tryz.func254.trans (congrArg some (by kernel_rfl))⟩,
 f22:=⟨Tryz.f255.name,by decide,Tryz.func255.trans (congrArg some (by kernel_rfl))⟩,
 f23:=⟨Tryz.f256.name,by decide,Tryz.func256.trans (congrArg some (by kernel_rfl))⟩,
 f24:=⟨Tryz.f257.name,by decide,Tryz.func257.trans (congrArg some (by kernel_rfl))⟩,
 f25:=⟨Tryz.f258.name,by decide,Tryz.func258.trans (congrArg some (by kernel_rfl))⟩,
 f26:=⟨Tryz.f259.name,by decide,Tryz.func259.trans (congrArg some (by kernel_rfl))⟩,
 f27:=⟨Tryz.f260.name,by decide,Tryz.func260.trans (congrArg some (by kernel_rfl))⟩,
 f28:=Tryz.func223.trans (congrArg some (by kernel_rfl)),
 f29:=Tryz.func224.trans (congrArg some (by kernel_rfl)),
 f46:=⟨Tryz.f267.name,by decide,Tryz.func267.trans (congrArg some (by kernel_rfl))⟩,
 f47:=Tryz.func244.trans (congrArg some (by kernel_rfl)),
 f48:=Tryz.func245.trans (congrArg some (by kernel_rfl)),
 f49:=⟨Tryz.f268.name,by decide,Tryz.func268.trans (congrArg some (by kernel_rfl))⟩,
 f50:=⟨Tryz.f269.name,by decide,Tryz.func269.trans (congrArg some (by kernel_rfl))⟩,
 f57:=⟨Tryz.f271.name,by decide,Tryz.func271.trans (congrArg some (by kernel_rfl))⟩,
 t0:=Tryz.underlying0,
 a0:=Tryz.isAgg0,
 z0:=Tryz.sizeOf0,
 v0:=Tryz.zeroValue0,
 t3:=Tryz.underlying3,
 a3:=Tryz.isAgg3,
 z3:=Tryz.sizeOf3,
 v3:=Tryz.zeroValue3,
 t4:=Tryz.underlying4,
 a4:=Tryz.isAgg4,
 z4:=Tryz.sizeOf4,
 v4:=Tryz.zeroValue4,
 t5:=Tryz.underlying5,
 a5:=Tryz.isAgg5,
 z5:=Tryz.sizeOf5,
 v5:=Tryz.zeroValue5,
 t9:=Tryz.underlying9,
 a9:=Tryz.isAgg9,
 z9:=Tryz.sizeOf9,
 v9:=Tryz.zeroValue9,
 t22:=Tryz.underlying286,
 a22:=Tryz.isAgg286,
 z22:=Tryz.sizeOf286,
 v22:=Tryz.zeroValue286,
 t25:=Tryz.underlying292,
 a25:=Tryz.isAgg292,
 z25:=Tryz.sizeOf292,
 v25:=Tryz.zeroValue292,
 t39:=Tryz.underlying253,
 a39:=Tryz.isAgg253,
 z39:=Tryz.sizeOf253,
 v39:=Tryz.zeroValue253,
 t45:=Tryz.underlying319,
 a45:=Tryz.isAgg319,
 z45:=Tryz.sizeOf319,
 v45:=Tryz.zeroValue319,
 t46:=Tryz.underlying320,
 a46:=Tryz.isAgg320,
 z46:=Tryz.sizeOf320,
 v46:=Tryz.zeroValue320,
 t50:=Tryz.underlying65,
 a50:=Tryz.isAgg65,
 z50:=Tryz.sizeOf65,
 v50:=Tryz.zeroValue65,
 t53:=Tryz.underlying326,
 a53:=Tryz.isAgg326,
 z53:=Tryz.sizeOf326,
 v53:=Tryz.zeroValue326,
 t55:=Tryz.underlying161,
 a55:=Tryz.isAgg161,
 z55:=Tryz.sizeOf161,
 v55:=Tryz.zeroValue161,
 t66:=Tryz.underlying348,
 a66:=Tryz.isAgg348,
 z66:=Tryz.sizeOf348,
 v66:=Tryz.zeroValue348,
 t70:=Tryz.underlying152,
 a70:=Tryz.isAgg152,
 z70:=Tryz.sizeOf152,
 v70:=Tryz.zeroValue152,
 t76:=Tryz.underlying363,
 a76:=Tryz.isAgg363,
 z76:=Tryz.sizeOf363,
 v76:=Tryz.zeroValue363,
 t77:=Tryz.underlying308,
 a77:=Tryz.isAgg308,
 z77:=Tryz.sizeOf308,
 v77:=Tryz.zeroValue308}
def Ir:Go.Shelf.Ren:=⟨fun|5=>110|8=>167|7=>166|19=>223|20=>224|10=>214|11=>215|12=>216|13=>217|14=>218|15=>219|16=>220|17=>221|18=>222|30=>243|31=>244|32=>245|33=>246|34=>247|35=>248|40=>264|n=>n,fun|23=>42|25=>3|3=>3|32=>253|22=>42|0=>0|44=>326|46=>161|4=>4|36=>320|35=>319|41=>65|5=>5|9=>9|53=>348|57=>152|63=>363|64=>308|n=>n,fun|n=>n⟩
def sortInt:Go.Proofs.SlLaysM.n5 Tryz.prog Ir:={
 mixed:=by kernel_rfl,
 f5:=⟨Tryz.f110.name,by decide,Tryz.func110.trans (congrArg some (by kernel_rfl))⟩,
 f7:=⟨Tryz.f166.name,by decide,Tryz.func166.trans (congrArg some (by kernel_rfl))⟩,
 f8:=Tryz.func167.trans (congrArg some (by kernel_rfl)),
 f10:=⟨Tryz.f214.name,by decide,Tryz.func214.trans (congrArg some (by kernel_rfl))⟩,
 f11:=⟨Tryz.f215.name,by decide,Tryz.func215.trans (congrArg some (by kernel_rfl))⟩,
 f12:=⟨Tryz.f216.name,by decide,Tryz.func216.trans (congrArg some (by kernel_rfl))⟩,
 f13:=⟨Tryz.f217.name,by decide,Tryz.func217.trans (congrArg some (by kernel_rfl))⟩,
 f14:=⟨Tryz.f218.name,by decide,Tryz.func218.trans (congrArg some (by kernel_rfl))⟩,
 f15:=⟨Tryz.f219.name,by decide,Tryz.func219.trans (congrArg some (by kernel_rfl))⟩,
 f16:=⟨Tryz.f220.name,by decide,Tryz.func220.trans (congrArg some (by kernel_rfl))⟩,
 f17:=⟨Tryz.f221.name,by decide,Tryz.func221.trans (congrArg some (by kernel_rfl))⟩,
 f18:=⟨Tryz.f222.name,by decide,Tryz.func222.trans (congrArg some (by kernel_rfl))⟩,
 f19:=Tryz.func223.trans (congrArg some (by kernel_rfl)),
 f20:=Tryz.func224.trans (congrArg some (by kernel_rfl)),
 f30:=⟨Tryz.f243.name,by decide,Tryz.func243.trans (congrArg some (by kernel_rfl))⟩,
 f31:=Tryz.func244.trans (congrArg some (by kernel_rfl)),
 f32:=Tryz.func245.trans (congrArg some (by kernel_rfl)),
 f33:=⟨Tryz.f246.name,by decide,Tryz.func246.trans (congrArg some (by kernel_rfl))⟩,
 f34:=⟨Tryz.f247.name,by decide,Tryz.func247.trans (congrArg some (by kernel_rfl))⟩,
 f35:=⟨Tryz.f248.name,by decide,Tryz.func248.trans (congrArg some (by kernel_rfl))⟩,
 f40:=⟨Tryz.f264.name,by decide,Tryz.func264.trans (congrArg some (by kernel_rfl))⟩,
 t0:=Tryz.underlying0,
 a0:=Tryz.isAgg0,
 z0:=Tryz.sizeOf0,
 v0:=Tryz.zeroValue0,
 t3:=Tryz.underlying3,
 a3:=Tryz.isAgg3,
 z3:=Tryz.sizeOf3,
 v3:=Tryz.zeroValue3,
 t4:=Tryz.underlying4,
 a4:=Tryz.isAgg4,
 z4:=Tryz.sizeOf4,
 v4:=Tryz.zeroValue4,
 t5:=Tryz.underlying5,
 a5:=Tryz.isAgg5,
 z5:=Tryz.sizeOf5,
 v5:=Tryz.zeroValue5,
 t9:=Tryz.underlying9,
 a9:=Tryz.isAgg9,
 z9:=Tryz.sizeOf9,
 v9:=Tryz.zeroValue9,
 t22:=Tryz.underlying42,
 a22:=Tryz.isAgg42,
 z22:=Tryz.sizeOf42,
 v22:=Tryz.zeroValue42,
 t23:=Tryz.underlying42,
 a23:=Tryz.isAgg42,
 z23:=Tryz.sizeOf42,
 v23:=Tryz.zeroValue42,
 t25:=Tryz.underlying3,
 a25:=Tryz.isAgg3,
 z25:=Tryz.sizeOf3,
 v25:=Tryz.zeroValue3,
 t32:=Tryz.underlying253,
 a32:=Tryz.isAgg253,
 z32:=Tryz.sizeOf253,
 v32:=Tryz.zeroValue253,
 t35:=Tryz.underlying319,
 a35:=Tryz.isAgg319,
 z35:=Tryz.sizeOf319,
 v35:=Tryz.zeroValue319,
 t36:=Tryz.underlying320,
 a36:=Tryz.isAgg320,
 z36:=Tryz.sizeOf320,
 v36:=Tryz.zeroValue320,
 t41:=Tryz.underlying65,
 a41:=Tryz.isAgg65,
 z41:=Tryz.sizeOf65,
 v41:=Tryz.zeroValue65,
 t44:=Tryz.underlying326,
 a44:=Tryz.isAgg326,
 z44:=Tryz.sizeOf326,
 v44:=Tryz.zeroValue326,
 t46:=Tryz.underlying161,
 a46:=Tryz.isAgg161,
 z46:=Tryz.sizeOf161,
 v46:=Tryz.zeroValue161,
 t53:=Tryz.underlying348,
 a53:=Tryz.isAgg348,
 z53:=Tryz.sizeOf348,
 v53:=Tryz.zeroValue348,
 t57:=Tryz.underlying152,
 a57:=Tryz.isAgg152,
 z57:=Tryz.sizeOf152,
 v57:=Tryz.zeroValue152,
 t63:=Tryz.underlying363,
 a63:=Tryz.isAgg363,
 z63:=Tryz.sizeOf363,
 v63:=Tryz.zeroValue363,
 t64:=Tryz.underlying308,
 a64:=Tryz.isAgg308,
 z64:=Tryz.sizeOf308,
 v64:=Tryz.zeroValue308}
def Mv:Go.Shelf.Ren:=⟨fun|5=>233|7=>248|n=>n,fun|22=>3|3=>3|4=>4|n=>n,fun|n=>n⟩
def an2:Go.Proofs.SlLaysC2.n5 Tryz.prog Mv:={
 mixed:=by kernel_rfl,
 f5:=⟨Tryz.f233.name,by decide,Tryz.func233.trans (congrArg some (by kernel_rfl))⟩,
 f7:=⟨Tryz.f248.name,by decide,Tryz.func248.trans (congrArg some (by kernel_rfl))⟩,
 t3:=Tryz.underlying3,
 a3:=Tryz.isAgg3,
 z3:=Tryz.sizeOf3,
 v3:=Tryz.zeroValue3,
 t4:=Tryz.underlying4,
 a4:=Tryz.isAgg4,
 z4:=Tryz.sizeOf4,
 v4:=Tryz.zeroValue4,
 t22:=Tryz.underlying3,
 a22:=Tryz.isAgg3,
 z22:=Tryz.sizeOf3,
 v22:=Tryz.zeroValue3}
def Mw(x:Int×Int):PQ:=[.int .i64 x.1,.int .i64 x.2]
def Mx(x y:Int×Int)(W:World):Calls Tryz.prog 187 #[.agg #[.int .i64 x.1,.int .i64 x.2],.agg #[.int .i64 y.1,.int .i64 y.2]] W fun e w'=>e=.returned (.int .i64 (Lib.compareInt x.1 y.1))/\∃q os',w'=grow (W.drewN q) os':=by
 have fN:=fun W'=>AnyG.cmp_Compare_int an2 x.1 y.1 W';change∀W',Calls Tryz.prog 233 _ _ _ at fN;generalize Lib.compareInt x.1 y.1=r at fN |-
 go_enter Tryz.func187,Tryz.ntmps187
 go_wp2_with (go_at_call 233;refine(fN _).mono ?_;rintro e w' ⟨rfl,rfl⟩)
 go_ret
 exact⟨rfl,0,_,by rw[alloc_eq_grow,alloc_eq_grow,grow_grow];rfl⟩
def My(blk off size:Nat)(w:World):CmpLays Tryz.prog 187 #[] Mw 2 (fun x y=>Lib.compareInt x.1 y.1) blk off size w:=
 fun _ _ _ _ x y=>Mx x y _
def agq(x y:Int×Int):ltOf (fun x y:Int×Int=>Lib.compareInt x.1 y.1) x y=decide (x.1<y.1):=by
 unfold ltOf Lib.compareInt;by_cases h1:x.1<y.1
 ·simp[h1]
 by_cases h2:y.1<x.1<;>simp[h1,h2]
def auG:SWO (ltOf fun x y:Int×Int=>Lib.compareInt x.1 y.1) where
 irrefl x:=by rw[agq];simp
 trans x y z h1 h2:=by rw[agq]at*;simp at*;omega
 ntrans x y z h1 h2:=by rw[agq]at*;simp at*;omega
def abg{w:World}{γ:G}(x:Int×Int):ak w γ (Qf x) (Mw x):=.cons (.int _ _) (.cons (.int _ _) .nil)
def Yn{w:World}{γ:G}{a:AV}{vs:PQ}(h:ak w γ [a] vs):∃v,vs=[v]/\aA w γ a v:=by
 match vs,h with
 |[v],h=>exact⟨v,rfl,h.2 0 _ _ rfl rfl⟩
 |[],h=>exact absurd h.1 zd
 |_::_::_,h=>exact absurd h.1 zd
def Sd{w:World}{γ:G}(x:Int×Int){vs:PQ}(h:ak w γ (Qf x) vs):vs=Mw x:=by
 match vs,h with
 |[u,v],h=>
  have h1:aA w γ (I x.1) u:=h.2 0 _ _ rfl rfl;have h2:aA w γ (I x.2) v:=h.2 1 _ _ rfl rfl;cases h1;cases h2;rfl
 |[],h=>exact absurd h.1 (by simp[Qf])
 |[_],h=>exact absurd h.1 (by simp[Qf])
 |_::_::_::_,h=>exact absurd h.1 (by simp[Qf])
def an3{w:World}{γ:G}{f:FuncId}{v:Value}(h:aA w γ (.fn f [] []) v):v=.func (.func f) #[] #[]:=by
 cases h with
 |fn hl _ eV _=>
  rename_i fa ca _ _;have e1:fa=#[]:=zzem hl.symm;have e2:ca=#[]:=zzem eV.symm;rw[e1,e2]
def Mp(Y:YT)(d:List Sp)(hd:d.length<=1000000000)(m:AM)(id:Nat)(post:P2)(hB:m.boxes[id]?=some (cF d++post))(aO:cF d++post≠[])(K:So)
  (hK:∀d':List Sp,d'.Perm d->d'.Pairwise (fun a b=>a.1<=b.1)->K (.aS []) (m.wr id (cF d'++post))):
  aB Tryz.prog aD Y 186 [.bs id 0 d.length 2,.fn 187 [] []] m K:=by
 refine BN (α:=Int×Int) (d:=d) (more:=[.fn 187 [] []]) (sz:=2) (off:=0) M9.bw Mw Qf (fun _=>rfl) (fun _ _ x=>abg x) (fun _ _ x _ h=>Sd x h) (fun x v hv=>by simp[Mw]at hv;rcases hv with rfl|rfl<;>rfl) hB aO
  ⟨[],post,by rw[G2];rfl,rfl⟩ (d2:=fun d'=>d'.Perm d/\d'.Pairwise fun a b=>a.1<=b.1) ?_ ?_
 ·intro w b cap mv γ hmv hH hblk;obtain⟨v,rfl,hv⟩:=Yn hmv;have:=an3 hv;subst this;have eg:∀args w,(callFunc 187 args).run Tryz.prog w=.ok (.enter 187 args) w:=enters_of Tryz.func187 (by kernel_rfl) rfl;have fN:=AnyQ.slices_SortFunc abf 2 Tryz.isAgg288 Tryz.sizeOf288 Mw (fun _=>rfl) (fun x v hv=>by simp[Mw]at hv;rcases hv with rfl|rfl<;>rfl) (fun x y=>Lib.compareInt x.1 y.1) auG 187 #[] b 0 cap d.toArray w eg (My b 0 _ w) hH hblk (by simp;omega);change Calls Tryz.prog 186 _ _ _ at fN;refine fN.mono ?_;rintro e w' ⟨rfl,d',n,os,hP,hS,rfl⟩;obtain⟨p1,_,p3⟩:=hP;have hsz:d'.size=d.length:=by simpa using p1
  refine⟨rfl,d'.toList,n,os,Nm hsz,⟨?_,?_⟩,zd⟩
  ·have e1:d'.extract 0 d.toArray.size=d':=by rw[<- p1];simp
   rw[e1]at p3;simpa using p3
  rw[zzdr];intro i j hi hj eF;have di:i<d'.size:=by simpa using hi
  have Nt:j<d'.size:=by simpa using hj
  have:=hS i j (zzbp _) eF (by simp;omega);rw[agq]at this;simp only[getElem!_pos d' i di,getElem!_pos d' j Nt,decide_eq_false_iff_not,Int.not_lt]at this;simpa using this
 rintro d' hl ⟨h1,h2⟩;rw[G2,jT _ _ _ (by rw[Ye,Ye,hl])];exact hK d' h1 h2
def Ig(Y:YT)(rt:Rt)(m:AM)(K:So)(hK:K (.aS []) m):aB Tryz.prog aD Y 186 [.sl rt [],.fn 187 [] []] m K:=by
 refine aB.fM M9.bw fun N w0 an γ w vs hm hl hr=>?_
 match vs,hr with
 |[u,v],hr=>
  have h1:aA w γ (.sl rt []) u:=hr.2 0 _ _ rfl rfl;cases h1 with
  |@sl _ _ _ a cap b off sz cv _ _ _ _ _ _ _=>
   have fN:=AnyF.slices_SortFunc_none {abf with} a cap v w;change Calls Tryz.prog 186 _ _ _ at fN;refine fN.mono ?_;rintro e w' ⟨rfl,rfl⟩;exact⟨_,γ,_,m,rfl,(Ev.refl _ _).cG,hm,hl,yl,hK⟩
 |[],hr=>exact absurd hr.1 zd
 |[_],hr=>exact absurd hr.1 zd
 |_::_::_::_,hr=>exact absurd hr.1 zd
def encI(x:Int):PQ:=[.int .i64 x]
def iN(d:Array Int):flatK encI 1 d=d.map (Value.int .i64):=by
 refine Array.ext zd fun t h1 h2=>?_;have ht:t<d.size:=by simpa using h2
 have:=get_flatK encI 1 d t (Nm ht);rw[getElem!_pos _ t h1]at this;rw[this];have e2:d[t]! =d[t]:=getElem!_pos d t ht;simp[Nat.div_one,Nat.mod_one,encI,ht]
def sH(Y:YT)(d:Pi)(hd:d.length<=1000000000)(m:AM)(id:Nat)(post:P2)(hB:m.boxes[id]?=some (aj d++post))(aO:aj d++post≠[])(K:So)
  (hK:K (.aS []) (m.wr id (aj (d.mergeSort fun x y=>decide (x<=y))++post))):
  aB Tryz.prog aD Y 110 [.bs id 0 d.length 1] m K:=by
 have ajB:∀l:Pi,(l.map fun x=>[I x]).flatten=aj l:=by
  intro l;induction l with
  |nil=>rfl
  |cons x l ih=>simp[aj]at ih |-;exact ih
 refine BN (α:=Int) (d:=d) (more:=[]) (sz:=1) (off:=0) MK.bw encI (fun x=>[I x]) (fun _=>rfl) (fun _ _ x=>.cons (.int _ _) .nil) (fun w γ x vs h=>?_) (fun x v hv=>by simp[encI]at hv;subst hv;rfl) hB aO
  ⟨[],post,by rw[ajB];rfl,rfl⟩ (d2:=fun d'=>d'=d.mergeSort fun x y=>decide (x<=y)) ?_ ?_
 ·obtain⟨v,rfl,hv⟩:=Yn h;cases hv;rfl
 ·intro w b cap mv γ hmv hH hblk;have:mv=[]:=zzc.1 hmv.1.symm;subst this
  have hH':Holds (Value.int .i64) w b 0 d.toArray:=by
   intro j hj;unfold HoldsK at hH;rw[iN]at hH;have:=hH j (Nm hj);have Nt:j<d.length:=by simpa using hj
   simpa[Nt]using this
  have fN:=AnyM.slices_Sort_int sortInt b 0 cap d w hH' hblk zE;change Calls Tryz.prog 110 _ _ _ at fN;refine fN.mono ?_;rintro e w' ⟨rfl,n,os,rfl⟩;refine⟨rfl,_,n,os,zd,rfl,?_⟩;unfold sortWorldK putRowK;rw[iN];congr 1;unfold putRow;refine mapBlock_congr _ _ _ _ fun c e fr _=>?_;unfold putCells;apply zzgd;intro k;simp only[zzhh,Array.size_map];cases c[k]? with
  |none=>rfl
  |some x=>
   simp only[zzct];congr 1;by_cases hc:0<=k/\k<0+(d.mergeSort fun x y=>decide (x<=y)).toArray.size
   ·rw[if_pos hc,if_pos hc];have hk:k<(d.mergeSort fun x y=>decide (x<=y)).toArray.size:=zE
    have Co:k<((d.mergeSort fun x y=>decide (x<=y)).toArray.map (Value.int .i64)).size:=by simpa using hk
    simp only[zzer];rw[getElem!_pos _ k hk,getElem!_pos _ k Co];simp
   rw[if_neg hc,if_neg hc]
 rintro d' hl rfl;rw[ajB,jT _ _ _ (by simp[aj])];exact hK
def pI(Y:YT)(rt:Rt)(m:AM)(K:So)(hK:K (.aS []) m):aB Tryz.prog aD Y 110 [.sl rt []] m K:=by
 refine aB.fM MK.bw fun N w0 an γ w vs hm hl hr=>?_;obtain⟨u,rfl,h1⟩:=Yn hr;cases h1 with
 |@sl _ _ _ a cap b off sz cv _ _ _ _ _ _ _=>
  have fN:=AnyM.slices_Sort_int_none sortInt a cap w;change Calls Tryz.prog 110 _ _ _ at fN;refine fN.mono ?_;rintro e w' ⟨rfl,rfl⟩;exact⟨_,γ,_,m,rfl,(Ev.refl _ _).cG,hm,hl,yl,hK⟩
