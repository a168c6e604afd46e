import Derived.Shelf.SortM.SortNone
import Derived.Shelf.SortM.Plain
import Derived.Test.YthjppoincojfkaaGreatDoorRSTcA
import Derived.Shelf.SlicesG.Cmp
import Derived.Shelf.SlSortCmp.NoneTotal
set_option linter.all false
set_option maxRecDepth 100000
set_option maxHeartbeats 64000000
namespace Go.Abs
open Go Go.RowKit Go.Sort Go.Proofs
def qi:∀(vs:PQ)(o:Nat)(arr:P1)(k:Nat),o+vs.length<=arr.size->k<arr.size->(tK arr o vs)[k]?=if o<=k/\k<o+vs.length then vs[k-o]? else arr[k]?
 |[],o,arr,k,_,_=>by rw[tK,if_neg];simp
 |v::vs,o,arr,k,h,hk=>by
  simp only[zzaz]at h;rw[tK,qi vs (o+1) _ k (by simp;omega) (Nm hk)];by_cases h1:o+1<=k/\k<o+1+vs.length
  ·rw[if_pos h1,if_pos (by simp;omega)];obtain⟨u,rfl⟩:∃u,k=o+1+u:=⟨k-(o+1),zE⟩;rw[show o+1+u-o=u+1 by omega,zzcf];congr 1;omega
  rw[if_neg h1];by_cases h2:k=o
  ·subst h2;rw[if_pos zd];simp[zzer,hk]
  rw[if_neg (by simp;omega)];simp[zzer,Ne.symm h2]
def D6{α:Type}[Inhabited α](enc:α->Value)(w:World)(b off:Nat)(d:Array α){arr:P1}{e:TypeId}{f:Nat×Nat}(h:w.heap[b]?=some (.cells arr e f))(hs:off+d.size<=arr.size):
  (putRow enc w b off d).heap=(w.setCells b off (d.toList.map enc)).heap:=by
 apply zzgb;intro k;by_cases hk:k=b
 ·subst hk;rw[Xd k _ off w arr e f h]
  have e1:(putRow enc w k off d).heap[k]?=some (.cells (putCells enc off d arr) e f):=by
   simp[putRow,mapBlock,zzdq,h,onCells]
  rw[e1];congr 2;apply zzgb;intro j;by_cases hj:j<arr.size
  ·rw[qi _ off arr j (Nm hs) hj];simp only[putCells,zzhe,zzbv,zzbi];by_cases hc:off<=j/\j<off+d.size
   ·rw[if_pos hc,zzah hj];have ah:j-off<d.size:=zE
    simp[hc,ah]
   rw[if_neg hc,zzah hj];simp[hc]
  have s1:(putCells enc off d arr).size=arr.size:=by simp[putCells]
  have s2:=Zz (d.toList.map enc) arr off;rw[zzbo zE,zzbo zE]
 rw[Qz b _ off w k hk];simp[putRow,mapBlock,zzdq,Ne.symm hk]
section
variable {N:Nat} {w0:eR} {an:Nat->Nat->Prop} {γ:G} {w:World}
def aaX{m:AM}(hm:au N w0 an γ w m.B m.L)(hl:cS γ w m){id b:Nat}{cells:P2}(hB:m.boxes[id]?=some cells)(aO:cells≠[])(hb:γ.β id=some b){o:Nat}{xs:P2}{vs:PQ}
  (ha:ak w γ xs vs)(h1v:∀v∈vs,v.oneCell'=true){w':World}(agc:Below (w.setCells b o vs).heap.size (w.setCells b o vs) w'):
  ∃γ',eD w γ w' γ'/\au N w0 an γ' w' (m.wr id (setA cells o xs)).B (m.wr id (setA cells o xs)).L/\cS γ' w' (m.wr id (setA cells o xs)):=by
 obtain⟨arr,e,hh,hr,Iu⟩:=hm.box id cells b hB hb;have h1:=hm.store hB hb hh hr Iu (o:=o) ha h1v aO;have e1:=hm.cw hb o vs;have e2:=h1.dx agc;have ev:=e1.trans e2;refine⟨_,ev.cH,?_,hl.mono' ev rfl⟩;have h2:=h1.grow agc;rw[axN m id _ hB];exact h2
end
def BR{α:Type}[Inhabited α]{P:Program}{gl:Nat->AV}{Y:YT}{f:FuncId}(hc:bz P f)(enc:α->PQ)(fq:α->P2)(sz:Nat)(hsz:∀x,(enc x).length=sz)
  (hA:∀(w:World)(γ:G)x,ak w γ (fq x) (enc x))(ayD:∀(w:World)(γ:G)x vs,ak w γ (fq x) vs->vs=enc x)(h1:∀x,∀v∈enc x,v.oneCell'=true)
  {m:AM}{id off:Nat}{d:List α}{more:P2}{cells:P2}(hB:m.boxes[id]?=some cells)(aO:cells≠[])(anD:∃pre post,cells=pre++(d.map fq).flatten++post/\pre.length=off){d2:List α->Prop}{K:So}
  (
   WC:∀(w:World)(b cap:Nat)(mv:PQ)(γ:G),ak w γ more mv->HoldsK enc sz w b off d.toArray->b<w.heap.size->Calls P f (Value.slice (some ⟨b,off,none⟩) d.length cap::mv).toArray w fun e w'=>
   e=.returned (.tuple #[])/\∃(d':List α)(n:Nat)(os:Array Obj),d'.length=d.length/\d2 d'/\w'=sortWorldK enc sz w b off n d'.toArray os)
  (hK:∀d':List α,d'.length=d.length->d2 d'->K (.aS []) (m.wr id (setA cells off ((d'.map fq).flatten)))):
  aB P gl Y f (.bs id off d.length sz::more) m K:=by
 refine aB.fQ hc fun N w0 an γ w vs hm hl hr=>?_
 match vs,hr with
 |[],hr=>exact absurd hr.1 zd
 |v::mv,hr=>
 have hv:aA w γ (.bs id off d.length sz) v:=hr.2 0 _ _ rfl rfl;have hmv:ak w γ more mv:=⟨by have:=hr.1;simpa using this,fun i x y h1 h2=>hr.2 (i+1) x y (Nm h1) (Nm h2)⟩;cases hv with
 |@bs _ _ _ _ _ cap b arr e hb cE hh hs=>
 obtain⟨bN,e',hh',hrp,Iu⟩:=hm.box id cells b hB hb;rw[hh]at hh';cases hh';have hblk:b<w.heap.size:=aR hh;obtain⟨pre,post,rfl,rfl⟩:=anD;have anE:∀x,(fq x).length=sz:=fun x=>by rw[(hA w γ x).1,hsz]
 have ayE:∀(l:List α),((l.map fq).flatten).length=l.length*sz:=by
  intro l;induction l with
  |nil=>simp
  |cons x l ih=>simp[ih,anE,zzbr];omega
 have cn:∀i(hi:i<d.length),∀c,c<sz->arr[pre.length+i*sz+c]?=some ((enc d[i])[c]?.getD undef):=by
  intro i hi c hcz
  have anb:ak w γ (fq d[i]) ((arr.toList.drop (pre.length+i*sz)).take sz):=by
   have fu:((pre++(d.map fq).flatten++post).drop (pre.length+i*sz)).take sz=fq d[i]:=by
    have hd:d=d.take i++d[i]::d.drop (i+1):=zd
    have:(d.map fq).flatten=((d.take i).map fq).flatten++(fq d[i]++((d.drop (i+1)).map fq).flatten):=by
     conv=>lhs;rw[hd]
     simp only[zzci,zzas,zzek,zzcj]
    rw[this];rw[show pre++(((d.take i).map fq).flatten++(fq d[i]++((d.drop (i+1)).map fq).flatten))++post=(pre++((d.take i).map fq).flatten)++(fq d[i]++(((d.drop (i+1)).map fq).flatten++post)) by simp[zzbf]]
    have gP:(pre++((d.take i).map fq).flatten).length=pre.length+i*sz:=by
     rw[zzak,ayE,zzaq];congr 2;omega
    rw[<- gP,zzfz,<- anE d[i],List.take_left]
   refine⟨?_,fun j x y hx hy=>?_⟩
   ·rw[anE]
    have h3:pre.length+d.length*sz<=arr.size:=by
     have:=zzbd sz cE;omega
    have h4:(i+1)*sz<=d.length*sz:=zzbd sz zE;rw[zzbr,zzdu]at h4;simp;omega
   rw[<- fu]at hx;rw[zzbj]at hx hy;split at hx
   ·rw[if_pos (by assumption)]at hy;rw[zzbl]at hx hy;exact hrp.2 _ x y hx hy
   cases hx
  have h5:=ayD w γ _ _ anb;have h6:((arr.toList.drop (pre.length+i*sz)).take sz)[c]?=(enc d[i])[c]?:=by rw[h5]
  rw[zzbj,if_pos hcz,zzbl]at h6;have h7:(enc d[i])[c]?=some ((enc d[i])[c]'(by rw[hsz];exact hcz)):=zzaf _;rw[h7]at h6 |-
  simpa using h6
 have hH:HoldsK enc sz w b pre.length d.toArray:=by
  intro t ht;rw[size_flatK]at ht;simp only[zzep]at ht
  have k0:0<sz:=by
   rcases zzck sz with h|h;· rw[h]at ht;omega
   · exact h
  have hq:t/sz<d.length:=Nat.div_lt_of_lt_mul (by rw[zzef];exact ht);have mW:t%sz<sz:=zzed _ k0;rw[get_flatK enc sz _ t (Nm ht)];refine⟨?_,Zp hh⟩;rw[aM hh];have:=cn (t/sz) hq (t%sz) mW;rw[show pre.length+t/sz*sz+t%sz=pre.length+t by have:=zzgr t sz;rw[zzef]at this;omega]at this;rw[this];have h8:d.toArray[t/sz]! =d[t/sz]:=by simp[hq]
  rw[h8];have h9:t%sz<(enc d[t/sz]).length:=by rw[hsz];exact mW
  simp[h9]
 refine(WC w b cap mv γ hmv hH hblk).mono ?_;rintro e1 w' ⟨rfl,d',n,os,zC,hp,rfl⟩
 have hA':ak w γ ((d'.map fq).flatten) ((d'.map enc).flatten):=by
  clear hp zC;induction d' with
  |nil=>simpa using ak.nil
  |cons x l ih=>simpa using(hA w γ x).append ih
 have mV:∀v∈(d'.map enc).flatten,v.oneCell'=true:=by
  intro v hv;simp only[List.mem_flatten,zzav]at hv;obtain⟨l,⟨x,_,rfl⟩,hv⟩:=hv;exact h1 x v hv
 have PJ:(flatK enc sz d'.toArray).toList=(d'.map enc).flatten:=by
  have ajp:∀(l:List α),((l.map enc).flatten).length=l.length*sz:=by
   intro l;induction l with
   |nil=>simp
   |cons x l ih=>simp[ih,hsz,zzbr];omega
  apply zzdb;intro t;by_cases ht:t<d'.length*sz
  ·have k0:0<sz:=by
    rcases zzck sz with h|h;· rw[h]at ht;omega
    · exact h
   have hq:t/sz<d'.length:=Nat.div_lt_of_lt_mul (by rw[zzef];exact ht);have mW:t%sz<sz:=zzed _ k0
   have e2:(flatK enc sz d'.toArray).toList[t]?=some ((flatK enc sz d'.toArray)[t]!):=by
    have:t<(flatK enc sz d'.toArray).size:=by rw[size_flatK];simpa using ht
    rw[zzcb,zzah this,getElem!_pos (flatK enc sz d'.toArray) t this]
   rw[e2,get_flatK enc sz _ t (Nm ht)];have h8:d'.toArray[t/sz]! =d'[t/sz]:=by simp[hq]
   rw[h8];have hd:d'=d'.take (t/sz)++d'[t/sz]::d'.drop (t/sz+1):=zd
   have e3:(d'.map enc).flatten=((d'.take (t/sz)).map enc).flatten++(enc d'[t/sz]++((d'.drop (t/sz+1)).map enc).flatten):=by
    conv=>lhs;rw[hd]
    simp only[zzci,zzas,zzek,zzcj]
   have gP:(((d'.take (t/sz)).map enc).flatten).length=t/sz*sz:=by rw[ajp,zzaq];congr 1;omega
   have e4:t=(((d'.take (t/sz)).map enc).flatten).length+t%sz:=by
    rw[gP];have:=zzgr t sz;rw[zzef]at this;omega
   have h9:t%sz<(enc d'[t/sz]).length:=by rw[hsz];exact mW
   rw[e3,zzap zE,zzaj (by rw[hsz];omega)];rw[show t-(((d'.take (t/sz)).map enc).flatten).length=t%sz by omega];simp[h9]
  rw[zzat (by simp;omega),zzat (by rw[ajp];omega)]
 have fc:pre.length+d'.length*sz<=arr.size:=by
  have:=zzbd sz cE;rw[zC];omega
 have ajq:(sortWorldK enc sz w b pre.length n d'.toArray os).heap=(w.setCells b pre.length ((d'.map enc).flatten)).heap++os:=by
  have:=D6 _root_.id (Sort.ahead w n) b pre.length (flatK enc sz d'.toArray) (arr:=arr) (e:=e) (f:=(0,0)) hh (by rw[size_flatK];simpa using fc);show(putRow _root_.id (Sort.ahead w n) b pre.length (flatK enc sz d'.toArray)).heap++os=_;rw[this,List.map_id_fun,id_eq,PJ];congr 1
  have ux:∀(vs:PQ)(o:Nat)(w1 w2:World),w1.heap=w2.heap->(w1.setCells b o vs).heap=(w2.setCells b o vs).heap:=by
   intro vs;induction vs with
   |nil=>intro o w1 w2 h;exact h
   |cons v vs ih=>intro o w1 w2 h;exact ih (o+1) _ _ (by simp[World.setCell,h])
  exact ux _ _ _ _ rfl
 have agc:Below (w.setCells b pre.length ((d'.map enc).flatten)).heap.size (w.setCells b pre.length ((d'.map enc).flatten)) (sortWorldK enc sz w b pre.length n d'.toArray os):=by
  have dz:=Xu b (zzab b) ((d'.map enc).flatten) pre.length w;refine⟨?_,?_,?_,by rw[ajq];simp,fun k hk=>?_⟩
  ·rw[dz.os];rfl
  ·rw[dz.tape];rfl
  ·rw[dz.output];rfl
  rw[ajq,zzf hk]
 obtain⟨γ',h3,h4,h5⟩:=aaX hm hl hB aO hb (o:=pre.length) hA' mV agc;exact⟨_,γ',.aS [],_,rfl,h3,h4,h5,yy,hK d' zC hp⟩
end Go.Abs
namespace Go.Proofs.YthjppoincojfkaaGreatDoor
abbrev Sp:=Int×Int
def Xr(l:List Sp)(x:Int):Prop:=∃s∈l,s.1<=x/\x<s.2
def VS(l:List Sp):Prop:=(∀s∈l,s.1<s.2)/\l.Pairwise fun a b=>a.2<b.1
@[simp] def Yn(x:Int):Xr [] x<->False:=by simp[Xr]
@[simp] def Xf(s:Sp)(l:List Sp)(x:Int):Xr (s::l) x<->(s.1<=x/\x<s.2)\/Xr l x:=by simp[Xr]
@[simp] def Yq(a b:List Sp)(x:Int):Xr (a++b) x<->Xr a x\/Xr b x:=by
 simp only[Xr,zzao,or_and_right,exists_or]
def Sf{a b:List Sp}(h:a.Perm b)(x:Int):Xr a x<->Xr b x:=by simp only[Xr,h.mem_iff]
def rU:VS []:=⟨fun _ h=>(by cases h),.nil⟩
def cV{s:Sp}{l:List Sp}:VS (s::l)<->s.1<s.2/\(∀t∈l,s.2<t.1)/\VS l:=by
 simp only[VS,zzam,forall_eq_or_imp,zzcd];constructor
 ·rintro⟨⟨h1,h2⟩,h3,h4⟩;exact⟨h1,h3,h2,h4⟩
 rintro⟨h1,h3,h2,h4⟩;exact⟨⟨h1,h2⟩,h3,h4⟩
def D7{s:Sp}{l:List Sp}:VS (l++[s])<->VS l/\s.1<s.2/\∀t∈l,t.2<s.1:=by
 simp only[VS,zzao,zzcg,List.pairwise_append,List.pairwise_singleton,true_and];constructor
 ·rintro⟨h1,h2,h3⟩;exact⟨⟨fun t ht=>h1 t (.inl ht),h2⟩,h1 s (.inr rfl),fun t ht=>h3 t ht s rfl⟩
 rintro⟨⟨h1,h2⟩,h3,h4⟩;refine⟨?_,h2,?_⟩
 ·rintro t (ht|rfl)
  ·exact h1 t ht
  exact h3
 rintro t ht u rfl;exact h4 t ht
def rV:∀{a b:List Sp},VS a->VS b->(∀x,Xr a x<->Xr b x)->a=b
 |[],[],_,_,_=>rfl
 |[],t::b,_,hb,h=>by
  have:=(h t.1).2 (by rw[Xf];exact .inl ⟨zzby _,(cV.1 hb).1⟩);simp at this
 |s::a,[],ha,_,h=>by
  have:=(h s.1).1 (by rw[Xf];exact .inl ⟨zzby _,(cV.1 ha).1⟩);simp at this
 |s::a,t::b,ha,hb,h=>by
  obtain⟨s1,s2,s3⟩:=cV.1 ha;obtain⟨t1,t2,t3⟩:=cV.1 hb
  have key:∀{u v:Sp}{p q:List Sp},u.1<u.2->v.1<v.2->(∀w∈q,v.2<w.1)->(∀x,Xr (u::p) x->Xr (v::q) x)->v.1<=u.1:=by
   intro u v p q h1 mV h2 h3;obtain⟨w,hw,h4,h5⟩:=h3 u.1 (by rw[Xf];exact .inl ⟨zzby _,h1⟩);rcases zzam.1 hw with rfl|hw
   ·exact h4
   have:=h2 w hw;omega
  have e1:s.1=t.1:=Int.le_antisymm (key t1 s1 s2 fun x hx=>(h x).2 hx) (key s1 t1 t2 fun x hx=>(h x).1 hx)
  have YA:∀{u v:Sp}{p q:List Sp},u.1<u.2->u.1=v.1->(∀w∈p,u.2<w.1)->(∀x,Xr (v::q) x->Xr (u::p) x)->¬u.2<v.2:=by
   intro u v p q h1 h2 h3 h4 h5;obtain⟨w,hw,h6,h7⟩:=h4 u.2 (by rw[Xf];exact .inl ⟨zE,h5⟩);rcases zzam.1 hw with rfl|hw
   ·omega
   have:=h3 w hw;omega
  have e2:s.2=t.2:=by
   have k1:=YA s1 e1 s2 fun x hx=>(h x).2 hx;have k2:=YA t1 e1.symm t2 fun x hx=>(h x).1 hx;omega
  have e:s=t:=Prod.ext e1 e2;subst e;congr 1;refine rV s3 t3 fun x=>?_
  have out:∀{p:List Sp},(∀w∈p,s.2<w.1)->Xr p x->¬(s.1<=x/\x<s.2):=by
   rintro p hp ⟨w,hw,h1,_⟩ ⟨_,h2⟩;have:=hp w hw;omega
  have hx:=h x;rw[Xf,Xf]at hx;constructor
  ·intro h1;exact(hx.1 (.inr h1)).resolve_left (out s2 h1)
  intro h1;exact(hx.2 (.inr h1)).resolve_left (out t2 h1)
def Sg(out:List Sp)(v:Sp):List Sp:=match out.getLast? with
 |none=>[v]
 |some u=>if v.1<=u.2 then out.dropLast++[(u.1,max u.2 v.2)]else out++[v]
def H7:List Sp->List Sp->List Sp
 |out,[]=>out
 |out,v::r=>H7 (Sg out v) r
def anF{out:List Sp}{v:Sp}(ho:VS out)(hv:v.1<v.2)(hl:∀u∈out,u.1<=v.1):
  VS (Sg out v)/\(∀x,Xr (Sg out v) x<->Xr (out++[v]) x)/\∀u∈Sg out v,u.1<=v.1:=by
 unfold Sg;cases h:out.getLast? with
 |none=>
  have:out=[]:=List.getLast?_eq_none_iff.1 h;subst this;exact⟨cV.2 ⟨hv,zd,rU⟩,zd,zd⟩
 |some u=>
  obtain⟨p,rfl⟩:∃p,out=p++[u]:=zzfb.1 h;obtain⟨h1,h2,h3⟩:=D7.1 ho;have hu:=hl u zd;by_cases hc:v.1<=u.2
  ·simp only[if_pos hc,zzfq];refine⟨D7.2 ⟨h1,?_,h3⟩,fun x=>?_,?_⟩
   ·show u.1<max u.2 v.2;omega
   ·simp only[Yq,Xf,Yn,or_false];constructor
    ·rintro(h|h)
     ·exact .inl (.inl h)
     by_cases hx:x<u.2
     ·exact .inl (.inr ⟨h.1,hx⟩)
     exact .inr ⟨zE,zE⟩
    rintro((h|h)|h)
    ·exact .inl h
    ·exact .inr ⟨h.1,zE⟩
    exact .inr ⟨zE,zE⟩
   intro w hw;rcases zzao.1 hw with hw|hw
   ·exact hl w (by simp[hw])
   simp at hw;subst hw;exact hu
  simp only[if_neg hc];refine⟨D7.2 ⟨ho,hv,fun t ht=>?_⟩,fun x=>by simp only[],?_⟩
  ·rcases zzao.1 ht with ht|ht
   ·have:=h3 t ht;omega
   simp at ht;subst ht;omega
  intro w hw;rcases zzao.1 hw with hw|hw
  ·exact hl w hw
  simp at hw;subst hw;exact zzby _
def aaY:∀{r out:List Sp},VS out->(∀v∈r,v.1<v.2)->r.Pairwise (fun a b=>a.1<=b.1)->(∀u∈out,∀v∈r,u.1<=v.1)->
  VS (H7 out r)/\∀x,Xr (H7 out r) x<->Xr (out++r) x
 |[],out,h,_,_,_=>⟨h,fun x=>by simp[H7]⟩
 |v::r,out,h,hn,hp,hl=>by
  obtain⟨h1,h2,h3⟩:=anF h (hn v zd) fun u hu=>hl u hu v zd;obtain⟨p1,p2⟩:=zzcd.1 hp;obtain⟨h4,h5⟩:=aaY (r:=r) h1 (fun w hw=>hn w (by simp[hw])) p2 fun u hu w hw=>zzhi (h3 u hu) (p1 w hw);refine⟨h4,fun x=>?_⟩;rw[H7,h5,Yq,h2];simp only[Yq,Xf,Yn,or_false,or_assoc]
def mM(s:Sp):Bool:=decide (s.1<s.2)
def Xk(l:List Sp):List Sp:=H7 [] ((l.filter mM).mergeSort fun a b=>decide (a.1<=b.1))
def Mg(l:List Sp)(x:Int):Xr (l.filter mM) x<->Xr l x:=by
 simp only[Xr,zzca,mM,decide_eq_true_eq];constructor
 ·rintro⟨s,⟨h1,_⟩,h2⟩;exact⟨s,h1,h2⟩
 rintro⟨s,h1,h2⟩;exact⟨s,⟨h1,zE⟩,h2⟩
def oe{l d:List Sp}(hp:d.Perm (l.filter mM))(hs:d.Pairwise fun a b=>a.1<=b.1):VS (H7 [] d)/\∀x,Xr (H7 [] d) x<->Xr l x:=by
 obtain⟨h1,h2⟩:=aaY (r:=d) rU (fun v hv=>by have:=hp.mem_iff.1 hv;simp[mM]at this;exact this.2) hs zd;exact⟨h1,fun x=>by rw[h2,zzai,Sf hp,Mg]⟩
def Zx(l:List Sp):VS (Xk l)/\∀x,Xr (Xk l) x<->Xr l x:=by
 refine oe (zzfx _ _) ?_;have:=zzfi (le:=fun a b:Sp=>decide (a.1<=b.1)) (fun a b c h1 h2=>by simp at*;omega) (fun a b=>by simp;omega) (l.filter mM);exact this.imp zd
def anG{l d:List Sp}(hp:d.Perm (l.filter mM))(hs:d.Pairwise fun a b=>a.1<=b.1):H7 [] d=Xk l:=
 rV (oe hp hs).1 (Zx l).1 fun x=>by rw[(oe hp hs).2,(Zx l).2]
def aaZ{l:List Sp}(h:VS l):Xk l=l:=rV (Zx l).1 h (Zx l).2
def anH{P:Int->Prop}{out:List Sp}{v:Sp}(ho:∀u∈out,P u.1/\P u.2)(hv:P v.1/\P v.2):∀u∈Sg out v,P u.1/\P u.2:=by
 unfold Sg;cases h:out.getLast? with
 |none=>intro u hu;simp at hu;subst hu;exact hv
 |some w=>
  obtain⟨p,rfl⟩:∃p,out=p++[w]:=zzfb.1 h;have hw:=ho w zd;by_cases hc:v.1<=w.2
  ·simp only[if_pos hc,zzfq];intro u hu;rcases zzao.1 hu with hu|hu
   ·exact ho u (by simp[hu])
   simp at hu;subst hu;refine⟨hw.1,?_⟩;show P (max w.2 v.2);rcases Int.le_total w.2 v.2 with h|h
   ·rw[Int.max_eq_right h];exact hv.2
   rw[Int.max_eq_left h];exact hw.2
  simp only[if_neg hc];intro u hu;rcases zzao.1 hu with hu|hu
  ·exact ho u hu
  simp at hu;subst hu;exact hv
def aa0{P:Int->Prop}:∀{r out:List Sp},(∀u∈out,P u.1/\P u.2)->(∀u∈r,P u.1/\P u.2)->∀u∈H7 out r,P u.1/\P u.2
 |[],_,h,_=>h
 |v::r,out,h,hr=>aa0 (r:=r) (anH h (hr v zd)) fun u hu=>hr u (by simp[hu])
def YN{P:Int->Prop}{l:List Sp}(h:∀u∈l,P u.1/\P u.2):∀u∈Xk l,P u.1/\P u.2:=
 aa0 zd fun u hu=>h u (by
  have:=(zzfx (l.filter mM) fun a b=>decide (a.1<=b.1)).mem_iff.1 hu;exact(zzca.1 this).1)
def Mh(out:List Sp)(v:Sp):(Sg out v).length<=out.length+1:=by
 unfold Sg;cases h:out.getLast? with
 |none=>simp
 |some w=>
  have:out≠[]:=by rintro rfl;simp at h
  have:=zzdh.2 this;dsimp only;split<;>simp<;>omega
def y8:∀(r out:List Sp),(H7 out r).length<=out.length+r.length
 |[],out=>by simp[H7]
 |v::r,out=>by
  have h1:=y8 r (Sg out v);have h2:=Mh out v;rw[H7];simp;omega
def Yu(l:List Sp):(Xk l).length<=l.length:=by
 have h1:=y8 ((l.filter mM).mergeSort fun a b=>decide (a.1<=b.1)) [];have h2:=zzcc mM l;rw[zzeu]at h1;simp at h1;unfold Xk;omega
def um:Nat->List Sp->List Sp->List Sp
 |0,_,_=>[]
 |_,[],_=>[]
 |_,_,[]=>[]
 |n+1,s::a,t::b=>
  (if max s.1 t.1<min s.2 t.2 then[(max s.1 t.1,min s.2 t.2)]else[])++(if s.2<t.2 then um n a (t::b)else um n (s::a) b)
def Mi:∀(n:Nat){a b:List Sp},a.length+b.length<=n->VS a->VS b->VS (um n a b)/\(∀x,Xr (um n a b) x<->Xr a x/\Xr b x)/\
  ∀u∈um n a b,(∃s∈a,s.1<=u.1)/\∃t∈b,t.1<=u.1
 |0,a,b,h,_,_=>by
  have h1:a=[]:=zzbx.1 zE;subst h1;exact⟨rU,fun x=>by simp[um],by simp[um]⟩
 |n+1,[],b,h,_,_=>⟨by simpa[um]using rU,fun x=>by simp[um],by simp[um]⟩
 |n+1,s::a,[],h,_,_=>⟨by simpa[um]using rU,fun x=>by simp[um],by simp[um]⟩
 |n+1,s::a,t::b,h,ha,hb=>by
  obtain⟨s1,s2,s3⟩:=cV.1 ha;obtain⟨t1,t2,t3⟩:=cV.1 hb;simp only[zzaz]at h
  have mem:∀{p:List Sp}{u:Sp}{x:Int},(∀w∈p,u.2<w.1)->x<=u.2->¬Xr p x:=by
   rintro p u x hp hx ⟨w,hw,h1,_⟩;have:=hp w hw;omega
  rw[um];by_cases hc:s.2<t.2
  ·rw[if_pos hc];obtain⟨h1,h2,h3⟩:=Mi n (a:=a) (b:=t::b) (by simp;omega) s3 hb
   have hx:∀x,Xr (if max s.1 t.1<min s.2 t.2 then[(max s.1 t.1,min s.2 t.2)]else[]) x<->(s.1<=x/\x<s.2)/\Xr (t::b) x:=by
    intro x;rw[Xf];by_cases hi:max s.1 t.1<min s.2 t.2
    ·rw[if_pos hi];simp only[Xf,Yn,or_false];constructor
     ·rintro⟨h1,h2⟩;exact⟨⟨zE,zE⟩,.inl ⟨zE,zE⟩⟩
     rintro⟨h1,h2|h2⟩
     ·exact⟨zE,zE⟩
     exact absurd h2 (mem (u:=t) t2 zE)
    rw[if_neg hi];simp only[Yn,false_iff];rintro⟨h1,h2|h2⟩
    ·omega
    exact absurd h2 (mem (u:=t) t2 zE)
   refine⟨?_,fun x=>?_,?_⟩
   ·by_cases hi:max s.1 t.1<min s.2 t.2
    ·rw[if_pos hi,zzev];refine cV.2 ⟨hi,fun u hu=>?_,h1⟩;obtain⟨⟨w,hw,hwu⟩,_⟩:=h3 u hu;have:=s2 w hw;show min s.2 t.2<u.1;omega
    rw[if_neg hi];exact h1
   ·rw[Yq,hx,h2,Xf s];constructor
    ·rintro(⟨h1,h2⟩|⟨h1,h2⟩)
     ·exact⟨.inl h1,h2⟩
     exact⟨.inr h1,h2⟩
    rintro⟨h1|h1,h2⟩
    ·exact .inl ⟨h1,h2⟩
    exact .inr ⟨h1,h2⟩
   intro u hu;rcases zzao.1 hu with hu|hu
   ·split at hu
    ·simp at hu;subst hu;exact⟨⟨s,zd,by show s.1<=max s.1 t.1;omega⟩,⟨t,zd,by show t.1<=max s.1 t.1;omega⟩⟩
    cases hu
   obtain⟨⟨w,hw,hwu⟩,cM⟩:=h3 u hu;exact⟨⟨w,by simp[hw],hwu⟩,cM⟩
  rw[if_neg hc];obtain⟨h1,h2,h3⟩:=Mi n (a:=s::a) (b:=b) (by simp;omega) ha t3
  have hx:∀x,Xr (if max s.1 t.1<min s.2 t.2 then[(max s.1 t.1,min s.2 t.2)]else[]) x<->Xr (s::a) x/\(t.1<=x/\x<t.2):=by
   intro x;rw[Xf];by_cases hi:max s.1 t.1<min s.2 t.2
   ·rw[if_pos hi];simp only[Xf,Yn,or_false];constructor
    ·rintro⟨h1,h2⟩;exact⟨.inl ⟨zE,zE⟩,⟨zE,zE⟩⟩
    rintro⟨h2|h2,h1⟩
    ·exact⟨zE,zE⟩
    exact absurd h2 (mem (u:=s) s2 zE)
   rw[if_neg hi];simp only[Yn,false_iff];rintro⟨h2|h2,h1⟩
   ·omega
   exact absurd h2 (mem (u:=s) s2 zE)
  refine⟨?_,fun x=>?_,?_⟩
  ·by_cases hi:max s.1 t.1<min s.2 t.2
   ·rw[if_pos hi,zzev];refine cV.2 ⟨hi,fun u hu=>?_,h1⟩;obtain⟨_,⟨w,hw,hwu⟩⟩:=h3 u hu;have:=t2 w hw;show min s.2 t.2<u.1;omega
   rw[if_neg hi];exact h1
  ·rw[Yq,hx,h2,Xf t];constructor
   ·rintro(⟨h1,h2⟩|⟨h1,h2⟩)
    ·exact⟨h1,.inl h2⟩
    exact⟨h1,.inr h2⟩
   rintro⟨h1,h2|h2⟩
   ·exact .inl ⟨h1,h2⟩
   exact .inr ⟨h1,h2⟩
  intro u hu;rcases zzao.1 hu with hu|hu
  ·split at hu
   ·simp at hu;subst hu;exact⟨⟨s,zd,by show s.1<=max s.1 t.1;omega⟩,⟨t,zd,by show t.1<=max s.1 t.1;omega⟩⟩
   cases hu
  obtain⟨ha',⟨w,hw,hwu⟩⟩:=h3 u hu;exact⟨ha',⟨w,by simp[hw],hwu⟩⟩
def zY(a b:List Sp):List Sp:=um ((Xk a).length+(Xk b).length) (Xk a) (Xk b)
def kQ(a b:List Sp):VS (zY a b)/\∀x,Xr (zY a b) x<->Xr a x/\Xr b x:=by
 obtain⟨h1,h2,_⟩:=Mi _ (zzab _) (Zx a).1 (Zx b).1;exact⟨h1,fun x=>by rw[zY,h2,(Zx a).2,(Zx b).2]⟩
def D8(f t:Int):List Sp:=if f<t then[(f,t)]else[]
def ku:Int->Int->List Sp->List Sp×List Sp
 |f,t,[]=>(D8 f t,[])
 |f,t,h::r=>if h.1<t then(if t<=max f h.2 then(D8 f h.1,h::r)else(D8 f h.1++(ku (max f h.2) t r).1,(ku (max f h.2) t r).2))else(D8 f t,h::r)
def uo:List Sp->List Sp->List Sp
 |[],_=>[]
 |s::a,hs=>(ku s.1 s.2 hs).1++uo a (ku s.1 s.2 hs).2
def Dc(a b:List Sp):List Sp:=uo (Xk a) (Xk b)
def qj(f t:Int):D8 f t=[]<->t<=f:=by unfold D8;split<;>simp<;>omega
def H8:∀{H:List Sp}{f t:Int},VS H->((ku f t H).1=[]<->∀x,f<=x->x<t->Xr H x)
 |[],f,t,_=>by
  simp only[ku,qj,Yn];constructor
  ·intro h x h1 h2;omega
  intro h;rcases zzex f t with hf|hf
  ·exact(h f (zzby _) hf).elim
  exact hf
 |h::r,f,t,hV=>by
  obtain⟨h1,h2,h3⟩:=cV.1 hV
  have mem:∀{x:Int},Xr r x->h.2<x:=by
   rintro x ⟨w,hw,h4,_⟩;have:=h2 w hw;omega
  rw[ku];by_cases hc:h.1<t
  ·rw[if_pos hc];by_cases hd:t<=max f h.2
   ·rw[if_pos hd];simp only[qj,Xf];constructor
    ·intro h5 x h6 h7;exact .inl ⟨zE,zE⟩
    intro h5;by_cases hf:f<t
    ·rcases h5 f (zzby _) hf with h6|h6
     ·exact h6.1
     have:=mem h6;omega
    omega
   rw[if_neg hd];simp only[zzgw,qj,H8 h3,Xf];constructor
   ·rintro⟨h5,h6⟩ x h7 h8;by_cases hx:x<h.2
    ·exact .inl ⟨zE,hx⟩
    exact .inr (h6 x zE h8)
   intro h5;refine⟨?_,fun x h6 h7=>?_⟩
   ·rcases h5 f (zzby _) zE with h6|h6
    ·exact h6.1
    have:=mem h6;omega
   exact(h5 x zE h7).resolve_left zE
  rw[if_neg hc];simp only[qj,Xf];constructor
  ·intro h5 x h6 h7;omega
  intro h5;rcases zzex f t with hf|hf
  ·rcases h5 f (zzby _) hf with h6|h6
   ·omega
   have:=mem h6;omega
  exact hf
def KX{s:Sp}(hs:s.1<s.2)(l:List Sp):Dc [s] l=[]<->∀x,s.1<=x->x<s.2->Xr l x:=by
 rw[Dc,aaZ (l:=[s]) (cV.2 ⟨hs,zd,rU⟩)];simp only[uo,zzar,H8 (Zx l).1,(Zx l).2]
end Go.Proofs.YthjppoincojfkaaGreatDoor
namespace Go.Proofs.YthjppoincojfkaaGreatDoor
open Go Go.Abs
def em(s:Sp):Bool:=decide (s.2<=s.1)
def H9(s:Sp):mM s=!em s:=by simp[mM,em,<- decide_not,Int.not_le]
def nL(s:Sp):Pure Tryz.prog aD 185 [.agg [I s.1,I s.2]] (.bool (em s)):=by
 refine Qp acW (fun _ _ _=>.junk) zd ?_;simp[ahp,ahq,em]
def BS:UV:=fun _ _ l=>match l with
 |[.agg [.int _ a,.int _ b]]=>.bool (decide (b<=a))
 |_=>.junk
def ql:List Sp->Nat->Int
 |[],_=> -1
 |s::r,i=>if em s=true then i else ql r (i+1)
def Ia:∀{l:List Sp}{i:Nat},ql l i= -1->l.filter mM=l
 |[],_,_=>rfl
 |s::r,i,h=>by
  simp only[ql]at h;split at h
  ·omega
  rename_i hn;have qq:mM s=true:=by rw[H9];simpa using hn
  simp[zzcx,qq,Ia h]
def Ib:∀{l:List Sp}{i:Nat},ql l i≠ -1->∃k:Nat,ql l i=((i+k:Nat):Int)/\k<l.length/\(l.take (k+1)).filter mM=l.take k
 |[],_,h=>absurd rfl h
 |s::r,i,h=>by
  simp only[ql]at h |-
  split
  ·rename_i hs;have qq:mM s=false:=by rw[H9,hs];rfl
   exact⟨0,rfl,zd,by simp[zzcx,qq]⟩
  rename_i hs;have qq:mM s=true:=by rw[H9];simpa using hs
  rw[if_neg hs]at h;obtain⟨k,h1,h2,h3⟩:=Ib h;exact⟨k+1,by rw[h1];congr 1;omega,Nm h2,by simp[zzcx,qq,h3]⟩
def qm(l:List Sp)(hl:l.length<=1000000000):Pure Tryz.prog aD 231 [.sl .ro (l.map Qe),.fn 185 [] []] (I (ql l 0)):=by
 refine Qp adq BS zd ?_;simp[ahP,ahQ];refine Qi Cm (fun s m=>∃i:Nat,s 8=I i/\i<=l.length/\ql (l.drop i) i=ql l 0/\m=⟨[],[],fun _=>.gone,0⟩) (fun s m=>l.length-(numOf (s 8)).toNat) ?_ ?_
 ·exact⟨0,zd,zE,zd,rfl⟩
 rintro f m ⟨i,h8,hi,hr,rfl⟩;rcases zzaa i l.length with ah|bq
 ·obtain⟨s,hs⟩:=aV ah;have ai:=Zw hs
  have ei:l.drop i=s::l.drop (i+1):=by
   rw[zzag ah,(zza.1 hs).2]
  have hw:=bO i zE;have aa:(i:Int)<(l.length:Int):=zE
  have hp:=nL s;rw[ei]at hr;simp only[ql]at hr;by_cases he:s.2<=s.1
  ·have GO:em s=true:=by simp[em,he]
   rw[GO]at hp;rw[if_pos GO]at hr;simp[h8,ah,aa,ai,Cm,BS,he,<- hr];exact hp
  have GO:em s=false:=by simp[em];omega
  rw[GO]at hp;rw[GO]at hr;simp only[zzbh,if_false]at hr;simp[h8,ah,aa,ai,Cm,BS,he,hw];refine⟨hp,aQ,⟨i+1,zd,zE,hr⟩,zE⟩
 have bQ:¬(i:Int)<(l.length:Int):=zE
 rw[zzal bq]at hr;simp only[ql]at hr;simp[h8,bQ,zzbk.2 bq,Cm,<- hr]
def og(k:Int):UV:=fun _ f l=>if f=231 then I k else BS 0 0 l
def Mj(Y:YT)(l:List Sp)(hl:l.length<=1000000000)(B:T5)(L:Pa)(st:Nat->LS)(n id:Nat)(aL:id<B.length)(aO:l≠[])(hB:Qh B id=cG l)(K:So)
  (hK:∀(B':T5)(z:List Sp),bC (·=id) B B'->Qh B' id=cG (l.filter mM++z)->(l.filter mM).length+z.length=l.length->K (.bs id 0 (l.filter mM).length 2) ⟨B',L,st,n⟩):
  aB Tryz.prog aD Y 184 [.bs id 0 l.length 2,.fn 185 [] []] ⟨B,L,st,n⟩ K:=by
 have Lq:=qm l hl;have gE:=Va ⟨B,L,st,n⟩ 4 (C9 l);have iu:=Qef l;have aH:=Yd l;refine Xl M6 (og (ql l 0)) zd ?_;by_cases hk:ql l 0= -1
 ·have hf:=Ia hk;rw[hk]at Lq;have:=hK B [] (bC.refl _ _) (by rw[hf];simpa using hB) (by rw[hf];simp);rw[hf]at this;simp[EE,M5,og,hk,hB,gE,iu,aH];exact⟨Lq,this⟩
 obtain⟨k,dF,ef,Bx⟩:=Ib hk;rw[zzbs]at dF;have Eg:¬(k:Int)= -1:=zE
 have sF:=bO k zE;rw[dF]at Lq;simp[EE,M5,og,dF,Eg,hB,gE,iu,aH,sF];refine⟨Lq,?_⟩
 refine Qi Cj (fun f m=>∃(i j:Nat)(B':T5)(L':List Sp),f 5=I i/\f 6=I j/\i<j/\j<=l.length/\m=⟨B',L,st,n⟩/\bC (·=id) B B'/\Qh B' id=cG L'/\L'.length=l.length/\L'.take i=(l.take j).filter mM/\L'.drop j=l.drop j)
  (fun f m=>l.length-(numOf (f 6)).toNat) ?_ ?_
 ·exact⟨k,k+1,B,l,zd,zd,zE,zE,rfl,bC.refl _ _,hB,rfl,Bx.symm,rfl⟩
 rintro f m ⟨i,j,B',L',h5,h6,eG,hj,rfl,nB,eS,tU,ht,hd⟩;have cI:id<B'.length:=zzba aL nB.1;have jv:=Yd L';rcases zzaa j l.length with ah|bq
 ·obtain⟨s,hs⟩:=aV ah
  have dM:L'[j]?=some s:=by
   have:=congrArg (fun x=>x[0]?) hd;simpa[hs]using this
  have hg:=uK dM;have dH:(j:Int)<(l.length:Int):=zE
  have aa:(i:Int)<(l.length:Int):=zE
  have wZ:i<l.length:=zE
  have sU:=bO j zE;have XO:=bO i zE;have hp:=nL s;have bS:=Ot L' i s zE;simp only[setA]at bS;have iq:∀x,Qh (B'++x) id=cG L':=fun x=>by rw[Qn cI,eS]
  have lM:∀x v,(B'++x).set id v=B'.set id v++x:=fun x v=>Yi v cI
  have bB:(l.take (j+1)).filter mM=(l.take j).filter mM++[s].filter mM:=by
   rw[zzb,hs,zzde];rfl
  have hdj:L'.drop (j+1)=l.drop (j+1):=by
   have:=congrArg (List.drop 1) hd;simpa[zze,zzff]using this
  by_cases he:s.2<=s.1
  ·have GO:em s=true:=by simp[em,he]
   have qq:mM s=false:=by rw[H9,GO];rfl
   rw[GO]at hp;simp[h5,h6,dH,ah,aa,eS,iq,lM,hg,Cj,og,BS,he,sU,XO];refine⟨hp,aQ,⟨i,rfl,j+1,zd,zE,zE,nB.app _,?_⟩,zE⟩
   ·refine⟨L',rfl,tU,?_,hdj⟩;rw[bB,ht];simp[qq]
  have GO:em s=false:=by simp[em];omega
  have qq:mM s=true:=by rw[H9,GO];rfl
  rw[GO]at hp;simp[h5,h6,dH,ah,aa,wZ,eS,iq,lM,hg,Cj,og,BS,he,sU,XO,bS,jv,tU];refine⟨hp,zE,aQ,⟨i+1,zd,j+1,zd,zE,zE,(nB.set (.inl rfl) _).app _,?_⟩,zE⟩
  ·refine⟨L'.set i s,by rw[Qn (Nm cI),Yf _ cI],Nm tU,?_,?_⟩
   ·rw[bB,<- ht,zzb,zzbg zE,zzfu zE];simp[qq]
   rw[zzfv zE];exact hdj
 obtain rfl:j=l.length:=zE
 rw[zzbu]at ht;have fu:(l.filter mM).length=i:=by rw[<- ht,zzaq];omega
 have N0:¬((l.length:Nat):Int)<(l.length:Int):=zE
 have bQ:(i:Int)<=(l.length:Int):=zE
 have aa:(i:Int)<(l.length:Int):=zE
 have wZ:i<l.length:=eG
 have fK:cG L'≠[]:=by
  intro h;have:=congrArg List.length h;rw[jv,tU]at this;simp at this;omega
 have qs:setA (cG L') (i*2) (bF (l.length-i) [I 0,I 0])=cG (l.filter mM++List.replicate (l.length-i) (0,0)):=by
  have e1:L'=L'.take i++L'.drop i:=zd
  conv=>lhs;rw[e1]
  rw[Qci,Qci,<- ht,Rp];have e2:(cG (L'.take i)).length=i*2:=by rw[Yd,zzaq];congr 1;omega
  rw[<- e2];exact o6 _ _ _ (by rw[Yd,Yd];simp;omega)
 simp[h5,h6,N0,eS,aa,wZ,bQ,Cj,cI,fK,jv,tU,qs];refine⟨zE,?_⟩;have:=hK (B'.set id (cG (l.filter mM++List.replicate (l.length-i) (0,0)))) (List.replicate (l.length-i) (0,0)) (nB.set (.inl rfl) _) (Yf _ cI) (by simp;omega);rw[fu]at this;exact this
open Go Go.Abs Go.Shelf Go.RowKit Go.Lib Go.Sort
def Mk:Go.Shelf.Ren:=⟨fun|6=>186|15=>167|14=>232|28=>223|29=>224|20=>253|21=>254|22=>255|23=>256|24=>257|25=>258|26=>259|27=>260|46=>267|47=>244|48=>245|49=>268|50=>269|57=>271|n=>n,fun|22=>286|24=>288|25=>292|3=>3|39=>253|0=>0|53=>326|55=>161|4=>4|46=>320|45=>319|50=>65|5=>5|9=>9|66=>348|70=>152|76=>363|77=>308|n=>n,fun|n=>n⟩
def aa1:Go.Proofs.SlLaysF0.n6 Tryz.prog Mk:={
 mixed:=by kernel_rfl,
 f6:=⟨Tryz.f186.name,by decide,Tryz.func186.trans (congrArg some (by kernel_rfl))⟩,
 f14:=⟨Tryz.f232.name,by decide,Tryz.func232.trans (congrArg some (by kernel_rfl))⟩,
 f15:=Tryz.func167.trans (congrArg some (by kernel_rfl)),
 f20:=⟨Tryz.f253.name,by decide,Tryz.func253.trans (congrArg some (by kernel_rfl))⟩,
 f21:=⟨Tryz.f254.name,by decide,Tryz.func254.trans (congrArg some (by kernel_rfl))⟩,
 f22:=⟨Tryz.f255.name,by decide,Tryz.func255.trans (congrArg some (by kernel_rfl))⟩,
 f23:=⟨Tryz.f256.name,by decide,Tryz.func256.trans (congrArg some (by kernel_rfl))⟩,
 f24:=⟨Tryz.f257.name,by decide,Tryz.func257.trans (congrArg some (by kernel_rfl))⟩,
 f25:=⟨Tryz.f258.name,by decide,Tryz.func258.trans (congrArg some (by kernel_rfl))⟩,
 f26:=⟨Tryz.f259.name,by decide,Tryz.func259.trans (congrArg some (by kernel_rfl))⟩,
 f27:=⟨Tryz.f260.name,by decide,Tryz.func260.trans (congrArg some (by kernel_rfl))⟩,
 f28:=Tryz.func223.trans (congrArg some (by kernel_rfl)),
 f29:=Tryz.func224.trans (congrArg some (by kernel_rfl)),
 f46:=⟨Tryz.f267.name,by decide,Tryz.func267.trans (congrArg some (by kernel_rfl))⟩,
 f47:=Tryz.func244.trans (congrArg some (by kernel_rfl)),
 f48:=Tryz.func245.trans (congrArg some (by kernel_rfl)),
 f49:=⟨Tryz.f268.name,by decide,Tryz.func268.trans (congrArg some (by kernel_rfl))⟩,
 f50:=⟨Tryz.f269.name,by decide,Tryz.func269.trans (congrArg some (by kernel_rfl))⟩,
 f57:=⟨Tryz.f271.name,by decide,Tryz.func271.trans (congrArg some (by kernel_rfl))⟩,
 t0:=Tryz.underlying0,
 a0:=Tryz.isAgg0,
 z0:=Tryz.sizeOf0,
 v0:=Tryz.zeroValue0,
 t3:=Tryz.underlying3,
 a3:=Tryz.isAgg3,
 z3:=Tryz.sizeOf3,
 v3:=Tryz.zeroValue3,
 t4:=Tryz.underlying4,
 a4:=Tryz.isAgg4,
 z4:=Tryz.sizeOf4,
 v4:=Tryz.zeroValue4,
 t5:=Tryz.underlying5,
 a5:=Tryz.isAgg5,
 z5:=Tryz.sizeOf5,
 v5:=Tryz.zeroValue5,
 t9:=Tryz.underlying9,
 a9:=Tryz.isAgg9,
 z9:=Tryz.sizeOf9,
 v9:=Tryz.zeroValue9,
 t22:=Tryz.underlying286,
 a22:=Tryz.isAgg286,
 z22:=Tryz.sizeOf286,
 v22:=Tryz.zeroValue286,
 t25:=Tryz.underlying292,
 a25:=Tryz.isAgg292,
 z25:=Tryz.sizeOf292,
 v25:=Tryz.zeroValue292,
 t39:=Tryz.underlying253,
 a39:=Tryz.isAgg253,
 z39:=Tryz.sizeOf253,
 v39:=Tryz.zeroValue253,
 t45:=Tryz.underlying319,
 a45:=Tryz.isAgg319,
 z45:=Tryz.sizeOf319,
 v45:=Tryz.zeroValue319,
 t46:=Tryz.underlying320,
 a46:=Tryz.isAgg320,
 z46:=Tryz.sizeOf320,
 v46:=Tryz.zeroValue320,
 t50:=Tryz.underlying65,
 a50:=Tryz.isAgg65,
 z50:=Tryz.sizeOf65,
 v50:=Tryz.zeroValue65,
 t53:=Tryz.underlying326,
 a53:=Tryz.isAgg326,
 z53:=Tryz.sizeOf326,
 v53:=Tryz.zeroValue326,
 t55:=Tryz.underlying161,
 a55:=Tryz.isAgg161,
 z55:=Tryz.sizeOf161,
 v55:=Tryz.zeroValue161,
 t66:=Tryz.underlying348,
 a66:=Tryz.isAgg348,
 z66:=Tryz.sizeOf348,
 v66:=Tryz.zeroValue348,
 t70:=Tryz.underlying152,
 a70:=Tryz.isAgg152,
 z70:=Tryz.sizeOf152,
 v70:=Tryz.zeroValue152,
 t76:=Tryz.underlying363,
 a76:=Tryz.isAgg363,
 z76:=Tryz.sizeOf363,
 v76:=Tryz.zeroValue363,
 t77:=Tryz.underlying308,
 a77:=Tryz.isAgg308,
 z77:=Tryz.sizeOf308,
 v77:=Tryz.zeroValue308}
def Ic:Go.Shelf.Ren:=⟨fun|5=>110|8=>167|7=>166|19=>223|20=>224|10=>214|11=>215|12=>216|13=>217|14=>218|15=>219|16=>220|17=>221|18=>222|30=>243|31=>244|32=>245|33=>246|34=>247|35=>248|40=>264|n=>n,fun|23=>42|25=>3|3=>3|32=>253|22=>42|0=>0|44=>326|46=>161|4=>4|36=>320|35=>319|41=>65|5=>5|9=>9|53=>348|57=>152|63=>363|64=>308|n=>n,fun|n=>n⟩
def sortInt:Go.Proofs.SlLaysM.n5 Tryz.prog Ic:={
 mixed:=by kernel_rfl,
 f5:=⟨Tryz.f110.name,by decide,Tryz.func110.trans (congrArg some (by kernel_rfl))⟩,
 f7:=⟨Tryz.f166.name,by decide,Tryz.func166.trans (congrArg some (by kernel_rfl))⟩,
 f8:=Tryz.func167.trans (congrArg some (by kernel_rfl)),
 f10:=⟨Tryz.f214.name,by decide,Tryz.func214.trans (congrArg some (by kernel_rfl))⟩,
 f11:=⟨Tryz.f215.name,by decide,Tryz.func215.trans (congrArg some (by kernel_rfl))⟩,
 f12:=⟨Tryz.f216.name,by decide,Tryz.func216.trans (congrArg some (by kernel_rfl))⟩,
 f13:=⟨Tryz.f217.name,by decide,Tryz.func217.trans (congrArg some (by kernel_rfl))⟩,
 f14:=⟨Tryz.f218.name,by decide,Tryz.func218.trans (congrArg some (by kernel_rfl))⟩,
 f15:=⟨Tryz.f219.name,by decide,Tryz.func219.trans (congrArg some (by kernel_rfl))⟩,
 f16:=⟨Tryz.f220.name,by decide,Tryz.func220.trans (congrArg some (by kernel_rfl))⟩,
 f17:=⟨Tryz.f221.name,by decide,Tryz.func221.trans (congrArg some (by kernel_rfl))⟩,
 f18:=⟨Tryz.f222.name,by decide,Tryz.func222.trans (congrArg some (by kernel_rfl))⟩,
 f19:=Tryz.func223.trans (congrArg some (by kernel_rfl)),
 f20:=Tryz.func224.trans (congrArg some (by kernel_rfl)),
 f30:=⟨Tryz.f243.name,by decide,Tryz.func243.trans (congrArg some (by kernel_rfl))⟩,
 f31:=Tryz.func244.trans (congrArg some (by kernel_rfl)),
 f32:=Tryz.func245.trans (congrArg some (by kernel_rfl)),
 f33:=⟨Tryz.f246.name,by decide,Tryz.func246.trans (congrArg some (by kernel_rfl))⟩,
 f34:=⟨Tryz.f247.name,by decide,Tryz.func247.trans (congrArg some (by kernel_rfl))⟩,
 f35:=⟨Tryz.f248.name,by decide,Tryz.func248.trans (congrArg some (by kernel_rfl))⟩,
 f40:=⟨Tryz.f264.name,by decide,Tryz.func264.trans (congrArg some (by kernel_rfl))⟩,
 t0:=Tryz.underlying0,
 a0:=Tryz.isAgg0,
 z0:=Tryz.sizeOf0,
 v0:=Tryz.zeroValue0,
 t3:=Tryz.underlying3,
 a3:=Tryz.isAgg3,
 z3:=Tryz.sizeOf3,
 v3:=Tryz.zeroValue3,
 t4:=Tryz.underlying4,
 a4:=Tryz.isAgg4,
 z4:=Tryz.sizeOf4,
 v4:=Tryz.zeroValue4,
 t5:=Tryz.underlying5,
 a5:=Tryz.isAgg5,
 z5:=Tryz.sizeOf5,
 v5:=Tryz.zeroValue5,
 t9:=Tryz.underlying9,
 a9:=Tryz.isAgg9,
 z9:=Tryz.sizeOf9,
 v9:=Tryz.zeroValue9,
 t22:=Tryz.underlying42,
 a22:=Tryz.isAgg42,
 z22:=Tryz.sizeOf42,
 v22:=Tryz.zeroValue42,
 t23:=Tryz.underlying42,
 a23:=Tryz.isAgg42,
 z23:=Tryz.sizeOf42,
 v23:=Tryz.zeroValue42,
 t25:=Tryz.underlying3,
 a25:=Tryz.isAgg3,
 z25:=Tryz.sizeOf3,
 v25:=Tryz.zeroValue3,
 t32:=Tryz.underlying253,
 a32:=Tryz.isAgg253,
 z32:=Tryz.sizeOf253,
 v32:=Tryz.zeroValue253,
 t35:=Tryz.underlying319,
 a35:=Tryz.isAgg319,
 z35:=Tryz.sizeOf319,
 v35:=Tryz.zeroValue319,
 t36:=Tryz.underlying320,
 a36:=Tryz.isAgg320,
 z36:=Tryz.sizeOf320,
 v36:=Tryz.zeroValue320,
 t41:=Tryz.underlying65,
 a41:=Tryz.isAgg65,
 z41:=Tryz.sizeOf65,
 v41:=Tryz.zeroValue65,
 t44:=Tryz.underlying326,
 a44:=Tryz.isAgg326,
 z44:=Tryz.sizeOf326,
 v44:=Tryz.zeroValue326,
 t46:=Tryz.underlying161,
 a46:=Tryz.isAgg161,
 z46:=Tryz.sizeOf161,
 v46:=Tryz.zeroValue161,
 t53:=Tryz.underlying348,
 a53:=Tryz.isAgg348,
 z53:=Tryz.sizeOf348,
 v53:=Tryz.zeroValue348,
 t57:=Tryz.underlying152,
 a57:=Tryz.isAgg152,
 z57:=Tryz.sizeOf152,
 v57:=Tryz.zeroValue152,
 t63:=Tryz.underlying363,
 a63:=Tryz.isAgg363,
 z63:=Tryz.sizeOf363,
 v63:=Tryz.zeroValue363,
 t64:=Tryz.underlying308,
 a64:=Tryz.isAgg308,
 z64:=Tryz.sizeOf308,
 v64:=Tryz.zeroValue308}
def Ml:Go.Shelf.Ren:=⟨fun|5=>233|7=>248|n=>n,fun|22=>3|3=>3|4=>4|n=>n,fun|n=>n⟩
def anI:Go.Proofs.SlLaysC2.n5 Tryz.prog Ml:={
 mixed:=by kernel_rfl,
 f5:=⟨Tryz.f233.name,by decide,Tryz.func233.trans (congrArg some (by kernel_rfl))⟩,
 f7:=⟨Tryz.f248.name,by decide,Tryz.func248.trans (congrArg some (by kernel_rfl))⟩,
 t3:=Tryz.underlying3,
 a3:=Tryz.isAgg3,
 z3:=Tryz.sizeOf3,
 v3:=Tryz.zeroValue3,
 t4:=Tryz.underlying4,
 a4:=Tryz.isAgg4,
 z4:=Tryz.sizeOf4,
 v4:=Tryz.zeroValue4,
 t22:=Tryz.underlying3,
 a22:=Tryz.isAgg3,
 z22:=Tryz.sizeOf3,
 v22:=Tryz.zeroValue3}
def Mm(x:Int×Int):PQ:=[.int .i64 x.1,.int .i64 x.2]
def Mn(x y:Int×Int)(W:World):Calls Tryz.prog 187 #[.agg #[.int .i64 x.1,.int .i64 x.2],.agg #[.int .i64 y.1,.int .i64 y.2]] W fun e w'=>e=.returned (.int .i64 (Lib.compareInt x.1 y.1))/\∃q os',w'=grow (W.drewN q) os':=by
 have fR:=fun W'=>AnyG.cmp_Compare_int anI x.1 y.1 W';change∀W',Calls Tryz.prog 233 _ _ _ at fR;generalize Lib.compareInt x.1 y.1=r at fR |-
 go_enter Tryz.func187,Tryz.ntmps187
 go_wp2_with (go_at_call 233;refine(fR _).mono ?_;rintro e w' ⟨rfl,rfl⟩)
 go_ret
 exact⟨rfl,0,_,by rw[alloc_eq_grow,alloc_eq_grow,grow_grow];rfl⟩
def Mo(blk off size:Nat)(w:World):CmpLays Tryz.prog 187 #[] Mm 2 (fun x y=>Lib.compareInt x.1 y.1) blk off size w:=
 fun _ _ _ _ x y=>Mn x y _
def agd(x y:Int×Int):ltOf (fun x y:Int×Int=>Lib.compareInt x.1 y.1) x y=decide (x.1<y.1):=by
 unfold ltOf Lib.compareInt;by_cases h1:x.1<y.1
 ·simp[h1]
 by_cases h2:y.1<x.1<;>simp[h1,h2]
def aul:SWO (ltOf fun x y:Int×Int=>Lib.compareInt x.1 y.1) where
 irrefl x:=by rw[agd];simp
 trans x y z h1 h2:=by rw[agd]at*;simp at*;omega
 ntrans x y z h1 h2:=by rw[agd]at*;simp at*;omega
def aa2{w:World}{γ:G}(x:Int×Int):ak w γ (Qe x) (Mm x):=.cons (.int _ _) (.cons (.int _ _) .nil)
def Yl{w:World}{γ:G}{a:AV}{vs:PQ}(h:ak w γ [a] vs):∃v,vs=[v]/\aA w γ a v:=by
 match vs,h with
 |[v],h=>exact⟨v,rfl,h.2 0 _ _ rfl rfl⟩
 |[],h=>exact absurd h.1 zd
 |_::_::_,h=>exact absurd h.1 zd
def Sh{w:World}{γ:G}(x:Int×Int){vs:PQ}(h:ak w γ (Qe x) vs):vs=Mm x:=by
 match vs,h with
 |[u,v],h=>
  have h1:aA w γ (I x.1) u:=h.2 0 _ _ rfl rfl;have h2:aA w γ (I x.2) v:=h.2 1 _ _ rfl rfl;cases h1;cases h2;rfl
 |[],h=>exact absurd h.1 (by simp[Qe])
 |[_],h=>exact absurd h.1 (by simp[Qe])
 |_::_::_::_,h=>exact absurd h.1 (by simp[Qe])
def anJ{w:World}{γ:G}{f:FuncId}{v:Value}(h:aA w γ (.fn f [] []) v):v=.func (.func f) #[] #[]:=by
 cases h with
 |fn hl _ eX _=>
  rename_i fa ca _ _;have e1:fa=#[]:=zzem hl.symm;have e2:ca=#[]:=zzem eX.symm;rw[e1,e2]
def Mp(Y:YT)(d:List Sp)(hd:d.length<=1000000000)(m:AM)(id:Nat)(post:P2)(hB:m.boxes[id]?=some (cG d++post))(aO:cG d++post≠[])(K:So)
  (hK:∀d':List Sp,d'.Perm d->d'.Pairwise (fun a b=>a.1<=b.1)->K (.aS []) (m.wr id (cG d'++post))):
  aB Tryz.prog aD Y 186 [.bs id 0 d.length 2,.fn 187 [] []] m K:=by
 refine BR (α:=Int×Int) (d:=d) (more:=[.fn 187 [] []]) (sz:=2) (off:=0) M7.bz Mm Qe (fun _=>rfl) (fun _ _ x=>aa2 x) (fun _ _ x _ h=>Sh x h) (fun x v hv=>by simp[Mm]at hv;rcases hv with rfl|rfl<;>rfl) hB aO
  ⟨[],post,by rw[G2];rfl,rfl⟩ (d2:=fun d'=>d'.Perm d/\d'.Pairwise fun a b=>a.1<=b.1) ?_ ?_
 ·intro w b cap mv γ hmv hH hblk;obtain⟨v,rfl,hv⟩:=Yl hmv;have:=anJ hv;subst this;have eg:∀args w,(callFunc 187 args).run Tryz.prog w=.ok (.enter 187 args) w:=enters_of Tryz.func187 (by kernel_rfl) rfl;have fR:=AnyQ.slices_SortFunc aa1 2 Tryz.isAgg288 Tryz.sizeOf288 Mm (fun _=>rfl) (fun x v hv=>by simp[Mm]at hv;rcases hv with rfl|rfl<;>rfl) (fun x y=>Lib.compareInt x.1 y.1) aul 187 #[] b 0 cap d.toArray w eg (Mo b 0 _ w) hH hblk (by simp;omega);change Calls Tryz.prog 186 _ _ _ at fR;refine fR.mono ?_;rintro e w' ⟨rfl,d',n,os,hP,hS,rfl⟩;obtain⟨p1,_,p3⟩:=hP;have hsz:d'.size=d.length:=by simpa using p1
  refine⟨rfl,d'.toList,n,os,Nm hsz,⟨?_,?_⟩,zd⟩
  ·have e1:d'.extract 0 d.toArray.size=d':=by rw[<- p1];simp
   rw[e1]at p3;simpa using p3
  rw[zzds];intro i j hi hj eG;have dn:i<d'.size:=by simpa using hi
  have Nr:j<d'.size:=by simpa using hj
  have:=hS i j (zzbp _) eG (by simp;omega);rw[agd]at this;simp only[getElem!_pos d' i dn,getElem!_pos d' j Nr,decide_eq_false_iff_not,Int.not_lt]at this;simpa using this
 rintro d' hl ⟨h1,h2⟩;rw[G2,jX _ _ _ (by rw[Yd,Yd,hl])];exact hK d' h1 h2
def Ie(Y:YT)(rt:Rt)(m:AM)(K:So)(hK:K (.aS []) m):aB Tryz.prog aD Y 186 [.sl rt [],.fn 187 [] []] m K:=by
 refine aB.fQ M7.bz fun N w0 an γ w vs hm hl hr=>?_
 match vs,hr with
 |[u,v],hr=>
  have h1:aA w γ (.sl rt []) u:=hr.2 0 _ _ rfl rfl;cases h1 with
  |@sl _ _ _ a cap b off sz cv _ _ _ _ _ _ _=>
   have fR:=AnyF.slices_SortFunc_none {aa1 with} a cap v w;change Calls Tryz.prog 186 _ _ _ at fR;refine fR.mono ?_;rintro e w' ⟨rfl,rfl⟩;exact⟨_,γ,_,m,rfl,(Ev.refl _ _).cH,hm,hl,yy,hK⟩
 |[],hr=>exact absurd hr.1 zd
 |[_],hr=>exact absurd hr.1 zd
 |_::_::_::_,hr=>exact absurd hr.1 zd
def encI(x:Int):PQ:=[.int .i64 x]
def iX(d:Array Int):flatK encI 1 d=d.map (Value.int .i64):=by
 refine Array.ext zd fun t h1 h2=>?_;have ht:t<d.size:=by simpa using h2
 have:=get_flatK encI 1 d t (Nm ht);rw[getElem!_pos _ t h1]at this;rw[this];have e2:d[t]! =d[t]:=getElem!_pos d t ht;simp[Nat.div_one,Nat.mod_one,encI,ht]
def sH(Y:YT)(d:Pi)(hd:d.length<=1000000000)(m:AM)(id:Nat)(post:P2)(hB:m.boxes[id]?=some (aj d++post))(aO:aj d++post≠[])(K:So)
  (hK:K (.aS []) (m.wr id (aj (d.mergeSort fun x y=>decide (x<=y))++post))):
  aB Tryz.prog aD Y 110 [.bs id 0 d.length 1] m K:=by
 have ajr:∀l:Pi,(l.map fun x=>[I x]).flatten=aj l:=by
  intro l;induction l with
  |nil=>rfl
  |cons x l ih=>simp[aj]at ih |-;exact ih
 refine BR (α:=Int) (d:=d) (more:=[]) (sz:=1) (off:=0) MI.bz encI (fun x=>[I x]) (fun _=>rfl) (fun _ _ x=>.cons (.int _ _) .nil) (fun w γ x vs h=>?_) (fun x v hv=>by simp[encI]at hv;subst hv;rfl) hB aO
  ⟨[],post,by rw[ajr];rfl,rfl⟩ (d2:=fun d'=>d'=d.mergeSort fun x y=>decide (x<=y)) ?_ ?_
 ·obtain⟨v,rfl,hv⟩:=Yl h;cases hv;rfl
 ·intro w b cap mv γ hmv hH hblk;have:mv=[]:=zzbx.1 hmv.1.symm;subst this
  have hH':Holds (Value.int .i64) w b 0 d.toArray:=by
   intro j hj;unfold HoldsK at hH;rw[iX]at hH;have:=hH j (Nm hj);have Nr:j<d.length:=by simpa using hj
   simpa[Nr]using this
  have fR:=AnyM.slices_Sort_int sortInt b 0 cap d w hH' hblk zE;change Calls Tryz.prog 110 _ _ _ at fR;refine fR.mono ?_;rintro e w' ⟨rfl,n,os,rfl⟩;refine⟨rfl,_,n,os,zd,rfl,?_⟩;unfold sortWorldK putRowK;rw[iX];congr 1;unfold putRow;refine mapBlock_congr _ _ _ _ fun c e fr _=>?_;unfold putCells;apply zzgb;intro k;simp only[zzhe,Array.size_map];cases c[k]? with
  |none=>rfl
  |some x=>
   simp only[zzct];congr 1;by_cases hc:0<=k/\k<0+(d.mergeSort fun x y=>decide (x<=y)).toArray.size
   ·rw[if_pos hc,if_pos hc];have hk:k<(d.mergeSort fun x y=>decide (x<=y)).toArray.size:=zE
    have Cu:k<((d.mergeSort fun x y=>decide (x<=y)).toArray.map (Value.int .i64)).size:=by simpa using hk
    simp only[zzes];rw[getElem!_pos _ k hk,getElem!_pos _ k Cu];simp
   rw[if_neg hc,if_neg hc]
 rintro d' hl rfl;rw[ajr,jX _ _ _ (by simp[aj])];exact hK
def pq(Y:YT)(rt:Rt)(m:AM)(K:So)(hK:K (.aS []) m):aB Tryz.prog aD Y 110 [.sl rt []] m K:=by
 refine aB.fQ MI.bz fun N w0 an γ w vs hm hl hr=>?_;obtain⟨u,rfl,h1⟩:=Yl hr;cases h1 with
 |@sl _ _ _ a cap b off sz cv _ _ _ _ _ _ _=>
  have fR:=AnyM.slices_Sort_int_none sortInt a cap w;change Calls Tryz.prog 110 _ _ _ at fR;refine fR.mono ?_;rintro e w' ⟨rfl,rfl⟩;exact⟨_,γ,_,m,rfl,(Ev.refl _ _).cH,hm,hl,yy,hK⟩
def Ig(Y:YT)(rt:Rt)(aX:∀m,bA m 6 (.sl rt [])=.sl rt [])(m:AM)(K:So)(hK:K (.sl rt []) m):aB Tryz.prog aD Y 184 [.sl rt [],.fn 185 [] []] m K:=by
 have h:=Xz (l:=[.sl rt [],.fn 185 [] []]) (qm [] zd) ⟨Wk.sl rt [],Ps,trivial⟩;simp only[ql]at h;refine Xl M6 (og (-1)) zd ?_;simp[EE,M5,og,aX];exact⟨h,hK⟩
def Ih:UV:=fun d f _=>if f=999999 then(if d=12 then .aJ 0 []else if d=70 then .aJ 0 []else .junk)else .gd false .junk
def rX(a b:Int):(if a<b then b else a)=max a b:=by split<;>omega
def aum(B:T5)(id:Nat)(out:List Sp)(a:AV):Prop:=
 (out=[]/\a=.sl .nil [])\/∃gN,out≠[]/\a=.bs gN 0 out.length 2/\gN≠id/\gN<B.length/\Qh B gN=cG out
def Mq{out:List Sp}(h:out≠[]):∃p u,out=p++[u]:=⟨out.dropLast,out.getLast h,(zzew h).symm⟩
def D9(l:List Sp)(hl:l.length<=100000000):Pure Tryz.prog aD 131 [.sl .ro (l.map Qe)] (if Xk l=[]then .sl .nil []else .sl .ro ((Xk l).map Qe)):=by
 refine Qp acd Ih zd ?_;by_cases aO:l=[]
 ·subst aO;have hn:Xk []=[]:=by simp[Xk,H7]
  simp[MO,Ih,hn];refine Qi vu (fun f m=>f 15=I 0/\f 3=.sl .full []/\m=⟨[[]],[],fun _=>.gone,0⟩) (fun _ _=>0) ?_ ?_
  ·simp
  rintro f m ⟨sK,h3,rfl⟩;simp[sK,h3,vu];refine Ig _ _ (fun _=>rfl) _ _ ?_;refine Ie _ _ _ _ ?_;simp;refine Qi iR (fun f m=>f 31=I 0/\f 6=.sl .nil []/\m=⟨[[]],[],fun _=>.gone,0⟩) (fun _ _=>0) ?_ ?_
  ·simp
  rintro f m ⟨h31,h6,rfl⟩;simp[h31,h6,iR,MP]
 have ayX:l.length≠0:=by simpa using aO
 have ij:0<l.length:=zE
 simp[MO,Ih,aO];refine⟨⟨zE,zE⟩,?_⟩
 refine Qi vu (fun f m=>∃(i id:Nat)(B:T5),i<=l.length/\f 15=I i/\f 3=.bs id 0 i 2/\m=⟨B,[],fun _=>.gone,0⟩/\id<B.length/\Qh B id≠[]/\i*2<=(Qh B id).length/\(Qh B id).take (i*2)=cG (l.take i)/\(0<i->Qh B id=cG (l.take i)))
  (fun f _=>l.length-(numOf (f 15)).toNat) ?_ ?_
 ·exact⟨0,0,[List.replicate (l.length*2) .junk],zE,zd,zd,rfl,zd,by simp;omega,zd,zd,zd⟩
 rintro f m ⟨i,id,B,hi,sK,h3,rfl,aL,AI,cE,bB,Ef⟩;rcases zzaa i l.length with ah|bq
 ·obtain⟨s,hs⟩:=aV ah;have ai:=Zw hs;have aa:(i:Int)<(l.length:Int):=zE
  have hw:=bO i zE;have iq:∀x,Qh (B++x) id=Qh B id:=fun x=>Qn aL;have lM:∀x v,(B++x).set id v=B.set id v++x:=fun x v=>Yi v aL;have fu:cG (l.take (i+1))=cG (l.take i)++[I s.1,I s.2]:=by rw[zzb,hs,Qci];rfl
  simp[sK,h3,aa,ah,ai,vu,hw,iq,lM,AI,cE,bB,Ih];refine⟨⟨zE,zE⟩,aQ,⟨i+1,zE,zd,?_⟩,zE⟩
  ·refine⟨B.length+1,⟨rfl,rfl⟩,zE,?_⟩
   have e:Qh (B.set id []++[[AV.int IntKind.i64 s.fst,AV.int IntKind.i64 s.snd],cG (List.take i l)++[AV.int IntKind.i64 s.fst,AV.int IntKind.i64 s.snd]]) (B.length+1)=cG (l.take (i+1)):=by
    have:=Vm (B.set id []) [[AV.int IntKind.i64 s.fst,AV.int IntKind.i64 s.snd],cG (List.take i l)++[AV.int IntKind.i64 s.fst,AV.int IntKind.i64 s.snd]] 1;rw[zzch]at this;rw[this,fu];rfl
   rw[e];have e2:(cG (l.take (i+1))).length=(i+1)*2:=by rw[Yd,zzaq];congr 1;omega
   refine⟨?_,zE,?_,fun _=>rfl⟩
   ·intro h;rw[h]at e2;simp at e2
   rw[<- e2,zzbu]
 obtain rfl:i=l.length:=zE
 have hB:=Ef ij;rw[zzbu]at hB;have bQ:¬((l.length:Nat):Int)<(l.length:Int):=zE
 simp[sK,h3,vu,Ih];refine Mj _ l zE B _ _ _ id aL aO hB _ ?_;intro B1 z nB hB1 hz;have anK:id<B1.length:=zzba aL nB.1;rw[Qci]at hB1;have WD:B1[id]?=some (cG (l.filter mM)++cG z):=by rw[Jj anK,hB1]
 refine Mp _ (l.filter mM) zE _ id (cG z) WD ?_ _ ?_
 ·intro h;have:=congrArg List.length h;rw[zzak,Yd,Yd]at this;simp at this;omega
 intro d hp hs;have amv:=anG hp hs;have hdl:d.length=(l.filter mM).length:=hp.length_eq;rw[<- hdl];have ayY:d.length<=100000000:=zE
 simp[AM.wr]
 refine Qi iR (fun f m=>∃(i:Nat)(B:T5)(out:List Sp),i<=d.length/\f 31=I i/\m=⟨B,[],fun _=>.gone,0⟩/\out.length<=i/\id<B.length/\Qh B id=cG d++cG z/\H7 out (d.drop i)=Xk l/\aum B id out (f 6))
  (fun f _=>d.length-(numOf (f 31)).toNat) ?_ ?_
 ·exact⟨0,B1.set id (cG d++cG z),[],zE,zd,rfl,zd,Nm anK,Yf _ anK,Nm amv,.inl ⟨rfl,zd⟩⟩
 rintro f m ⟨i,B,out,hi,h31,rfl,zT,aL,hB,hm,hout⟩;rcases zzaa i d.length with ah|bq
 ·obtain⟨v,hv⟩:=aV ah;have aa:(i:Int)<(d.length:Int):=zE
  have hw:=bO i zE
  have hg:(cG d++cG z).drop (i*2)=I v.1::I v.2::(cG (d.drop (i+1))++cG z):=by
   rw[zzdy (by rw[Yd];omega),uK hv];rfl
  have ei:d.drop i=v::d.drop (i+1):=by
   rw[zzag ah,(zza.1 hv).2]
  rw[ei,H7]at hm;have iq:∀x,Qh (B++x) id=cG d++cG z:=fun x=>by rw[Qn aL,hB]
  obtain⟨rfl,h6⟩|⟨gN,hon,h6,vV,fL,A9⟩:=hout
  ·simp[h31,h6,aa,ah,hB,iq,hg,iR,hw,Ih];refine⟨aQ,⟨i+1,zE,zd,?_⟩,zE⟩
   ·refine⟨[v],zd,zE,by simpa[Sg]using hm,.inr ⟨B.length+1,zd,zd,zE,zd,zd⟩⟩
  obtain⟨p,u,rfl⟩:=Mq hon;have atq:p.length+1<=i:=by simpa using zT
  have lG:(cG (p++[u])).drop (p.length*2+1)=[I u.2]:=by
   have:=FR (l:=p++[u]) (i:=p.length) (s:=u) zd;simpa using this
  have bS:=xw (p++[u]) p.length u (max u.2 v.2) zd;have aun:(p++[u]).set p.length (u.1,max u.2 v.2)=p++[(u.1,max u.2 v.2)]:=zd
  rw[aun]at bS;have hwp:IntKind.i64.wrap (p.length:Int)=(p.length:Int):=by rw[Ql]<;>omega
  have uu:(0:Int)<(p.length:Int)+1:=zE
  have auo:∀x,Qh (B++x) gN=cG (p++[u]):=fun x=>by rw[Qn fL,A9]
  have lM:∀x v,(B++x).set gN v=B.set gN v++x:=fun x v=>Yi v fL;have fu:=Yd (p++[u]);simp only[zzak,zzaz,zzco,zzbs]at fu h6;have ayF:Sg (p++[u]) v=if v.1<=u.2 then p++[(u.1,max u.2 v.2)]else p++[u]++[v]:=by simp[Sg]
  rw[ayF]at hm;by_cases hc:v.1<=u.2
  ·rw[if_pos hc]at hm;simp[h31,h6,aa,ah,hB,iq,auo,lM,hg,lG,iR,hw,hwp,uu,hc,rX,bS,fu,Ih];refine⟨zE,⟨zE,zE⟩,aQ,⟨i+1,zE,zd,?_⟩,zE⟩
   ·refine⟨p++[(u.1,max u.2 v.2)],by simp;omega,zE,by rw[Qn (Nm aL),Ya _ vV,hB],hm,.inr ⟨gN,zd,zd,vV,by simp;omega,by rw[Qn (Nm fL),Yf _ fL]⟩⟩
  rw[if_neg hc]at hm;simp[h31,h6,aa,ah,hB,iq,auo,lM,hg,lG,iR,hw,hwp,uu,hc,fu,Ih];refine⟨zE,⟨⟨zE,by simp[Qci]⟩,zE⟩,aQ,⟨i+1,zE,zd,?_⟩,zE⟩
  ·have bB:(cG (p++[u])).take ((p.length+1)*2)=cG (p++[u]):=zzau (by rw[fu];exact zzab _);rw[bB];refine⟨p++[u]++[v],by simp;omega,zE,by rw[Qn (Nm aL),Ya _ vV,hB],hm,.inr ⟨B.length+1,zd,zd,zE,zd,?_⟩⟩;have:=Vm (B.set gN []) [[I v.1,I v.2],cG (p++[u])++[AV.int IntKind.i64 v.fst,AV.int IntKind.i64 v.snd]] 1;rw[zzch]at this;rw[this,Qci (p++[u]) [v]];rfl
 obtain rfl:i=d.length:=zE
 rw[zzbt,H7]at hm;obtain⟨rfl,h6⟩|⟨gN,hon,h6,vV,fL,A9⟩:=hout
 ·simp[h31,h6,iR,MP,<- hm]
 have gE:=Va ⟨B,[],fun _=>.gone,0⟩ 4 (C9 out);have iu:=Qef out;have fu:=Yd out;simp[h31,h6,iR,MP,<- hm,hon,A9,gE,iu,fu]
def Uo(l:List Sp)(hl:l.length<=100000000):Pure Tryz.prog aD 131 [.sl .ro (l.map Qe)] (.sl .ro ((Xk l).map Qe)):=by
 have h:=D9 l hl;by_cases hn:Xk l=[]
 ·rw[if_pos hn]at h;rw[hn];exact Zh h (Wk.sl _ _)
 rw[if_neg hn]at h;exact h
def Mr(a b:Int):(if b<a then b else a)=min a b:=by split<;>omega
def BT(s:Sp):P2:=[.agg [I s.1,I s.2]]
def aa3(A B:List Sp)(hA:A.length<=100000000)(hB:B.length<=100000000):
  Iter Tryz.prog aD 200 [] [.ep [.sl .ro (A.map Qe)] 0,.ep [.sl .ro (B.map Qe)] 0] ((um (A.length+B.length) A B).map BT):=by
 intro Y l m K hF;refine Xl ac9 (fun _ _ _=>.junk) zd ?_;simp[UG]
 refine Qi qC (fun f mm=>∃(i j:Nat),i<=A.length/\j<=B.length/\f 4=I i/\f 5=I j/\wY (Y l) K ((um (A.length-i+(B.length-j)) (A.drop i) (B.drop j)).map BT) mm)
  (fun f _=>A.length-(numOf (f 4)).toNat+(B.length-(numOf (f 5)).toNat)) ?_ ?_
 ·exact⟨0,0,zE,zE,zd,zd,Nm hF⟩
 rintro f mm ⟨i,j,hi,hj,h4,h5,hF⟩;by_cases ZM:i=A.length\/j=B.length
 ·have hnil:um (A.length-i+(B.length-j)) (A.drop i) (B.drop j)=[]:=by
   obtain rfl|rfl:=ZM
   ·rw[zzbt];cases A.length-A.length+(B.length-j)<;>rfl
   rw[zzbt];cases A.length-i+(B.length-B.length)with
   |zero=>rfl
   |succ n=>cases A.drop i<;>rfl
  rw[hnil]at hF;have hK:K mm:=hF mm (fD.refl _);by_cases h1:i<A.length
  ·have N0:¬(j:Int)<(B.length:Int):=zE
   have aa:(i:Int)<(A.length:Int):=zE
   simp[h4,h5,h1,aa,N0,qC,Nb];exact hK
  have bQ:¬(i:Int)<(A.length:Int):=zE
  simp[h4,h5,h1,bQ,qC,Nb];exact hK
 have h1:i<A.length:=zE
 have h2:j<B.length:=zE
 obtain⟨s,hs⟩:=aV h1;obtain⟨t,ht⟩:=aV h2;have zU:=Zw hs;have aX:=Zw ht;have hda:A.drop i=s::A.drop (i+1):=by rw[zzag h1,(zza.1 hs).2]
 have hdb:B.drop j=t::B.drop (j+1):=by rw[zzag h2,(zza.1 ht).2]
 have hn:A.length-i+(B.length-j)=(A.length-i+(B.length-j)-1)+1:=zE
 have qH:A.length-i+(B.length-j)-1=A.length-(i+1)+(B.length-j):=zE
 have vV:A.length-i+(B.length-j)-1=A.length-i+(B.length-(j+1)):=zE
 have aa:(i:Int)<(A.length:Int):=zE
 have dH:(j:Int)<(B.length:Int):=zE
 have XO:=bO i zE;have sU:=bO j zE;rw[hda,hdb,hn,um,<- hda,<- hdb]at hF;by_cases hc:max s.1 t.1<min s.2 t.2
 ·rw[if_pos hc]at hF;simp only[zzev,zzas]at hF;simp[h4,h5,h1,h2,aa,dH,zU,aX,qC,rX,Mr,hc];refine hF _ (fD.box mm _) _ (fun m2 uH=>?_) (fun m2 hK=>?_)
  ·by_cases hd:s.2<t.2
   ·rw[if_pos hd,qH]at uH;have zC:¬t.2<=s.2:=zE
    simp[h1,h2,aa,dH,zU,aX,hd,zC,XO];refine⟨aQ,⟨i+1,zE,j,zE,zd,rfl,uH⟩,zE⟩
   rw[if_neg hd,vV]at uH;have zC:t.2<=s.2:=zE
   simp[h1,h2,aa,dH,zU,aX,hd,zC,sU];refine⟨aQ,⟨i,zE,j+1,zE,rfl,zd,uH⟩,zE⟩
  simp[Nb];exact hK _ (fD.refl _)
 rw[if_neg hc]at hF;simp only[zzai]at hF;have hF':=wY.ext hF (fD.box mm [[I (max s.1 t.1),I (min s.2 t.2)]]);by_cases hd:s.2<t.2
 ·rw[if_pos hd,qH]at hF';simp[h4,h5,h1,h2,aa,dH,zU,aX,qC,rX,Mr,hc,hd,XO];refine⟨aQ,⟨i+1,zE,j,zE,zd,rfl,hF'⟩,zE⟩
 rw[if_neg hd,vV]at hF';simp[h4,h5,h1,h2,aa,dH,zU,aX,qC,rX,Mr,hc,hd,sU];refine⟨aQ,⟨i,zE,j+1,zE,rfl,zd,hF'⟩,zE⟩
def Ai(A B:List Sp):Pure Tryz.prog aD 139 [.sl .ro (A.map Qe),.sl .ro (B.map Qe)] (.fn 200 [] [.ep [.sl .ro (A.map Qe)] 0,.ep [.sl .ro (B.map Qe)] 0]):=by
 refine Qp acm (fun _ _ _=>.junk) zd ?_;simp[agQ,agR]
def age(A B:List Sp):UV:=fun d f _=>
 if f=999999 then .junk else if d=8 then .sl .ro ((Xk A).map Qe)else if d=10 then .sl .ro ((Xk B).map Qe)else if d=11 then .fn 200 [] [.ep [.sl .ro ((Xk A).map Qe)] 0,.ep [.sl .ro ((Xk B).map Qe)] 0]else .junk
def Ea:∀(n:Nat)(A B:List Sp),(um n A B).length<=n
 |0,_,_=>by simp[um]
 |n+1,[],_=>by simp[um]
 |n+1,s::A,[]=>by simp[um]
 |n+1,s::A,t::B=>by
  have h1:=Ea n A (t::B);have h2:=Ea n (s::A) B;rw[um,zzak];split<;>split<;>simp<;>omega
def jH(A B:List Sp)(hA:A.length<=10000000)(hB:B.length<=10000000):
  Pure Tryz.prog aD 84 [.sl .ro (A.map Qe),.sl .ro (B.map Qe)] (.sl .ro ((zY A B).map Qe)):=by
 have h1:=Uo A zE;have h2:=Uo B zE;have l1:=Yu A;have l2:=Yu B;have h3:=Ai (Xk A) (Xk B);have cT:=aa3 (Xk A) (Xk B) zE zE;have hX:zY A B=um ((Xk A).length+(Xk B).length) (Xk A) (Xk B):=rfl;have hXl:=Ea ((Xk A).length+(Xk B).length) (Xk A) (Xk B);rw[<- hX]at cT hXl;generalize zY A B=X at cT hXl;clear hX
 have key:∀r,r=(if X=[]then AV.sl .nil []else .sl .ro (X.map Qe))->Pure Tryz.prog aD 84 [.sl .ro (A.map Qe),.sl .ro (B.map Qe)] r:=by
  rintro r rfl;refine Qp akB (age A B) zd ?_;simp[apj,age];refine⟨h1,h2,h3,?_⟩
  refine jx (xs:=X.map BT) zd cT (by intro x hx;simp at hx;obtain⟨a,b,_,rfl⟩:=hx;rfl)
   (fun i m=>∃(bx:T5)(rt:Rt),m.boxes=[.sl rt ((X.take i).map Qe)]::bx/\((i=0/\rt=.nil)\/(0<i/\∃id,rt=.own id 2/\m.lens[id]?=some i))) (fun _ _=>False) ⟨[],.nil,zd,.inl ⟨rfl,rfl⟩⟩ ?_ (fun _ _ _ h=>h.elim) ?_ ?_ (fun _ _ h=>h.elim)
  ·rintro i m m' ⟨bx,rt,hb,aX⟩ ⟨⟨b2,e1⟩,⟨l2,e2⟩,_⟩;refine⟨bx++b2,rt,by rw[e1,hb];rfl,?_⟩;obtain h|⟨h0,id,h1,h2⟩:=aX
   ·exact .inl h
   refine .inr ⟨h0,id,h1,?_⟩;rw[e2,zzaj (zza.1 h2).1];exact h2
  ·rintro l i m x hg hr ⟨bx,rt,hb,aX⟩ hx K' k1 _ _
   obtain⟨s,hs,rfl⟩:∃s,X[i]?=some s/\BT s=x:=by
    rw[zzbm]at hx;cases hq:X[i]? with
    |none=>rw[hq]at hx;cases hx
    |some y=>rw[hq]at hx;exact⟨y,rfl,Option.some.inj hx⟩
   have hi:i<X.length:=(zza.1 hs).1;have bB:X.take (i+1)=X.take i++[s]:=by rw[zzb,hs];rfl
   have lZ:(X.take i).length=i:=by rw[zzaq];omega
   rw[Jm]at hb
   have oI:∀row∈(X.take i).map Qe,row.length=2:=by
    intro row h;rw[zzav]at h;obtain⟨a,_,rfl⟩:=h;rfl
   generalize X.take i=T at hb bB lZ oI;obtain⟨rfl,rfl⟩|⟨h0,id,rfl,hL⟩:=aX
   ·have hTn:T=[]:=zzbx.1 lZ;subst hTn;simp[hr,Zr,BT,hb,age];refine k1 _ ⟨bx++[[I s.1,I s.2]],.own m.lens.length 2,?_,.inr ⟨zE,m.lens.length,rfl,?_⟩⟩
    ·rw[bB];rfl
    simp
   have tU:m.lens[id]?=some T.length:=by rw[lZ];simpa using hL
   have ah:=(zza.1 tU).1;simp[hr,Zr,BT,hb,age,tU];refine⟨⟨?_,zE⟩,?_⟩
   ·rintro row (⟨a,b,_,rfl⟩|rfl)<;>rfl
   refine k1 _ ⟨bx++[[I s.1,I s.2]],.own id 2,?_,.inr ⟨zE,id,rfl,?_⟩⟩
   ·rw[bB,zzci];rfl
   simp[ah,lZ]
  rintro m ⟨bx,rt,hb,aX⟩;rw[zzbv]at hb aX;rw[zzbu]at hb;by_cases hn:X=[]
  ·subst hn;obtain⟨_,rfl⟩|⟨h0,_⟩:=aX
   ·simp[hb,akA]
   simp at h0
  obtain⟨h0,_⟩|⟨_,id,rfl,_⟩:=aX
  ·exact absurd (zzbx.1 h0) hn
  simp[hb,akA,hn]
 have hk:=key _ rfl;by_cases hn:X=[]
 ·rw[if_pos hn]at hk;rw[hn];exact Zh hk (Wk.sl _ _)
 rw[if_neg hn]at hk;exact hk
def Out(m:AM)(id:Nat)(L:List Sp):Prop:=∃rt,Qh m.boxes id=[.sl rt (L.map Qe)]/\id<m.boxes.length/\((L=[]/\rt=.nil)\/(L≠[]/\∃k,rt=.own k 2/\m.lens[k]?=some L.length))
def Out.box{m:AM}{id:Nat}{L:List Sp}(h:Out m id L)(b:T5):Out {m with boxes:=m.boxes++b} id L:=by
 obtain⟨rt,h1,h2,h3⟩:=h;exact⟨rt,by show Qh (m.boxes++b) id=_;rw[Qn h2];exact h1,by show id<(m.boxes++b).length;simp;omega,h3⟩
def Eb(Y:YT)(f t:Int)(id:Nat)(L:List Sp)(m:AM)(hO:Out m id L)(hl:L.length<=1000000000)(K:So)
  (hK:∀m',Out m' id (L++D8 f t)->bC (·=id) m.boxes m'.boxes->m'.st=m.st->m'.ln=m.ln->K (.aS []) m'):aB Tryz.prog aD Y 130 [I f,I t,.ptr id 0] m K:=by
 obtain⟨rt,h1,h2,h3⟩:=hO;refine Xl ab9 (fun _ _ _=>.junk) zd ?_;by_cases IB:f<t
 ·have ha:D8 f t=[(f,t)]:=by simp[D8,IB]
  rw[ha]at hK
  have oI:∀row∈L.map Qe,row.length=2:=by
   intro row h;rw[zzav]at h;obtain⟨a,_,rfl⟩:=h;rfl
  obtain⟨rfl,rfl⟩|⟨aO,k,rfl,hk⟩:=h3
  ·simp[MM,MN,IB,h1,h2];refine hK _ ⟨.own m.lens.length 2,?_,Nm h2,.inr ⟨zd,m.lens.length,rfl,zd⟩⟩ (bC.set (S:=(·=id)) (bC.refl _ _) (.inl rfl) _) rfl rfl;simp[Yf _ h2,Qe]
  have qt:=(zza.1 hk).1;simp[MM,MN,IB,h1,h2,hk];refine⟨⟨?_,zE⟩,?_⟩
  ·rintro row (⟨a,b,_,rfl⟩|rfl)<;>rfl
  refine hK _ ⟨.own k 2,?_,Nm h2,.inr ⟨zd,k,rfl,by simp[qt]⟩⟩ (bC.set (S:=(·=id)) (bC.refl _ _) (.inl rfl) _) rfl rfl;simp[Yf _ h2,Qe]
 have ha:D8 f t=[]:=by simp[D8,IB]
 rw[ha,zzar]at hK;simp[MM,MN,IB];exact hK m ⟨rt,h1,h2,h3⟩ (bC.refl _ _) rfl rfl
def y9(f t:Int):(D8 f t).length<=1:=by unfold D8;split<;>simp
def Ii:∀(H:List Sp)(f t:Int),(ku f t H).1.length+(ku f t H).2.length<=H.length+1
 |[],f,t=>by have:=y9 f t;simp[ku];omega
 |h::r,f,t=>by
  have h1:=y9 f h.1;have h2:=y9 f t;rw[ku];split
  ·split
   ·simp;omega
   have:=Ii r (max f h.2) t;simp;omega
  simp;omega
def Ij:∀(A H:List Sp),(uo A H).length<=A.length+H.length
 |[],H=>by simp[uo]
 |s::A,H=>by
  have h1:=Ii H s.1 s.2;have h2:=Ij A (ku s.1 s.2 H).2;simp[uo];omega
def rY(a b:List Sp):UV:=fun d f _=>
 if f=999999 then .junk else if d=14 then .sl .ro ((Xk b).map Qe)else if d=16 then .sl .ro ((Xk a).map Qe)else .gd false .junk
def Aj(a b:List Sp)(ha:a.length<=10000000)(hb:b.length<=10000000):
  Pure Tryz.prog aD 79 [.sl .ro (a.map Qe),.sl .ro (b.map Qe)] (.sl .ro ((Dc a b).map Qe)):=by
 have h1:=Uo a zE;have h2:=Uo b zE;have hR:Dc a b=uo (Xk a) (Xk b):=rfl;have hRl:=Ij (Xk a) (Xk b);have l1:=Yu a;have l2:=Yu b;rw[<- hR]at hRl;generalize Dc a b=R at hR hRl
 have key:∀r,r=(if R=[]then AV.sl .nil []else .sl .ro (R.map Qe))->Pure Tryz.prog aD 79 [.sl .ro (a.map Qe),.sl .ro (b.map Qe)] r:=by
  rintro r rfl;refine Qp aku (rY a b) zd ?_;simp[abI,rY];refine⟨h2,h1,?_⟩;generalize Xk a=A at hR hRl l1 |-
  generalize Xk b=H at hR hRl l2 |-
  clear h1 h2;refine Qi MB (fun f m=>∃(k i:Nat)(L:List Sp),k<=A.length/\i<=H.length/\f 18=I k/\f 8=I i/\Out m 0 L/\L++uo (A.drop k) (H.drop i)=R) (fun f _=>A.length-(numOf (f 18)).toNat) ?_ ?_
  ·exact⟨0,0,[],zE,zE,zd,zd,⟨.nil,rfl,zd,.inl ⟨rfl,rfl⟩⟩,Nm hR.symm⟩
  rintro f m ⟨k,i,L,hk,hi,h18,h8,hO,hL⟩;rcases zzaa k A.length with ah|bq
  ·obtain⟨s,hs⟩:=aV ah;have ai:=Zw hs;have fk:(k:Int)<(A.length:Int):=zE
   have sF:=bO k zE;have hda:A.drop k=s::A.drop (k+1):=by rw[zzag ah,(zza.1 hs).2]
   rw[hda,uo]at hL;have hO0:=hO;obtain⟨_,_,JX,_⟩:=hO0;simp[h18,ah,fk,ai,MB,rY]
   refine Qi MC (fun g m2=>∃(i:Nat)(fr:Int)(L:List Sp),i<=H.length/\g 8=I i/\g 11=I fr/\Out m2 0 L/\m.boxes.length<m2.boxes.length/\Qh m2.boxes m.boxes.length=[I s.1,I s.2]/\
     L++((ku fr s.2 (H.drop i)).1++uo (A.drop (k+1)) (ku fr s.2 (H.drop i)).2)=R) (fun g _=>H.length-(numOf (g 8)).toNat) ?_ ?_
   ·refine⟨i,s.1,L,hi,by simp[h8],zd,hO.box _,zd,zd,hL⟩
   rintro g m2 ⟨i,fr,L,hi,h8,pn,hO,zm,hbx,hL⟩
   have hLl:L.length<=1000000000:=by
    have:=congrArg List.length hL;rw[zzak]at this;omega
   have lF:m.boxes.length≠0:=zE
   have fin:∀(hd:H.drop i=[]\/∃h r,H.drop i=h::r/\s.2<=h.1),L++D8 fr s.2++uo (A.drop (k+1)) (H.drop i)=R:=by
    rintro(hd|⟨h,r,hd,hc⟩)
    ·rw[hd]at hL |-;simpa[ku]using hL
    rw[hd]at hL |-
    rw[ku,if_neg zE]at hL;simpa using hL
   rcases zzaa i H.length with je|hig
   ·obtain⟨h,hh⟩:=aV je;have hrh:=Zw hh;have aa:(i:Int)<(H.length:Int):=zE
    have XO:=bO i zE;have hdh:H.drop i=h::H.drop (i+1):=by rw[zzag je,(zza.1 hh).2]
    by_cases hc:h.1<s.2
    ·rw[hdh,ku,if_pos hc,<- hdh]at hL;simp[h8,pn,je,aa,hrh,hbx,hc,MC,rY];refine Eb Y0 fr h.1 0 L m2 hO hLl _ (fun m3 hO3 Bx _ _=>?_);have aup:Qh m3.boxes m.boxes.length=[I s.1,I s.2]:=by rw[Bx.2 _ zm lF];exact hbx
     have hm3:m.boxes.length<m3.boxes.length:=by have:=Bx.1;omega
     by_cases hd:s.2<=max fr h.2
     ·rw[if_pos hd]at hL;simp[aup,rX,hd,sF,h18];refine⟨aQ,⟨k+1,zE,i,zE,zd,rfl,L++D8 fr h.1,hO3,by rw[zzbf];exact hL⟩,zE⟩
     rw[if_neg hd]at hL;simp[aup,rX,hd,XO,h8];refine⟨aQ,⟨i+1,zE,zd,L++D8 fr h.1,hO3,hm3,by rw[zzbf,<- zzbf (D8 fr h.1)];exact hL⟩,zE⟩
    simp[h8,pn,je,aa,hrh,hbx,hc,MC,rY];refine Eb Y0 fr s.2 0 L m2 hO hLl _ (fun m3 hO3 Bx _ _=>?_);simp[sF,h18];refine⟨aQ,⟨k+1,zE,i,zE,zd,rfl,L++D8 fr s.2,hO3,fin (.inr ⟨h,_,hdh,zE⟩)⟩,zE⟩
   have bQ:¬(i:Int)<(H.length:Int):=zE
   simp[h8,pn,bQ,zzbk.2 hig,hbx,MC,rY];refine Eb Y0 fr s.2 0 L m2 hO hLl _ (fun m3 hO3 Bx _ _=>?_);simp[sF,h18];refine⟨aQ,⟨k+1,zE,i,zE,zd,rfl,L++D8 fr s.2,hO3,fin (.inl (zzal hig))⟩,zE⟩
  obtain rfl:k=A.length:=zE
  rw[zzbt,uo,zzar]at hL;subst hL;obtain⟨rt,o1,o2,o3⟩:=hO;obtain⟨rfl,rfl⟩|⟨aO,k,rfl,_⟩:=o3
  ·simp[h18,o1,MB,akt]
  simp[h18,o1,MB,akt,aO]
 have hk:=key _ rfl;by_cases hn:R=[]
 ·rw[if_pos hn]at hk;rw[hn];exact Zh hk (Wk.sl _ _)
 rw[if_neg hn]at hk;exact hk
structure It where
 id:Int
 ki:Int
 fr:Int
 sp:Int
 ra:Int
structure Cl where
 ki:Int
 it:Int
 fr:Int
 to:Int
 re:Int
 n:Int
 a:Int
 b:Int
structure En where
 id:Int
 it:Int
 fr:Int
 ea:Int
 la:Int
 bo:Int
 al:List Sp
structure Bk where
 id:Int
 it:Int
 re:Int
 fr:Int
 to:Int
 un:Int
 pr:Int
structure Pl where
 ch:Int
 nu:Int
 de:Int
 of:Int
 sh:List Sp
 ep:Int
 rg:Int
 ln:Int
 fi:Int
 aN:List It
 ens:List En
 bks:List Bk
 cls:List Cl
def Qm(x:It):P2:=[I x.id,I x.ki,I x.fr,I x.sp,I x.ra]
def Qg(x:Cl):P2:=[I x.ki,I x.it,I x.fr,I x.to,I x.re,I x.n,I x.a,I x.b]
def Qd(x:En):P2:=[I x.id,I x.it,I x.fr,I x.ea,I x.la,I x.bo,.sl .ro (x.al.map Qe)]
def Xi(x:Bk):P2:=[I x.id,I x.it,I x.re,I x.fr,I x.to,I x.un,I x.pr]
def Qa(p:Pl):P2:=[I p.ch,I p.nu,I p.de,I p.of,.sl .ro (p.sh.map Qe),I p.ep,I p.rg,I p.ln,I p.fi,.sl .ro (p.aN.map Qm),.sl .ro (p.ens.map Qd),.sl .ro (p.bks.map Xi),.sl .ro (p.cls.map Qg)]
def F5(l:List Sp)(s:Sp)(hl:l.length<=10000000):Pure Tryz.prog aD 39 [.sl .ro (l.map Qe),.agg [I s.1,I s.2]] (.bool (Dc [s] l).isEmpty):=by
 have h:=Aj [s] l zd hl;have h':=Xz (l:=[.sl .full [[I s.1,I s.2]],.sl .ro (l.map Qe)]) h ⟨Wk.sl _ _,Ps,trivial⟩;generalize Dc [s] l=R at h';refine Qp ajY (fun _ f _=>if f=79 then .sl .ro (R.map Qe)else .junk) zd ?_;cases R with
 |nil=>simp[ajW,ajX];exact h'
 |cons a r=>
  have:¬(r.length:Int)+1=0:=zE
  simp[ajW,ajX,this];exact h'
def Xj(id:Int):List It->Option It
 |[]=>none
 |x::r=>if x.id=id then some x else Xj id r
def xN{id:Int}{x:It}:∀{l:List It},Xj id l=some x->x∈l/\x.id=id
 |[],h=>by cases h
 |y::r,h=>by
  simp only[Xj]at h;split at h
  ·rename_i hy;cases h;exact⟨zd,hy⟩
  obtain⟨h1,h2⟩:=xN h;exact⟨by simp[h1],h2⟩
def Zq:Option It->AV
 |some x=>.aS [.agg (Qm x),.bool true]
 |none=>.aS [.agg [I 0,I 0,I 0,I 0,I 0],.bool false]
def kS(p:Pl)(id:Int)(hl:p.aN.length<=1000000000):Pure Tryz.prog aD 80 [.agg (Qa p),I id] (Zq (Xj id p.aN)):=by
 refine Qp akw (fun _ _ _=>.junk) zd ?_;simp[ape,Qa];refine Qi MD (fun f m=>∃(i:Nat)(bx:T5),f 11=I i/\i<=p.aN.length/\Xj id (p.aN.drop i)=Xj id p.aN/\m=⟨Qa p::[I 0,I 0,I 0,I 0,I 0]::bx,[],fun _=>.gone,0⟩) (fun f _=>p.aN.length-(numOf (f 11)).toNat) ?_ ?_
 ·exact⟨0,[],zd,zE,rfl,rfl⟩
 rintro f m ⟨i,bx,pn,hi,hf,rfl⟩;rcases zzaa i p.aN.length with ah|bq
 ·obtain⟨x,hx⟩:=aV ah;have ai:Qh (p.aN.map Qm) i=Qm x:=Qu (by simp[hx]);have aa:(i:Int)<(p.aN.length:Int):=zE
  have hw:=bO i zE;have hd:p.aN.drop i=x::p.aN.drop (i+1):=by rw[zzag ah,(zza.1 hx).2]
  rw[hd,Xj]at hf;by_cases aL:x.id=id
  ·rw[if_pos aL]at hf;simp[pn,ah,aa,ai,Qm,aL,MD,akv,<- hf,Zq]
  rw[if_neg aL]at hf;simp[pn,ah,aa,ai,Qm,aL,MD,hw];refine⟨aQ,⟨i+1,zd,zE,hf⟩,zE⟩
 rw[zzal bq]at hf;have bQ:¬(i:Int)<(p.aN.length:Int):=zE
 simp[pn,zzbk.2 bq,bQ,MD,akv,<- hf,Zq,Xj]
def za:List (Int×Int×Int×Int):=[(24000,1001,24,0),(24,1,24,0),(25,1,25,0),(30000,1001,30,2),(30,1,30,0),(50,1,50,0),(60000,1001,60,4),(60,1,60,0)]
def Ak(nu de:Int):List (Int×Int×Int×Int)->Option (Int×Int×Int×Int)
 |[]=>none
 |x::r=>if x.1=nu/\x.2.1=de then some x else Ak nu de r
def Ve(nu de:Int):Bool:=(Ak nu de za).isSome
def Ik:Option (Int×Int×Int×Int)->AV
 |some x=>.aS [.agg [I x.1,I x.2.1,I x.2.2.1,I x.2.2.2],.bool true]
 |none=>.aS [.agg [I 0,I 0,I 0,I 0],.bool false]
def Si:∀i:Nat,i<8->∃x,za[i]?=some x/\(HC.drop (i*4)).take 4=[I x.1,I x.2.1,I x.2.2.1,I x.2.2.2]/\za.drop i=x::za.drop (i+1)
 |0,_=>⟨_,rfl,rfl,rfl⟩
 |1,_=>⟨_,rfl,rfl,rfl⟩
 |2,_=>⟨_,rfl,rfl,rfl⟩
 |3,_=>⟨_,rfl,rfl,rfl⟩
 |4,_=>⟨_,rfl,rfl,rfl⟩
 |5,_=>⟨_,rfl,rfl,rfl⟩
 |6,_=>⟨_,rfl,rfl,rfl⟩
 |7,_=>⟨_,rfl,rfl,rfl⟩
 |n+8,h=>zE
def Ju{nu de:Int}(h:Ve nu de=true):24<=nu/\nu<=60000/\1<=de/\de<=1001/\de<nu:=by
 simp only[Ve,za,Ak]at h;repeat' split at h
 all_goals first|(cases h;done)|omega
theorem aa4:HC.length=32:=rfl
def Sj(nu de:Int):Pure Tryz.prog aD 188 [.agg [I nu,I de]] (Ik (Ak nu de za)):=by
 refine Qp acX (fun _ _ _=>.junk) zd ?_;have hg:aD 2=.ep HC 0:=rfl;have lZ:=aa4;have bB:HC.take 32=HC:=rfl;simp[ahr,hg,lZ,bB];refine Qi vH (fun f m=>∃(i:Nat)(bx:T5),f 7=I i/\i<=8/\Ak nu de (za.drop i)=Ak nu de za/\m=⟨[I nu,I de]::[I 0,I 0,I 0,I 0]::bx,[],fun _=>.gone,0⟩) (fun f _=>8-(numOf (f 7)).toNat) ?_ ?_
 ·exact⟨0,[],zd,zE,rfl,rfl⟩
 rintro f m ⟨i,bx,h7,hi,hf,rfl⟩;by_cases h8:i=8
 ·subst h8;have:Ak nu de (za.drop 8)=none:=rfl;rw[this]at hf;simp[h7,vH,UB,<- hf,Ik]
 have ah:i<8:=zE
 obtain⟨x,hx,ai,hd⟩:=Si i ah;have aa:(i:Int)<8:=zE
 have hw:=bO i zE;have xk:min 4 (32-i*4)=4:=zE
 rw[hd,Ak]at hf;by_cases hc:x.1=nu/\x.2.1=de
 ·rw[if_pos hc]at hf;simp[h7,ah,aa,lZ,ai,xk,hc.1,hc.2,vH,UB,<- hf,Ik]
 rw[if_neg hc]at hf;by_cases fA:x.1=nu
 ·have Cy:¬x.2.1=de:=fun h=>hc ⟨fA,h⟩;simp[h7,ah,aa,lZ,ai,xk,fA,Cy,vH,hw];refine⟨aQ,⟨i+1,zd,zE,hf⟩,zE⟩
 simp[h7,ah,aa,lZ,ai,xk,fA,vH,hw];refine⟨aQ,⟨i+1,zd,zE,hf⟩,zE⟩
def Wv(nu de:Int):Pure Tryz.prog aD 132 [.agg [I nu,I de]] (.bool (Ve nu de)):=by
 have h:=Sj nu de;unfold Ve;refine Qp ace (fun _ _ _=>Ik (Ak nu de za)) zd ?_;cases hf:Ak nu de za with
 |none=>rw[hf]at h;simp only[Ik]at h;simp[TP,TQ,Ik];exact h
 |some x=>rw[hf]at h;simp only[Ik]at h;simp[TP,TQ,Ik];exact h
def Il(f:Int):Pure Tryz.prog aD 190 [I f] (.bool (decide (0<=f/\f<=100000000))):=by
 refine Qp acZ (fun _ _ _=>.junk) zd ?_;by_cases h1:0<=f<;>by_cases h2:f<=100000000<;>simp[ahu,ahv,h1,h2]
def sM(f:Int):Pure Tryz.prog aD 38 [I f] (.bool (decide (0<=f/\f<=100000000))):=by
 refine Qp ajV (fun _ _ _=>.junk) zd ?_;by_cases h1:0<=f<;>by_cases h2:f<=100000000<;>simp[aoM,aoN,h1,h2]
def Yk(nu de f:Int):Int:=if Ve nu de=true/\0<=f/\f<=100000000 then(f*de).tdiv nu else -1
def xD(nu de s:Int):Int:=if Ve nu de=true/\0<=s/\s<=10000000000 then(s*nu+de-1).tdiv de else -1
def D1{x y a b:Int}(h1:0<=x/\x<=a)(h2:0<=y/\y<=b):0<=x*y/\x*y<=a*b:=
 ⟨zzee h1.1 h2.1,Int.mul_le_mul h1.2 h2.2 h2.1 (zzhi h1.1 h1.2)⟩
def D2{x y:Int}(h:0<=x)(hy:1<=y):0<=x.tdiv y/\x.tdiv y<=x:=by
 rw[zzcl h];exact⟨Int.ediv_nonneg h zE,Int.ediv_le_self _ h⟩
def QH(nu de f:Int):Pure Tryz.prog aD 134 [.agg [I nu,I de],I f] (I (Yk nu de f)):=by
 have h1:=Wv nu de;have h2:=Il f;refine Qp acg (fun _ g _=>if g=132 then .bool (Ve nu de)else .bool (decide (0<=f/\f<=100000000))) zd ?_;cases hv:Ve nu de with
 |false=>rw[hv]at h1;simp[MQ,MR,hv,Yk];exact h1
 |true=>
  rw[hv]at h1;by_cases hf:0<=f/\f<=100000000
  ·obtain⟨b1,b2,b3,b4,_⟩:=Ju hv;obtain⟨p1,p2⟩:=D1 (x:=f) (y:=de) (a:=100000000) (b:=1001) ⟨hf.1,hf.2⟩ ⟨zE,zE⟩;have w1:IntKind.i64.wrap (f*de)=f*de:=by rw[Ql]<;>omega
   obtain⟨d1,d2⟩:=D2 (x:=f*de) (y:=nu) p1 zE;have w2:IntKind.i64.wrap ((f*de).tdiv nu)=(f*de).tdiv nu:=by rw[Ql]<;>omega
   have hnz:¬nu=0:=zE
   simp[hf]at h2;simp[MQ,MR,hv,Yk,hf,w1,w2,hnz];exact⟨h1,h2⟩
  simp only[hf,decide_false]at h2;simp[MQ,MR,hv,Yk,hf];exact⟨h1,h2⟩
def agf(a b:Int)(ha:0<=a/\a<=1000000000000000)(hb:1<=b/\b<=1001):Pure Tryz.prog aD 140 [I a,I b] (I ((a+b-1).tdiv b)):=by
 refine Qp acn (fun _ _ _=>.junk) zd ?_;have w1:IntKind.i64.wrap (a+b)=a+b:=by rw[Ql]<;>omega
 have w2:IntKind.i64.wrap (a+b-1)=a+b-1:=by rw[Ql]<;>omega
 obtain⟨d1,d2⟩:=D2 (x:=a+b-1) (y:=b) zE zE;have w3:IntKind.i64.wrap ((a+b-1).tdiv b)=(a+b-1).tdiv b:=by rw[Ql]<;>omega
 have hnz:¬b=0:=zE
 simp[agS,agT,w1,w2,w3,hnz]
def Bc(nu de s:Int):Pure Tryz.prog aD 86 [.agg [I nu,I de],I s] (I (xD nu de s)):=by
 have h1:=Wv nu de;refine Qp akD (fun _ g _=>if g=132 then .bool (Ve nu de)else I (xD nu de s)) zd ?_;cases hv:Ve nu de with
 |false=>rw[hv]at h1;simp[Tt,Tu,hv,xD];exact h1
 |true=>
  rw[hv]at h1;by_cases Nt:s<0
  ·have:¬(0<=s/\s<=10000000000):=zE
   simp[Tt,Tu,hv,xD,Nt,this];exact h1
  by_cases hs1:10000000000<s
  ·have:¬(0<=s/\s<=10000000000):=zE
   simp[Tt,Tu,hv,xD,Nt,hs1,this];exact h1
  have hs:0<=s/\s<=10000000000:=zE
  obtain⟨b1,b2,b3,b4,_⟩:=Ju hv;obtain⟨p1,p2⟩:=D1 (x:=s) (y:=nu) (a:=10000000000) (b:=60000) ⟨hs.1,hs.2⟩ ⟨zE,zE⟩;have w1:IntKind.i64.wrap (s*nu)=s*nu:=by rw[Ql]<;>omega
  have h2:=agf (s*nu) de ⟨p1,zE⟩ ⟨zE,zE⟩;simp[Tt,Tu,hv,xD,Nt,hs1,hs,w1];exact⟨h1,h2⟩
def gW(n:Int):Bool:=decide (-50400<=n/\n<=50400)
def zb(n:Int):Pure Tryz.prog aD 189 [I n] (.bool (gW n)):=by
 refine Qp acY (fun _ _ _=>.junk) zd ?_;by_cases h1: -50400<=n<;>by_cases h2:n<=50400<;>simp[ahs,aht,gW,h1,h2]
def tW:Int->List Sp->Bool
 |_,[]=>true
 |last,s::r=>if s.1<=last\/10000000000<s.1\/gW s.2=false then false else tW s.1 r
def Yg(of:Int)(sh:List Sp):Bool:=decide (sh.length<=40)&&gW of&&tW (-1) sh
def jy(of:Int)(sh:List Sp)(hl:sh.length<=1000000000):Pure Tryz.prog aD 133 [.agg [I of,.sl .ro (sh.map Qe)]] (.bool (Yg of sh)):=by
 have h1:=zb of;refine Qp acf (fun d f a=>match a with|[.int _ n]=>.bool (gW n)|_=>.junk) zd ?_;by_cases h40:40<sh.length
 ·have agh:(40:Int)<(sh.length:Int):=zE
  have:Yg of sh=false:=by simp[Yg];intro h;omega
  simp[Ex,vw,h40,agh,this]
 have agh:¬(40:Int)<(sh.length:Int):=zE
 cases ho:gW of with
 |false=>
  have:Yg of sh=false:=by simp[Yg,ho]
  rw[ho]at h1;simp[Ex,vw,h40,agh,this,ho];exact h1
 |true=>
  have hv:Yg of sh=tW (-1) sh:=by simp[Yg,ho];intro _;omega
  rw[ho]at h1;simp[Ex,h40,agh,ho];refine⟨h1,?_⟩;refine Qi qy (fun f m=>∃(i:Nat)(last:Int)(bx:T5),f 19=I i/\f 3=I last/\i<=sh.length/\tW last (sh.drop i)=tW (-1) sh/\m=⟨[I of,.sl .ro (sh.map Qe)]::bx,[],fun _=>.gone,0⟩) (fun f _=>sh.length-(numOf (f 19)).toNat) ?_ ?_
  ·exact⟨0,-1,[],zd,zd,zE,rfl,rfl⟩
  rintro f m ⟨i,last,bx,h19,h3,hi,ha,rfl⟩;rcases zzaa i sh.length with ah|bq
  ·obtain⟨s,hs⟩:=aV ah;have ai:=Zw hs;have aa:(i:Int)<(sh.length:Int):=zE
   have hw:=bO i zE;have hd:sh.drop i=s::sh.drop (i+1):=by rw[zzag ah,(zza.1 hs).2]
   rw[hd,tW]at ha;have hp:=zb s.2;by_cases c1:s.1<=last
   ·rw[if_pos (.inl c1)]at ha;simp[h19,h3,ah,aa,ai,c1,qy,vw,hv,<- ha]
   by_cases c2:10000000000<s.1
   ·rw[if_pos (.inr (.inl c2))]at ha;simp[h19,h3,ah,aa,ai,c1,c2,qy,vw,hv,<- ha]
   cases c3:gW s.2 with
   |false=>
    rw[if_pos (.inr (.inr c3))]at ha;rw[c3]at hp;simp[h19,h3,ah,aa,ai,c1,c2,c3,qy,vw,hv,<- ha];exact hp
   |true=>
    rw[if_neg (by rintro(h|h|h);exact c1 h;exact c2 h;rw[c3]at h;cases h)]at ha;rw[c3]at hp;simp[h19,h3,ah,aa,ai,c1,c2,c3,qy,hw];refine⟨hp,aQ,⟨i+1,zd,zE,ha⟩,zE⟩
  rw[zzal bq,tW]at ha;have bQ:¬(i:Int)<(sh.length:Int):=zE
  simp[h19,zzbk.2 bq,bQ,qy,vw,hv,<- ha]
def Kj(p:Pl):Bool:=Ve p.nu p.de&&Yg p.of p.sh&&decide (0<=p.ep/\p.ep<=9000000000)
def KO(p:Pl)(hl:p.sh.length<=1000000000):Pure Tryz.prog aD 81 [.agg (Qa p)] (.bool (Kj p)):=by
 have h1:=Wv p.nu p.de;have h2:=jy p.of p.sh hl;refine Qp akx (fun _ g _=>if g=132 then .bool (Ve p.nu p.de)else .bool (Yg p.of p.sh)) zd ?_;cases hv:Ve p.nu p.de with
 |false=>rw[hv]at h1;simp[abJ,abK,Qa,Kj,hv];exact h1
 |true=>
  rw[hv]at h1;cases hz:Yg p.of p.sh with
  |false=>rw[hz]at h2;simp[abJ,abK,Qa,Kj,hv,hz];exact⟨h1,h2⟩
  |true=>
   rw[hz]at h2;by_cases c1:0<=p.ep<;>by_cases c2:p.ep<=9000000000<;>simp[abJ,abK,Qa,Kj,hv,hz,c1,c2]<;>exact⟨h1,h2⟩
instance:DecidableEq Cl:=fun x y=>decidable_of_iff (x.ki=y.ki/\x.it=y.it/\x.fr=y.fr/\x.to=y.to/\x.re=y.re/\x.n=y.n/\x.a=y.a/\x.b=y.b) (by cases x;cases y;simp)
def wi(n lo hi:Int):Bool:=decide (lo<=n/\n<=hi)
def Vo(n lo hi:Int):Pure Tryz.prog aD 98 [I n,I lo,I hi] (.bool (wi n lo hi)):=by
 refine Qp TD (fun _ _ _=>.junk) zd ?_;by_cases h1:lo<=n<;>by_cases h2:n<=hi<;>simp[akU,akV,wi,h1,h2]
def ic(c:Cl):Cl:=
 if c.ki=1\/c.ki=2 then⟨c.ki,c.it,c.fr,c.to,c.re,0,0,0⟩else if c.ki=3\/c.ki=4 then⟨c.ki,c.it,0,0,c.re,c.n,0,0⟩else
 if c.ki=5 then⟨c.ki,0,0,0,0,c.n,c.a,c.b⟩else if c.ki=6 then⟨c.ki,0,c.fr,c.to,0,0,c.a,0⟩else⟨0,0,0,0,0,0,0,0⟩
def Sk(c:Cl):Pure Tryz.prog aD 96 [.agg (Qg c)] (.agg (Qg (ic c))):=by
 refine Qp TB (fun _ _ _=>.junk) zd ?_;by_cases h1:c.ki=1
 ·simp[BV,BW,Qg,ic,h1]
 by_cases h2:c.ki=2
 ·simp[BV,BW,Qg,ic,h2]
 by_cases h3:c.ki=3
 ·simp[BV,BW,Qg,ic,h3]
 by_cases h4:c.ki=4
 ·simp[BV,BW,Qg,ic,h4]
 by_cases h5:c.ki=5
 ·simp[BV,BW,Qg,ic,h5]
 by_cases h6:c.ki=6
 ·simp[BV,BW,Qg,ic,h6]
 simp[BV,BW,Qg,ic,h1,h2,h3,h4,h5,h6]
def Ja(c:Cl):Bool:=wi c.it 1 4611686018427387903&&wi c.re 1 255
def ze:UV:=fun _ _ l=>match l with
 |[.int _ n,.int _ lo,.int _ hi]=>.bool (wi n lo hi)
 |_=>.junk
def Im(c:Cl):Pure Tryz.prog aD 97 [.agg (Qg c)] (.bool (Ja c)):=by
 have h1:=Vo c.it 1 4611686018427387903;have h2:=Vo c.re 1 255;refine Qp TC ze zd ?_;cases e1:wi c.it 1 4611686018427387903 with
 |false=>rw[e1]at h1;simp[abL,abM,Qg,ze,Ja,e1];exact h1
 |true=>rw[e1]at h1;simp[abL,abM,Qg,ze,Ja,e1];exact⟨h1,h2⟩
def Kq(n:Int):Bool:=wi n 0 86340&&decide (n.tmod 60=0)
def tD(n:Int):Pure Tryz.prog aD 99 [I n] (.bool (Kq n)):=by
 have h1:=Vo n 0 86340;refine Qp TE ze zd ?_;cases e1:wi n 0 86340 with
 |false=>rw[e1]at h1;simp[abN,abO,ze,Kq,e1];exact h1
 |true=>
  rw[e1]at h1;by_cases e2:n.tmod 60=0<;>simp[abN,abO,ze,Kq,e1,e2]<;>exact h1
def Wz(c:Cl):Bool:=
 if c.ki=1\/c.ki=2 then Ja c&&(decide (0<=c.fr)&&(decide (c.fr<c.to)&&decide (c.to<=10000000000)))else if c.ki=3 then Ja c&&wi c.n 0 1000 else
 if c.ki=4 then Ja c&&wi c.n 0 10000000000 else if c.ki=5 then wi c.a 1 200&&(wi c.b 1 200&&(decide (c.a≠c.b)&&wi c.n 0 86400))else
 if c.ki=6 then wi c.a 1 3&&(Kq c.fr&&(Kq c.to&&decide (c.fr≠c.to)))else false
def Zc(c:Cl):Bool:=decide (ic c=c)&&Wz c
def ayG(c u:Cl):eqFs [I c.ki,I c.it,I c.fr,I c.to,I c.re,I c.n,I c.a,I c.b] [I u.ki,I u.it,I u.fr,I u.to,I u.re,I u.n,I u.a,I u.b]=decide (u=c):=by
 obtain⟨a1,a2,a3,a4,a5,a6,a7,a8⟩:=c;obtain⟨b1,b2,b3,b4,b5,b6,b7,b8⟩:=u;simp only[eqFs,eqF,Cl.mk.injEq,zzgd];by_cases h:(b1=a1/\b2=a2/\b3=a3/\b4=a4/\b5=a5/\b6=a6/\b7=a7/\b8=a8)
 ·obtain⟨rfl,rfl,rfl,rfl,rfl,rfl,rfl,rfl⟩:=h;simp
 rw[decide_eq_false h];apply Bool.eq_false_iff.2;intro hh;simp only[zzac,beq_iff_eq]at hh;obtain⟨e1,e2,e3,e4,e5,e6,e7,e8⟩:=hh;exact h ⟨e1.symm,e2.symm,e3.symm,e4.symm,e5.symm,e6.symm,e7.symm,e8.symm⟩
def anL(c:Cl):UV:=fun _ f l=>
 if f=96 then .agg (Qg (ic c))else if f=97 then .bool (Ja c)else if f=98 then(match l with
 |[.int _ n,.int _ lo,.int _ hi]=>.bool (wi n lo hi)
 |_=>.junk)else match l with
 |[.int _ n]=>.bool (Kq n)
 |_=>.junk
def We(c:Cl):Pure Tryz.prog aD 48 [.agg (Qg c)] (.bool (Zc c)):=by
 have h0:=Sk c;have hE:=ayG c (ic c);have hi:=Im c;refine Qp Te (anL c) zd ?_;by_cases hu:ic c=c
 ·rw[hu]at h0 hE;simp only[decide_true]at hE;have hv:Zc c=Wz c:=by simp[Zc,hu]
  rw[hv];simp[-eqFs,abA,Qg,anL,hu,hE];refine⟨h0,?_⟩;by_cases h1:c.ki=1\/c.ki=2
  ·have hk:Wz c=(Ja c&&(decide (0<=c.fr)&&(decide (c.fr<c.to)&&decide (c.to<=10000000000)))):=by unfold Wz;rw[if_pos h1]
   rw[hk];clear hk hv;cases e1:Ja c with
   |false=>rw[e1]at hi;rcases h1 with h1|h1<;>(simp[fZ,h1,e1];simpa[Qg,h1]using hi)
   |true=>
    rw[e1]at hi;by_cases e2:0<=c.fr<;>by_cases e3:c.fr<c.to<;>by_cases e4:c.to<=10000000000<;>rcases h1 with h1|h1<;>(simp[fZ,h1,e1,e2,e3,e4];simpa[Qg,h1]using hi)
  have pn:¬c.ki=1:=fun h=>h1 (.inl h);have qu:¬c.ki=2:=fun h=>h1 (.inr h);by_cases h3:c.ki=3
  ·have hk:Wz c=(Ja c&&wi c.n 0 1000):=by unfold Wz;rw[if_neg h1,if_pos h3]
   rw[hk];clear hk hv;have hw:=Vo c.n 0 1000;cases e1:Ja c with
   |false=>rw[e1]at hi;simp[fZ,h3,e1];simpa[Qg,h3]using hi
   |true=>rw[e1]at hi;simp[fZ,h3,e1];exact⟨by simpa[Qg,h3]using hi,hw⟩
  by_cases h4:c.ki=4
  ·have hk:Wz c=(Ja c&&wi c.n 0 10000000000):=by unfold Wz;rw[if_neg h1,if_neg h3,if_pos h4]
   rw[hk];clear hk hv;have hw:=Vo c.n 0 10000000000;cases e1:Ja c with
   |false=>rw[e1]at hi;simp[fZ,h4,e1];simpa[Qg,h4]using hi
   |true=>rw[e1]at hi;simp[fZ,h4,e1];exact⟨by simpa[Qg,h4]using hi,hw⟩
  by_cases h5:c.ki=5
  ·have hk:Wz c=(wi c.a 1 200&&(wi c.b 1 200&&(decide (c.a≠c.b)&&wi c.n 0 86400))):=by unfold Wz;rw[if_neg h1,if_neg h3,if_neg h4,if_pos h5]
   rw[hk];clear hk hv hi;have w1:=Vo c.a 1 200;have w2:=Vo c.b 1 200;have w3:=Vo c.n 0 86400;cases e1:wi c.a 1 200 with
   |false=>rw[e1]at w1;simp[fZ,h5,e1];exact w1
   |true=>
    rw[e1]at w1;cases e2:wi c.b 1 200 with
    |false=>rw[e2]at w2;simp[fZ,h5,e1,e2];exact⟨w1,w2⟩
    |true=>
     rw[e2]at w2;by_cases e3:c.a=c.b
     ·simp[fZ,h5,e1,e2,e3];exact w2
     simp[fZ,h5,e1,e2,e3];exact⟨w1,w2,w3⟩
  by_cases h6:c.ki=6
  ·have hk:Wz c=(wi c.a 1 3&&(Kq c.fr&&(Kq c.to&&decide (c.fr≠c.to)))):=by unfold Wz;rw[if_neg h1,if_neg h3,if_neg h4,if_neg h5,if_pos h6]
   rw[hk];clear hk hv hi;have w1:=Vo c.a 1 3;have w2:=tD c.fr;have w3:=tD c.to;cases e1:wi c.a 1 3 with
   |false=>rw[e1]at w1;simp[fZ,h6,e1];exact w1
   |true=>
    rw[e1]at w1;cases e2:Kq c.fr with
    |false=>rw[e2]at w2;simp[fZ,h6,e1,e2];exact⟨w1,w2⟩
    |true=>
     rw[e2]at w2;cases e4:Kq c.to with
     |false=>rw[e4]at w3;simp[fZ,h6,e1,e2,e4];exact⟨w1,w2,w3⟩
     |true=>
      rw[e4]at w3;by_cases e3:c.fr=c.to
      ·simp[fZ,h6,e1,e2,e4,e3];exact⟨w1,w3⟩
      simp[fZ,h6,e1,e2,e4,e3];exact⟨w1,w2,w3⟩
  have hk:Wz c=false:=by unfold Wz;rw[if_neg h1,if_neg h3,if_neg h4,if_neg h5,if_neg h6]
  rw[hk];simp[fZ,pn,qu,h3,h4,h5,h6]
 simp only[hu,decide_false]at hE;have hv:Zc c=false:=by simp[Zc,hu]
 rw[hv];simp[-eqFs,abA,fZ,Qg,anL,hE];exact h0
def auq(a:Int):IntKind.i64.wrap ((BitVec.ofInt 64 a&&& 1#64).toNat:Int)=a%2:=by
 have h:(BitVec.ofInt 64 a&&& 1#64).toNat=(BitVec.ofInt 64 a).toNat%2:=by
  rw[BitVec.toNat_and];exact Nat.and_one_is_mod _
 rw[h,BitVec.toNat_ofInt,Ql]<;>omega
def anM(c:Cl)(region:Int):Bool:=decide (c.re.fdiv (2 ^ (min region.toNat 64))%2=1)
def gV(c:Cl)(item region:Int):Bool:=wi region 0 7&&(decide (c.it=item)&&anM c region)
def mj(c:Cl)(item region:Int):Pure Tryz.prog aD 191 [.agg (Qg c),I item,I region] (.bool (gV c item region)):=by
 have h1:=Vo region 0 7;refine Qp ac0 ze zd ?_;cases e1:wi region 0 7 with
 |false=>rw[e1]at h1;simp[EF,EG,Qg,ze,gV,e1];exact h1
 |true=>
  have hr:0<=region:=by simp[wi]at e1;omega
  rw[e1]at h1;by_cases e2:c.it=item
  ·by_cases e3:c.re.fdiv (2 ^ (min region.toNat 64))%2=1
   ·simp[EF,EG,Qg,ze,gV,e1,e2,e3,hr,anM,IntKind.bits];exact⟨h1,(auq _).trans e3⟩
   simp[EF,EG,Qg,ze,gV,e1,e2,e3,hr,anM,IntKind.bits];exact⟨h1,fun h=>e3 ((auq _).symm.trans h)⟩
  simp[EF,EG,Qg,ze,gV,e1,e2];exact h1
def Gm(bX:Int)(c:Cl):Bool:=decide (c.ki=6)&&(decide (c.a<=bX)&&Zc c)
def uM(cs:List Cl)(bX:Int):List Sp:=(cs.filter (Gm bX)).map fun c=>(c.fr,c.to)
def tX(cs:List Cl)(bX:Int)(hl:cs.length<=100000000):Pure Tryz.prog aD 137 [.sl .ro (cs.map Qg),I bX] (.sl .ro ((uM cs bX).map Qe)):=by
 have key:∀r,r=(if uM cs bX=[]then AV.sl .nil []else .sl .ro ((uM cs bX).map Qe))->Pure Tryz.prog aD 137 [.sl .ro (cs.map Qg),I bX] r:=by
  rintro r rfl
  refine Qp acj (fun d f l=>if f=999999 then .junk else match l with
   |[.agg [.int _ a,.int _ b,.int _ c,.int _ d,.int _ e,.int _ f,.int _ g,.int _ h]]=>.bool (Zc ⟨a,b,c,d,e,f,g,h⟩)
   |_=>.junk) zd ?_
  simp[TS]
  refine Qi iS (fun f m=>∃(i:Nat)(bx:T5)(rt:Rt)(L':Pa)(o:List Sp),i<=cs.length/\f 10=I i/\f 5=.sl rt (o.map Qe)/\m=⟨bx,L',fun _=>.gone,0⟩/\o.length<=i/\o++uM (cs.drop i) bX=uM cs bX/\
   ((o=[]/\rt=.nil/\L'=[])\/(o≠[]/\rt=.own 0 2/\L'=[o.length]))) (fun f _=>cs.length-(numOf (f 10)).toNat) ?_ ?_
  ·exact⟨0,[],.nil,[],[],zE,zd,zd,rfl,zd,zd,.inl ⟨rfl,rfl,rfl⟩⟩
  rintro f m ⟨i,bx,rt,L',o,hi,iC,h5,rfl,zT,ho,aX⟩;rcases zzaa i cs.length with ah|bq
  ·obtain⟨c,hc⟩:=aV ah;have ai:Qh (cs.map Qg) i=Qg c:=Qu (by simp[hc]);have aa:(i:Int)<(cs.length:Int):=zE
   have hw:=bO i zE;have hd:cs.drop i=c::cs.drop (i+1):=by rw[zzag ah,(zza.1 hc).2]
   have XH:=We c;rw[hd]at ho
   have oI:∀row∈o.map Qe,row.length=2:=by
    intro row h;rw[zzav]at h;obtain⟨a,_,rfl⟩:=h;rfl
   have skip:Gm bX c=false->o++uM (cs.drop (i+1)) bX=uM cs bX:=by
    intro hb;rw[<- ho];simp[uM,hb]
   have take:Gm bX c=true->(o++[(c.fr,c.to)])++uM (cs.drop (i+1)) bX=uM cs bX:=by
    intro hb;rw[<- ho];simp[uM,hb]
   by_cases c1:c.ki=6
   ·have hc6:(⟨6,c.it,c.fr,c.to,c.re,c.n,c.a,c.b⟩:Cl)=c:=by cases c;simp at c1;subst c1;rfl
    have nG:Pure Tryz.prog aD 48 [.agg [I 6,I c.it,I c.fr,I c.to,I c.re,I c.n,I c.a,I c.b]] (.bool (Zc c)):=by simpa[Qg,c1]using XH
    by_cases c2:c.a<=bX
    ·cases c3:Zc c with
     |true=>
      have ht:=take (by simp[Gm,c1,c2,c3]);rw[c3]at nG;obtain⟨rfl,rfl,rfl⟩|⟨aO,rfl,rfl⟩:=aX
      ·simp[iC,h5,ah,aa,ai,Qg,c1,c2,hc6,c3,iS,hw];refine⟨nG,aQ,⟨i+1,zE,zd,_,.own 0 2,[1],[(c.fr,c.to)],⟨rfl,rfl⟩,⟨rfl,rfl⟩,zd,ht,zd⟩,zE⟩
      simp[iC,h5,ah,aa,ai,Qg,c1,c2,hc6,c3,iS,hw];refine⟨nG,⟨?_,zE⟩,aQ,⟨i+1,zE,zd,_,.own 0 2,[o.length+1],o++[(c.fr,c.to)],⟨rfl,by simp[Qe]⟩,⟨rfl,rfl⟩,by simp;omega,ht,zd⟩,zE⟩
      ·rintro row (⟨a,b,_,rfl⟩|rfl)<;>rfl
     |false=>
      have hs:=skip (by simp[Gm,c3]);rw[c3]at nG;simp[iC,h5,ah,aa,ai,Qg,c1,c2,hc6,c3,iS,hw];refine⟨nG,aQ,⟨i+1,zE,zd,_,rt,L',o,⟨rfl,rfl⟩,⟨rfl,rfl⟩,zE,hs,aX⟩,zE⟩
    have hs:=skip (by simp[Gm,c2]);simp[iC,h5,ah,aa,ai,Qg,c1,c2,iS,hw];refine⟨aQ,⟨i+1,zE,zd,_,rt,L',o,⟨rfl,rfl⟩,⟨rfl,rfl⟩,zE,hs,aX⟩,zE⟩
   have hs:=skip (by simp[Gm,c1]);simp[iC,h5,ah,aa,ai,Qg,c1,iS,hw];refine⟨aQ,⟨i+1,zE,zd,_,rt,L',o,⟨rfl,rfl⟩,⟨rfl,rfl⟩,zE,hs,aX⟩,zE⟩
  obtain rfl:i=cs.length:=zE
  have he:uM cs bX=o:=by rw[<- ho];simp[uM]
  rw[he];obtain⟨rfl,rfl,rfl⟩|⟨aO,rfl,rfl⟩:=aX
  ·simp[iC,h5,iS,TT]
  simp[iC,h5,iS,TT,aO]
 have hk:=key _ rfl;by_cases hn:uM cs bX=[]
 ·rw[if_pos hn]at hk;rw[hn];exact Zh hk (Wk.sl _ _)
 rw[if_neg hn]at hk;exact hk
