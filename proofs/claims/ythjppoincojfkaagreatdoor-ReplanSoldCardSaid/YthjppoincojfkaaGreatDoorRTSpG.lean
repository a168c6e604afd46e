import Derived.Shelf.SortM.SortNone
import Derived.Shelf.SortM.Plain
import Derived.Test.YthjppoincojfkaaGreatDoorRTTcA
import Derived.Shelf.SlicesG.Cmp
import Derived.Shelf.SlSortCmp.NoneTotal
set_option linter.all false
set_option maxRecDepth 100000
set_option maxHeartbeats 64000000
namespace Go.Abs
open Go Go.RowKit Go.Sort Go.Proofs
def p6:∀(vs:PQ)(o:Nat)(arr:P1)(k:Nat),o+vs.length<=arr.size->k<arr.size->(tF arr o vs)[k]?=if o<=k/\k<o+vs.length then vs[k-o]? else arr[k]?
 |[],o,arr,k,_,_=>by rw[tF,ab];simp
 |v::vs,o,arr,k,h,hk=>by
  simp only[zzbf]at h;rw[tF,p6 vs (o+1) _ k (by simp;omega) (Nm hk)];by_cases h1:o+1<=k/\k<o+1+vs.length
  ·rw[ac h1,ac (by simp;omega)];obtain⟨u,rfl⟩:∃u,k=o+1+u:=⟨k-(o+1),zE⟩;rw[show o+1+u-o=u+1 by omega,zzcl];congr 1;omega
  rw[ab h1];by_cases h2:k=o
  ·subst h2;rw[ac zd];simp[zzex,hk]
  rw[ab (by simp;omega)];simp[zzex,Ne.symm h2]
def D5{α:Type}[Inhabited α](enc:α->Value)(w:World)(b off:Nat)(d:Array α){arr:P1}{e:TypeId}{f:Nat×Nat}(h:w.heap[b]?=some (.cells arr e f))(hs:off+d.size<=arr.size):
  (putRow enc w b off d).heap=(w.setCells b off (d.toList.map enc)).heap:=by
 apply zzgl;intro k;by_cases hk:k=b
 ·subst hk;rw[Xb k _ off w arr e f h]
  have e1:(putRow enc w k off d).heap[k]?=some (.cells (putCells enc off d arr) e f):=by
   simp[putRow,mapBlock,zzdq,h,onCells]
  rw[e1];congr 2;apply zzgl;intro j;by_cases hj:j<arr.size
  ·rw[p6 _ off arr j (Nm hs) hj];simp only[putCells,zzhj,zzbw,zzbj];by_cases hc:off<=j/\j<off+d.size
   ·rw[ac hc,zzah hj];have ah:j-off<d.size:=zE
    simp[hc,ah]
   rw[ab hc,zzah hj];simp[hc]
  have s1:(putCells enc off d arr).size=arr.size:=by simp[putCells]
  have s2:=Vd (d.toList.map enc) arr off;rw[zzbq zE,zzbq zE]
 rw[Qy b _ off w k hk];simp[putRow,mapBlock,zzdq,Ne.symm hk]
section
variable {N:Nat} {w0:eO} {an:Nat->Nat->Prop} {γ:G} {w:World}
def abg{m:AM}(hm:au N w0 an γ w m.B m.L)(hl:cQ γ w m){id b:Nat}{cells:P2}(hB:m.boxes[id]?=some cells)(aO:cells≠[])(hb:γ.β id=some b){o:Nat}{xs:P2}{vs:PQ}
  (ha:ak w γ xs vs)(h1v:∀v∈vs,v.oneCell'=true){w':World}(agB:Below (w.setCells b o vs).heap.size (w.setCells b o vs) w'):
  ∃γ',ey w γ w' γ'/\au N w0 an γ' w' (m.wr id (setA cells o xs)).B (m.wr id (setA cells o xs)).L/\cQ γ' w' (m.wr id (setA cells o xs)):=by
 obtain⟨arr,e,hh,hr,Iv⟩:=hm.box id cells b hB hb;have h1:=hm.store hB hb hh hr Iv (o:=o) ha h1v aO;have e1:=hm.cz hb o vs;have e2:=h1.dm agB;have ev:=e1.trans e2;refine⟨_,ev.cF,?_,hl.mono' ev rfl⟩;have h2:=h1.grow agB;rw[ax2 m id _ hB];exact h2
end
def BM{α:Type}[Inhabited α]{P:Program}{gl:Nat->AV}{Y:YT}{f:FuncId}(hc:bA P f)(enc:α->PQ)(fq:α->P2)(sz:Nat)(hsz:∀x,(enc x).length=sz)
  (hA:∀(w:World)(γ:G)x,ak w γ (fq x) (enc x))(ayQ:∀(w:World)(γ:G)x vs,ak w γ (fq x) vs->vs=enc x)(h1:∀x,∀v∈enc x,v.oneCell'=true)
  {m:AM}{id off:Nat}{d:List α}{more:P2}{cells:P2}(hB:m.boxes[id]?=some cells)(aO:cells≠[])(anZ:∃pre post,cells=pre++(d.map fq).flatten++post/\pre.length=off){d2:List α->Prop}{K:So}
  (
   WK:∀(w:World)(b cap:Nat)(mv:PQ)(γ:G),ak w γ more mv->HoldsK enc sz w b off d.toArray->b<w.heap.size->Calls P f (Value.slice (some ⟨b,off,none⟩) d.length cap::mv).toArray w fun e w'=>
   e=.returned (.tuple #[])/\∃(d':List α)(n:Nat)(os:Array Obj),d'.length=d.length/\d2 d'/\w'=sortWorldK enc sz w b off n d'.toArray os)
  (hK:∀d':List α,d'.length=d.length->d2 d'->K (.aS []) (m.wr id (setA cells off ((d'.map fq).flatten)))):
  aB P gl Y f (.bs id off d.length sz::more) m K:=by
 refine aB.fP hc fun N w0 an γ w vs hm hl hr=>?_
 match vs,hr with
 |[],hr=>exact absurd hr.1 zd
 |v::mv,hr=>
 have hv:aA w γ (.bs id off d.length sz) v:=hr.2 0 _ _ rfl rfl;have hmv:ak w γ more mv:=⟨by have:=hr.1;simpa using this,fun i x y h1 h2=>hr.2 (i+1) x y (Nm h1) (Nm h2)⟩;cases hv with
 |@bs _ _ _ _ _ cap b arr e hb cw hh hs=>
 obtain⟨bN,e',hh',hrp,Iv⟩:=hm.box id cells b hB hb;rw[hh]at hh';cases hh';have hblk:b<w.heap.size:=aR hh;obtain⟨pre,post,rfl,rfl⟩:=anZ;have an0:∀x,(fq x).length=sz:=fun x=>by rw[(hA w γ x).1,hsz]
 have ayR:∀(l:List α),((l.map fq).flatten).length=l.length*sz:=by
  intro l;induction l with
  |nil=>simp
  |cons x l ih=>simp[ih,an0,zzbr];omega
 have cm:∀i(hi:i<d.length),∀c,c<sz->arr[pre.length+i*sz+c]?=some ((enc d[i])[c]?.getD undef):=by
  intro i hi c hcz
  have anz:ak w γ (fq d[i]) ((arr.toList.drop (pre.length+i*sz)).take sz):=by
   have eZ:((pre++(d.map fq).flatten++post).drop (pre.length+i*sz)).take sz=fq d[i]:=by
    have hd:d=d.take i++d[i]::d.drop (i+1):=zd
    have:(d.map fq).flatten=((d.take i).map fq).flatten++(fq d[i]++((d.drop (i+1)).map fq).flatten):=by
     conv=>lhs;rw[hd]
     simp only[zzcb,zzar,zzer,zzch]
    rw[this];rw[show pre++(((d.take i).map fq).flatten++(fq d[i]++((d.drop (i+1)).map fq).flatten))++post=(pre++((d.take i).map fq).flatten)++(fq d[i]++(((d.drop (i+1)).map fq).flatten++post)) by simp[zzbg]]
    have gK:(pre++((d.take i).map fq).flatten).length=pre.length+i*sz:=by
     rw[zzal,ayR,zzas];congr 2;omega
    rw[<- gK,zzgi,<- an0 d[i],List.take_left]
   refine⟨?_,fun j x y hx hy=>?_⟩
   ·rw[an0]
    have h3:pre.length+d.length*sz<=arr.size:=by
     have:=zzbc sz cw;omega
    have h4:(i+1)*sz<=d.length*sz:=zzbc sz zE;rw[zzbr,zzdv]at h4;simp;omega
   rw[<- eZ]at hx;rw[zzbk]at hx hy;split at hx
   ·rw[ac (by assumption)]at hy;rw[zzbl]at hx hy;exact hrp.2 _ x y hx hy
   cases hx
  have h5:=ayQ w γ _ _ anz;have h6:((arr.toList.drop (pre.length+i*sz)).take sz)[c]?=(enc d[i])[c]?:=by rw[h5]
  rw[zzbk,ac hcz,zzbl]at h6;have h7:(enc d[i])[c]?=some ((enc d[i])[c]'(by rw[hsz];exact hcz)):=zzaf _;rw[h7]at h6 |-
  simpa using h6
 have hH:HoldsK enc sz w b pre.length d.toArray:=by
  intro t ht;rw[size_flatK]at ht;simp only[zzev]at ht
  have k0:0<sz:=by
   rcases zzci sz with h|h;· rw[h]at ht;omega
   · exact h
  have hq:t/sz<d.length:=Nat.div_lt_of_lt_mul (by rw[zzek];exact ht);have zy:t%sz<sz:=zzei _ k0;rw[get_flatK enc sz _ t (Nm ht)];refine⟨?_,Zp hh⟩;rw[aN hh];have:=cm (t/sz) hq (t%sz) zy;rw[show pre.length+t/sz*sz+t%sz=pre.length+t by have:=zzh t sz;rw[zzek]at this;omega]at this;rw[this];have h8:d.toArray[t/sz]! =d[t/sz]:=by simp[hq]
  rw[h8];have h9:t%sz<(enc d[t/sz]).length:=by rw[hsz];exact zy
  simp[h9]
 refine(WK w b cap mv γ hmv hH hblk).mono ?_;rintro e1 w' ⟨rfl,d',n,os,zw,hp,rfl⟩
 have hA':ak w γ ((d'.map fq).flatten) ((d'.map enc).flatten):=by
  clear hp zw;induction d' with
  |nil=>simpa using ak.nil
  |cons x l ih=>simpa using(hA w γ x).append ih
 have mJ:∀v∈(d'.map enc).flatten,v.oneCell'=true:=by
  intro v hv;simp only[List.mem_flatten,zzan]at hv;obtain⟨l,⟨x,_,rfl⟩,hv⟩:=hv;exact h1 x v hv
 have PS:(flatK enc sz d'.toArray).toList=(d'.map enc).flatten:=by
  have ajM:∀(l:List α),((l.map enc).flatten).length=l.length*sz:=by
   intro l;induction l with
   |nil=>simp
   |cons x l ih=>simp[ih,hsz,zzbr];omega
  apply zzdc;intro t;by_cases ht:t<d'.length*sz
  ·have k0:0<sz:=by
    rcases zzci sz with h|h;· rw[h]at ht;omega
    · exact h
   have hq:t/sz<d'.length:=Nat.div_lt_of_lt_mul (by rw[zzek];exact ht);have zy:t%sz<sz:=zzei _ k0
   have e2:(flatK enc sz d'.toArray).toList[t]?=some ((flatK enc sz d'.toArray)[t]!):=by
    have:t<(flatK enc sz d'.toArray).size:=by rw[size_flatK];simpa using ht
    rw[zzce,zzah this,getElem!_pos (flatK enc sz d'.toArray) t this]
   rw[e2,get_flatK enc sz _ t (Nm ht)];have h8:d'.toArray[t/sz]! =d'[t/sz]:=by simp[hq]
   rw[h8];have hd:d'=d'.take (t/sz)++d'[t/sz]::d'.drop (t/sz+1):=zd
   have e3:(d'.map enc).flatten=((d'.take (t/sz)).map enc).flatten++(enc d'[t/sz]++((d'.drop (t/sz+1)).map enc).flatten):=by
    conv=>lhs;rw[hd]
    simp only[zzcb,zzar,zzer,zzch]
   have gK:(((d'.take (t/sz)).map enc).flatten).length=t/sz*sz:=by rw[ajM,zzas];congr 1;omega
   have e4:t=(((d'.take (t/sz)).map enc).flatten).length+t%sz:=by
    rw[gK];have:=zzh t sz;rw[zzek]at this;omega
   have h9:t%sz<(enc d'[t/sz]).length:=by rw[hsz];exact zy
   rw[e3,zzaq zE,zzak (by rw[hsz];omega)];rw[show t-(((d'.take (t/sz)).map enc).flatten).length=t%sz by omega];simp[h9]
  rw[zzav (by simp;omega),zzav (by rw[ajM];omega)]
 have fc:pre.length+d'.length*sz<=arr.size:=by
  have:=zzbc sz cw;rw[zw];omega
 have ajN:(sortWorldK enc sz w b pre.length n d'.toArray os).heap=(w.setCells b pre.length ((d'.map enc).flatten)).heap++os:=by
  have:=D5 _root_.id (Sort.ahead w n) b pre.length (flatK enc sz d'.toArray) (arr:=arr) (e:=e) (f:=(0,0)) hh (by rw[size_flatK];simpa using fc);show(putRow _root_.id (Sort.ahead w n) b pre.length (flatK enc sz d'.toArray)).heap++os=_;rw[this,List.map_id_fun,id_eq,PS];congr 1
  have uk:∀(vs:PQ)(o:Nat)(w1 w2:World),w1.heap=w2.heap->(w1.setCells b o vs).heap=(w2.setCells b o vs).heap:=by
   intro vs;induction vs with
   |nil=>intro o w1 w2 h;exact h
   |cons v vs ih=>intro o w1 w2 h;exact ih (o+1) _ _ (by simp[World.setCell,h])
  exact uk _ _ _ _ rfl
 have agB:Below (w.setCells b pre.length ((d'.map enc).flatten)).heap.size (w.setCells b pre.length ((d'.map enc).flatten)) (sortWorldK enc sz w b pre.length n d'.toArray os):=by
  have dx:=Xw b (zzab b) ((d'.map enc).flatten) pre.length w;refine⟨?_,?_,?_,by rw[ajN];simp,fun k hk=>?_⟩
  ·rw[dx.os];rfl
  ·rw[dx.tape];rfl
  ·rw[dx.output];rfl
  rw[ajN,zzfg hk]
 obtain⟨γ',h3,h4,h5⟩:=abg hm hl hB aO hb (o:=pre.length) hA' mJ agB;exact⟨_,γ',.aS [],_,rfl,h3,h4,h5,ym,hK d' zw hp⟩
end Go.Abs
namespace Go.Proofs.YthjppoincojfkaaGreatDoor
abbrev Sp:=Int×Int
def Xu(l:List Sp)(x:Int):Prop:=∃s∈l,s.1<=x/\x<s.2
def VS(l:List Sp):Prop:=(∀s∈l,s.1<s.2)/\l.Pairwise fun a b=>a.2<b.1
@[simp] def Yq(x:Int):Xu [] x<->False:=by simp[Xu]
@[simp] def Xf(s:Sp)(l:List Sp)(x:Int):Xu (s::l) x<->(s.1<=x/\x<s.2)\/Xu l x:=by simp[Xu]
@[simp] def Yu(a b:List Sp)(x:Int):Xu (a++b) x<->Xu a x\/Xu b x:=by
 simp only[Xu,zzaj,or_and_right,exists_or]
def Sf{a b:List Sp}(h:a.Perm b)(x:Int):Xu a x<->Xu b x:=by simp only[Xu,h.mem_iff]
def rR:VS []:=⟨fun _ h=>(by cases h),.nil⟩
def cT{s:Sp}{l:List Sp}:VS (s::l)<->s.1<s.2/\(∀t∈l,s.2<t.1)/\VS l:=by
 simp only[VS,zzao,forall_eq_or_imp,zzcg];constructor
 ·rintro⟨⟨h1,h2⟩,h3,h4⟩;exact⟨h1,h3,h2,h4⟩
 rintro⟨h1,h3,h2,h4⟩;exact⟨⟨h1,h2⟩,h3,h4⟩
def D6{s:Sp}{l:List Sp}:VS (l++[s])<->VS l/\s.1<s.2/\∀t∈l,t.2<s.1:=by
 simp only[VS,zzaj,zzbx,List.pairwise_append,List.pairwise_singleton,true_and];constructor
 ·rintro⟨h1,h2,h3⟩;exact⟨⟨fun t ht=>h1 t (.inl ht),h2⟩,h1 s (.inr rfl),fun t ht=>h3 t ht s rfl⟩
 rintro⟨⟨h1,h2⟩,h3,h4⟩;refine⟨?_,h2,?_⟩
 ·rintro t (ht|rfl)
  ·exact h1 t ht
  exact h3
 rintro t ht u rfl;exact h4 t ht
def rS:∀{a b:List Sp},VS a->VS b->(∀x,Xu a x<->Xu b x)->a=b
 |[],[],_,_,_=>rfl
 |[],t::b,_,hb,h=>by
  have:=(h t.1).2 (by rw[Xf];exact .inl ⟨zzbd _,(cT.1 hb).1⟩);simp at this
 |s::a,[],ha,_,h=>by
  have:=(h s.1).1 (by rw[Xf];exact .inl ⟨zzbd _,(cT.1 ha).1⟩);simp at this
 |s::a,t::b,ha,hb,h=>by
  obtain⟨s1,s2,s3⟩:=cT.1 ha;obtain⟨t1,t2,t3⟩:=cT.1 hb
  have key:∀{u v:Sp}{p q:List Sp},u.1<u.2->v.1<v.2->(∀w∈q,v.2<w.1)->(∀x,Xu (u::p) x->Xu (v::q) x)->v.1<=u.1:=by
   intro u v p q h1 mJ h2 h3;obtain⟨w,hw,h4,h5⟩:=h3 u.1 (by rw[Xf];exact .inl ⟨zzbd _,h1⟩);rcases zzao.1 hw with rfl|hw
   ·exact h4
   have:=h2 w hw;omega
  have e1:s.1=t.1:=Int.le_antisymm (key t1 s1 s2 fun x hx=>(h x).2 hx) (key s1 t1 t2 fun x hx=>(h x).1 hx)
  have YI:∀{u v:Sp}{p q:List Sp},u.1<u.2->u.1=v.1->(∀w∈p,u.2<w.1)->(∀x,Xu (v::q) x->Xu (u::p) x)->¬u.2<v.2:=by
   intro u v p q h1 h2 h3 h4 h5;obtain⟨w,hw,h6,h7⟩:=h4 u.2 (by rw[Xf];exact .inl ⟨zE,h5⟩);rcases zzao.1 hw with rfl|hw
   ·omega
   have:=h3 w hw;omega
  have e2:s.2=t.2:=by
   have k1:=YI s1 e1 s2 fun x hx=>(h x).2 hx;have k2:=YI t1 e1.symm t2 fun x hx=>(h x).1 hx;omega
  have e:s=t:=Prod.ext e1 e2;subst e;congr 1;refine rS s3 t3 fun x=>?_
  have out:∀{p:List Sp},(∀w∈p,s.2<w.1)->Xu p x->¬(s.1<=x/\x<s.2):=by
   rintro p hp ⟨w,hw,h1,_⟩ ⟨_,h2⟩;have:=hp w hw;omega
  have hx:=h x;rw[Xf,Xf]at hx;constructor
  ·intro h1;exact(hx.1 (.inr h1)).resolve_left (out s2 h1)
  intro h1;exact(hx.2 (.inr h1)).resolve_left (out t2 h1)
def Sg(out:List Sp)(v:Sp):List Sp:=match out.getLast? with
 |none=>[v]
 |some u=>if v.1<=u.2 then out.dropLast++[(u.1,max u.2 v.2)]else out++[v]
def H8:List Sp->List Sp->List Sp
 |out,[]=>out
 |out,v::r=>H8 (Sg out v) r
def an1{out:List Sp}{v:Sp}(ho:VS out)(hv:v.1<v.2)(hl:∀u∈out,u.1<=v.1):
  VS (Sg out v)/\(∀x,Xu (Sg out v) x<->Xu (out++[v]) x)/\∀u∈Sg out v,u.1<=v.1:=by
 unfold Sg;cases h:out.getLast? with
 |none=>
  have:out=[]:=List.getLast?_eq_none_iff.1 h;subst this;exact⟨cT.2 ⟨hv,zd,rR⟩,zd,zd⟩
 |some u=>
  obtain⟨p,rfl⟩:∃p,out=p++[u]:=zzfi.1 h;obtain⟨h1,h2,h3⟩:=D6.1 ho;have hu:=hl u zd;by_cases hc:v.1<=u.2
  ·simp only[ac hc,zzfz];refine⟨D6.2 ⟨h1,?_,h3⟩,fun x=>?_,?_⟩
   ·show u.1<max u.2 v.2;omega
   ·simp only[Yu,Xf,Yq,or_false];constructor
    ·rintro(h|h)
     ·exact .inl (.inl h)
     by_cases hx:x<u.2
     ·exact .inl (.inr ⟨h.1,hx⟩)
     exact .inr ⟨zE,zE⟩
    rintro((h|h)|h)
    ·exact .inl h
    ·exact .inr ⟨h.1,zE⟩
    exact .inr ⟨zE,zE⟩
   intro w hw;rcases zzaj.1 hw with hw|hw
   ·exact hl w (by simp[hw])
   simp at hw;subst hw;exact hu
  simp only[ab hc];refine⟨D6.2 ⟨ho,hv,fun t ht=>?_⟩,fun x=>by simp only[],?_⟩
  ·rcases zzaj.1 ht with ht|ht
   ·have:=h3 t ht;omega
   simp at ht;subst ht;omega
  intro w hw;rcases zzaj.1 hw with hw|hw
  ·exact hl w hw
  simp at hw;subst hw;exact zzbd _
def abh:∀{r out:List Sp},VS out->(∀v∈r,v.1<v.2)->r.Pairwise (fun a b=>a.1<=b.1)->(∀u∈out,∀v∈r,u.1<=v.1)->
  VS (H8 out r)/\∀x,Xu (H8 out r) x<->Xu (out++r) x
 |[],out,h,_,_,_=>⟨h,fun x=>by simp[H8]⟩
 |v::r,out,h,hn,hp,hl=>by
  obtain⟨h1,h2,h3⟩:=an1 h (hn v zd) fun u hu=>hl u hu v zd;obtain⟨p1,p2⟩:=zzcg.1 hp;obtain⟨h4,h5⟩:=abh (r:=r) h1 (fun w hw=>hn w (by simp[hw])) p2 fun u hu w hw=>zzem (h3 u hu) (p1 w hw);refine⟨h4,fun x=>?_⟩;rw[H8,h5,Yu,h2];simp only[Yu,Xf,Yq,or_false,or_assoc]
def mA(s:Sp):Bool:=decide (s.1<s.2)
def Xm(l:List Sp):List Sp:=H8 [] ((l.filter mA).mergeSort fun a b=>decide (a.1<=b.1))
def Mh(l:List Sp)(x:Int):Xu (l.filter mA) x<->Xu l x:=by
 simp only[Xu,zzbp,mA,am];constructor
 ·rintro⟨s,⟨h1,_⟩,h2⟩;exact⟨s,h1,h2⟩
 rintro⟨s,h1,h2⟩;exact⟨s,⟨h1,zE⟩,h2⟩
def nR{l d:List Sp}(hp:d.Perm (l.filter mA))(hs:d.Pairwise fun a b=>a.1<=b.1):VS (H8 [] d)/\∀x,Xu (H8 [] d) x<->Xu l x:=by
 obtain⟨h1,h2⟩:=abh (r:=d) rR (fun v hv=>by have:=hp.mem_iff.1 hv;simp[mA]at this;exact this.2) hs zd;exact⟨h1,fun x=>by rw[h2,zzag,Sf hp,Mh]⟩
def Va(l:List Sp):VS (Xm l)/\∀x,Xu (Xm l) x<->Xu l x:=by
 refine nR (zzgg _ _) ?_;have:=zzfq (le:=fun a b:Sp=>decide (a.1<=b.1)) (fun a b c h1 h2=>by simp at*;omega) (fun a b=>by simp;omega) (l.filter mA);exact this.imp zd
def an2{l d:List Sp}(hp:d.Perm (l.filter mA))(hs:d.Pairwise fun a b=>a.1<=b.1):H8 [] d=Xm l:=
 rS (nR hp hs).1 (Va l).1 fun x=>by rw[(nR hp hs).2,(Va l).2]
def abi{l:List Sp}(h:VS l):Xm l=l:=rS (Va l).1 h (Va l).2
def an3{P:Int->Prop}{out:List Sp}{v:Sp}(ho:∀u∈out,P u.1/\P u.2)(hv:P v.1/\P v.2):∀u∈Sg out v,P u.1/\P u.2:=by
 unfold Sg;cases h:out.getLast? with
 |none=>intro u hu;simp at hu;subst hu;exact hv
 |some w=>
  obtain⟨p,rfl⟩:∃p,out=p++[w]:=zzfi.1 h;have hw:=ho w zd;by_cases hc:v.1<=w.2
  ·simp only[ac hc,zzfz];intro u hu;rcases zzaj.1 hu with hu|hu
   ·exact ho u (by simp[hu])
   simp at hu;subst hu;refine⟨hw.1,?_⟩;show P (max w.2 v.2);rcases Int.le_total w.2 v.2 with h|h
   ·rw[Int.max_eq_right h];exact hv.2
   rw[Int.max_eq_left h];exact hw.2
  simp only[ab hc];intro u hu;rcases zzaj.1 hu with hu|hu
  ·exact ho u hu
  simp at hu;subst hu;exact hv
def abj{P:Int->Prop}:∀{r out:List Sp},(∀u∈out,P u.1/\P u.2)->(∀u∈r,P u.1/\P u.2)->∀u∈H8 out r,P u.1/\P u.2
 |[],_,h,_=>h
 |v::r,out,h,hr=>abj (r:=r) (an3 h (hr v zd)) fun u hu=>hr u (by simp[hu])
def YV{P:Int->Prop}{l:List Sp}(h:∀u∈l,P u.1/\P u.2):∀u∈Xm l,P u.1/\P u.2:=
 abj zd fun u hu=>h u (by
  have:=(zzgg (l.filter mA) fun a b=>decide (a.1<=b.1)).mem_iff.1 hu;exact(zzbp.1 this).1)
def Mj(out:List Sp)(v:Sp):(Sg out v).length<=out.length+1:=by
 unfold Sg;cases h:out.getLast? with
 |none=>simp
 |some w=>
  have:out≠[]:=by rintro rfl;simp at h
  have:=zzdf.2 this;dsimp only;split<;>simp<;>omega
def yT:∀(r out:List Sp),(H8 out r).length<=out.length+r.length
 |[],out=>by simp[H8]
 |v::r,out=>by
  have h1:=yT r (Sg out v);have h2:=Mj out v;rw[H8];simp;omega
def Yx(l:List Sp):(Xm l).length<=l.length:=by
 have h1:=yT ((l.filter mA).mergeSort fun a b=>decide (a.1<=b.1)) [];have h2:=zzcf mA l;rw[zzf]at h1;simp at h1;unfold Xm;omega
def ua:Nat->List Sp->List Sp->List Sp
 |0,_,_=>[]
 |_,[],_=>[]
 |_,_,[]=>[]
 |n+1,s::a,t::b=>
  (if max s.1 t.1<min s.2 t.2 then[(max s.1 t.1,min s.2 t.2)]else[])++(if s.2<t.2 then ua n a (t::b)else ua n (s::a) b)
def Mk:∀(n:Nat){a b:List Sp},a.length+b.length<=n->VS a->VS b->VS (ua n a b)/\(∀x,Xu (ua n a b) x<->Xu a x/\Xu b x)/\
  ∀u∈ua n a b,(∃s∈a,s.1<=u.1)/\∃t∈b,t.1<=u.1
 |0,a,b,h,_,_=>by
  have h1:a=[]:=zzcd.1 zE;subst h1;exact⟨rR,fun x=>by simp[ua],by simp[ua]⟩
 |n+1,[],b,h,_,_=>⟨by simpa[ua]using rR,fun x=>by simp[ua],by simp[ua]⟩
 |n+1,s::a,[],h,_,_=>⟨by simpa[ua]using rR,fun x=>by simp[ua],by simp[ua]⟩
 |n+1,s::a,t::b,h,ha,hb=>by
  obtain⟨s1,s2,s3⟩:=cT.1 ha;obtain⟨t1,t2,t3⟩:=cT.1 hb;simp only[zzbf]at h
  have mem:∀{p:List Sp}{u:Sp}{x:Int},(∀w∈p,u.2<w.1)->x<=u.2->¬Xu p x:=by
   rintro p u x hp hx ⟨w,hw,h1,_⟩;have:=hp w hw;omega
  rw[ua];by_cases hc:s.2<t.2
  ·rw[ac hc];obtain⟨h1,h2,h3⟩:=Mk n (a:=a) (b:=t::b) (by simp;omega) s3 hb
   have hx:∀x,Xu (if max s.1 t.1<min s.2 t.2 then[(max s.1 t.1,min s.2 t.2)]else[]) x<->(s.1<=x/\x<s.2)/\Xu (t::b) x:=by
    intro x;rw[Xf];by_cases hi:max s.1 t.1<min s.2 t.2
    ·rw[ac hi];simp only[Xf,Yq,or_false];constructor
     ·rintro⟨h1,h2⟩;exact⟨⟨zE,zE⟩,.inl ⟨zE,zE⟩⟩
     rintro⟨h1,h2|h2⟩
     ·exact⟨zE,zE⟩
     exact absurd h2 (mem (u:=t) t2 zE)
    rw[ab hi];simp only[Yq,false_iff];rintro⟨h1,h2|h2⟩
    ·omega
    exact absurd h2 (mem (u:=t) t2 zE)
   refine⟨?_,fun x=>?_,?_⟩
   ·by_cases hi:max s.1 t.1<min s.2 t.2
    ·rw[ac hi,zzfa];refine cT.2 ⟨hi,fun u hu=>?_,h1⟩;obtain⟨⟨w,hw,hwu⟩,_⟩:=h3 u hu;have:=s2 w hw;show min s.2 t.2<u.1;omega
    rw[ab hi];exact h1
   ·rw[Yu,hx,h2,Xf s];constructor
    ·rintro(⟨h1,h2⟩|⟨h1,h2⟩)
     ·exact⟨.inl h1,h2⟩
     exact⟨.inr h1,h2⟩
    rintro⟨h1|h1,h2⟩
    ·exact .inl ⟨h1,h2⟩
    exact .inr ⟨h1,h2⟩
   intro u hu;rcases zzaj.1 hu with hu|hu
   ·split at hu
    ·simp at hu;subst hu;exact⟨⟨s,zd,by show s.1<=max s.1 t.1;omega⟩,⟨t,zd,by show t.1<=max s.1 t.1;omega⟩⟩
    cases hu
   obtain⟨⟨w,hw,hwu⟩,cK⟩:=h3 u hu;exact⟨⟨w,by simp[hw],hwu⟩,cK⟩
  rw[ab hc];obtain⟨h1,h2,h3⟩:=Mk n (a:=s::a) (b:=b) (by simp;omega) ha t3
  have hx:∀x,Xu (if max s.1 t.1<min s.2 t.2 then[(max s.1 t.1,min s.2 t.2)]else[]) x<->Xu (s::a) x/\(t.1<=x/\x<t.2):=by
   intro x;rw[Xf];by_cases hi:max s.1 t.1<min s.2 t.2
   ·rw[ac hi];simp only[Xf,Yq,or_false];constructor
    ·rintro⟨h1,h2⟩;exact⟨.inl ⟨zE,zE⟩,⟨zE,zE⟩⟩
    rintro⟨h2|h2,h1⟩
    ·exact⟨zE,zE⟩
    exact absurd h2 (mem (u:=s) s2 zE)
   rw[ab hi];simp only[Yq,false_iff];rintro⟨h2|h2,h1⟩
   ·omega
   exact absurd h2 (mem (u:=s) s2 zE)
  refine⟨?_,fun x=>?_,?_⟩
  ·by_cases hi:max s.1 t.1<min s.2 t.2
   ·rw[ac hi,zzfa];refine cT.2 ⟨hi,fun u hu=>?_,h1⟩;obtain⟨_,⟨w,hw,hwu⟩⟩:=h3 u hu;have:=t2 w hw;show min s.2 t.2<u.1;omega
   rw[ab hi];exact h1
  ·rw[Yu,hx,h2,Xf t];constructor
   ·rintro(⟨h1,h2⟩|⟨h1,h2⟩)
    ·exact⟨h1,.inl h2⟩
    exact⟨h1,.inr h2⟩
   rintro⟨h1,h2|h2⟩
   ·exact .inl ⟨h1,h2⟩
   exact .inr ⟨h1,h2⟩
  intro u hu;rcases zzaj.1 hu with hu|hu
  ·split at hu
   ·simp at hu;subst hu;exact⟨⟨s,zd,by show s.1<=max s.1 t.1;omega⟩,⟨t,zd,by show t.1<=max s.1 t.1;omega⟩⟩
   cases hu
  obtain⟨ha',⟨w,hw,hwu⟩⟩:=h3 u hu;exact⟨ha',⟨w,by simp[hw],hwu⟩⟩
def zQ(a b:List Sp):List Sp:=ua ((Xm a).length+(Xm b).length) (Xm a) (Xm b)
def ko(a b:List Sp):VS (zQ a b)/\∀x,Xu (zQ a b) x<->Xu a x/\Xu b x:=by
 obtain⟨h1,h2,_⟩:=Mk _ (zzab _) (Va a).1 (Va b).1;exact⟨h1,fun x=>by rw[zQ,h2,(Va a).2,(Va b).2]⟩
def D7(f t:Int):List Sp:=if f<t then[(f,t)]else[]
def jU:Int->Int->List Sp->List Sp×List Sp
 |f,t,[]=>(D7 f t,[])
 |f,t,h::r=>if h.1<t then(if t<=max f h.2 then(D7 f h.1,h::r)else(D7 f h.1++(jU (max f h.2) t r).1,(jU (max f h.2) t r).2))else(D7 f t,h::r)
def ud:List Sp->List Sp->List Sp
 |[],_=>[]
 |s::a,hs=>(jU s.1 s.2 hs).1++ud a (jU s.1 s.2 hs).2
def C8(a b:List Sp):List Sp:=ud (Xm a) (Xm b)
def p7(f t:Int):D7 f t=[]<->t<=f:=by unfold D7;split<;>simp<;>omega
def H9:∀{H:List Sp}{f t:Int},VS H->((jU f t H).1=[]<->∀x,f<=x->x<t->Xu H x)
 |[],f,t,_=>by
  simp only[jU,p7,Yq];constructor
  ·intro h x h1 h2;omega
  intro h;rcases zzdw f t with hf|hf
  ·exact(h f (zzbd _) hf).elim
  exact hf
 |h::r,f,t,hV=>by
  obtain⟨h1,h2,h3⟩:=cT.1 hV
  have mem:∀{x:Int},Xu r x->h.2<x:=by
   rintro x ⟨w,hw,h4,_⟩;have:=h2 w hw;omega
  rw[jU];by_cases hc:h.1<t
  ·rw[ac hc];by_cases hd:t<=max f h.2
   ·rw[ac hd];simp only[p7,Xf];constructor
    ·intro h5 x h6 h7;exact .inl ⟨zE,zE⟩
    intro h5;by_cases hf:f<t
    ·rcases h5 f (zzbd _) hf with h6|h6
     ·exact h6.1
     have:=mem h6;omega
    omega
   rw[ab hd];simp only[zzhd,p7,H9 h3,Xf];constructor
   ·rintro⟨h5,h6⟩ x h7 h8;by_cases hx:x<h.2
    ·exact .inl ⟨zE,hx⟩
    exact .inr (h6 x zE h8)
   intro h5;refine⟨?_,fun x h6 h7=>?_⟩
   ·rcases h5 f (zzbd _) zE with h6|h6
    ·exact h6.1
    have:=mem h6;omega
   exact(h5 x zE h7).resolve_left zE
  rw[ab hc];simp only[p7,Xf];constructor
  ·intro h5 x h6 h7;omega
  intro h5;rcases zzdw f t with hf|hf
  ·rcases h5 f (zzbd _) hf with h6|h6
   ·omega
   have:=mem h6;omega
  exact hf
def KU{s:Sp}(hs:s.1<s.2)(l:List Sp):C8 [s] l=[]<->∀x,s.1<=x->x<s.2->Xu l x:=by
 rw[C8,abi (l:=[s]) (cT.2 ⟨hs,zd,rR⟩)];simp only[ud,zzat,H9 (Va l).1,(Va l).2]
end Go.Proofs.YthjppoincojfkaaGreatDoor
namespace Go.Proofs.YthjppoincojfkaaGreatDoor
open Go Go.Abs
def em(s:Sp):Bool:=decide (s.2<=s.1)
def Ia(s:Sp):mA s=!em s:=by simp[mA,em,<- decide_not,Int.not_le]
def nD(s:Sp):Pure Tryz.prog aD 185 [.agg [I s.1,I s.2]] (.bool (em s)):=by
 refine Qp adg (fun _ _ _=>.junk) zd ?_;simp[ahK,ahL,em]
def BN:UV:=fun _ _ l=>match l with
 |[.agg [.int _ a,.int _ b]]=>.bool (decide (b<=a))
 |_=>.junk
def p8:List Sp->Nat->Int
 |[],_=> -1
 |s::r,i=>if em s=true then i else p8 r (i+1)
def Ib:∀{l:List Sp}{i:Nat},p8 l i= -1->l.filter mA=l
 |[],_,_=>rfl
 |s::r,i,h=>by
  simp only[p8]at h;split at h
  ·omega
  rename_i hn;have qh:mA s=true:=by rw[Ia];simpa using hn
  simp[zzdp,qh,Ib h]
def Ic:∀{l:List Sp}{i:Nat},p8 l i≠ -1->∃k:Nat,p8 l i=((i+k:Nat):Int)/\k<l.length/\(l.take (k+1)).filter mA=l.take k
 |[],_,h=>absurd rfl h
 |s::r,i,h=>by
  simp only[p8]at h |-
  split
  ·rename_i hs;have qh:mA s=false:=by rw[Ia,hs];rfl
   exact⟨0,rfl,zd,by simp[zzdp,qh]⟩
  rename_i hs;have qh:mA s=true:=by rw[Ia];simpa using hs
  rw[ab hs]at h;obtain⟨k,h1,h2,h3⟩:=Ic h;exact⟨k+1,by rw[h1];congr 1;omega,Nm h2,by simp[zzdp,qh,h3]⟩
def p9(l:List Sp)(hl:l.length<=1000000000):Pure Tryz.prog aD 231 [.sl .ro (l.map Qe),.fn 185 [] []] (I (p8 l 0)):=by
 refine Qp adK BN zd ?_;simp[aia,aib];refine Qj Cg (fun s m=>∃i:Nat,s 8=I i/\i<=l.length/\p8 (l.drop i) i=p8 l 0/\m=⟨[],[],fun _=>.gone,0⟩) (fun s m=>l.length-(numOf (s 8)).toNat) ?_ ?_
 ·exact⟨0,zd,zE,zd,rfl⟩
 rintro f m ⟨i,h8,hi,hr,rfl⟩;rcases zzaa i l.length with ah|bu
 ·obtain⟨s,hs⟩:=aV ah;have ai:=Zy hs
  have fk:l.drop i=s::l.drop (i+1):=by
   rw[zzai ah,(zza.1 hs).2]
  have hw:=bO i zE;have aa:(i:Int)<(l.length:Int):=zE
  have hp:=nD s;rw[fk]at hr;simp only[p8]at hr;by_cases he:s.2<=s.1
  ·have GN:em s=true:=by simp[em,he]
   rw[GN]at hp;rw[ac GN]at hr;simp[h8,ah,aa,ai,Cg,BN,he,<- hr];exact hp
  have GN:em s=false:=by simp[em];omega
  rw[GN]at hp;rw[GN]at hr;simp only[zzbi,if_false]at hr;simp[h8,ah,aa,ai,Cg,BN,he,hw];refine⟨hp,aQ,⟨i+1,zd,zE,hr⟩,zE⟩
 have bP:¬(i:Int)<(l.length:Int):=zE
 rw[zzam bu]at hr;simp only[p8]at hr;simp[h8,bP,zzbm.2 bu,Cg,<- hr]
def nS(k:Int):UV:=fun _ f l=>if f=231 then I k else BN 0 0 l
def Ml(Y:YT)(l:List Sp)(hl:l.length<=1000000000)(B:T5)(L:Pa)(st:Nat->LS)(n id:Nat)(aK:id<B.length)(aO:l≠[])(hB:Qi B id=cE l)(K:So)
  (hK:∀(B':T5)(z:List Sp),bC (·=id) B B'->Qi B' id=cE (l.filter mA++z)->(l.filter mA).length+z.length=l.length->K (.bs id 0 (l.filter mA).length 2) ⟨B',L,st,n⟩):
  aB Tryz.prog aD Y 184 [.bs id 0 l.length 2,.fn 185 [] []] ⟨B,L,st,n⟩ K:=by
 have El:=p9 l hl;have gA:=Ve ⟨B,L,st,n⟩ 4 (C5 l);have gY:=Qef l;have aH:=Yh l;refine Xo M8 (nS (p8 l 0)) zd ?_;by_cases hk:p8 l 0= -1
 ·have hf:=Ib hk;rw[hk]at El;have:=hK B [] (bC.refl _ _) (by rw[hf];simpa using hB) (by rw[hf];simp);rw[hf]at this;simp[EH,M7,nS,hk,hB,gA,gY,aH];exact⟨El,this⟩
 obtain⟨k,dK,eE,yf⟩:=Ic hk;rw[zzbs]at dK;have Eg:¬(k:Int)= -1:=zE
 have NV:=bO k zE;rw[dK]at El;simp[EH,M7,nS,dK,Eg,hB,gA,gY,aH,NV];refine⟨El,?_⟩
 refine Qj Ce (fun f m=>∃(i j:Nat)(B':T5)(L':List Sp),f 5=I i/\f 6=I j/\i<j/\j<=l.length/\m=⟨B',L,st,n⟩/\bC (·=id) B B'/\Qi B' id=cE L'/\L'.length=l.length/\L'.take i=(l.take j).filter mA/\L'.drop j=l.drop j)
  (fun f m=>l.length-(numOf (f 6)).toNat) ?_ ?_
 ·exact⟨k,k+1,B,l,zd,zd,zE,zE,rfl,bC.refl _ _,hB,rfl,yf.symm,rfl⟩
 rintro f m ⟨i,j,B',L',h5,h6,fu,hj,rfl,ng,eP,tK,ht,hd⟩;have cG:id<B'.length:=zzaz aK ng.1;have jc:=Yh L';rcases zzaa j l.length with ah|bu
 ·obtain⟨s,hs⟩:=aV ah
  have dz:L'[j]?=some s:=by
   have:=congrArg (fun x=>x[0]?) hd;simpa[hs]using this
  have hg:=uD dz;have dF:(j:Int)<(l.length:Int):=zE
  have aa:(i:Int)<(l.length:Int):=zE
  have wM:i<l.length:=zE
  have xy:=bO j zE;have XV:=bO i zE;have hp:=nD s;have bR:=Ow L' i s zE;simp only[setA]at bR;have gX:∀x,Qi (B'++x) id=cE L':=fun x=>by rw[Qn cG,eP]
  have lu:∀x v,(B'++x).set id v=B'.set id v++x:=fun x v=>Yl v cG
  have bz:(l.take (j+1)).filter mA=(l.take j).filter mA++[s].filter mA:=by
   rw[zzay,hs,zzdb];rfl
  have hdj:L'.drop (j+1)=l.drop (j+1):=by
   have:=congrArg (List.drop 1) hd;simpa[zzdr,zzfn]using this
  by_cases he:s.2<=s.1
  ·have GN:em s=true:=by simp[em,he]
   have qh:mA s=false:=by rw[Ia,GN];rfl
   rw[GN]at hp;simp[h5,h6,dF,ah,aa,eP,gX,lu,hg,Ce,nS,BN,he,xy,XV];refine⟨hp,aQ,⟨i,rfl,j+1,zd,zE,zE,ng.app _,?_⟩,zE⟩
   ·refine⟨L',rfl,tK,?_,hdj⟩;rw[bz,ht];simp[qh]
  have GN:em s=false:=by simp[em];omega
  have qh:mA s=true:=by rw[Ia,GN];rfl
  rw[GN]at hp;simp[h5,h6,dF,ah,aa,wM,eP,gX,lu,hg,Ce,nS,BN,he,xy,XV,bR,jc,tK];refine⟨hp,zE,aQ,⟨i+1,zd,j+1,zd,zE,zE,(ng.set (.inl rfl) _).app _,?_⟩,zE⟩
  ·refine⟨L'.set i s,by rw[Qn (Nm cG),Yi _ cG],Nm tK,?_,?_⟩
   ·rw[bz,<- ht,zzay,zzbh zE,zzgd zE];simp[qh]
   rw[zzge zE];exact hdj
 obtain rfl:j=l.length:=zE
 rw[zzbu]at ht;have eZ:(l.filter mA).length=i:=by rw[<- ht,zzas];omega
 have N4:¬((l.length:Nat):Int)<(l.length:Int):=zE
 have bP:(i:Int)<=(l.length:Int):=zE
 have aa:(i:Int)<(l.length:Int):=zE
 have wM:i<l.length:=fu
 have fI:cE L'≠[]:=by
  intro h;have:=congrArg List.length h;rw[jc,tK]at this;simp at this;omega
 have qj:setA (cE L') (i*2) (bF (l.length-i) [I 0,I 0])=cE (l.filter mA++List.replicate (l.length-i) (0,0)):=by
  have e1:L'=L'.take i++L'.drop i:=zd
  conv=>lhs;rw[e1]
  rw[Qcc,Qcc,<- ht,RA];have e2:(cE (L'.take i)).length=i*2:=by rw[Yh,zzas];congr 1;omega
  rw[<- e2];exact oQ _ _ _ (by rw[Yh,Yh];simp;omega)
 simp[h5,h6,N4,eP,aa,wM,bP,Ce,cG,fI,jc,tK,qj];refine⟨zE,?_⟩;have:=hK (B'.set id (cE (l.filter mA++List.replicate (l.length-i) (0,0)))) (List.replicate (l.length-i) (0,0)) (ng.set (.inl rfl) _) (Yi _ cG) (by simp;omega);rw[eZ]at this;exact this
open Go.Shelf Go.RowKit Go.Lib Go.Sort
def Mm:Go.Shelf.Ren:=⟨fun|6=>186|15=>167|14=>232|28=>223|29=>224|20=>253|21=>254|22=>255|23=>256|24=>257|25=>258|26=>259|27=>260|46=>267|47=>244|48=>245|49=>268|50=>269|57=>271|n=>n,fun|22=>286|24=>288|25=>292|3=>3|39=>253|0=>0|53=>326|55=>161|4=>4|46=>320|45=>319|50=>65|5=>5|9=>9|66=>348|70=>152|76=>363|77=>308|n=>n,fun|n=>n⟩
def abk:Go.Proofs.SlLaysF0.n6 Tryz.prog Mm:={
 mixed:=by kernel_rfl,
 f6:=⟨Tryz.f186.name,by decide,Tryz.func186.trans (congrArg some (by kernel_rfl))⟩,
 f14:=⟨Tryz.f232.name,by decide,Tryz.func232.trans (congrArg some (by kernel_rfl))⟩,
 f15:=Tryz.func167.trans (congrArg some (by kernel_rfl)),
 f20:=⟨Tryz.f253.name,by decide,Tryz.func253.trans (congrArg some (by kernel_rfl))⟩,
 f21:=⟨Tryz.f254.name,by decide,Tryz.func254.trans (congrArg some (by kernel_rfl))⟩,
 f22:=⟨Tryz.f255.name,by decide,Tryz.func255.trans (congrArg some (by kernel_rfl))⟩,
 f23:=⟨Tryz.f256.name,by decide,Tryz.func256.trans (congrArg some (by kernel_rfl))⟩,
 f24:=⟨Tryz.f257.name,by decide,Tryz.func257.trans (congrArg some (by kernel_rfl))⟩,
 f25:=⟨Tryz.f258.name,by decide,Tryz.func258.trans (congrArg some (by kernel_rfl))⟩,
 f26:=⟨Tryz.f259.name,by decide,Tryz.func259.trans (congrArg some (by kernel_rfl))⟩,
 f27:=⟨Tryz.f260.name,by decide,Tryz.func260.trans (congrArg some (by kernel_rfl))⟩,
 f28:=Tryz.func223.trans (congrArg some (by kernel_rfl)),
 f29:=Tryz.func224.trans (congrArg some (by kernel_rfl)),
 f46:=⟨Tryz.f267.name,by decide,Tryz.func267.trans (congrArg some (by kernel_rfl))⟩,
 f47:=Tryz.func244.trans (congrArg some (by kernel_rfl)),
 f48:=Tryz.func245.trans (congrArg some (by kernel_rfl)),
 f49:=⟨Tryz.f268.name,by decide,Tryz.func268.trans (congrArg some (by kernel_rfl))⟩,
 f50:=⟨Tryz.f269.name,by decide,Tryz.func269.trans (congrArg some (by kernel_rfl))⟩,
 f57:=⟨Tryz.f271.name,by decide,Tryz.func271.trans (congrArg some (by kernel_rfl))⟩,
 t0:=Tryz.underlying0,
 a0:=Tryz.isAgg0,
 z0:=Tryz.sizeOf0,
 v0:=Tryz.zeroValue0,
 t3:=Tryz.underlying3,
 a3:=Tryz.isAgg3,
 z3:=Tryz.sizeOf3,
 v3:=Tryz.zeroValue3,
 t4:=Tryz.underlying4,
 a4:=Tryz.isAgg4,
 z4:=Tryz.sizeOf4,
 v4:=Tryz.zeroValue4,
 t5:=Tryz.underlying5,
 a5:=Tryz.isAgg5,
 z5:=Tryz.sizeOf5,
 v5:=Tryz.zeroValue5,
 t9:=Tryz.underlying9,
 a9:=Tryz.isAgg9,
 z9:=Tryz.sizeOf9,
 v9:=Tryz.zeroValue9,
 t22:=Tryz.underlying286,
 a22:=Tryz.isAgg286,
 z22:=Tryz.sizeOf286,
 v22:=Tryz.zeroValue286,
 t25:=Tryz.underlying292,
 a25:=Tryz.isAgg292,
 z25:=Tryz.sizeOf292,
 v25:=Tryz.zeroValue292,
 t39:=Tryz.underlying253,
 a39:=Tryz.isAgg253,
 z39:=Tryz.sizeOf253,
 v39:=Tryz.zeroValue253,
 t45:=Tryz.underlying319,
 a45:=Tryz.isAgg319,
 z45:=Tryz.sizeOf319,
 v45:=Tryz.zeroValue319,
 t46:=Tryz.underlying320,
 a46:=Tryz.isAgg320,
 z46:=Tryz.sizeOf320,
 v46:=Tryz.zeroValue320,
 t50:=Tryz.underlying65,
 a50:=Tryz.isAgg65,
 z50:=Tryz.sizeOf65,
 v50:=Tryz.zeroValue65,
 t53:=Tryz.underlying326,
 a53:=Tryz.isAgg326,
 z53:=Tryz.sizeOf326,
 v53:=Tryz.zeroValue326,
 t55:=Tryz.underlying161,
 a55:=Tryz.isAgg161,
 z55:=Tryz.sizeOf161,
 v55:=Tryz.zeroValue161,
 t66:=Tryz.underlying348,
 a66:=Tryz.isAgg348,
 z66:=Tryz.sizeOf348,
 v66:=Tryz.zeroValue348,
 t70:=Tryz.underlying152,
 a70:=Tryz.isAgg152,
 z70:=Tryz.sizeOf152,
 v70:=Tryz.zeroValue152,
 t76:=Tryz.underlying363,
 a76:=Tryz.isAgg363,
 z76:=Tryz.sizeOf363,
 v76:=Tryz.zeroValue363,
 t77:=Tryz.underlying308,
 a77:=Tryz.isAgg308,
 z77:=Tryz.sizeOf308,
 v77:=Tryz.zeroValue308}
def Ie:Go.Shelf.Ren:=⟨fun|5=>110|8=>167|7=>166|19=>223|20=>224|10=>214|11=>215|12=>216|13=>217|14=>218|15=>219|16=>220|17=>221|18=>222|30=>243|31=>244|32=>245|33=>246|34=>247|35=>248|40=>264|n=>n,fun|23=>42|25=>3|3=>3|32=>253|22=>42|0=>0|44=>326|46=>161|4=>4|36=>320|35=>319|41=>65|5=>5|9=>9|53=>348|57=>152|63=>363|64=>308|n=>n,fun|n=>n⟩
def sortInt:Go.Proofs.SlLaysM.n5 Tryz.prog Ie:={
 mixed:=by kernel_rfl,
 f5:=⟨Tryz.f110.name,by decide,Tryz.func110.trans (congrArg some (by kernel_rfl))⟩,
 f7:=⟨Tryz.f166.name,by decide,Tryz.func166.trans (congrArg some (by kernel_rfl))⟩,
 f8:=Tryz.func167.trans (congrArg some (by kernel_rfl)),
 f10:=⟨Tryz.f214.name,by decide,Tryz.func214.trans (congrArg some (by kernel_rfl))⟩,
 f11:=⟨Tryz.f215.name,by decide,Tryz.func215.trans (congrArg some (by kernel_rfl))⟩,
 f12:=⟨Tryz.f216.name,by decide,Tryz.func216.trans (congrArg some (by kernel_rfl))⟩,
 f13:=⟨Tryz.f217.name,by decide,Tryz.func217.trans (congrArg some (by kernel_rfl))⟩,
 f14:=⟨Tryz.f218.name,by decide,Tryz.func218.trans (congrArg some (by kernel_rfl))⟩,
 f15:=⟨Tryz.f219.name,by decide,Tryz.func219.trans (congrArg some (by kernel_rfl))⟩,
 f16:=⟨Tryz.f220.name,by decide,Tryz.func220.trans (congrArg some (by kernel_rfl))⟩,
 f17:=⟨Tryz.f221.name,by decide,Tryz.func221.trans (congrArg some (by kernel_rfl))⟩,
 f18:=⟨Tryz.f222.name,by decide,Tryz.func222.trans (congrArg some (by kernel_rfl))⟩,
 f19:=Tryz.func223.trans (congrArg some (by kernel_rfl)),
 f20:=Tryz.func224.trans (congrArg some (by kernel_rfl)),
 f30:=⟨Tryz.f243.name,by decide,Tryz.func243.trans (congrArg some (by kernel_rfl))⟩,
 f31:=Tryz.func244.trans (congrArg some (by kernel_rfl)),
 f32:=Tryz.func245.trans (congrArg some (by kernel_rfl)),
 f33:=⟨Tryz.f246.name,by decide,Tryz.func246.trans (congrArg some (by kernel_rfl))⟩,
 f34:=⟨Tryz.f247.name,by decide,Tryz.func247.trans (congrArg some (by kernel_rfl))⟩,
 f35:=⟨Tryz.f248.name,by decide,Tryz.func248.trans (congrArg some (by kernel_rfl))⟩,
 f40:=⟨Tryz.f264.name,by decide,Tryz.func264.trans (congrArg some (by kernel_rfl))⟩,
 t0:=Tryz.underlying0,
 a0:=Tryz.isAgg0,
 z0:=Tryz.sizeOf0,
 v0:=Tryz.zeroValue0,
 t3:=Tryz.underlying3,
 a3:=Tryz.isAgg3,
 z3:=Tryz.sizeOf3,
 v3:=Tryz.zeroValue3,
 t4:=Tryz.underlying4,
 a4:=Tryz.isAgg4,
 z4:=Tryz.sizeOf4,
 v4:=Tryz.zeroValue4,
 t5:=Tryz.underlying5,
 a5:=Tryz.isAgg5,
 z5:=Tryz.sizeOf5,
 v5:=Tryz.zeroValue5,
 t9:=Tryz.underlying9,
 a9:=Tryz.isAgg9,
 z9:=Tryz.sizeOf9,
 v9:=Tryz.zeroValue9,
 t22:=Tryz.underlying42,
 a22:=Tryz.isAgg42,
 z22:=Tryz.sizeOf42,
 v22:=Tryz.zeroValue42,
 t23:=Tryz.underlying42,
 a23:=Tryz.isAgg42,
 z23:=Tryz.sizeOf42,
 v23:=Tryz.zeroValue42,
 t25:=Tryz.underlying3,
 a25:=Tryz.isAgg3,
 z25:=Tryz.sizeOf3,
 v25:=Tryz.zeroValue3,
 t32:=Tryz.underlying253,
 a32:=Tryz.isAgg253,
 z32:=Tryz.sizeOf253,
 v32:=Tryz.zeroValue253,
 t35:=Tryz.underlying319,
 a35:=Tryz.isAgg319,
 z35:=Tryz.sizeOf319,
 v35:=Tryz.zeroValue319,
 t36:=Tryz.underlying320,
 a36:=Tryz.isAgg320,
 z36:=Tryz.sizeOf320,
 v36:=Tryz.zeroValue320,
 t41:=Tryz.underlying65,
 a41:=Tryz.isAgg65,
 z41:=Tryz.sizeOf65,
 v41:=Tryz.zeroValue65,
 t44:=Tryz.underlying326,
 a44:=Tryz.isAgg326,
 z44:=Tryz.sizeOf326,
 v44:=Tryz.zeroValue326,
 t46:=Tryz.underlying161,
 a46:=Tryz.isAgg161,
 z46:=Tryz.sizeOf161,
 v46:=Tryz.zeroValue161,
 t53:=Tryz.underlying348,
 a53:=Tryz.isAgg348,
 z53:=Tryz.sizeOf348,
 v53:=Tryz.zeroValue348,
 t57:=Tryz.underlying152,
 a57:=Tryz.isAgg152,
 z57:=Tryz.sizeOf152,
 v57:=Tryz.zeroValue152,
 t63:=Tryz.underlying363,
 a63:=Tryz.isAgg363,
 z63:=Tryz.sizeOf363,
 v63:=Tryz.zeroValue363,
 t64:=Tryz.underlying308,
 a64:=Tryz.isAgg308,
 z64:=Tryz.sizeOf308,
 v64:=Tryz.zeroValue308}
def Mn:Go.Shelf.Ren:=⟨fun|5=>233|7=>248|n=>n,fun|22=>3|3=>3|4=>4|n=>n,fun|n=>n⟩
def an4:Go.Proofs.SlLaysC2.n5 Tryz.prog Mn:={
 mixed:=by kernel_rfl,
 f5:=⟨Tryz.f233.name,by decide,Tryz.func233.trans (congrArg some (by kernel_rfl))⟩,
 f7:=⟨Tryz.f248.name,by decide,Tryz.func248.trans (congrArg some (by kernel_rfl))⟩,
 t3:=Tryz.underlying3,
 a3:=Tryz.isAgg3,
 z3:=Tryz.sizeOf3,
 v3:=Tryz.zeroValue3,
 t4:=Tryz.underlying4,
 a4:=Tryz.isAgg4,
 z4:=Tryz.sizeOf4,
 v4:=Tryz.zeroValue4,
 t22:=Tryz.underlying3,
 a22:=Tryz.isAgg3,
 z22:=Tryz.sizeOf3,
 v22:=Tryz.zeroValue3}
def Mo(x:Int×Int):PQ:=[.int .i64 x.1,.int .i64 x.2]
def Mp(x y:Int×Int)(W:World):Calls Tryz.prog 187 #[.agg #[.int .i64 x.1,.int .i64 x.2],.agg #[.int .i64 y.1,.int .i64 y.2]] W fun e w'=>e=.returned (.int .i64 (Lib.compareInt x.1 y.1))/\∃q os',w'=grow (W.drewN q) os':=by
 have fQ:=fun W'=>AnyG.cmp_Compare_int an4 x.1 y.1 W';change∀W',Calls Tryz.prog 233 _ _ _ at fQ;generalize Lib.compareInt x.1 y.1=r at fQ |-
 go_enter Tryz.func187,Tryz.ntmps187
 go_wp2_with (go_at_call 233;refine(fQ _).mono ?_;rintro e w' ⟨rfl,rfl⟩)
 go_ret
 exact⟨rfl,0,_,by rw[alloc_eq_grow,alloc_eq_grow,grow_grow];rfl⟩
def Mq(blk off size:Nat)(w:World):CmpLays Tryz.prog 187 #[] Mo 2 (fun x y=>Lib.compareInt x.1 y.1) blk off size w:=
 fun _ _ _ _ x y=>Mp x y _
def agC(x y:Int×Int):ltOf (fun x y:Int×Int=>Lib.compareInt x.1 y.1) x y=decide (x.1<y.1):=by
 unfold ltOf Lib.compareInt;by_cases h1:x.1<y.1
 ·simp[h1]
 by_cases h2:y.1<x.1<;>simp[h1,h2]
def auA:SWO (ltOf fun x y:Int×Int=>Lib.compareInt x.1 y.1) where
 irrefl x:=by rw[agC];simp
 trans x y z h1 h2:=by rw[agC]at*;simp at*;omega
 ntrans x y z h1 h2:=by rw[agC]at*;simp at*;omega
def abl{w:World}{γ:G}(x:Int×Int):ak w γ (Qe x) (Mo x):=.cons (.int _ _) (.cons (.int _ _) .nil)
def Yo{w:World}{γ:G}{a:AV}{vs:PQ}(h:ak w γ [a] vs):∃v,vs=[v]/\aA w γ a v:=by
 match vs,h with
 |[v],h=>exact⟨v,rfl,h.2 0 _ _ rfl rfl⟩
 |[],h=>exact absurd h.1 zd
 |_::_::_,h=>exact absurd h.1 zd
def Sh{w:World}{γ:G}(x:Int×Int){vs:PQ}(h:ak w γ (Qe x) vs):vs=Mo x:=by
 match vs,h with
 |[u,v],h=>
  have h1:aA w γ (I x.1) u:=h.2 0 _ _ rfl rfl;have h2:aA w γ (I x.2) v:=h.2 1 _ _ rfl rfl;cases h1;cases h2;rfl
 |[],h=>exact absurd h.1 (by simp[Qe])
 |[_],h=>exact absurd h.1 (by simp[Qe])
 |_::_::_::_,h=>exact absurd h.1 (by simp[Qe])
def an5{w:World}{γ:G}{f:FuncId}{v:Value}(h:aA w γ (.fn f [] []) v):v=.func (.func f) #[] #[]:=by
 cases h with
 |fn hl _ eH _=>
  rename_i fa ca _ _;have e1:fa=#[]:=zzet hl.symm;have e2:ca=#[]:=zzet eH.symm;rw[e1,e2]
def Mr(Y:YT)(d:List Sp)(hd:d.length<=1000000000)(m:AM)(id:Nat)(post:P2)(hB:m.boxes[id]?=some (cE d++post))(aO:cE d++post≠[])(K:So)
  (hK:∀d':List Sp,d'.Perm d->d'.Pairwise (fun a b=>a.1<=b.1)->K (.aS []) (m.wr id (cE d'++post))):
  aB Tryz.prog aD Y 186 [.bs id 0 d.length 2,.fn 187 [] []] m K:=by
 refine BM (α:=Int×Int) (d:=d) (more:=[.fn 187 [] []]) (sz:=2) (off:=0) M9.bA Mo Qe (fun _=>rfl) (fun _ _ x=>abl x) (fun _ _ x _ h=>Sh x h) (fun x v hv=>by simp[Mo]at hv;rcases hv with rfl|rfl<;>rfl) hB aO
  ⟨[],post,by rw[G6];rfl,rfl⟩ (d2:=fun d'=>d'.Perm d/\d'.Pairwise fun a b=>a.1<=b.1) ?_ ?_
 ·intro w b cap mv γ hmv hH hblk;obtain⟨v,rfl,hv⟩:=Yo hmv;have:=an5 hv;subst this;have eg:∀args w,(callFunc 187 args).run Tryz.prog w=.ok (.enter 187 args) w:=enters_of Tryz.func187 (by kernel_rfl) rfl;have fQ:=AnyQ.slices_SortFunc abk 2 Tryz.isAgg288 Tryz.sizeOf288 Mo (fun _=>rfl) (fun x v hv=>by simp[Mo]at hv;rcases hv with rfl|rfl<;>rfl) (fun x y=>Lib.compareInt x.1 y.1) auA 187 #[] b 0 cap d.toArray w eg (Mq b 0 _ w) hH hblk (by simp;omega);change Calls Tryz.prog 186 _ _ _ at fQ;refine fQ.mono ?_;rintro e w' ⟨rfl,d',n,os,hP,hS,rfl⟩;obtain⟨p1,_,p3⟩:=hP;have hsz:d'.size=d.length:=by simpa using p1
  refine⟨rfl,d'.toList,n,os,Nm hsz,⟨?_,?_⟩,zd⟩
  ·have e1:d'.extract 0 d.toArray.size=d':=by rw[<- p1];simp
   rw[e1]at p3;simpa using p3
  rw[zzdu];intro i j hi hj fu;have c9:i<d'.size:=by simpa using hi
  have Nt:j<d'.size:=by simpa using hj
  have:=hS i j (zzbv _) fu (by simp;omega);rw[agC]at this;simp only[getElem!_pos d' i c9,getElem!_pos d' j Nt,decide_eq_false_iff_not,Int.not_lt]at this;simpa using this
 rintro d' hl ⟨h1,h2⟩;rw[G6,jL _ _ _ (by rw[Yh,Yh,hl])];exact hK d' h1 h2
def Ig(Y:YT)(rt:Rt)(m:AM)(K:So)(hK:K (.aS []) m):aB Tryz.prog aD Y 186 [.sl rt [],.fn 187 [] []] m K:=by
 refine aB.fP M9.bA fun N w0 an γ w vs hm hl hr=>?_
 match vs,hr with
 |[u,v],hr=>
  have h1:aA w γ (.sl rt []) u:=hr.2 0 _ _ rfl rfl;cases h1 with
  |@sl _ _ _ a cap b off sz cv _ _ _ _ _ _ _=>
   have fQ:=AnyF.slices_SortFunc_none {abk with} a cap v w;change Calls Tryz.prog 186 _ _ _ at fQ;refine fQ.mono ?_;rintro e w' ⟨rfl,rfl⟩;exact⟨_,γ,_,m,rfl,(Ev.refl _ _).cF,hm,hl,ym,hK⟩
 |[],hr=>exact absurd hr.1 zd
 |[_],hr=>exact absurd hr.1 zd
 |_::_::_::_,hr=>exact absurd hr.1 zd
def encI(x:Int):PQ:=[.int .i64 x]
def iL(d:Array Int):flatK encI 1 d=d.map (Value.int .i64):=by
 refine Array.ext zd fun t h1 h2=>?_;have ht:t<d.size:=by simpa using h2
 have:=get_flatK encI 1 d t (Nm ht);rw[getElem!_pos _ t h1]at this;rw[this];have e2:d[t]! =d[t]:=getElem!_pos d t ht;simp[Nat.div_one,Nat.mod_one,encI,ht]
def sD(Y:YT)(d:Pi)(hd:d.length<=1000000000)(m:AM)(id:Nat)(post:P2)(hB:m.boxes[id]?=some (aj d++post))(aO:aj d++post≠[])(K:So)
  (hK:K (.aS []) (m.wr id (aj (d.mergeSort fun x y=>decide (x<=y))++post))):
  aB Tryz.prog aD Y 110 [.bs id 0 d.length 1] m K:=by
 have ajO:∀l:Pi,(l.map fun x=>[I x]).flatten=aj l:=by
  intro l;induction l with
  |nil=>rfl
  |cons x l ih=>simp[aj]at ih |-;exact ih
 refine BM (α:=Int) (d:=d) (more:=[]) (sz:=1) (off:=0) MK.bA encI (fun x=>[I x]) (fun _=>rfl) (fun _ _ x=>.cons (.int _ _) .nil) (fun w γ x vs h=>?_) (fun x v hv=>by simp[encI]at hv;subst hv;rfl) hB aO
  ⟨[],post,by rw[ajO];rfl,rfl⟩ (d2:=fun d'=>d'=d.mergeSort fun x y=>decide (x<=y)) ?_ ?_
 ·obtain⟨v,rfl,hv⟩:=Yo h;cases hv;rfl
 ·intro w b cap mv γ hmv hH hblk;have:mv=[]:=zzcd.1 hmv.1.symm;subst this
  have hH':Holds (Value.int .i64) w b 0 d.toArray:=by
   intro j hj;unfold HoldsK at hH;rw[iL]at hH;have:=hH j (Nm hj);have Nt:j<d.length:=by simpa using hj
   simpa[Nt]using this
  have fQ:=AnyM.slices_Sort_int sortInt b 0 cap d w hH' hblk zE;change Calls Tryz.prog 110 _ _ _ at fQ;refine fQ.mono ?_;rintro e w' ⟨rfl,n,os,rfl⟩;refine⟨rfl,_,n,os,zd,rfl,?_⟩;unfold sortWorldK putRowK;rw[iL];congr 1;unfold putRow;refine mapBlock_congr _ _ _ _ fun c e fr _=>?_;unfold putCells;apply zzgl;intro k;simp only[zzhj,Array.size_map];cases c[k]? with
  |none=>rfl
  |some x=>
   simp only[zzcv];congr 1;by_cases hc:0<=k/\k<0+(d.mergeSort fun x y=>decide (x<=y)).toArray.size
   ·rw[ac hc,ac hc];have hk:k<(d.mergeSort fun x y=>decide (x<=y)).toArray.size:=zE
    have Cp:k<((d.mergeSort fun x y=>decide (x<=y)).toArray.map (Value.int .i64)).size:=by simpa using hk
    simp only[zzel];rw[getElem!_pos _ k hk,getElem!_pos _ k Cp];simp
   rw[ab hc,ab hc]
 rintro d' hl rfl;rw[ajO,jL _ _ _ (by simp[aj])];exact hK
def oV(Y:YT)(rt:Rt)(m:AM)(K:So)(hK:K (.aS []) m):aB Tryz.prog aD Y 110 [.sl rt []] m K:=by
 refine aB.fP MK.bA fun N w0 an γ w vs hm hl hr=>?_;obtain⟨u,rfl,h1⟩:=Yo hr;cases h1 with
 |@sl _ _ _ a cap b off sz cv _ _ _ _ _ _ _=>
  have fQ:=AnyM.slices_Sort_int_none sortInt a cap w;change Calls Tryz.prog 110 _ _ _ at fQ;refine fQ.mono ?_;rintro e w' ⟨rfl,rfl⟩;exact⟨_,γ,_,m,rfl,(Ev.refl _ _).cF,hm,hl,ym,hK⟩
def Ih(Y:YT)(rt:Rt)(aY:∀m,bB m 6 (.sl rt [])=.sl rt [])(m:AM)(K:So)(hK:K (.sl rt []) m):aB Tryz.prog aD Y 184 [.sl rt [],.fn 185 [] []] m K:=by
 have h:=Zb (l:=[.sl rt [],.fn 185 [] []]) (p9 [] zd) ⟨Wk.sl rt [],Ps,trivial⟩;simp only[p8]at h;refine Xo M8 (nS (-1)) zd ?_;simp[EH,M7,nS,aY];exact⟨h,hK⟩
def Ii:UV:=fun d f _=>if f=999999 then(if d=12 then .aJ 0 []else if d=70 then .aJ 0 []else .junk)else .gd false .junk
def rT(a b:Int):(if a<b then b else a)=max a b:=by split<;>omega
def auB(B:T5)(id:Nat)(out:List Sp)(a:AV):Prop:=
 (out=[]/\a=.sl .nil [])\/∃gI,out≠[]/\a=.bs gI 0 out.length 2/\gI≠id/\gI<B.length/\Qi B gI=cE out
def Ms{out:List Sp}(h:out≠[]):∃p u,out=p++[u]:=⟨out.dropLast,out.getLast h,(zzfb h).symm⟩
def D8(l:List Sp)(hl:l.length<=100000000):Pure Tryz.prog aD 131 [.sl .ro (l.map Qe)] (if Xm l=[]then .sl .nil []else .sl .ro ((Xm l).map Qe)):=by
 refine Qp acy Ii zd ?_;by_cases aO:l=[]
 ·subst aO;have hn:Xm []=[]:=by simp[Xm,H8]
  simp[MQ,Ii,hn];refine Qj vi (fun f m=>f 15=I 0/\f 3=.sl .full []/\m=⟨[[]],[],fun _=>.gone,0⟩) (fun _ _=>0) ?_ ?_
  ·simp
  rintro f m ⟨sG,h3,rfl⟩;simp[sG,h3,vi];refine Ih _ _ (fun _=>rfl) _ _ ?_;refine Ig _ _ _ _ ?_;simp;refine Qj iG (fun f m=>f 31=I 0/\f 6=.sl .nil []/\m=⟨[[]],[],fun _=>.gone,0⟩) (fun _ _=>0) ?_ ?_
  ·simp
  rintro f m ⟨h31,h6,rfl⟩;simp[h31,h6,iG,MR]
 have azb:l.length≠0:=by simpa using aO
 have kW:0<l.length:=zE
 simp[MQ,Ii,aO];refine⟨⟨zE,zE⟩,?_⟩
 refine Qj vi (fun f m=>∃(i id:Nat)(B:T5),i<=l.length/\f 15=I i/\f 3=.bs id 0 i 2/\m=⟨B,[],fun _=>.gone,0⟩/\id<B.length/\Qi B id≠[]/\i*2<=(Qi B id).length/\(Qi B id).take (i*2)=cE (l.take i)/\(0<i->Qi B id=cE (l.take i)))
  (fun f _=>l.length-(numOf (f 15)).toNat) ?_ ?_
 ·exact⟨0,0,[List.replicate (l.length*2) .junk],zE,zd,zd,rfl,zd,by simp;omega,zd,zd,zd⟩
 rintro f m ⟨i,id,B,hi,sG,h3,rfl,aK,AD,cw,bz,Ef⟩;rcases zzaa i l.length with ah|bu
 ·obtain⟨s,hs⟩:=aV ah;have ai:=Zy hs;have aa:(i:Int)<(l.length:Int):=zE
  have hw:=bO i zE;have gX:∀x,Qi (B++x) id=Qi B id:=fun x=>Qn aK;have lu:∀x v,(B++x).set id v=B.set id v++x:=fun x v=>Yl v aK;have eZ:cE (l.take (i+1))=cE (l.take i)++[I s.1,I s.2]:=by rw[zzay,hs,Qcc];rfl
  simp[sG,h3,aa,ah,ai,vi,hw,gX,lu,AD,cw,bz,Ii];refine⟨⟨zE,zE⟩,aQ,⟨i+1,zE,zd,?_⟩,zE⟩
  ·refine⟨B.length+1,⟨rfl,rfl⟩,zE,?_⟩
   have e:Qi (B.set id []++[[AV.int IntKind.i64 s.fst,AV.int IntKind.i64 s.snd],cE (List.take i l)++[AV.int IntKind.i64 s.fst,AV.int IntKind.i64 s.snd]]) (B.length+1)=cE (l.take (i+1)):=by
    have:=Vp (B.set id []) [[AV.int IntKind.i64 s.fst,AV.int IntKind.i64 s.snd],cE (List.take i l)++[AV.int IntKind.i64 s.fst,AV.int IntKind.i64 s.snd]] 1;rw[zzcq]at this;rw[this,eZ];rfl
   rw[e];have e2:(cE (l.take (i+1))).length=(i+1)*2:=by rw[Yh,zzas];congr 1;omega
   refine⟨?_,zE,?_,fun _=>rfl⟩
   ·intro h;rw[h]at e2;simp at e2
   rw[<- e2,zzbu]
 obtain rfl:i=l.length:=zE
 have hB:=Ef kW;rw[zzbu]at hB;have bP:¬((l.length:Nat):Int)<(l.length:Int):=zE
 simp[sG,h3,vi,Ii];refine Ml _ l zE B _ _ _ id aK aO hB _ ?_;intro B1 z ng hB1 hz;have an6:id<B1.length:=zzaz aK ng.1;rw[Qcc]at hB1;have WL:B1[id]?=some (cE (l.filter mA)++cE z):=by rw[Jn an6,hB1]
 refine Mr _ (l.filter mA) zE _ id (cE z) WL ?_ _ ?_
 ·intro h;have:=congrArg List.length h;rw[zzal,Yh,Yh]at this;simp at this;omega
 intro d hp hs;have amP:=an2 hp hs;have hdl:d.length=(l.filter mA).length:=hp.length_eq;rw[<- hdl];have azc:d.length<=100000000:=zE
 simp[AM.wr]
 refine Qj iG (fun f m=>∃(i:Nat)(B:T5)(out:List Sp),i<=d.length/\f 31=I i/\m=⟨B,[],fun _=>.gone,0⟩/\out.length<=i/\id<B.length/\Qi B id=cE d++cE z/\H8 out (d.drop i)=Xm l/\auB B id out (f 6))
  (fun f _=>d.length-(numOf (f 31)).toNat) ?_ ?_
 ·exact⟨0,B1.set id (cE d++cE z),[],zE,zd,rfl,zd,Nm an6,Yi _ an6,Nm amP,.inl ⟨rfl,zd⟩⟩
 rintro f m ⟨i,B,out,hi,h31,rfl,FM,aK,hB,hm,hout⟩;rcases zzaa i d.length with ah|bu
 ·obtain⟨v,hv⟩:=aV ah;have aa:(i:Int)<(d.length:Int):=zE
  have hw:=bO i zE
  have hg:(cE d++cE z).drop (i*2)=I v.1::I v.2::(cE (d.drop (i+1))++cE z):=by
   rw[zzdz (by rw[Yh];omega),uD hv];rfl
  have fk:d.drop i=v::d.drop (i+1):=by
   rw[zzai ah,(zza.1 hv).2]
  rw[fk,H8]at hm;have gX:∀x,Qi (B++x) id=cE d++cE z:=fun x=>by rw[Qn aK,hB]
  obtain⟨rfl,h6⟩|⟨gI,hon,h6,vL,fJ,A4⟩:=hout
  ·simp[h31,h6,aa,ah,hB,gX,hg,iG,hw,Ii];refine⟨aQ,⟨i+1,zE,zd,?_⟩,zE⟩
   ·refine⟨[v],zd,zE,by simpa[Sg]using hm,.inr ⟨B.length+1,zd,zd,zE,zd,zd⟩⟩
  obtain⟨p,u,rfl⟩:=Ms hon;have atJ:p.length+1<=i:=by simpa using FM
  have iN:(cE (p++[u])).drop (p.length*2+1)=[I u.2]:=by
   have:=FT (l:=p++[u]) (i:=p.length) (s:=u) zd;simpa using this
  have bR:=w8 (p++[u]) p.length u (max u.2 v.2) zd;have auC:(p++[u]).set p.length (u.1,max u.2 v.2)=p++[(u.1,max u.2 v.2)]:=zd
  rw[auC]at bR;have hwp:IntKind.i64.wrap (p.length:Int)=(p.length:Int):=by rw[Ql]<;>omega
  have ug:(0:Int)<(p.length:Int)+1:=zE
  have auD:∀x,Qi (B++x) gI=cE (p++[u]):=fun x=>by rw[Qn fJ,A4]
  have lu:∀x v,(B++x).set gI v=B.set gI v++x:=fun x v=>Yl v fJ;have eZ:=Yh (p++[u]);simp only[zzal,zzbf,zzcn,zzbs]at eZ h6;have ayS:Sg (p++[u]) v=if v.1<=u.2 then p++[(u.1,max u.2 v.2)]else p++[u]++[v]:=by simp[Sg]
  rw[ayS]at hm;by_cases hc:v.1<=u.2
  ·rw[ac hc]at hm;simp[h31,h6,aa,ah,hB,gX,auD,lu,hg,iN,iG,hw,hwp,ug,hc,rT,bR,eZ,Ii];refine⟨zE,⟨zE,zE⟩,aQ,⟨i+1,zE,zd,?_⟩,zE⟩
   ·refine⟨p++[(u.1,max u.2 v.2)],by simp;omega,zE,by rw[Qn (Nm aK),Ya _ vL,hB],hm,.inr ⟨gI,zd,zd,vL,by simp;omega,by rw[Qn (Nm fJ),Yi _ fJ]⟩⟩
  rw[ab hc]at hm;simp[h31,h6,aa,ah,hB,gX,auD,lu,hg,iN,iG,hw,hwp,ug,hc,eZ,Ii];refine⟨zE,⟨⟨zE,by simp[Qcc]⟩,zE⟩,aQ,⟨i+1,zE,zd,?_⟩,zE⟩
  ·have bz:(cE (p++[u])).take ((p.length+1)*2)=cE (p++[u]):=zzau (by rw[eZ];exact zzab _);rw[bz];refine⟨p++[u]++[v],by simp;omega,zE,by rw[Qn (Nm aK),Ya _ vL,hB],hm,.inr ⟨B.length+1,zd,zd,zE,zd,?_⟩⟩;have:=Vp (B.set gI []) [[I v.1,I v.2],cE (p++[u])++[AV.int IntKind.i64 v.fst,AV.int IntKind.i64 v.snd]] 1;rw[zzcq]at this;rw[this,Qcc (p++[u]) [v]];rfl
 obtain rfl:i=d.length:=zE
 rw[zzc,H8]at hm;obtain⟨rfl,h6⟩|⟨gI,hon,h6,vL,fJ,A4⟩:=hout
 ·simp[h31,h6,iG,MR,<- hm]
 have gA:=Ve ⟨B,[],fun _=>.gone,0⟩ 4 (C5 out);have gY:=Qef out;have eZ:=Yh out;simp[h31,h6,iG,MR,<- hm,hon,A4,gA,gY,eZ]
def Us(l:List Sp)(hl:l.length<=100000000):Pure Tryz.prog aD 131 [.sl .ro (l.map Qe)] (.sl .ro ((Xm l).map Qe)):=by
 have h:=D8 l hl;by_cases hn:Xm l=[]
 ·rw[ac hn]at h;rw[hn];exact Zk h (Wk.sl _ _)
 rw[ab hn]at h;exact h
def Mt(a b:Int):(if b<a then b else a)=min a b:=by split<;>omega
def BO(s:Sp):P2:=[.agg [I s.1,I s.2]]
def abm(A B:List Sp)(hA:A.length<=100000000)(hB:B.length<=100000000):
  Iter Tryz.prog aD 200 [] [.ep [.sl .ro (A.map Qe)] 0,.ep [.sl .ro (B.map Qe)] 0] ((ua (A.length+B.length) A B).map BO):=by
 intro Y l m K hF;refine Xo adt (fun _ _ _=>.junk) zd ?_;simp[UL]
 refine Qj qw (fun f mm=>∃(i j:Nat),i<=A.length/\j<=B.length/\f 4=I i/\f 5=I j/\wL (Y l) K ((ua (A.length-i+(B.length-j)) (A.drop i) (B.drop j)).map BO) mm)
  (fun f _=>A.length-(numOf (f 4)).toNat+(B.length-(numOf (f 5)).toNat)) ?_ ?_
 ·exact⟨0,0,zE,zE,zd,zd,Nm hF⟩
 rintro f mm ⟨i,j,hi,hj,h4,h5,hF⟩;by_cases ZV:i=A.length\/j=B.length
 ·have hnil:ua (A.length-i+(B.length-j)) (A.drop i) (B.drop j)=[]:=by
   obtain rfl|rfl:=ZV
   ·rw[zzc];cases A.length-A.length+(B.length-j)<;>rfl
   rw[zzc];cases A.length-i+(B.length-B.length)with
   |zero=>rfl
   |succ n=>cases A.drop i<;>rfl
  rw[hnil]at hF;have hK:K mm:=hF mm (fB.refl _);by_cases h1:i<A.length
  ·have N4:¬(j:Int)<(B.length:Int):=zE
   have aa:(i:Int)<(A.length:Int):=zE
   simp[h4,h5,h1,aa,N4,qw,Nd];exact hK
  have bP:¬(i:Int)<(A.length:Int):=zE
  simp[h4,h5,h1,bP,qw,Nd];exact hK
 have h1:i<A.length:=zE
 have h2:j<B.length:=zE
 obtain⟨s,hs⟩:=aV h1;obtain⟨t,ht⟩:=aV h2;have zL:=Zy hs;have aY:=Zy ht;have hda:A.drop i=s::A.drop (i+1):=by rw[zzai h1,(zza.1 hs).2]
 have hdb:B.drop j=t::B.drop (j+1):=by rw[zzai h2,(zza.1 ht).2]
 have hn:A.length-i+(B.length-j)=(A.length-i+(B.length-j)-1)+1:=zE
 have qB:A.length-i+(B.length-j)-1=A.length-(i+1)+(B.length-j):=zE
 have vL:A.length-i+(B.length-j)-1=A.length-i+(B.length-(j+1)):=zE
 have aa:(i:Int)<(A.length:Int):=zE
 have dF:(j:Int)<(B.length:Int):=zE
 have XV:=bO i zE;have xy:=bO j zE;rw[hda,hdb,hn,ua,<- hda,<- hdb]at hF;by_cases hc:max s.1 t.1<min s.2 t.2
 ·rw[ac hc]at hF;simp only[zzfa,zzar]at hF;simp[h4,h5,h1,h2,aa,dF,zL,aY,qw,rT,Mt,hc];refine hF _ (fB.box mm _) _ (fun m2 AW=>?_) (fun m2 hK=>?_)
  ·by_cases hd:s.2<t.2
   ·rw[ac hd,qB]at AW;have zw:¬t.2<=s.2:=zE
    simp[h1,h2,aa,dF,zL,aY,hd,zw,XV];refine⟨aQ,⟨i+1,zE,j,zE,zd,rfl,AW⟩,zE⟩
   rw[ab hd,vL]at AW;have zw:t.2<=s.2:=zE
   simp[h1,h2,aa,dF,zL,aY,hd,zw,xy];refine⟨aQ,⟨i,zE,j+1,zE,rfl,zd,AW⟩,zE⟩
  simp[Nd];exact hK _ (fB.refl _)
 rw[ab hc]at hF;simp only[zzag]at hF;have hF':=wL.ext hF (fB.box mm [[I (max s.1 t.1),I (min s.2 t.2)]]);by_cases hd:s.2<t.2
 ·rw[ac hd,qB]at hF';simp[h4,h5,h1,h2,aa,dF,zL,aY,qw,rT,Mt,hc,hd,XV];refine⟨aQ,⟨i+1,zE,j,zE,zd,rfl,hF'⟩,zE⟩
 rw[ab hd,vL]at hF';simp[h4,h5,h1,h2,aa,dF,zL,aY,qw,rT,Mt,hc,hd,xy];refine⟨aQ,⟨i,zE,j+1,zE,rfl,zd,hF'⟩,zE⟩
def Ac(A B:List Sp):Pure Tryz.prog aD 139 [.sl .ro (A.map Qe),.sl .ro (B.map Qe)] (.fn 200 [] [.ep [.sl .ro (A.map Qe)] 0,.ep [.sl .ro (B.map Qe)] 0]):=by
 refine Qp acG (fun _ _ _=>.junk) zd ?_;simp[ahb,ahc]
def agD(A B:List Sp):UV:=fun d f _=>
 if f=999999 then .junk else if d=8 then .sl .ro ((Xm A).map Qe)else if d=10 then .sl .ro ((Xm B).map Qe)else if d=11 then .fn 200 [] [.ep [.sl .ro ((Xm A).map Qe)] 0,.ep [.sl .ro ((Xm B).map Qe)] 0]else .junk
def D9:∀(n:Nat)(A B:List Sp),(ua n A B).length<=n
 |0,_,_=>by simp[ua]
 |n+1,[],_=>by simp[ua]
 |n+1,s::A,[]=>by simp[ua]
 |n+1,s::A,t::B=>by
  have h1:=D9 n A (t::B);have h2:=D9 n (s::A) B;rw[ua,zzal];split<;>split<;>simp<;>omega
def jg(A B:List Sp)(hA:A.length<=10000000)(hB:B.length<=10000000):
  Pure Tryz.prog aD 84 [.sl .ro (A.map Qe),.sl .ro (B.map Qe)] (.sl .ro ((zQ A B).map Qe)):=by
 have h1:=Us A zE;have h2:=Us B zE;have l1:=Yx A;have l2:=Yx B;have h3:=Ac (Xm A) (Xm B);have cR:=abm (Xm A) (Xm B) zE zE;have hX:zQ A B=ua ((Xm A).length+(Xm B).length) (Xm A) (Xm B):=rfl;have hXl:=D9 ((Xm A).length+(Xm B).length) (Xm A) (Xm B);rw[<- hX]at cR hXl;generalize zQ A B=X at cR hXl;clear hX
 have key:∀r,r=(if X=[]then AV.sl .nil []else .sl .ro (X.map Qe))->Pure Tryz.prog aD 84 [.sl .ro (A.map Qe),.sl .ro (B.map Qe)] r:=by
  rintro r rfl;refine Qp akS (agD A B) zd ?_;simp[apC,agD];refine⟨h1,h2,h3,?_⟩
  refine je (xs:=X.map BO) zd cR (by intro x hx;simp at hx;obtain⟨a,b,_,rfl⟩:=hx;rfl)
   (fun i m=>∃(bx:T5)(rt:Rt),m.boxes=[.sl rt ((X.take i).map Qe)]::bx/\((i=0/\rt=.nil)\/(0<i/\∃id,rt=.own id 2/\m.lens[id]?=some i))) (fun _ _=>False) ⟨[],.nil,zd,.inl ⟨rfl,rfl⟩⟩ ?_ (fun _ _ _ h=>h.elim) ?_ ?_ (fun _ _ h=>h.elim)
  ·rintro i m m' ⟨bx,rt,hb,aY⟩ ⟨⟨b2,e1⟩,⟨l2,e2⟩,_⟩;refine⟨bx++b2,rt,by rw[e1,hb];rfl,?_⟩;obtain h|⟨h0,id,h1,h2⟩:=aY
   ·exact .inl h
   refine .inr ⟨h0,id,h1,?_⟩;rw[e2,zzak (zza.1 h2).1];exact h2
  ·rintro l i m x hg hr ⟨bx,rt,hb,aY⟩ hx K' k1 _ _
   obtain⟨s,hs,rfl⟩:∃s,X[i]?=some s/\BO s=x:=by
    rw[zzbn]at hx;cases hq:X[i]? with
    |none=>rw[hq]at hx;cases hx
    |some y=>rw[hq]at hx;exact⟨y,rfl,ap hx⟩
   have hi:i<X.length:=(zza.1 hs).1;have bz:X.take (i+1)=X.take i++[s]:=by rw[zzay,hs];rfl
   have lQ:(X.take i).length=i:=by rw[zzas];omega
   rw[Jp]at hb
   have ou:∀row∈(X.take i).map Qe,row.length=2:=by
    intro row h;rw[zzan]at h;obtain⟨a,_,rfl⟩:=h;rfl
   generalize X.take i=T at hb bz lQ ou;obtain⟨rfl,rfl⟩|⟨h0,id,rfl,hL⟩:=aY
   ·have hTn:T=[]:=zzcd.1 lQ;subst hTn;simp[hr,Zt,BO,hb,agD];refine k1 _ ⟨bx++[[I s.1,I s.2]],.own m.lens.length 2,?_,.inr ⟨zE,m.lens.length,rfl,?_⟩⟩
    ·rw[bz];rfl
    simp
   have tK:m.lens[id]?=some T.length:=by rw[lQ];simpa using hL
   have ah:=(zza.1 tK).1;simp[hr,Zt,BO,hb,agD,tK];refine⟨⟨?_,zE⟩,?_⟩
   ·rintro row (⟨a,b,_,rfl⟩|rfl)<;>rfl
   refine k1 _ ⟨bx++[[I s.1,I s.2]],.own id 2,?_,.inr ⟨zE,id,rfl,?_⟩⟩
   ·rw[bz,zzcb];rfl
   simp[ah,lQ]
  rintro m ⟨bx,rt,hb,aY⟩;rw[zzbw]at hb aY;rw[zzbu]at hb;by_cases hn:X=[]
  ·subst hn;obtain⟨_,rfl⟩|⟨h0,_⟩:=aY
   ·simp[hb,akR]
   simp at h0
  obtain⟨h0,_⟩|⟨_,id,rfl,_⟩:=aY
  ·exact absurd (zzcd.1 h0) hn
  simp[hb,akR,hn]
 have hk:=key _ rfl;by_cases hn:X=[]
 ·rw[ac hn]at hk;rw[hn];exact Zk hk (Wk.sl _ _)
 rw[ab hn]at hk;exact hk
def Out(m:AM)(id:Nat)(L:List Sp):Prop:=∃rt,Qi m.boxes id=[.sl rt (L.map Qe)]/\id<m.boxes.length/\((L=[]/\rt=.nil)\/(L≠[]/\∃k,rt=.own k 2/\m.lens[k]?=some L.length))
def Out.box{m:AM}{id:Nat}{L:List Sp}(h:Out m id L)(b:T5):Out {m with boxes:=m.boxes++b} id L:=by
 obtain⟨rt,h1,h2,h3⟩:=h;exact⟨rt,by show Qi (m.boxes++b) id=_;rw[Qn h2];exact h1,by show id<(m.boxes++b).length;simp;omega,h3⟩
def Ea(Y:YT)(f t:Int)(id:Nat)(L:List Sp)(m:AM)(hO:Out m id L)(hl:L.length<=1000000000)(K:So)
  (hK:∀m',Out m' id (L++D7 f t)->bC (·=id) m.boxes m'.boxes->m'.st=m.st->m'.ln=m.ln->K (.aS []) m'):aB Tryz.prog aD Y 130 [I f,I t,.ptr id 0] m K:=by
 obtain⟨rt,h1,h2,h3⟩:=hO;refine Xo acw (fun _ _ _=>.junk) zd ?_;by_cases Ej:f<t
 ·have ha:D7 f t=[(f,t)]:=by simp[D7,Ej]
  rw[ha]at hK
  have ou:∀row∈L.map Qe,row.length=2:=by
   intro row h;rw[zzan]at h;obtain⟨a,_,rfl⟩:=h;rfl
  obtain⟨rfl,rfl⟩|⟨aO,k,rfl,hk⟩:=h3
  ·simp[MO,MP,Ej,h1,h2];refine hK _ ⟨.own m.lens.length 2,?_,Nm h2,.inr ⟨zd,m.lens.length,rfl,zd⟩⟩ (bC.set (S:=(·=id)) (bC.refl _ _) (.inl rfl) _) rfl rfl;simp[Yi _ h2,Qe]
  have ur:=(zza.1 hk).1;simp[MO,MP,Ej,h1,h2,hk];refine⟨⟨?_,zE⟩,?_⟩
  ·rintro row (⟨a,b,_,rfl⟩|rfl)<;>rfl
  refine hK _ ⟨.own k 2,?_,Nm h2,.inr ⟨zd,k,rfl,by simp[ur]⟩⟩ (bC.set (S:=(·=id)) (bC.refl _ _) (.inl rfl) _) rfl rfl;simp[Yi _ h2,Qe]
 have ha:D7 f t=[]:=by simp[D7,Ej]
 rw[ha,zzat]at hK;simp[MO,MP,Ej];exact hK m ⟨rt,h1,h2,h3⟩ (bC.refl _ _) rfl rfl
def yU(f t:Int):(D7 f t).length<=1:=by unfold D7;split<;>simp
def Ij:∀(H:List Sp)(f t:Int),(jU f t H).1.length+(jU f t H).2.length<=H.length+1
 |[],f,t=>by have:=yU f t;simp[jU];omega
 |h::r,f,t=>by
  have h1:=yU f h.1;have h2:=yU f t;rw[jU];split
  ·split
   ·simp;omega
   have:=Ij r (max f h.2) t;simp;omega
  simp;omega
def Ik:∀(A H:List Sp),(ud A H).length<=A.length+H.length
 |[],H=>by simp[ud]
 |s::A,H=>by
  have h1:=Ij H s.1 s.2;have h2:=Ik A (jU s.1 s.2 H).2;simp[ud];omega
def rU(a b:List Sp):UV:=fun d f _=>
 if f=999999 then .junk else if d=14 then .sl .ro ((Xm b).map Qe)else if d=16 then .sl .ro ((Xm a).map Qe)else .gd false .junk
def Ae(a b:List Sp)(ha:a.length<=10000000)(hb:b.length<=10000000):
  Pure Tryz.prog aD 79 [.sl .ro (a.map Qe),.sl .ro (b.map Qe)] (.sl .ro ((C8 a b).map Qe)):=by
 have h1:=Us a zE;have h2:=Us b zE;have hR:C8 a b=ud (Xm a) (Xm b):=rfl;have hRl:=Ik (Xm a) (Xm b);have l1:=Yx a;have l2:=Yx b;rw[<- hR]at hRl;generalize C8 a b=R at hR hRl
 have key:∀r,r=(if R=[]then AV.sl .nil []else .sl .ro (R.map Qe))->Pure Tryz.prog aD 79 [.sl .ro (a.map Qe),.sl .ro (b.map Qe)] r:=by
  rintro r rfl;refine Qp akL (rU a b) zd ?_;simp[ab0,rU];refine⟨h2,h1,?_⟩;generalize Xm a=A at hR hRl l1 |-
  generalize Xm b=H at hR hRl l2 |-
  clear h1 h2;refine Qj MD (fun f m=>∃(k i:Nat)(L:List Sp),k<=A.length/\i<=H.length/\f 18=I k/\f 8=I i/\Out m 0 L/\L++ud (A.drop k) (H.drop i)=R) (fun f _=>A.length-(numOf (f 18)).toNat) ?_ ?_
  ·exact⟨0,0,[],zE,zE,zd,zd,⟨.nil,rfl,zd,.inl ⟨rfl,rfl⟩⟩,Nm hR.symm⟩
  rintro f m ⟨k,i,L,hk,hi,h18,h8,hO,hL⟩;rcases zzaa k A.length with ah|bu
  ·obtain⟨s,hs⟩:=aV ah;have ai:=Zy hs;have Ks:(k:Int)<(A.length:Int):=zE
   have NV:=bO k zE;have hda:A.drop k=s::A.drop (k+1):=by rw[zzai ah,(zza.1 hs).2]
   rw[hda,ud]at hL;have hO0:=hO;obtain⟨_,_,JX,_⟩:=hO0;simp[h18,ah,Ks,ai,MD,rU]
   refine Qj ME (fun g m2=>∃(i:Nat)(fr:Int)(L:List Sp),i<=H.length/\g 8=I i/\g 11=I fr/\Out m2 0 L/\m.boxes.length<m2.boxes.length/\Qi m2.boxes m.boxes.length=[I s.1,I s.2]/\
     L++((jU fr s.2 (H.drop i)).1++ud (A.drop (k+1)) (jU fr s.2 (H.drop i)).2)=R) (fun g _=>H.length-(numOf (g 8)).toNat) ?_ ?_
   ·refine⟨i,s.1,L,hi,by simp[h8],zd,hO.box _,zd,zd,hL⟩
   rintro g m2 ⟨i,fr,L,hi,h8,nq,hO,y9,hbx,hL⟩
   have hLl:L.length<=1000000000:=by
    have:=congrArg List.length hL;rw[zzal]at this;omega
   have kV:m.boxes.length≠0:=zE
   have fin:∀(hd:H.drop i=[]\/∃h r,H.drop i=h::r/\s.2<=h.1),L++D7 fr s.2++ud (A.drop (k+1)) (H.drop i)=R:=by
    rintro(hd|⟨h,r,hd,hc⟩)
    ·rw[hd]at hL |-;simpa[jU]using hL
    rw[hd]at hL |-
    rw[jU,ab zE]at hL;simpa using hL
   rcases zzaa i H.length with iT|hig
   ·obtain⟨h,hh⟩:=aV iT;have hrh:=Zy hh;have aa:(i:Int)<(H.length:Int):=zE
    have XV:=bO i zE;have hdh:H.drop i=h::H.drop (i+1):=by rw[zzai iT,(zza.1 hh).2]
    by_cases hc:h.1<s.2
    ·rw[hdh,jU,ac hc,<- hdh]at hL;simp[h8,nq,iT,aa,hrh,hbx,hc,ME,rU];refine Ea Y0 fr h.1 0 L m2 hO hLl _ (fun m3 hO3 yf _ _=>?_);have auE:Qi m3.boxes m.boxes.length=[I s.1,I s.2]:=by rw[yf.2 _ y9 kV];exact hbx
     have hm3:m.boxes.length<m3.boxes.length:=by have:=yf.1;omega
     by_cases hd:s.2<=max fr h.2
     ·rw[ac hd]at hL;simp[auE,rT,hd,NV,h18];refine⟨aQ,⟨k+1,zE,i,zE,zd,rfl,L++D7 fr h.1,hO3,by rw[zzbg];exact hL⟩,zE⟩
     rw[ab hd]at hL;simp[auE,rT,hd,XV,h8];refine⟨aQ,⟨i+1,zE,zd,L++D7 fr h.1,hO3,hm3,by rw[zzbg,<- zzbg (D7 fr h.1)];exact hL⟩,zE⟩
    simp[h8,nq,iT,aa,hrh,hbx,hc,ME,rU];refine Ea Y0 fr s.2 0 L m2 hO hLl _ (fun m3 hO3 yf _ _=>?_);simp[NV,h18];refine⟨aQ,⟨k+1,zE,i,zE,zd,rfl,L++D7 fr s.2,hO3,fin (.inr ⟨h,_,hdh,zE⟩)⟩,zE⟩
   have bP:¬(i:Int)<(H.length:Int):=zE
   simp[h8,nq,bP,zzbm.2 hig,hbx,ME,rU];refine Ea Y0 fr s.2 0 L m2 hO hLl _ (fun m3 hO3 yf _ _=>?_);simp[NV,h18];refine⟨aQ,⟨k+1,zE,i,zE,zd,rfl,L++D7 fr s.2,hO3,fin (.inl (zzam hig))⟩,zE⟩
  obtain rfl:k=A.length:=zE
  rw[zzc,ud,zzat]at hL;subst hL;obtain⟨rt,o1,o2,o3⟩:=hO;obtain⟨rfl,rfl⟩|⟨aO,k,rfl,_⟩:=o3
  ·simp[h18,o1,MD,akK]
  simp[h18,o1,MD,akK,aO]
 have hk:=key _ rfl;by_cases hn:R=[]
 ·rw[ac hn]at hk;rw[hn];exact Zk hk (Wk.sl _ _)
 rw[ab hn]at hk;exact hk
structure It where
 id:Int
 ki:Int
 fr:Int
 sp:Int
 ra:Int
structure Cl where
 ki:Int
 it:Int
 fr:Int
 to:Int
 re:Int
 n:Int
 a:Int
 b:Int
structure En where
 id:Int
 it:Int
 fr:Int
 ea:Int
 la:Int
 bo:Int
 al:List Sp
structure Bk where
 id:Int
 it:Int
 re:Int
 fr:Int
 to:Int
 un:Int
 pr:Int
structure Pl where
 ch:Int
 nu:Int
 de:Int
 of:Int
 sh:List Sp
 ep:Int
 rg:Int
 ln:Int
 fi:Int
 aM:List It
 ens:List En
 bks:List Bk
 cls:List Cl
def Qm(x:It):P2:=[I x.id,I x.ki,I x.fr,I x.sp,I x.ra]
def Qg(x:Cl):P2:=[I x.ki,I x.it,I x.fr,I x.to,I x.re,I x.n,I x.a,I x.b]
def Qd(x:En):P2:=[I x.id,I x.it,I x.fr,I x.ea,I x.la,I x.bo,.sl .ro (x.al.map Qe)]
def Xi(x:Bk):P2:=[I x.id,I x.it,I x.re,I x.fr,I x.to,I x.un,I x.pr]
def Qa(p:Pl):P2:=[I p.ch,I p.nu,I p.de,I p.of,.sl .ro (p.sh.map Qe),I p.ep,I p.rg,I p.ln,I p.fi,.sl .ro (p.aM.map Qm),.sl .ro (p.ens.map Qd),.sl .ro (p.bks.map Xi),.sl .ro (p.cls.map Qg)]
def F5(l:List Sp)(s:Sp)(hl:l.length<=10000000):Pure Tryz.prog aD 39 [.sl .ro (l.map Qe),.agg [I s.1,I s.2]] (.bool (C8 [s] l).isEmpty):=by
 have h:=Ae [s] l zd hl;have h':=Zb (l:=[.sl .full [[I s.1,I s.2]],.sl .ro (l.map Qe)]) h ⟨Wk.sl _ _,Ps,trivial⟩;generalize C8 [s] l=R at h';refine Qp akf (fun _ f _=>if f=79 then .sl .ro (R.map Qe)else .junk) zd ?_;cases R with
 |nil=>simp[akd,ake];exact h'
 |cons a r=>
  have:¬(r.length:Int)+1=0:=zE
  simp[akd,ake,this];exact h'
def Xk(id:Int):List It->Option It
 |[]=>none
 |x::r=>if x.id=id then some x else Xk id r
def xE{id:Int}{x:It}:∀{l:List It},Xk id l=some x->x∈l/\x.id=id
 |[],h=>by cases h
 |y::r,h=>by
  simp only[Xk]at h;split at h
  ·rename_i hy;cases h;exact⟨zd,hy⟩
  obtain⟨h1,h2⟩:=xE h;exact⟨by simp[h1],h2⟩
def Zr:Option It->AV
 |some x=>.aS [.agg (Qm x),.bool true]
 |none=>.aS [.agg [I 0,I 0,I 0,I 0,I 0],.bool false]
def kz(p:Pl)(id:Int)(hl:p.aM.length<=1000000000):Pure Tryz.prog aD 80 [.agg (Qa p),I id] (Zr (Xk id p.aM)):=by
 refine Qp akN (fun _ _ _=>.junk) zd ?_;simp[apx,Qa];refine Qj MF (fun f m=>∃(i:Nat)(bx:T5),f 11=I i/\i<=p.aM.length/\Xk id (p.aM.drop i)=Xk id p.aM/\m=⟨Qa p::[I 0,I 0,I 0,I 0,I 0]::bx,[],fun _=>.gone,0⟩) (fun f _=>p.aM.length-(numOf (f 11)).toNat) ?_ ?_
 ·exact⟨0,[],zd,zE,rfl,rfl⟩
 rintro f m ⟨i,bx,nq,hi,hf,rfl⟩;rcases zzaa i p.aM.length with ah|bu
 ·obtain⟨x,hx⟩:=aV ah;have ai:Qi (p.aM.map Qm) i=Qm x:=Qw (by simp[hx]);have aa:(i:Int)<(p.aM.length:Int):=zE
  have hw:=bO i zE;have hd:p.aM.drop i=x::p.aM.drop (i+1):=by rw[zzai ah,(zza.1 hx).2]
  rw[hd,Xk]at hf;by_cases aK:x.id=id
  ·rw[ac aK]at hf;simp[nq,ah,aa,ai,Qm,aK,MF,akM,<- hf,Zr]
  rw[ab aK]at hf;simp[nq,ah,aa,ai,Qm,aK,MF,hw];refine⟨aQ,⟨i+1,zd,zE,hf⟩,zE⟩
 rw[zzam bu]at hf;have bP:¬(i:Int)<(p.aM.length:Int):=zE
 simp[nq,zzbm.2 bu,bP,MF,akM,<- hf,Zr,Xk]
def yV:List (Int×Int×Int×Int):=[(24000,1001,24,0),(24,1,24,0),(25,1,25,0),(30000,1001,30,2),(30,1,30,0),(50,1,50,0),(60000,1001,60,4),(60,1,60,0)]
def Af(nu de:Int):List (Int×Int×Int×Int)->Option (Int×Int×Int×Int)
 |[]=>none
 |x::r=>if x.1=nu/\x.2.1=de then some x else Af nu de r
def Vh(nu de:Int):Bool:=(Af nu de yV).isSome
def Il:Option (Int×Int×Int×Int)->AV
 |some x=>.aS [.agg [I x.1,I x.2.1,I x.2.2.1,I x.2.2.2],.bool true]
 |none=>.aS [.agg [I 0,I 0,I 0,I 0],.bool false]
def Si:∀i:Nat,i<8->∃x,yV[i]?=some x/\(HA.drop (i*4)).take 4=[I x.1,I x.2.1,I x.2.2.1,I x.2.2.2]/\yV.drop i=x::yV.drop (i+1)
 |0,_=>⟨_,rfl,rfl,rfl⟩
 |1,_=>⟨_,rfl,rfl,rfl⟩
 |2,_=>⟨_,rfl,rfl,rfl⟩
 |3,_=>⟨_,rfl,rfl,rfl⟩
 |4,_=>⟨_,rfl,rfl,rfl⟩
 |5,_=>⟨_,rfl,rfl,rfl⟩
 |6,_=>⟨_,rfl,rfl,rfl⟩
 |7,_=>⟨_,rfl,rfl,rfl⟩
 |n+8,h=>zE
def Jw{nu de:Int}(h:Vh nu de=true):24<=nu/\nu<=60000/\1<=de/\de<=1001/\de<nu:=by
 simp only[Vh,yV,Af]at h;repeat' split at h
 all_goals first|(cases h;done)|omega
theorem abn:HA.length=32:=rfl
def Sj(nu de:Int):Pure Tryz.prog aD 188 [.agg [I nu,I de]] (Il (Af nu de yV)):=by
 refine Qp adh (fun _ _ _=>.junk) zd ?_;have hg:aD 2=.ep HA 0:=rfl;have lQ:=abn;have bz:HA.take 32=HA:=rfl;simp[ahM,hg,lQ,bz];refine Qj vu (fun f m=>∃(i:Nat)(bx:T5),f 7=I i/\i<=8/\Af nu de (yV.drop i)=Af nu de yV/\m=⟨[I nu,I de]::[I 0,I 0,I 0,I 0]::bx,[],fun _=>.gone,0⟩) (fun f _=>8-(numOf (f 7)).toNat) ?_ ?_
 ·exact⟨0,[],zd,zE,rfl,rfl⟩
 rintro f m ⟨i,bx,h7,hi,hf,rfl⟩;by_cases h8:i=8
 ·subst h8;have:Af nu de (yV.drop 8)=none:=rfl;rw[this]at hf;simp[h7,vu,UG,<- hf,Il]
 have ah:i<8:=zE
 obtain⟨x,hx,ai,hd⟩:=Si i ah;have aa:(i:Int)<8:=zE
 have hw:=bO i zE;have wW:min 4 (32-i*4)=4:=zE
 rw[hd,Af]at hf;by_cases hc:x.1=nu/\x.2.1=de
 ·rw[ac hc]at hf;simp[h7,ah,aa,lQ,ai,wW,hc.1,hc.2,vu,UG,<- hf,Il]
 rw[ab hc]at hf;by_cases fA:x.1=nu
 ·have Ct:¬x.2.1=de:=fun h=>hc ⟨fA,h⟩;simp[h7,ah,aa,lQ,ai,wW,fA,Ct,vu,hw];refine⟨aQ,⟨i+1,zd,zE,hf⟩,zE⟩
 simp[h7,ah,aa,lQ,ai,wW,fA,vu,hw];refine⟨aQ,⟨i+1,zd,zE,hf⟩,zE⟩
def Wq(nu de:Int):Pure Tryz.prog aD 132 [.agg [I nu,I de]] (.bool (Vh nu de)):=by
 have h:=Sj nu de;unfold Vh;refine Qp acz (fun _ _ _=>Il (Af nu de yV)) zd ?_;cases hf:Af nu de yV with
 |none=>rw[hf]at h;simp only[Il]at h;simp[TU,TV,Il];exact h
 |some x=>rw[hf]at h;simp only[Il]at h;simp[TU,TV,Il];exact h
def Im(f:Int):Pure Tryz.prog aD 190 [I f] (.bool (decide (0<=f/\f<=100000000))):=by
 refine Qp adj (fun _ _ _=>.junk) zd ?_;by_cases h1:0<=f<;>by_cases h2:f<=100000000<;>simp[ahP,ahQ,h1,h2]
def sI(f:Int):Pure Tryz.prog aD 38 [I f] (.bool (decide (0<=f/\f<=100000000))):=by
 refine Qp akc (fun _ _ _=>.junk) zd ?_;by_cases h1:0<=f<;>by_cases h2:f<=100000000<;>simp[ao4,ao5,h1,h2]
def Yn(nu de f:Int):Int:=if Vh nu de=true/\0<=f/\f<=100000000 then(f*de).tdiv nu else -1
def xh(nu de s:Int):Int:=if Vh nu de=true/\0<=s/\s<=10000000000 then(s*nu+de-1).tdiv de else -1
def D0{x y a b:Int}(h1:0<=x/\x<=a)(h2:0<=y/\y<=b):0<=x*y/\x*y<=a*b:=
 ⟨zzej h1.1 h2.1,Int.mul_le_mul h1.2 h2.2 h2.1 (zzem h1.1 h1.2)⟩
def D1{x y:Int}(h:0<=x)(hy:1<=y):0<=x.tdiv y/\x.tdiv y<=x:=by
 rw[zzcj h];exact⟨Int.ediv_nonneg h zE,Int.ediv_le_self _ h⟩
def QU(nu de f:Int):Pure Tryz.prog aD 134 [.agg [I nu,I de],I f] (I (Yn nu de f)):=by
 have h1:=Wq nu de;have h2:=Im f;refine Qp acB (fun _ g _=>if g=132 then .bool (Vh nu de)else .bool (decide (0<=f/\f<=100000000))) zd ?_;cases hv:Vh nu de with
 |false=>rw[hv]at h1;simp[MS,MT,hv,Yn];exact h1
 |true=>
  rw[hv]at h1;by_cases hf:0<=f/\f<=100000000
  ·obtain⟨b1,b2,b3,b4,_⟩:=Jw hv;obtain⟨p1,p2⟩:=D0 (x:=f) (y:=de) (a:=100000000) (b:=1001) ⟨hf.1,hf.2⟩ ⟨zE,zE⟩;have w1:IntKind.i64.wrap (f*de)=f*de:=by rw[Ql]<;>omega
   obtain⟨d1,d2⟩:=D1 (x:=f*de) (y:=nu) p1 zE;have w2:IntKind.i64.wrap ((f*de).tdiv nu)=(f*de).tdiv nu:=by rw[Ql]<;>omega
   have hnz:¬nu=0:=zE
   simp[hf]at h2;simp[MS,MT,hv,Yn,hf,w1,w2,hnz];exact⟨h1,h2⟩
  simp only[hf,decide_false]at h2;simp[MS,MT,hv,Yn,hf];exact⟨h1,h2⟩
def agE(a b:Int)(ha:0<=a/\a<=1000000000000000)(hb:1<=b/\b<=1001):Pure Tryz.prog aD 140 [I a,I b] (I ((a+b-1).tdiv b)):=by
 refine Qp acH (fun _ _ _=>.junk) zd ?_;have w1:IntKind.i64.wrap (a+b)=a+b:=by rw[Ql]<;>omega
 have w2:IntKind.i64.wrap (a+b-1)=a+b-1:=by rw[Ql]<;>omega
 obtain⟨d1,d2⟩:=D1 (x:=a+b-1) (y:=b) zE zE;have w3:IntKind.i64.wrap ((a+b-1).tdiv b)=(a+b-1).tdiv b:=by rw[Ql]<;>omega
 have hnz:¬b=0:=zE
 simp[ahd,ahe,w1,w2,w3,hnz]
def A7(nu de s:Int):Pure Tryz.prog aD 86 [.agg [I nu,I de],I s] (I (xh nu de s)):=by
 have h1:=Wq nu de;refine Qp akU (fun _ g _=>if g=132 then .bool (Vh nu de)else I (xh nu de s)) zd ?_;cases hv:Vh nu de with
 |false=>rw[hv]at h1;simp[Ty,Tz,hv,xh];exact h1
 |true=>
  rw[hv]at h1;by_cases Ee:s<0
  ·have:¬(0<=s/\s<=10000000000):=zE
   simp[Ty,Tz,hv,xh,Ee,this];exact h1
  by_cases hs1:10000000000<s
  ·have:¬(0<=s/\s<=10000000000):=zE
   simp[Ty,Tz,hv,xh,Ee,hs1,this];exact h1
  have hs:0<=s/\s<=10000000000:=zE
  obtain⟨b1,b2,b3,b4,_⟩:=Jw hv;obtain⟨p1,p2⟩:=D0 (x:=s) (y:=nu) (a:=10000000000) (b:=60000) ⟨hs.1,hs.2⟩ ⟨zE,zE⟩;have w1:IntKind.i64.wrap (s*nu)=s*nu:=by rw[Ql]<;>omega
  have h2:=agE (s*nu) de ⟨p1,zE⟩ ⟨zE,zE⟩;simp[Ty,Tz,hv,xh,Ee,hs1,hs,w1];exact⟨h1,h2⟩
def gO(n:Int):Bool:=decide (-50400<=n/\n<=50400)
def yW(n:Int):Pure Tryz.prog aD 189 [I n] (.bool (gO n)):=by
 refine Qp adi (fun _ _ _=>.junk) zd ?_;by_cases h1: -50400<=n<;>by_cases h2:n<=50400<;>simp[ahN,ahO,gO,h1,h2]
def tM:Int->List Sp->Bool
 |_,[]=>true
 |last,s::r=>if s.1<=last\/10000000000<s.1\/gO s.2=false then false else tM s.1 r
def Yj(of:Int)(sh:List Sp):Bool:=decide (sh.length<=40)&&gO of&&tM (-1) sh
def jf(of:Int)(sh:List Sp)(hl:sh.length<=1000000000):Pure Tryz.prog aD 133 [.agg [I of,.sl .ro (sh.map Qe)]] (.bool (Yj of sh)):=by
 have h1:=yW of;refine Qp acA (fun d f a=>match a with|[.int _ n]=>.bool (gO n)|_=>.junk) zd ?_;by_cases h40:40<sh.length
 ·have agF:(40:Int)<(sh.length:Int):=zE
  have:Yj of sh=false:=by simp[Yj];intro h;omega
  simp[EA,vj,h40,agF,this]
 have agF:¬(40:Int)<(sh.length:Int):=zE
 cases ho:gO of with
 |false=>
  have:Yj of sh=false:=by simp[Yj,ho]
  rw[ho]at h1;simp[EA,vj,h40,agF,this,ho];exact h1
 |true=>
  have hv:Yj of sh=tM (-1) sh:=by simp[Yj,ho];intro _;omega
  rw[ho]at h1;simp[EA,h40,agF,ho];refine⟨h1,?_⟩;refine Qj qs (fun f m=>∃(i:Nat)(last:Int)(bx:T5),f 19=I i/\f 3=I last/\i<=sh.length/\tM last (sh.drop i)=tM (-1) sh/\m=⟨[I of,.sl .ro (sh.map Qe)]::bx,[],fun _=>.gone,0⟩) (fun f _=>sh.length-(numOf (f 19)).toNat) ?_ ?_
  ·exact⟨0,-1,[],zd,zd,zE,rfl,rfl⟩
  rintro f m ⟨i,last,bx,h19,h3,hi,ha,rfl⟩;rcases zzaa i sh.length with ah|bu
  ·obtain⟨s,hs⟩:=aV ah;have ai:=Zy hs;have aa:(i:Int)<(sh.length:Int):=zE
   have hw:=bO i zE;have hd:sh.drop i=s::sh.drop (i+1):=by rw[zzai ah,(zza.1 hs).2]
   rw[hd,tM]at ha;have hp:=yW s.2;by_cases c1:s.1<=last
   ·rw[ac (.inl c1)]at ha;simp[h19,h3,ah,aa,ai,c1,qs,vj,hv,<- ha]
   by_cases c2:10000000000<s.1
   ·rw[ac (.inr (.inl c2))]at ha;simp[h19,h3,ah,aa,ai,c1,c2,qs,vj,hv,<- ha]
   cases c3:gO s.2 with
   |false=>
    rw[ac (.inr (.inr c3))]at ha;rw[c3]at hp;simp[h19,h3,ah,aa,ai,c1,c2,c3,qs,vj,hv,<- ha];exact hp
   |true=>
    rw[ab (by rintro(h|h|h);exact c1 h;exact c2 h;rw[c3]at h;cases h)]at ha;rw[c3]at hp;simp[h19,h3,ah,aa,ai,c1,c2,c3,qs,hw];refine⟨hp,aQ,⟨i+1,zd,zE,ha⟩,zE⟩
  rw[zzam bu,tM]at ha;have bP:¬(i:Int)<(sh.length:Int):=zE
  simp[h19,zzbm.2 bu,bP,qs,vj,hv,<- ha]
def Kj(p:Pl):Bool:=Vh p.nu p.de&&Yj p.of p.sh&&decide (0<=p.ep/\p.ep<=9000000000)
def KM(p:Pl)(hl:p.sh.length<=1000000000):Pure Tryz.prog aD 81 [.agg (Qa p)] (.bool (Kj p)):=by
 have h1:=Wq p.nu p.de;have h2:=jf p.of p.sh hl;refine Qp akO (fun _ g _=>if g=132 then .bool (Vh p.nu p.de)else .bool (Yj p.of p.sh)) zd ?_;cases hv:Vh p.nu p.de with
 |false=>rw[hv]at h1;simp[ab1,ab2,Qa,Kj,hv];exact h1
 |true=>
  rw[hv]at h1;cases hz:Yj p.of p.sh with
  |false=>rw[hz]at h2;simp[ab1,ab2,Qa,Kj,hv,hz];exact⟨h1,h2⟩
  |true=>
   rw[hz]at h2;by_cases c1:0<=p.ep<;>by_cases c2:p.ep<=9000000000<;>simp[ab1,ab2,Qa,Kj,hv,hz,c1,c2]<;>exact⟨h1,h2⟩
instance:DecidableEq Cl:=fun x y=>decidable_of_iff (x.ki=y.ki/\x.it=y.it/\x.fr=y.fr/\x.to=y.to/\x.re=y.re/\x.n=y.n/\x.a=y.a/\x.b=y.b) (by cases x;cases y;simp)
def wi(n lo hi:Int):Bool:=decide (lo<=n/\n<=hi)
def Vq(n lo hi:Int):Pure Tryz.prog aD 98 [I n,I lo,I hi] (.bool (wi n lo hi)):=by
 refine Qp TI (fun _ _ _=>.junk) zd ?_;by_cases h1:lo<=n<;>by_cases h2:n<=hi<;>simp[alb,alc,wi,h1,h2]
def gV(c:Cl):Cl:=
 if c.ki=1\/c.ki=2 then⟨c.ki,c.it,c.fr,c.to,c.re,0,0,0⟩else if c.ki=3\/c.ki=4 then⟨c.ki,c.it,0,0,c.re,c.n,0,0⟩else
 if c.ki=5 then⟨c.ki,0,0,0,0,c.n,c.a,c.b⟩else if c.ki=6 then⟨c.ki,0,c.fr,c.to,0,0,c.a,0⟩else⟨0,0,0,0,0,0,0,0⟩
def Sk(c:Cl):Pure Tryz.prog aD 96 [.agg (Qg c)] (.agg (Qg (gV c))):=by
 refine Qp TG (fun _ _ _=>.junk) zd ?_;by_cases h1:c.ki=1
 ·simp[BQ,BR,Qg,gV,h1]
 by_cases h2:c.ki=2
 ·simp[BQ,BR,Qg,gV,h2]
 by_cases h3:c.ki=3
 ·simp[BQ,BR,Qg,gV,h3]
 by_cases h4:c.ki=4
 ·simp[BQ,BR,Qg,gV,h4]
 by_cases h5:c.ki=5
 ·simp[BQ,BR,Qg,gV,h5]
 by_cases h6:c.ki=6
 ·simp[BQ,BR,Qg,gV,h6]
 simp[BQ,BR,Qg,gV,h1,h2,h3,h4,h5,h6]
def Jb(c:Cl):Bool:=wi c.it 1 4611686018427387903&&wi c.re 1 255
def yX:UV:=fun _ _ l=>match l with
 |[.int _ n,.int _ lo,.int _ hi]=>.bool (wi n lo hi)
 |_=>.junk
def Io(c:Cl):Pure Tryz.prog aD 97 [.agg (Qg c)] (.bool (Jb c)):=by
 have h1:=Vq c.it 1 4611686018427387903;have h2:=Vq c.re 1 255;refine Qp TH yX zd ?_;cases e1:wi c.it 1 4611686018427387903 with
 |false=>rw[e1]at h1;simp[ab3,ab4,Qg,yX,Jb,e1];exact h1
 |true=>rw[e1]at h1;simp[ab3,ab4,Qg,yX,Jb,e1];exact⟨h1,h2⟩
def Kn(n:Int):Bool:=wi n 0 86340&&decide (n.tmod 60=0)
def tj(n:Int):Pure Tryz.prog aD 99 [I n] (.bool (Kn n)):=by
 have h1:=Vq n 0 86340;refine Qp TJ yX zd ?_;cases e1:wi n 0 86340 with
 |false=>rw[e1]at h1;simp[ab5,ab6,yX,Kn,e1];exact h1
 |true=>
  rw[e1]at h1;by_cases e2:n.tmod 60=0<;>simp[ab5,ab6,yX,Kn,e1,e2]<;>exact h1
def Ww(c:Cl):Bool:=
 if c.ki=1\/c.ki=2 then Jb c&&(decide (0<=c.fr)&&(decide (c.fr<c.to)&&decide (c.to<=10000000000)))else if c.ki=3 then Jb c&&wi c.n 0 1000 else
 if c.ki=4 then Jb c&&wi c.n 0 10000000000 else if c.ki=5 then wi c.a 1 200&&(wi c.b 1 200&&(decide (c.a≠c.b)&&wi c.n 0 86400))else
 if c.ki=6 then wi c.a 1 3&&(Kn c.fr&&(Kn c.to&&decide (c.fr≠c.to)))else false
def Zd(c:Cl):Bool:=decide (gV c=c)&&Ww c
def ayT(c u:Cl):eqFs [I c.ki,I c.it,I c.fr,I c.to,I c.re,I c.n,I c.a,I c.b] [I u.ki,I u.it,I u.fr,I u.to,I u.re,I u.n,I u.a,I u.b]=decide (u=c):=by
 obtain⟨a1,a2,a3,a4,a5,a6,a7,a8⟩:=c;obtain⟨b1,b2,b3,b4,b5,b6,b7,b8⟩:=u;simp only[eqFs,eqF,Cl.mk.injEq,zzgn];by_cases h:(b1=a1/\b2=a2/\b3=a3/\b4=a4/\b5=a5/\b6=a6/\b7=a7/\b8=a8)
 ·obtain⟨rfl,rfl,rfl,rfl,rfl,rfl,rfl,rfl⟩:=h;simp
 rw[decide_eq_false h];apply Bool.eq_false_iff.2;intro hh;simp only[zzac,beq_iff_eq]at hh;obtain⟨e1,e2,e3,e4,e5,e6,e7,e8⟩:=hh;exact h ⟨e1.symm,e2.symm,e3.symm,e4.symm,e5.symm,e6.symm,e7.symm,e8.symm⟩
def an7(c:Cl):UV:=fun _ f l=>
 if f=96 then .agg (Qg (gV c))else if f=97 then .bool (Jb c)else if f=98 then(match l with
 |[.int _ n,.int _ lo,.int _ hi]=>.bool (wi n lo hi)
 |_=>.junk)else match l with
 |[.int _ n]=>.bool (Kn n)
 |_=>.junk
def Kv(c:Cl):Pure Tryz.prog aD 48 [.agg (Qg c)] (.bool (Zd c)):=by
 have h0:=Sk c;have hE:=ayT c (gV c);have hi:=Io c;refine Qp Tj (an7 c) zd ?_;by_cases hu:gV c=c
 ·rw[hu]at h0 hE;simp only[decide_true]at hE;have hv:Zd c=Ww c:=by simp[Zd,hu]
  rw[hv];simp[-eqFs,abS,Qg,an7,hu,hE];refine⟨h0,?_⟩;by_cases h1:c.ki=1\/c.ki=2
  ·have hk:Ww c=(Jb c&&(decide (0<=c.fr)&&(decide (c.fr<c.to)&&decide (c.to<=10000000000)))):=by unfold Ww;rw[ac h1]
   rw[hk];clear hk hv;cases e1:Jb c with
   |false=>rw[e1]at hi;rcases h1 with h1|h1<;>(simp[fW,h1,e1];simpa[Qg,h1]using hi)
   |true=>
    rw[e1]at hi;by_cases e2:0<=c.fr<;>by_cases e3:c.fr<c.to<;>by_cases e4:c.to<=10000000000<;>rcases h1 with h1|h1<;>(simp[fW,h1,e1,e2,e3,e4];simpa[Qg,h1]using hi)
  have nq:¬c.ki=1:=fun h=>h1 (.inl h);have qm:¬c.ki=2:=fun h=>h1 (.inr h);by_cases h3:c.ki=3
  ·have hk:Ww c=(Jb c&&wi c.n 0 1000):=by unfold Ww;rw[ab h1,ac h3]
   rw[hk];clear hk hv;have hw:=Vq c.n 0 1000;cases e1:Jb c with
   |false=>rw[e1]at hi;simp[fW,h3,e1];simpa[Qg,h3]using hi
   |true=>rw[e1]at hi;simp[fW,h3,e1];exact⟨by simpa[Qg,h3]using hi,hw⟩
  by_cases h4:c.ki=4
  ·have hk:Ww c=(Jb c&&wi c.n 0 10000000000):=by unfold Ww;rw[ab h1,ab h3,ac h4]
   rw[hk];clear hk hv;have hw:=Vq c.n 0 10000000000;cases e1:Jb c with
   |false=>rw[e1]at hi;simp[fW,h4,e1];simpa[Qg,h4]using hi
   |true=>rw[e1]at hi;simp[fW,h4,e1];exact⟨by simpa[Qg,h4]using hi,hw⟩
  by_cases h5:c.ki=5
  ·have hk:Ww c=(wi c.a 1 200&&(wi c.b 1 200&&(decide (c.a≠c.b)&&wi c.n 0 86400))):=by unfold Ww;rw[ab h1,ab h3,ab h4,ac h5]
   rw[hk];clear hk hv hi;have w1:=Vq c.a 1 200;have w2:=Vq c.b 1 200;have w3:=Vq c.n 0 86400;cases e1:wi c.a 1 200 with
   |false=>rw[e1]at w1;simp[fW,h5,e1];exact w1
   |true=>
    rw[e1]at w1;cases e2:wi c.b 1 200 with
    |false=>rw[e2]at w2;simp[fW,h5,e1,e2];exact⟨w1,w2⟩
    |true=>
     rw[e2]at w2;by_cases e3:c.a=c.b
     ·simp[fW,h5,e1,e2,e3];exact w2
     simp[fW,h5,e1,e2,e3];exact⟨w1,w2,w3⟩
  by_cases h6:c.ki=6
  ·have hk:Ww c=(wi c.a 1 3&&(Kn c.fr&&(Kn c.to&&decide (c.fr≠c.to)))):=by unfold Ww;rw[ab h1,ab h3,ab h4,ab h5,ac h6]
   rw[hk];clear hk hv hi;have w1:=Vq c.a 1 3;have w2:=tj c.fr;have w3:=tj c.to;cases e1:wi c.a 1 3 with
   |false=>rw[e1]at w1;simp[fW,h6,e1];exact w1
   |true=>
    rw[e1]at w1;cases e2:Kn c.fr with
    |false=>rw[e2]at w2;simp[fW,h6,e1,e2];exact⟨w1,w2⟩
    |true=>
     rw[e2]at w2;cases e4:Kn c.to with
     |false=>rw[e4]at w3;simp[fW,h6,e1,e2,e4];exact⟨w1,w2,w3⟩
     |true=>
      rw[e4]at w3;by_cases e3:c.fr=c.to
      ·simp[fW,h6,e1,e2,e4,e3];exact⟨w1,w3⟩
      simp[fW,h6,e1,e2,e4,e3];exact⟨w1,w2,w3⟩
  have hk:Ww c=false:=by unfold Ww;rw[ab h1,ab h3,ab h4,ab h5,ab h6]
  rw[hk];simp[fW,nq,qm,h3,h4,h5,h6]
 simp only[hu,decide_false]at hE;have hv:Zd c=false:=by simp[Zd,hu]
 rw[hv];simp[-eqFs,abS,fW,Qg,an7,hE];exact h0
def auF(a:Int):IntKind.i64.wrap ((BitVec.ofInt 64 a&&& 1#64).toNat:Int)=a%2:=by
 have h:(BitVec.ofInt 64 a&&& 1#64).toNat=(BitVec.ofInt 64 a).toNat%2:=by
  rw[BitVec.toNat_and];exact Nat.and_one_is_mod _
 rw[h,BitVec.toNat_ofInt,Ql]<;>omega
def an8(c:Cl)(region:Int):Bool:=decide (c.re.fdiv (2 ^ (min region.toNat 64))%2=1)
def gN(c:Cl)(item region:Int):Bool:=wi region 0 7&&(decide (c.it=item)&&an8 c region)
def lU(c:Cl)(item region:Int):Pure Tryz.prog aD 191 [.agg (Qg c),I item,I region] (.bool (gN c item region)):=by
 have h1:=Vq region 0 7;refine Qp adk yX zd ?_;cases e1:wi region 0 7 with
 |false=>rw[e1]at h1;simp[EI,EJ,Qg,yX,gN,e1];exact h1
 |true=>
  have hr:0<=region:=by simp[wi]at e1;omega
  rw[e1]at h1;by_cases e2:c.it=item
  ·by_cases e3:c.re.fdiv (2 ^ (min region.toNat 64))%2=1
   ·simp[EI,EJ,Qg,yX,gN,e1,e2,e3,hr,an8,IntKind.bits];exact⟨h1,(auF _).trans e3⟩
   simp[EI,EJ,Qg,yX,gN,e1,e2,e3,hr,an8,IntKind.bits];exact⟨h1,fun h=>e3 ((auF _).symm.trans h)⟩
  simp[EI,EJ,Qg,yX,gN,e1,e2];exact h1
def Gm(bY:Int)(c:Cl):Bool:=decide (c.ki=6)&&(decide (c.a<=bY)&&Zd c)
def uG(cs:List Cl)(bY:Int):List Sp:=(cs.filter (Gm bY)).map fun c=>(c.fr,c.to)
def tN(cs:List Cl)(bY:Int)(hl:cs.length<=100000000):Pure Tryz.prog aD 137 [.sl .ro (cs.map Qg),I bY] (.sl .ro ((uG cs bY).map Qe)):=by
 have key:∀r,r=(if uG cs bY=[]then AV.sl .nil []else .sl .ro ((uG cs bY).map Qe))->Pure Tryz.prog aD 137 [.sl .ro (cs.map Qg),I bY] r:=by
  rintro r rfl
  refine Qp acE (fun d f l=>if f=999999 then .junk else match l with
   |[.agg [.int _ a,.int _ b,.int _ c,.int _ d,.int _ e,.int _ f,.int _ g,.int _ h]]=>.bool (Zd ⟨a,b,c,d,e,f,g,h⟩)
   |_=>.junk) zd ?_
  simp[TX]
  refine Qj iH (fun f m=>∃(i:Nat)(bx:T5)(rt:Rt)(L':Pa)(o:List Sp),i<=cs.length/\f 10=I i/\f 5=.sl rt (o.map Qe)/\m=⟨bx,L',fun _=>.gone,0⟩/\o.length<=i/\o++uG (cs.drop i) bY=uG cs bY/\
   ((o=[]/\rt=.nil/\L'=[])\/(o≠[]/\rt=.own 0 2/\L'=[o.length]))) (fun f _=>cs.length-(numOf (f 10)).toNat) ?_ ?_
  ·exact⟨0,[],.nil,[],[],zE,zd,zd,rfl,zd,zd,.inl ⟨rfl,rfl,rfl⟩⟩
  rintro f m ⟨i,bx,rt,L',o,hi,ij,h5,rfl,FM,ho,aY⟩;rcases zzaa i cs.length with ah|bu
  ·obtain⟨c,hc⟩:=aV ah;have ai:Qi (cs.map Qg) i=Qg c:=Qw (by simp[hc]);have aa:(i:Int)<(cs.length:Int):=zE
   have hw:=bO i zE;have hd:cs.drop i=c::cs.drop (i+1):=by rw[zzai ah,(zza.1 hc).2]
   have XO:=Kv c;rw[hd]at ho
   have ou:∀row∈o.map Qe,row.length=2:=by
    intro row h;rw[zzan]at h;obtain⟨a,_,rfl⟩:=h;rfl
   have skip:Gm bY c=false->o++uG (cs.drop (i+1)) bY=uG cs bY:=by
    intro hb;rw[<- ho];simp[uG,hb]
   have take:Gm bY c=true->(o++[(c.fr,c.to)])++uG (cs.drop (i+1)) bY=uG cs bY:=by
    intro hb;rw[<- ho];simp[uG,hb]
   by_cases c1:c.ki=6
   ·have hc6:(⟨6,c.it,c.fr,c.to,c.re,c.n,c.a,c.b⟩:Cl)=c:=by cases c;simp at c1;subst c1;rfl
    have nt:Pure Tryz.prog aD 48 [.agg [I 6,I c.it,I c.fr,I c.to,I c.re,I c.n,I c.a,I c.b]] (.bool (Zd c)):=by simpa[Qg,c1]using XO
    by_cases c2:c.a<=bY
    ·cases c3:Zd c with
     |true=>
      have ht:=take (by simp[Gm,c1,c2,c3]);rw[c3]at nt;obtain⟨rfl,rfl,rfl⟩|⟨aO,rfl,rfl⟩:=aY
      ·simp[ij,h5,ah,aa,ai,Qg,c1,c2,hc6,c3,iH,hw];refine⟨nt,aQ,⟨i+1,zE,zd,_,.own 0 2,[1],[(c.fr,c.to)],⟨rfl,rfl⟩,⟨rfl,rfl⟩,zd,ht,zd⟩,zE⟩
      simp[ij,h5,ah,aa,ai,Qg,c1,c2,hc6,c3,iH,hw];refine⟨nt,⟨?_,zE⟩,aQ,⟨i+1,zE,zd,_,.own 0 2,[o.length+1],o++[(c.fr,c.to)],⟨rfl,by simp[Qe]⟩,⟨rfl,rfl⟩,by simp;omega,ht,zd⟩,zE⟩
      ·rintro row (⟨a,b,_,rfl⟩|rfl)<;>rfl
     |false=>
      have hs:=skip (by simp[Gm,c3]);rw[c3]at nt;simp[ij,h5,ah,aa,ai,Qg,c1,c2,hc6,c3,iH,hw];refine⟨nt,aQ,⟨i+1,zE,zd,_,rt,L',o,⟨rfl,rfl⟩,⟨rfl,rfl⟩,zE,hs,aY⟩,zE⟩
    have hs:=skip (by simp[Gm,c2]);simp[ij,h5,ah,aa,ai,Qg,c1,c2,iH,hw];refine⟨aQ,⟨i+1,zE,zd,_,rt,L',o,⟨rfl,rfl⟩,⟨rfl,rfl⟩,zE,hs,aY⟩,zE⟩
   have hs:=skip (by simp[Gm,c1]);simp[ij,h5,ah,aa,ai,Qg,c1,iH,hw];refine⟨aQ,⟨i+1,zE,zd,_,rt,L',o,⟨rfl,rfl⟩,⟨rfl,rfl⟩,zE,hs,aY⟩,zE⟩
  obtain rfl:i=cs.length:=zE
  have he:uG cs bY=o:=by rw[<- ho];simp[uG]
  rw[he];obtain⟨rfl,rfl,rfl⟩|⟨aO,rfl,rfl⟩:=aY
  ·simp[ij,h5,iH,TY]
  simp[ij,h5,iH,TY,aO]
 have hk:=key _ rfl;by_cases hn:uG cs bY=[]
 ·rw[ac hn]at hk;rw[hn];exact Zk hk (Wk.sl _ _)
 rw[ab hn]at hk;exact hk
