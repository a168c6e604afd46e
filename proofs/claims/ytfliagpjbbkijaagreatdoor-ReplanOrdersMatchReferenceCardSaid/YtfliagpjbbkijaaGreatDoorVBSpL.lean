import Derived.Test.YtfliagpjbbkijaaGreatDoorVBTcA
import Derived.Shelf.SortM.SortNone
import Derived.Shelf.SortM.Plain
import Derived.Shelf.SlicesG.Cmp
import Derived.Shelf.SlSortCmp.NoneTotal
set_option linter.all false
set_option maxRecDepth 100000
set_option maxHeartbeats 64000000
namespace Go.Abs
open Go Go.RowKit Go.Sort Go.Proofs
def qf:∀(vs:PP)(o:Nat)(arr:PQ)(k:Nat),o+vs.length<=arr.size->k<arr.size->(yJ arr o vs)[k]?=if o<=k/\k<o+vs.length then vs[k-o]? else arr[k]?
 |[],o,arr,k,_,_=>by rw[yJ,if_neg];simp
 |v::vs,o,arr,k,h,hk=>by
  simp only[zzba]at h;rw[yJ,qf vs (o+1) _ k (by simp;omega) (Nm hk)];by_cases h1:o+1<=k/\k<o+1+vs.length
  ·rw[if_pos h1,if_pos (by simp;omega)];obtain⟨u,rfl⟩:∃u,k=o+1+u:=⟨k-(o+1),zE⟩;rw[show o+1+u-o=u+1 by omega,zzdh];congr 1;omega
  rw[if_neg h1];by_cases h2:k=o
  ·subst h2;rw[if_pos zd];simp[zzes,hk]
  rw[if_neg (by simp;omega)];simp[zzes,Ne.symm h2]
def DM{α:Type}[Inhabited α](enc:α->Value)(w:World)(b off:Nat)(d:Array α){arr:PQ}{e:TypeId}{f:Nat×Nat}(h:w.heap[b]?=some (.cells arr e f))(hs:off+d.size<=arr.size):
  (putRow enc w b off d).heap=(w.setCells b off (d.toList.map enc)).heap:=by
 apply zzgf;intro k;by_cases hk:k=b
 ·subst hk;rw[Zm k _ off w arr e f h]
  have e1:(putRow enc w k off d).heap[k]?=some (.cells (putCells enc off d arr) e f):=by
   simp[putRow,mapBlock,zzdm,h,onCells]
  rw[e1];congr 2;apply zzgf;intro j;by_cases hj:j<arr.size
  ·rw[qf _ off arr j (Nm hs) hj];simp only[putCells,zzhi,zzbv,zzcs];by_cases hc:off<=j/\j<off+d.size
   ·rw[if_pos hc,zzag hj];have ah:j-off<d.size:=zE
    simp[hc,ah]
   rw[if_neg hc,zzag hj];simp[hc]
  have s1:(putCells enc off d arr).size=arr.size:=by simp[putCells]
  have s2:=Kk (d.toList.map enc) arr off;rw[zzbt zE,zzbt zE]
 rw[Qz b _ off w k hk];simp[putRow,mapBlock,zzdm,Ne.symm hk]
section
variable {N:Nat} {w0:fE} {an:Nat->Nat->Prop} {γ:G} {w:World}
def aat{m:AM}(hm:aq N w0 an γ w m.B m.L)(hl:cB γ w m){id b:Nat}{cells:P1}(hB:m.boxes[id]?=some cells)(aK:cells≠[])(hb:γ.β id=some b){o:Nat}{xs:P1}{vs:PP}
  (ha:ak w γ xs vs)(h1v:∀v∈vs,v.oneCell'=true){w':World}(af1:Below (w.setCells b o vs).heap.size (w.setCells b o vs) w'):
  ∃γ',eC w γ w' γ'/\aq N w0 an γ' w' (m.wr id (setA cells o xs)).B (m.wr id (setA cells o xs)).L/\cB γ' w' (m.wr id (setA cells o xs)):=by
 obtain⟨arr,e,hh,hr,yI⟩:=hm.box id cells b hB hb;have h1:=hm.store hB hb hh hr yI (o:=o) ha h1v aK;have e1:=hm.dV hb o vs;have e2:=h1.cH af1;have ev:=e1.trans e2;refine⟨_,ev.cR,?_,hl.mono' ev rfl⟩;have h2:=h1.grow af1;rw[azl m id _ hB];exact h2
end
def BF{α:Type}[Inhabited α]{P:Program}{gl:Nat->AV}{Y:YT}{f:FuncId}(hc:bF P f)(enc:α->PP)(fN:α->P1)(sz:Nat)(hsz:∀x,(enc x).length=sz)
  (hA:∀(w:World)(γ:G)x,ak w γ (fN x) (enc x))(azm:∀(w:World)(γ:G)x vs,ak w γ (fN x) vs->vs=enc x)(h1:∀x,∀v∈enc x,v.oneCell'=true)
  {m:AM}{id off:Nat}{d:List α}{more:P1}{cells:P1}(hB:m.boxes[id]?=some cells)(aK:cells≠[])(anF:∃pre post,cells=pre++(d.map fN).flatten++post/\pre.length=off){d2:List α->Prop}{K:UV}
  (
   WA:∀(w:World)(b cap:Nat)(mv:PP)(γ:G),ak w γ more mv->HoldsK enc sz w b off d.toArray->b<w.heap.size->Calls P f (Value.slice (some ⟨b,off,none⟩) d.length cap::mv).toArray w fun e w'=>
   e=.returned (.tuple #[])/\∃(d':List α)(n:Nat)(os:Array Obj),d'.length=d.length/\d2 d'/\w'=sortWorldK enc sz w b off n d'.toArray os)
  (hK:∀d':List α,d'.length=d.length->d2 d'->K (.aS []) (m.wr id (setA cells off ((d'.map fN).flatten)))):
  aF P gl Y f (.bs id off d.length sz::more) m K:=by
 refine aF.jU hc fun N w0 an γ w vs hm hl hr=>?_
 match vs,hr with
 |[],hr=>exact absurd hr.1 zd
 |v::mv,hr=>
 have hv:au w γ (.bs id off d.length sz) v:=hr.2 0 _ _ rfl rfl;have hmv:ak w γ more mv:=⟨by have:=hr.1;simpa using this,fun i x y h1 h2=>hr.2 (i+1) x y (Nm h1) (Nm h2)⟩;cases hv with
 |@bs _ _ _ _ _ cap b arr e hb cw hh hs=>
 obtain⟨bU,e',hh',hrp,yI⟩:=hm.box id cells b hB hb;rw[hh]at hh';cases hh';have hblk:b<w.heap.size:=aW hh;obtain⟨pre,post,rfl,rfl⟩:=anF;have anG:∀x,(fN x).length=sz:=fun x=>by rw[(hA w γ x).1,hsz]
 have azn:∀(l:List α),((l.map fN).flatten).length=l.length*sz:=by
  intro l;induction l with
  |nil=>simp
  |cons x l ih=>simp[ih,anG,zzbi];omega
 have cA:∀i(hi:i<d.length),∀c,c<sz->arr[pre.length+i*sz+c]?=some ((enc d[i])[c]?.getD undef):=by
  intro i hi c hcz
  have anz:ak w γ (fN d[i]) ((arr.toList.drop (pre.length+i*sz)).take sz):=by
   have gG:((pre++(d.map fN).flatten++post).drop (pre.length+i*sz)).take sz=fN d[i]:=by
    have hd:d=d.take i++d[i]::d.drop (i+1):=zd
    have:(d.map fN).flatten=((d.take i).map fN).flatten++(fN d[i]++((d.drop (i+1)).map fN).flatten):=by
     conv=>lhs;rw[hd]
     simp only[zzcj,zzax,zzej,zzcg]
    rw[this];rw[show pre++(((d.take i).map fN).flatten++(fN d[i]++((d.drop (i+1)).map fN).flatten))++post=(pre++((d.take i).map fN).flatten)++(fN d[i]++(((d.drop (i+1)).map fN).flatten++post)) by simp[zzbd]]
    have eR:(pre++((d.take i).map fN).flatten).length=pre.length+i*sz:=by
     rw[zzal,azn,zzav];congr 2;omega
    rw[<- eR,zzdy,<- anG d[i],List.take_left]
   refine⟨?_,fun j x y hx hy=>?_⟩
   ·rw[anG]
    have h3:pre.length+d.length*sz<=arr.size:=by
     have:=zzbb sz cw;omega
    have h4:(i+1)*sz<=d.length*sz:=zzbb sz zE;rw[zzbi,zzdp]at h4;simp;omega
   rw[<- gG]at hx;rw[zzbw]at hx hy;split at hx
   ·rw[if_pos (by assumption)]at hy;rw[zzbr]at hx hy;exact hrp.2 _ x y hx hy
   cases hx
  have h5:=azm w γ _ _ anz;have h6:((arr.toList.drop (pre.length+i*sz)).take sz)[c]?=(enc d[i])[c]?:=by rw[h5]
  rw[zzbw,if_pos hcz,zzbr]at h6;have h7:(enc d[i])[c]?=some ((enc d[i])[c]'(by rw[hsz];exact hcz)):=zzac _;rw[h7]at h6 |-
  simpa using h6
 have hH:HoldsK enc sz w b pre.length d.toArray:=by
  intro t ht;rw[size_flatK]at ht;simp only[zzfn]at ht
  have k0:0<sz:=by
   rcases zzbx sz with h|h;· rw[h]at ht;omega
   · exact h
  have hq:t/sz<d.length:=zzdr (by rw[zzcc];exact ht);have yK:t%sz<sz:=zzdk _ k0;rw[get_flatK enc sz _ t (Nm ht)];refine⟨?_,Uc hh⟩;rw[aQ hh];have:=cA (t/sz) hq (t%sz) yK;rw[show pre.length+t/sz*sz+t%sz=pre.length+t by have:=zzgv t sz;rw[zzcc]at this;omega]at this;rw[this];have h8:d.toArray[t/sz]! =d[t/sz]:=by simp[hq]
  rw[h8];have h9:t%sz<(enc d[t/sz]).length:=by rw[hsz];exact yK
  simp[h9]
 refine(WA w b cap mv γ hmv hH hblk).mono ?_;rintro e1 w' ⟨rfl,d',n,os,y8,hp,rfl⟩
 have hA':ak w γ ((d'.map fN).flatten) ((d'.map enc).flatten):=by
  clear hp y8;induction d' with
  |nil=>simpa using ak.nil
  |cons x l ih=>simpa using(hA w γ x).append ih
 have lR:∀v∈(d'.map enc).flatten,v.oneCell'=true:=by
  intro v hv;simp only[List.mem_flatten,zzbk]at hv;obtain⟨l,⟨x,_,rfl⟩,hv⟩:=hv;exact h1 x v hv
 have PV:(flatK enc sz d'.toArray).toList=(d'.map enc).flatten:=by
  have ajD:∀(l:List α),((l.map enc).flatten).length=l.length*sz:=by
   intro l;induction l with
   |nil=>simp
   |cons x l ih=>simp[ih,hsz,zzbi];omega
  apply zzct;intro t;by_cases ht:t<d'.length*sz
  ·have k0:0<sz:=by
    rcases zzbx sz with h|h;· rw[h]at ht;omega
    · exact h
   have hq:t/sz<d'.length:=zzdr (by rw[zzcc];exact ht);have yK:t%sz<sz:=zzdk _ k0
   have e2:(flatK enc sz d'.toArray).toList[t]?=some ((flatK enc sz d'.toArray)[t]!):=by
    have:t<(flatK enc sz d'.toArray).size:=by rw[size_flatK];simpa using ht
    rw[zzby,zzag this,getElem!_pos (flatK enc sz d'.toArray) t this]
   rw[e2,get_flatK enc sz _ t (Nm ht)];have h8:d'.toArray[t/sz]! =d'[t/sz]:=by simp[hq]
   rw[h8];have hd:d'=d'.take (t/sz)++d'[t/sz]::d'.drop (t/sz+1):=zd
   have e3:(d'.map enc).flatten=((d'.take (t/sz)).map enc).flatten++(enc d'[t/sz]++((d'.drop (t/sz+1)).map enc).flatten):=by
    conv=>lhs;rw[hd]
    simp only[zzcj,zzax,zzej,zzcg]
   have eR:(((d'.take (t/sz)).map enc).flatten).length=t/sz*sz:=by rw[ajD,zzav];congr 1;omega
   have e4:t=(((d'.take (t/sz)).map enc).flatten).length+t%sz:=by
    rw[eR];have:=zzgv t sz;rw[zzcc]at this;omega
   have h9:t%sz<(enc d'[t/sz]).length:=by rw[hsz];exact yK
   rw[e3,zzaw zE,zzam (by rw[hsz];omega)];rw[show t-(((d'.take (t/sz)).map enc).flatten).length=t%sz by omega];simp[h9]
  rw[zzar (by simp;omega),zzar (by rw[ajD];omega)]
 have dD:pre.length+d'.length*sz<=arr.size:=by
  have:=zzbb sz cw;rw[y8];omega
 have ajE:(sortWorldK enc sz w b pre.length n d'.toArray os).heap=(w.setCells b pre.length ((d'.map enc).flatten)).heap++os:=by
  have:=DM _root_.id (Sort.ahead w n) b pre.length (flatK enc sz d'.toArray) (arr:=arr) (e:=e) (f:=(0,0)) hh (by rw[size_flatK];simpa using dD);show(putRow _root_.id (Sort.ahead w n) b pre.length (flatK enc sz d'.toArray)).heap++os=_;rw[this,List.map_id_fun,id_eq,PV];congr 1
  have D8:∀(vs:PP)(o:Nat)(w1 w2:World),w1.heap=w2.heap->(w1.setCells b o vs).heap=(w2.setCells b o vs).heap:=by
   intro vs;induction vs with
   |nil=>intro o w1 w2 h;exact h
   |cons v vs ih=>intro o w1 w2 h;exact ih (o+1) _ _ (by simp[World.setCell,h])
  exact D8 _ _ _ _ rfl
 have af1:Below (w.setCells b pre.length ((d'.map enc).flatten)).heap.size (w.setCells b pre.length ((d'.map enc).flatten)) (sortWorldK enc sz w b pre.length n d'.toArray os):=by
  have dI:=Xv b (zzaa b) ((d'.map enc).flatten) pre.length w;refine⟨?_,?_,?_,by rw[ajE];simp,fun k hk=>?_⟩
  ·rw[dI.os];rfl
  ·rw[dI.tape];rfl
  ·rw[dI.output];rfl
  rw[ajE,zzfc hk]
 obtain⟨γ',h3,h4,h5⟩:=aat hm hl hB aK hb (o:=pre.length) hA' lR af1;exact⟨_,γ',.aS [],_,rfl,h3,h4,h5,yo,hK d' y8 hp⟩
end Go.Abs
namespace Go.Proofs.YtfliagpjbbkijaaGreatDoor
abbrev Sp:=Int×Int
def Xw(l:List Sp)(x:Int):Prop:=∃s∈l,s.1<=x/\x<s.2
def VS(l:List Sp):Prop:=(∀s∈l,s.1<s.2)/\l.Pairwise fun a b=>a.2<b.1
@[simp] def Ub(x:Int):Xw [] x<->False:=by simp[Xw]
@[simp] def Xh(s:Sp)(l:List Sp)(x:Int):Xw (s::l) x<->(s.1<=x/\x<s.2)\/Xw l x:=by simp[Xw]
@[simp] def Yn(a b:List Sp)(x:Int):Xw (a++b) x<->Xw a x\/Xw b x:=by
 simp only[Xw,zzat,or_and_right,exists_or]
def R9{a b:List Sp}(h:a.Perm b)(x:Int):Xw a x<->Xw b x:=by simp only[Xw,h.mem_iff]
def yp:VS []:=⟨fun _ h=>(by cases h),.nil⟩
def dS{s:Sp}{l:List Sp}:VS (s::l)<->s.1<s.2/\(∀t∈l,s.2<t.1)/\VS l:=by
 simp only[VS,zzao,forall_eq_or_imp,zzc];constructor
 ·rintro⟨⟨h1,h2⟩,h3,h4⟩;exact⟨h1,h3,h2,h4⟩
 rintro⟨h1,h3,h2,h4⟩;exact⟨⟨h1,h2⟩,h3,h4⟩
def DN{s:Sp}{l:List Sp}:VS (l++[s])<->VS l/\s.1<s.2/\∀t∈l,t.2<s.1:=by
 simp only[VS,zzat,zzcv,List.pairwise_append,List.pairwise_singleton,true_and];constructor
 ·rintro⟨h1,h2,h3⟩;exact⟨⟨fun t ht=>h1 t (.inl ht),h2⟩,h1 s (.inr rfl),fun t ht=>h3 t ht s rfl⟩
 rintro⟨⟨h1,h2⟩,h3,h4⟩;refine⟨?_,h2,?_⟩
 ·rintro t (ht|rfl)
  ·exact h1 t ht
  exact h3
 rintro t ht u rfl;exact h4 t ht
def BG:∀{a b:List Sp},VS a->VS b->(∀x,Xw a x<->Xw b x)->a=b
 |[],[],_,_,_=>rfl
 |[],t::b,_,hb,h=>by
  have:=(h t.1).2 (by rw[Xh];exact .inl ⟨zzcx _,(dS.1 hb).1⟩);simp at this
 |s::a,[],ha,_,h=>by
  have:=(h s.1).1 (by rw[Xh];exact .inl ⟨zzcx _,(dS.1 ha).1⟩);simp at this
 |s::a,t::b,ha,hb,h=>by
  obtain⟨s1,s2,s3⟩:=dS.1 ha;obtain⟨t1,t2,t3⟩:=dS.1 hb
  have key:∀{u v:Sp}{p q:List Sp},u.1<u.2->v.1<v.2->(∀w∈q,v.2<w.1)->(∀x,Xw (u::p) x->Xw (v::q) x)->v.1<=u.1:=by
   intro u v p q h1 lR h2 h3;obtain⟨w,hw,h4,h5⟩:=h3 u.1 (by rw[Xh];exact .inl ⟨zzcx _,h1⟩);rcases zzao.1 hw with rfl|hw
   ·exact h4
   have:=h2 w hw;omega
  have e1:s.1=t.1:=Int.le_antisymm (key t1 s1 s2 fun x hx=>(h x).2 hx) (key s1 t1 t2 fun x hx=>(h x).1 hx)
  have YB:∀{u v:Sp}{p q:List Sp},u.1<u.2->u.1=v.1->(∀w∈p,u.2<w.1)->(∀x,Xw (v::q) x->Xw (u::p) x)->¬u.2<v.2:=by
   intro u v p q h1 h2 h3 h4 h5;obtain⟨w,hw,h6,h7⟩:=h4 u.2 (by rw[Xh];exact .inl ⟨zE,h5⟩);rcases zzao.1 hw with rfl|hw
   ·omega
   have:=h3 w hw;omega
  have e2:s.2=t.2:=by
   have k1:=YB s1 e1 s2 fun x hx=>(h x).2 hx;have k2:=YB t1 e1.symm t2 fun x hx=>(h x).1 hx;omega
  have e:s=t:=Prod.ext e1 e2;subst e;congr 1;refine BG s3 t3 fun x=>?_
  have out:∀{p:List Sp},(∀w∈p,s.2<w.1)->Xw p x->¬(s.1<=x/\x<s.2):=by
   rintro p hp ⟨w,hw,h1,_⟩ ⟨_,h2⟩;have:=hp w hw;omega
  have hx:=h x;rw[Xh,Xh]at hx;constructor
  ·intro h1;exact(hx.1 (.inr h1)).resolve_left (out s2 h1)
  intro h1;exact(hx.2 (.inr h1)).resolve_left (out t2 h1)
def QO(out:List Sp)(v:Sp):List Sp:=match out.getLast? with
 |none=>[v]
 |some u=>if v.1<=u.2 then out.dropLast++[(u.1,max u.2 v.2)]else out++[v]
def F2:List Sp->List Sp->List Sp
 |out,[]=>out
 |out,v::r=>F2 (QO out v) r
def anH{out:List Sp}{v:Sp}(ho:VS out)(hv:v.1<v.2)(hl:∀u∈out,u.1<=v.1):
  VS (QO out v)/\(∀x,Xw (QO out v) x<->Xw (out++[v]) x)/\∀u∈QO out v,u.1<=v.1:=by
 unfold QO;cases h:out.getLast? with
 |none=>
  have:out=[]:=List.getLast?_eq_none_iff.1 h;subst this;exact⟨dS.2 ⟨hv,zd,yp⟩,zd,zd⟩
 |some u=>
  obtain⟨p,rfl⟩:∃p,out=p++[u]:=zzfe.1 h;obtain⟨h1,h2,h3⟩:=DN.1 ho;have hu:=hl u zd;by_cases hc:v.1<=u.2
  ·simp only[if_pos hc,zzfu];refine⟨DN.2 ⟨h1,?_,h3⟩,fun x=>?_,?_⟩
   ·show u.1<max u.2 v.2;omega
   ·simp only[Yn,Xh,Ub,or_false];constructor
    ·rintro(h|h)
     ·exact .inl (.inl h)
     by_cases hx:x<u.2
     ·exact .inl (.inr ⟨h.1,hx⟩)
     exact .inr ⟨zE,zE⟩
    rintro((h|h)|h)
    ·exact .inl h
    ·exact .inr ⟨h.1,zE⟩
    exact .inr ⟨zE,zE⟩
   intro w hw;rcases zzat.1 hw with hw|hw
   ·exact hl w (by simp[hw])
   simp at hw;subst hw;exact hu
  simp only[if_neg hc];refine⟨DN.2 ⟨ho,hv,fun t ht=>?_⟩,fun x=>by simp only[],?_⟩
  ·rcases zzat.1 ht with ht|ht
   ·have:=h3 t ht;omega
   simp at ht;subst ht;omega
  intro w hw;rcases zzat.1 hw with hw|hw
  ·exact hl w hw
  simp at hw;subst hw;exact zzcx _
def aau:∀{r out:List Sp},VS out->(∀v∈r,v.1<v.2)->r.Pairwise (fun a b=>a.1<=b.1)->(∀u∈out,∀v∈r,u.1<=v.1)->
  VS (F2 out r)/\∀x,Xw (F2 out r) x<->Xw (out++r) x
 |[],out,h,_,_,_=>⟨h,fun x=>by simp[F2]⟩
 |v::r,out,h,hn,hp,hl=>by
  obtain⟨h1,h2,h3⟩:=anH h (hn v zd) fun u hu=>hl u hu v zd;obtain⟨p1,p2⟩:=zzc.1 hp;obtain⟨h4,h5⟩:=aau (r:=r) h1 (fun w hw=>hn w (by simp[hw])) p2 fun u hu w hw=>zzho (h3 u hu) (p1 w hw);refine⟨h4,fun x=>?_⟩;rw[F2,h5,Yn,h2];simp only[Yn,Xh,Ub,or_false,or_assoc]
def mg(s:Sp):Bool:=decide (s.1<s.2)
def Xi(l:List Sp):List Sp:=F2 [] ((l.filter mg).mergeSort fun a b=>decide (a.1<=b.1))
def LX(l:List Sp)(x:Int):Xw (l.filter mg) x<->Xw l x:=by
 simp only[Xw,zzcq,mg,decide_eq_true_eq];constructor
 ·rintro⟨s,⟨h1,_⟩,h2⟩;exact⟨s,h1,h2⟩
 rintro⟨s,h1,h2⟩;exact⟨s,⟨h1,zE⟩,h2⟩
def nT{l d:List Sp}(hp:d.Perm (l.filter mg))(hs:d.Pairwise fun a b=>a.1<=b.1):VS (F2 [] d)/\∀x,Xw (F2 [] d) x<->Xw l x:=by
 obtain⟨h1,h2⟩:=aau (r:=d) yp (fun v hv=>by have:=hp.mem_iff.1 hv;simp[mg]at this;exact this.2) hs zd;exact⟨h1,fun x=>by rw[h2,zzah,R9 hp,LX]⟩
def Yh(l:List Sp):VS (Xi l)/\∀x,Xw (Xi l) x<->Xw l x:=by
 refine nT (zzgb _ _) ?_;have:=zzgu (le:=fun a b:Sp=>decide (a.1<=b.1)) (fun a b c h1 h2=>by simp at*;omega) (fun a b=>by simp;omega) (l.filter mg);exact this.imp zd
def amS{l d:List Sp}(hp:d.Perm (l.filter mg))(hs:d.Pairwise fun a b=>a.1<=b.1):F2 [] d=Xi l:=
 BG (nT hp hs).1 (Yh l).1 fun x=>by rw[(nT hp hs).2,(Yh l).2]
def anI{P:Int->Prop}{out:List Sp}{v:Sp}(ho:∀u∈out,P u.1/\P u.2)(hv:P v.1/\P v.2):∀u∈QO out v,P u.1/\P u.2:=by
 unfold QO;cases h:out.getLast? with
 |none=>intro u hu;simp at hu;subst hu;exact hv
 |some w=>
  obtain⟨p,rfl⟩:∃p,out=p++[w]:=zzfe.1 h;have hw:=ho w zd;by_cases hc:v.1<=w.2
  ·simp only[if_pos hc,zzfu];intro u hu;rcases zzat.1 hu with hu|hu
   ·exact ho u (by simp[hu])
   simp at hu;subst hu;refine⟨hw.1,?_⟩;show P (max w.2 v.2);rcases Int.le_total w.2 v.2 with h|h
   ·rw[Int.max_eq_right h];exact hv.2
   rw[Int.max_eq_left h];exact hw.2
  simp only[if_neg hc];intro u hu;rcases zzat.1 hu with hu|hu
  ·exact ho u hu
  simp at hu;subst hu;exact hv
def aav{P:Int->Prop}:∀{r out:List Sp},(∀u∈out,P u.1/\P u.2)->(∀u∈r,P u.1/\P u.2)->∀u∈F2 out r,P u.1/\P u.2
 |[],_,h,_=>h
 |v::r,out,h,hr=>aav (r:=r) (anI h (hr v zd)) fun u hu=>hr u (by simp[hu])
def YO{P:Int->Prop}{l:List Sp}(h:∀u∈l,P u.1/\P u.2):∀u∈Xi l,P u.1/\P u.2:=
 aav zd fun u hu=>h u (by
  have:=(zzgb (l.filter mg) fun a b=>decide (a.1<=b.1)).mem_iff.1 hu;exact(zzcq.1 this).1)
def LY(out:List Sp)(v:Sp):(QO out v).length<=out.length+1:=by
 unfold QO;cases h:out.getLast? with
 |none=>simp
 |some w=>
  have:out≠[]:=by rintro rfl;simp at h
  have:=zzdi.2 this;dsimp only;split<;>simp<;>omega
def yq:∀(r out:List Sp),(F2 out r).length<=out.length+r.length
 |[],out=>by simp[F2]
 |v::r,out=>by
  have h1:=yq r (QO out v);have h2:=LY out v;rw[F2];simp;omega
def Yu(l:List Sp):(Xi l).length<=l.length:=by
 have h1:=yq ((l.filter mg).mergeSort fun a b=>decide (a.1<=b.1)) [];have h2:=zzci mg l;rw[zzeu]at h1;simp at h1;unfold Xi;omega
def tN:Nat->List Sp->List Sp->List Sp
 |0,_,_=>[]
 |_,[],_=>[]
 |_,_,[]=>[]
 |n+1,s::a,t::b=>
  (if max s.1 t.1<min s.2 t.2 then[(max s.1 t.1,min s.2 t.2)]else[])++(if s.2<t.2 then tN n a (t::b)else tN n (s::a) b)
def LZ:∀(n:Nat){a b:List Sp},a.length+b.length<=n->VS a->VS b->VS (tN n a b)/\(∀x,Xw (tN n a b) x<->Xw a x/\Xw b x)/\
  ∀u∈tN n a b,(∃s∈a,s.1<=u.1)/\∃t∈b,t.1<=u.1
 |0,a,b,h,_,_=>by
  have h1:a=[]:=zzbl.1 zE;subst h1;exact⟨yp,fun x=>by simp[tN],by simp[tN]⟩
 |n+1,[],b,h,_,_=>⟨by simpa[tN]using yp,fun x=>by simp[tN],by simp[tN]⟩
 |n+1,s::a,[],h,_,_=>⟨by simpa[tN]using yp,fun x=>by simp[tN],by simp[tN]⟩
 |n+1,s::a,t::b,h,ha,hb=>by
  obtain⟨s1,s2,s3⟩:=dS.1 ha;obtain⟨t1,t2,t3⟩:=dS.1 hb;simp only[zzba]at h
  have mem:∀{p:List Sp}{u:Sp}{x:Int},(∀w∈p,u.2<w.1)->x<=u.2->¬Xw p x:=by
   rintro p u x hp hx ⟨w,hw,h1,_⟩;have:=hp w hw;omega
  rw[tN];by_cases hc:s.2<t.2
  ·rw[if_pos hc];obtain⟨h1,h2,h3⟩:=LZ n (a:=a) (b:=t::b) (by simp;omega) s3 hb
   have hx:∀x,Xw (if max s.1 t.1<min s.2 t.2 then[(max s.1 t.1,min s.2 t.2)]else[]) x<->(s.1<=x/\x<s.2)/\Xw (t::b) x:=by
    intro x;rw[Xh];by_cases hi:max s.1 t.1<min s.2 t.2
    ·rw[if_pos hi];simp only[Xh,Ub,or_false];constructor
     ·rintro⟨h1,h2⟩;exact⟨⟨zE,zE⟩,.inl ⟨zE,zE⟩⟩
     rintro⟨h1,h2|h2⟩
     ·exact⟨zE,zE⟩
     exact absurd h2 (mem (u:=t) t2 zE)
    rw[if_neg hi];simp only[Ub,false_iff];rintro⟨h1,h2|h2⟩
    ·omega
    exact absurd h2 (mem (u:=t) t2 zE)
   refine⟨?_,fun x=>?_,?_⟩
   ·by_cases hi:max s.1 t.1<min s.2 t.2
    ·rw[if_pos hi,zzew];refine dS.2 ⟨hi,fun u hu=>?_,h1⟩;obtain⟨⟨w,hw,hwu⟩,_⟩:=h3 u hu;have:=s2 w hw;show min s.2 t.2<u.1;omega
    rw[if_neg hi];exact h1
   ·rw[Yn,hx,h2,Xh s];constructor
    ·rintro(⟨h1,h2⟩|⟨h1,h2⟩)
     ·exact⟨.inl h1,h2⟩
     exact⟨.inr h1,h2⟩
    rintro⟨h1|h1,h2⟩
    ·exact .inl ⟨h1,h2⟩
    exact .inr ⟨h1,h2⟩
   intro u hu;rcases zzat.1 hu with hu|hu
   ·split at hu
    ·simp at hu;subst hu;exact⟨⟨s,zd,by show s.1<=max s.1 t.1;omega⟩,⟨t,zd,by show t.1<=max s.1 t.1;omega⟩⟩
    cases hu
   obtain⟨⟨w,hw,hwu⟩,cU⟩:=h3 u hu;exact⟨⟨w,by simp[hw],hwu⟩,cU⟩
  rw[if_neg hc];obtain⟨h1,h2,h3⟩:=LZ n (a:=s::a) (b:=b) (by simp;omega) ha t3
  have hx:∀x,Xw (if max s.1 t.1<min s.2 t.2 then[(max s.1 t.1,min s.2 t.2)]else[]) x<->Xw (s::a) x/\(t.1<=x/\x<t.2):=by
   intro x;rw[Xh];by_cases hi:max s.1 t.1<min s.2 t.2
   ·rw[if_pos hi];simp only[Xh,Ub,or_false];constructor
    ·rintro⟨h1,h2⟩;exact⟨.inl ⟨zE,zE⟩,⟨zE,zE⟩⟩
    rintro⟨h2|h2,h1⟩
    ·exact⟨zE,zE⟩
    exact absurd h2 (mem (u:=s) s2 zE)
   rw[if_neg hi];simp only[Ub,false_iff];rintro⟨h2|h2,h1⟩
   ·omega
   exact absurd h2 (mem (u:=s) s2 zE)
  refine⟨?_,fun x=>?_,?_⟩
  ·by_cases hi:max s.1 t.1<min s.2 t.2
   ·rw[if_pos hi,zzew];refine dS.2 ⟨hi,fun u hu=>?_,h1⟩;obtain⟨_,⟨w,hw,hwu⟩⟩:=h3 u hu;have:=t2 w hw;show min s.2 t.2<u.1;omega
   rw[if_neg hi];exact h1
  ·rw[Yn,hx,h2,Xh t];constructor
   ·rintro(⟨h1,h2⟩|⟨h1,h2⟩)
    ·exact⟨h1,.inl h2⟩
    exact⟨h1,.inr h2⟩
   rintro⟨h1,h2|h2⟩
   ·exact .inl ⟨h1,h2⟩
   exact .inr ⟨h1,h2⟩
  intro u hu;rcases zzat.1 hu with hu|hu
  ·split at hu
   ·simp at hu;subst hu;exact⟨⟨s,zd,by show s.1<=max s.1 t.1;omega⟩,⟨t,zd,by show t.1<=max s.1 t.1;omega⟩⟩
   cases hu
  obtain⟨ha',⟨w,hw,hwu⟩⟩:=h3 u hu;exact⟨ha',⟨w,by simp[hw],hwu⟩⟩
def zq(a b:List Sp):List Sp:=tN ((Xi a).length+(Xi b).length) (Xi a) (Xi b)
def kR(a b:List Sp):VS (zq a b)/\∀x,Xw (zq a b) x<->Xw a x/\Xw b x:=by
 obtain⟨h1,h2,_⟩:=LZ _ (zzaa _) (Yh a).1 (Yh b).1;exact⟨h1,fun x=>by rw[zq,h2,(Yh a).2,(Yh b).2]⟩
def jr(f t:Int):List Sp:=if f<t then[(f,t)]else[]
def pK:Int->Int->List Sp->List Sp×List Sp
 |f,t,[]=>(jr f t,[])
 |f,t,h::r=>if h.1<t then(if t<=max f h.2 then(jr f h.1,h::r)else(jr f h.1++(pK (max f h.2) t r).1,(pK (max f h.2) t r).2))else(jr f t,h::r)
def wK:List Sp->List Sp->List Sp
 |[],_=>[]
 |s::a,hs=>(pK s.1 s.2 hs).1++wK a (pK s.1 s.2 hs).2
def KP(a b:List Sp):List Sp:=wK (Xi a) (Xi b)
end Go.Proofs.YtfliagpjbbkijaaGreatDoor
namespace Go.Proofs.YtfliagpjbbkijaaGreatDoor
open Go Go.Abs
def em(s:Sp):Bool:=decide (s.2<=s.1)
def HK(s:Sp):mg s=!em s:=by simp[mg,em,<- decide_not,Int.not_le]
def nH(s:Sp):Pure Tryz.prog aD 223 [.agg [I s.1,I s.2]] (.bool (em s)):=by
 refine Qm adw (fun _ _ _=>.junk) zd ?_;simp[aib,aic,em]
def BH:X1:=fun _ _ l=>match l with
 |[.agg [.int _ a,.int _ b]]=>.bool (decide (b<=a))
 |_=>.junk
def pJ:List Sp->Nat->Int
 |[],_=> -1
 |s::r,i=>if em s=true then i else pJ r (i+1)
def HL:∀{l:List Sp}{i:Nat},pJ l i= -1->l.filter mg=l
 |[],_,_=>rfl
 |s::r,i,h=>by
  simp only[pJ]at h;split at h
  ·omega
  rename_i hn;have qs:mg s=true:=by rw[HK];simpa using hn
  simp[zzeg,qs,HL h]
def HM:∀{l:List Sp}{i:Nat},pJ l i≠ -1->∃k:Nat,pJ l i=((i+k:Nat):Int)/\k<l.length/\(l.take (k+1)).filter mg=l.take k
 |[],_,h=>absurd rfl h
 |s::r,i,h=>by
  simp only[pJ]at h |-
  split
  ·rename_i hs;have qs:mg s=false:=by rw[HK,hs];rfl
   exact⟨0,rfl,zd,by simp[zzeg,qs]⟩
  rename_i hs;have qs:mg s=true:=by rw[HK];simpa using hs
  rw[if_neg hs]at h;obtain⟨k,h1,h2,h3⟩:=HM h;exact⟨k+1,by rw[h1];congr 1;omega,Nm h2,by simp[zzeg,qs,h3]⟩
def pI(l:List Sp)(hl:l.length<=1000000000):Pure Tryz.prog aD 258 [.sl .ro (l.map Qe),.fn 223 [] []] (I (pJ l 0)):=by
 refine Qm adW BH zd ?_;simp[aiC,aiD];refine Qk Cr (fun s m=>∃i:Nat,s 8=I i/\i<=l.length/\pJ (l.drop i) i=pJ l 0/\m=⟨[],[],fun _=>.gone,0⟩) (fun s m=>l.length-(numOf (s 8)).toNat) ?_ ?_
 ·exact⟨0,zd,zE,zd,rfl⟩
 rintro f m ⟨i,h8,hi,hr,rfl⟩;rcases zzab i l.length with ah|bu
 ·obtain⟨s,hs⟩:=aX ah;have ai:=Ze hs
  have fD:l.drop i=s::l.drop (i+1):=by
   rw[zzae ah,(zza.1 hs).2]
  have hw:=bO i zE;have aa:(i:Int)<(l.length:Int):=zE
  have hp:=nH s;rw[fD]at hr;simp only[pJ]at hr;by_cases he:s.2<=s.1
  ·have Dy:em s=true:=by simp[em,he]
   rw[Dy]at hp;rw[if_pos Dy]at hr;simp[h8,ah,aa,ai,Cr,BH,he,<- hr];exact hp
  have Dy:em s=false:=by simp[em];omega
  rw[Dy]at hp;rw[Dy]at hr;simp only[zzbo,if_false]at hr;simp[h8,ah,aa,ai,Cr,BH,he,hw];refine⟨hp,aP,⟨i+1,zd,zE,hr⟩,zE⟩
 have bT:¬(i:Int)<(l.length:Int):=zE
 rw[zzaj bu]at hr;simp only[pJ]at hr;simp[h8,bT,zzbj.2 bu,Cr,<- hr]
def nA(k:Int):X1:=fun _ f l=>if f=258 then I k else BH 0 0 l
def KM(Y:YT)(l:List Sp)(hl:l.length<=1000000000)(B:X2)(L:P2)(st:Nat->LS)(n id:Nat)(aL:id<B.length)(aK:l≠[])(hB:Qf B id=cL l)(K:UV)
  (hK:∀(B':X2)(z:List Sp),bE (·=id) B B'->Qf B' id=cL (l.filter mg++z)->(l.filter mg).length+z.length=l.length->K (.bs id 0 (l.filter mg).length 2) ⟨B',L,st,n⟩):
  aF Tryz.prog aD Y 243 [.bs id 0 l.length 2,.fn 223 [] []] ⟨B,L,st,n⟩ K:=by
 have Lu:=pI l hl;have nr:=Vn ⟨B,L,st,n⟩ 4 (C8 l);have kL:=Qef l;have aH:=Vw l;refine Xn Nl (nA (pJ l 0)) zd ?_;by_cases hk:pJ l 0= -1
 ·have hf:=HL hk;rw[hk]at Lu;have:=hK B [] (bE.refl _ _) (by rw[hf];simpa using hB) (by rw[hf];simp);rw[hf]at this;simp[EM,Nk,nA,hk,hB,nr,kL,aH];exact⟨Lu,this⟩
 obtain⟨k,cZ,dM,tO⟩:=HM hk;rw[zzbn]at cZ;have Ip:¬(k:Int)= -1:=zE
 have WY:=bO k zE;rw[cZ]at Lu;simp[EM,Nk,nA,cZ,Ip,hB,nr,kL,aH,WY];refine⟨Lu,?_⟩
 refine Qk Co (fun f m=>∃(i j:Nat)(B':X2)(L':List Sp),f 5=I i/\f 6=I j/\i<j/\j<=l.length/\m=⟨B',L,st,n⟩/\bE (·=id) B B'/\Qf B' id=cL L'/\L'.length=l.length/\L'.take i=(l.take j).filter mg/\L'.drop j=l.drop j)
  (fun f m=>l.length-(numOf (f 6)).toNat) ?_ ?_
 ·exact⟨k,k+1,B,l,zd,zd,zE,zE,rfl,bE.refl _ _,hB,rfl,tO.symm,rfl⟩
 rintro f m ⟨i,j,B',L',h5,h6,fP,hj,rfl,nh,yO,tM,ht,hd⟩;have dc:id<B'.length:=zzan aL nh.1;have jo:=Vw L';rcases zzab j l.length with ah|bu
 ·obtain⟨s,hs⟩:=aX ah
  have dR:L'[j]?=some s:=by
   have:=congrArg (fun x=>x[0]?) hd;simpa[hs]using this
  have hg:=uv dR;have eZ:(j:Int)<(l.length:Int):=zE
  have aa:(i:Int)<(l.length:Int):=zE
  have wq:i<l.length:=zE
  have uw:=bO j zE;have rj:=bO i zE;have hp:=nH s;have bQ:=OR L' i s zE;simp only[setA]at bQ;have fk:∀x,Qf (B'++x) id=cL L':=fun x=>by rw[Qi dc,yO]
  have rf:∀x v,(B'++x).set id v=B'.set id v++x:=fun x v=>Yb v dc
  have bD:(l.take (j+1)).filter mg=(l.take j).filter mg++[s].filter mg:=by
   rw[zzap,hs,zzdd];rfl
  have hdj:L'.drop (j+1)=l.drop (j+1):=by
   have:=congrArg (List.drop 1) hd;simpa[zzdw,zzer]using this
  by_cases he:s.2<=s.1
  ·have Dy:em s=true:=by simp[em,he]
   have qs:mg s=false:=by rw[HK,Dy];rfl
   rw[Dy]at hp;simp[h5,h6,eZ,ah,aa,yO,fk,rf,hg,Co,nA,BH,he,uw,rj];refine⟨hp,aP,⟨i,rfl,j+1,zd,zE,zE,nh.app _,?_⟩,zE⟩
   ·refine⟨L',rfl,tM,?_,hdj⟩;rw[bD,ht];simp[qs]
  have Dy:em s=false:=by simp[em];omega
  have qs:mg s=true:=by rw[HK,Dy];rfl
  rw[Dy]at hp;simp[h5,h6,eZ,ah,aa,wq,yO,fk,rf,hg,Co,nA,BH,he,uw,rj,bQ,jo,tM];refine⟨hp,zE,aP,⟨i+1,zd,j+1,zd,zE,zE,(nh.set (.inl rfl) _).app _,?_⟩,zE⟩
  ·refine⟨L'.set i s,by rw[Qi (Nm dc),Xj _ dc],Nm tM,?_,?_⟩
   ·rw[bD,<- ht,zzap,zzbg zE,zzfz zE];simp[qs]
   rw[zzg zE];exact hdj
 obtain rfl:j=l.length:=zE
 rw[zzbp]at ht;have gG:(l.filter mg).length=i:=by rw[<- ht,zzav];omega
 have N4:¬((l.length:Nat):Int)<(l.length:Int):=zE
 have bT:(i:Int)<=(l.length:Int):=zE
 have aa:(i:Int)<(l.length:Int):=zE
 have wq:i<l.length:=fP
 have dW:cL L'≠[]:=by
  intro h;have:=congrArg List.length h;rw[jo,tM]at this;simp at this;omega
 have oJ:setA (cL L') (i*2) (bH (l.length-i) [I 0,I 0])=cL (l.filter mg++List.replicate (l.length-i) (0,0)):=by
  have e1:L'=L'.take i++L'.drop i:=zd
  conv=>lhs;rw[e1]
  rw[Qbz,Qbz,<- ht,Sa];have e2:(cL (L'.take i)).length=i*2:=by rw[Vw,zzav];congr 1;omega
  rw[<- e2];exact pn _ _ _ (by rw[Vw,Vw];simp;omega)
 simp[h5,h6,N4,yO,aa,wq,bT,Co,dc,dW,jo,tM,oJ];refine⟨zE,?_⟩;have:=hK (B'.set id (cL (l.filter mg++List.replicate (l.length-i) (0,0)))) (List.replicate (l.length-i) (0,0)) (nh.set (.inl rfl) _) (Xj _ dc) (by simp;omega);rw[gG]at this;exact this
open Go.Shelf Go.RowKit Go.Lib Go.Sort
def L3:Go.Shelf.Ren:=⟨fun|6=>244|15=>172|14=>259|28=>209|29=>210|20=>272|21=>273|22=>274|23=>275|24=>276|25=>277|26=>278|27=>279|46=>282|47=>234|48=>235|49=>283|50=>284|57=>285|n=>n,fun|22=>330|24=>314|25=>334|3=>3|39=>207|0=>0|53=>298|55=>130|4=>4|46=>292|45=>291|50=>236|5=>5|9=>9|66=>322|70=>83|76=>346|77=>347|n=>n,fun|n=>n⟩
def aaw:Go.Proofs.SlLaysF0.n6 Tryz.prog L3:={
 mixed:=by kernel_rfl,
 f6:=⟨Tryz.f244.name,by decide,Tryz.func244.trans (congrArg some (by kernel_rfl))⟩,
 f14:=⟨Tryz.f259.name,by decide,Tryz.func259.trans (congrArg some (by kernel_rfl))⟩,
 f15:=Tryz.func172.trans (congrArg some (by kernel_rfl)),
 f20:=⟨Tryz.f272.name,by decide,Tryz.func272.trans (congrArg some (by kernel_rfl))⟩,
 f21:=⟨Tryz.f273.name,by decide,Tryz.func273.trans (congrArg some (by kernel_rfl))⟩,
 f22:=⟨Tryz.f274.name,by decide,Tryz.func274.trans (congrArg some (by kernel_rfl))⟩,
 f23:=⟨Tryz.f275.name,by decide,Tryz.func275.trans (congrArg some (by kernel_rfl))⟩,
 f24:=⟨Tryz.f276.name,by decide,Tryz.func276.trans (congrArg some (by kernel_rfl))⟩,
 f25:=⟨Tryz.f277.name,by decide,Tryz.func277.trans (congrArg some (by kernel_rfl))⟩,
 f26:=⟨Tryz.f278.name,by decide,Tryz.func278.trans (congrArg some (by kernel_rfl))⟩,
 f27:=⟨Tryz.f279.name,by decide,Tryz.func279.trans (congrArg some (by kernel_rfl))⟩,
 f28:=Tryz.func209.trans (congrArg some (by kernel_rfl)),
 f29:=Tryz.func210.trans (congrArg some (by kernel_rfl)),
 f46:=⟨Tryz.f282.name,by decide,Tryz.func282.trans (congrArg some (by kernel_rfl))⟩,
 f47:=Tryz.func234.trans (congrArg some (by kernel_rfl)),
 f48:=Tryz.func235.trans (congrArg some (by kernel_rfl)),
 f49:=⟨Tryz.f283.name,by decide,Tryz.func283.trans (congrArg some (by kernel_rfl))⟩,
 f50:=⟨Tryz.f284.name,by decide,Tryz.func284.trans (congrArg some (by kernel_rfl))⟩,
 f57:=⟨Tryz.f285.name,by decide,Tryz.func285.trans (congrArg some (by kernel_rfl))⟩,
 t0:=Tryz.underlying0,
 a0:=Tryz.isAgg0,
 z0:=Tryz.sizeOf0,
 v0:=Tryz.zeroValue0,
 t3:=Tryz.underlying3,
 a3:=Tryz.isAgg3,
 z3:=Tryz.sizeOf3,
 v3:=Tryz.zeroValue3,
 t4:=Tryz.underlying4,
 a4:=Tryz.isAgg4,
 z4:=Tryz.sizeOf4,
 v4:=Tryz.zeroValue4,
 t5:=Tryz.underlying5,
 a5:=Tryz.isAgg5,
 z5:=Tryz.sizeOf5,
 v5:=Tryz.zeroValue5,
 t9:=Tryz.underlying9,
 a9:=Tryz.isAgg9,
 z9:=Tryz.sizeOf9,
 v9:=Tryz.zeroValue9,
 t22:=Tryz.underlying330,
 a22:=Tryz.isAgg330,
 z22:=Tryz.sizeOf330,
 v22:=Tryz.zeroValue330,
 t25:=Tryz.underlying334,
 a25:=Tryz.isAgg334,
 z25:=Tryz.sizeOf334,
 v25:=Tryz.zeroValue334,
 t39:=Tryz.underlying207,
 a39:=Tryz.isAgg207,
 z39:=Tryz.sizeOf207,
 v39:=Tryz.zeroValue207,
 t45:=Tryz.underlying291,
 a45:=Tryz.isAgg291,
 z45:=Tryz.sizeOf291,
 v45:=Tryz.zeroValue291,
 t46:=Tryz.underlying292,
 a46:=Tryz.isAgg292,
 z46:=Tryz.sizeOf292,
 v46:=Tryz.zeroValue292,
 t50:=Tryz.underlying236,
 a50:=Tryz.isAgg236,
 z50:=Tryz.sizeOf236,
 v50:=Tryz.zeroValue236,
 t53:=Tryz.underlying298,
 a53:=Tryz.isAgg298,
 z53:=Tryz.sizeOf298,
 v53:=Tryz.zeroValue298,
 t55:=Tryz.underlying130,
 a55:=Tryz.isAgg130,
 z55:=Tryz.sizeOf130,
 v55:=Tryz.zeroValue130,
 t66:=Tryz.underlying322,
 a66:=Tryz.isAgg322,
 z66:=Tryz.sizeOf322,
 v66:=Tryz.zeroValue322,
 t70:=Tryz.underlying83,
 a70:=Tryz.isAgg83,
 z70:=Tryz.sizeOf83,
 v70:=Tryz.zeroValue83,
 t76:=Tryz.underlying346,
 a76:=Tryz.isAgg346,
 z76:=Tryz.sizeOf346,
 v76:=Tryz.zeroValue346,
 t77:=Tryz.underlying347,
 a77:=Tryz.isAgg347,
 z77:=Tryz.sizeOf347,
 v77:=Tryz.zeroValue347}
def HN:Go.Shelf.Ren:=⟨fun|5=>113|8=>172|7=>171|19=>209|20=>210|10=>200|11=>201|12=>202|13=>203|14=>204|15=>205|16=>206|17=>207|18=>208|30=>233|31=>234|32=>235|33=>236|34=>237|35=>238|40=>255|n=>n,fun|23=>57|25=>3|3=>3|32=>207|22=>57|0=>0|44=>298|46=>130|4=>4|36=>292|35=>291|41=>236|5=>5|9=>9|53=>322|57=>83|63=>346|64=>347|n=>n,fun|n=>n⟩
def sortInt:Go.Proofs.SlLaysM.n5 Tryz.prog HN:={
 mixed:=by kernel_rfl,
 f5:=⟨Tryz.f113.name,by decide,Tryz.func113.trans (congrArg some (by kernel_rfl))⟩,
 f7:=⟨Tryz.f171.name,by decide,Tryz.func171.trans (congrArg some (by kernel_rfl))⟩,
 f8:=Tryz.func172.trans (congrArg some (by kernel_rfl)),
 f10:=⟨Tryz.f200.name,by decide,Tryz.func200.trans (congrArg some (by kernel_rfl))⟩,
 f11:=⟨Tryz.f201.name,by decide,Tryz.func201.trans (congrArg some (by kernel_rfl))⟩,
 f12:=⟨Tryz.f202.name,by decide,Tryz.func202.trans (congrArg some (by kernel_rfl))⟩,
 f13:=⟨Tryz.f203.name,by decide,Tryz.func203.trans (congrArg some (by kernel_rfl))⟩,
 f14:=⟨Tryz.f204.name,by decide,Tryz.func204.trans (congrArg some (by kernel_rfl))⟩,
 f15:=⟨Tryz.f205.name,by decide,Tryz.func205.trans (congrArg some (by kernel_rfl))⟩,
 f16:=⟨Tryz.f206.name,by decide,Tryz.func206.trans (congrArg some (by kernel_rfl))⟩,
 f17:=⟨Tryz.f207.name,by decide,Tryz.func207.trans (congrArg some (by kernel_rfl))⟩,
 f18:=⟨Tryz.f208.name,by decide,Tryz.func208.trans (congrArg some (by kernel_rfl))⟩,
 f19:=Tryz.func209.trans (congrArg some (by kernel_rfl)),
 f20:=Tryz.func210.trans (congrArg some (by kernel_rfl)),
 f30:=⟨Tryz.f233.name,by decide,Tryz.func233.trans (congrArg some (by kernel_rfl))⟩,
 f31:=Tryz.func234.trans (congrArg some (by kernel_rfl)),
 f32:=Tryz.func235.trans (congrArg some (by kernel_rfl)),
 f33:=⟨Tryz.f236.name,by decide,Tryz.func236.trans (congrArg some (by kernel_rfl))⟩,
 f34:=⟨Tryz.f237.name,by decide,Tryz.func237.trans (congrArg some (by kernel_rfl))⟩,
 f35:=⟨Tryz.f238.name,by decide,Tryz.func238.trans (congrArg some (by kernel_rfl))⟩,
 f40:=⟨Tryz.f255.name,by decide,Tryz.func255.trans (congrArg some (by kernel_rfl))⟩,
 t0:=Tryz.underlying0,
 a0:=Tryz.isAgg0,
 z0:=Tryz.sizeOf0,
 v0:=Tryz.zeroValue0,
 t3:=Tryz.underlying3,
 a3:=Tryz.isAgg3,
 z3:=Tryz.sizeOf3,
 v3:=Tryz.zeroValue3,
 t4:=Tryz.underlying4,
 a4:=Tryz.isAgg4,
 z4:=Tryz.sizeOf4,
 v4:=Tryz.zeroValue4,
 t5:=Tryz.underlying5,
 a5:=Tryz.isAgg5,
 z5:=Tryz.sizeOf5,
 v5:=Tryz.zeroValue5,
 t9:=Tryz.underlying9,
 a9:=Tryz.isAgg9,
 z9:=Tryz.sizeOf9,
 v9:=Tryz.zeroValue9,
 t22:=Tryz.underlying57,
 a22:=Tryz.isAgg57,
 z22:=Tryz.sizeOf57,
 v22:=Tryz.zeroValue57,
 t23:=Tryz.underlying57,
 a23:=Tryz.isAgg57,
 z23:=Tryz.sizeOf57,
 v23:=Tryz.zeroValue57,
 t25:=Tryz.underlying3,
 a25:=Tryz.isAgg3,
 z25:=Tryz.sizeOf3,
 v25:=Tryz.zeroValue3,
 t32:=Tryz.underlying207,
 a32:=Tryz.isAgg207,
 z32:=Tryz.sizeOf207,
 v32:=Tryz.zeroValue207,
 t35:=Tryz.underlying291,
 a35:=Tryz.isAgg291,
 z35:=Tryz.sizeOf291,
 v35:=Tryz.zeroValue291,
 t36:=Tryz.underlying292,
 a36:=Tryz.isAgg292,
 z36:=Tryz.sizeOf292,
 v36:=Tryz.zeroValue292,
 t41:=Tryz.underlying236,
 a41:=Tryz.isAgg236,
 z41:=Tryz.sizeOf236,
 v41:=Tryz.zeroValue236,
 t44:=Tryz.underlying298,
 a44:=Tryz.isAgg298,
 z44:=Tryz.sizeOf298,
 v44:=Tryz.zeroValue298,
 t46:=Tryz.underlying130,
 a46:=Tryz.isAgg130,
 z46:=Tryz.sizeOf130,
 v46:=Tryz.zeroValue130,
 t53:=Tryz.underlying322,
 a53:=Tryz.isAgg322,
 z53:=Tryz.sizeOf322,
 v53:=Tryz.zeroValue322,
 t57:=Tryz.underlying83,
 a57:=Tryz.isAgg83,
 z57:=Tryz.sizeOf83,
 v57:=Tryz.zeroValue83,
 t63:=Tryz.underlying346,
 a63:=Tryz.isAgg346,
 z63:=Tryz.sizeOf346,
 v63:=Tryz.zeroValue346,
 t64:=Tryz.underlying347,
 a64:=Tryz.isAgg347,
 z64:=Tryz.sizeOf347,
 v64:=Tryz.zeroValue347}
def L5:Go.Shelf.Ren:=⟨fun|5=>260|7=>238|n=>n,fun|22=>3|3=>3|4=>4|n=>n,fun|n=>n⟩
def anJ:Go.Proofs.SlLaysC2.n5 Tryz.prog L5:={
 mixed:=by kernel_rfl,
 f5:=⟨Tryz.f260.name,by decide,Tryz.func260.trans (congrArg some (by kernel_rfl))⟩,
 f7:=⟨Tryz.f238.name,by decide,Tryz.func238.trans (congrArg some (by kernel_rfl))⟩,
 t3:=Tryz.underlying3,
 a3:=Tryz.isAgg3,
 z3:=Tryz.sizeOf3,
 v3:=Tryz.zeroValue3,
 t4:=Tryz.underlying4,
 a4:=Tryz.isAgg4,
 z4:=Tryz.sizeOf4,
 v4:=Tryz.zeroValue4,
 t22:=Tryz.underlying3,
 a22:=Tryz.isAgg3,
 z22:=Tryz.sizeOf3,
 v22:=Tryz.zeroValue3}
def L6(x:Int×Int):PP:=[.int .i64 x.1,.int .i64 x.2]
def L7(x y:Int×Int)(W:World):Calls Tryz.prog 245 #[.agg #[.int .i64 x.1,.int .i64 x.2],.agg #[.int .i64 y.1,.int .i64 y.2]] W fun e w'=>e=.returned (.int .i64 (Lib.compareInt x.1 y.1))/\∃q os',w'=grow (W.drewN q) os':=by
 have nU:=fun W'=>AnyG.cmp_Compare_int anJ x.1 y.1 W';change∀W',Calls Tryz.prog 260 _ _ _ at nU;generalize Lib.compareInt x.1 y.1=r at nU |-
 go_enter Tryz.func245,Tryz.ntmps245
 go_wp2_with (go_at_call 260;refine(nU _).mono ?_;rintro e w' ⟨rfl,rfl⟩)
 go_ret
 exact⟨rfl,0,_,by rw[alloc_eq_grow,alloc_eq_grow,grow_grow];rfl⟩
def L8(blk off size:Nat)(w:World):CmpLays Tryz.prog 245 #[] L6 2 (fun x y=>Lib.compareInt x.1 y.1) blk off size w:=
 fun _ _ _ _ x y=>L7 x y _
def af2(x y:Int×Int):ltOf (fun x y:Int×Int=>Lib.compareInt x.1 y.1) x y=decide (x.1<y.1):=by
 unfold ltOf Lib.compareInt;by_cases h1:x.1<y.1
 ·simp[h1]
 by_cases h2:y.1<x.1<;>simp[h1,h2]
def auH:SWO (ltOf fun x y:Int×Int=>Lib.compareInt x.1 y.1) where
 irrefl x:=by rw[af2];simp
 trans x y z h1 h2:=by rw[af2]at*;simp at*;omega
 ntrans x y z h1 h2:=by rw[af2]at*;simp at*;omega
def aax{w:World}{γ:G}(x:Int×Int):ak w γ (Qe x) (L6 x):=.cons (.int _ _) (.cons (.int _ _) .nil)
def Yy{w:World}{γ:G}{a:AV}{vs:PP}(h:ak w γ [a] vs):∃v,vs=[v]/\au w γ a v:=by
 match vs,h with
 |[v],h=>exact⟨v,rfl,h.2 0 _ _ rfl rfl⟩
 |[],h=>exact absurd h.1 zd
 |_::_::_,h=>exact absurd h.1 zd
def Sb{w:World}{γ:G}(x:Int×Int){vs:PP}(h:ak w γ (Qe x) vs):vs=L6 x:=by
 match vs,h with
 |[u,v],h=>
  have h1:au w γ (I x.1) u:=h.2 0 _ _ rfl rfl;have h2:au w γ (I x.2) v:=h.2 1 _ _ rfl rfl;cases h1;cases h2;rfl
 |[],h=>exact absurd h.1 (by simp[Qe])
 |[_],h=>exact absurd h.1 (by simp[Qe])
 |_::_::_::_,h=>exact absurd h.1 (by simp[Qe])
def anK{w:World}{γ:G}{f:FuncId}{v:Value}(h:au w γ (.fn f [] []) v):v=.func (.func f) #[] #[]:=by
 cases h with
 |fn hl _ fA _=>
  rename_i fa ca _ _;have e1:fa=#[]:=zzem hl.symm;have e2:ca=#[]:=zzem fA.symm;rw[e1,e2]
def KN(Y:YT)(d:List Sp)(hd:d.length<=1000000000)(m:AM)(id:Nat)(post:P1)(hB:m.boxes[id]?=some (cL d++post))(aK:cL d++post≠[])(K:UV)
  (hK:∀d':List Sp,d'.Perm d->d'.Pairwise (fun a b=>a.1<=b.1)->K (.aS []) (m.wr id (cL d'++post))):
  aF Tryz.prog aD Y 244 [.bs id 0 d.length 2,.fn 245 [] []] m K:=by
 refine BF (α:=Int×Int) (d:=d) (more:=[.fn 245 [] []]) (sz:=2) (off:=0) Nn.bF L6 Qe (fun _=>rfl) (fun _ _ x=>aax x) (fun _ _ x _ h=>Sb x h) (fun x v hv=>by simp[L6]at hv;rcases hv with rfl|rfl<;>rfl) hB aK
  ⟨[],post,by rw[HO];rfl,rfl⟩ (d2:=fun d'=>d'.Perm d/\d'.Pairwise fun a b=>a.1<=b.1) ?_ ?_
 ·intro w b cap mv γ hmv hH hblk;obtain⟨v,rfl,hv⟩:=Yy hmv;have:=anK hv;subst this;have eg:∀args w,(callFunc 245 args).run Tryz.prog w=.ok (.enter 245 args) w:=enters_of Tryz.func245 (by kernel_rfl) rfl;have nU:=AnyQ.slices_SortFunc aaw 2 Tryz.isAgg314 Tryz.sizeOf314 L6 (fun _=>rfl) (fun x v hv=>by simp[L6]at hv;rcases hv with rfl|rfl<;>rfl) (fun x y=>Lib.compareInt x.1 y.1) auH 245 #[] b 0 cap d.toArray w eg (L8 b 0 _ w) hH hblk (by simp;omega);change Calls Tryz.prog 244 _ _ _ at nU;refine nU.mono ?_;rintro e w' ⟨rfl,d',n,os,hP,hS,rfl⟩;obtain⟨p1,_,p3⟩:=hP;have hsz:d'.size=d.length:=by simpa using p1
  refine⟨rfl,d'.toList,n,os,Nm hsz,⟨?_,?_⟩,zd⟩
  ·have e1:d'.extract 0 d.toArray.size=d':=by rw[<- p1];simp
   rw[e1]at p3;simpa using p3
  rw[zzdo];intro i j hi hj fP;have dm:i<d'.size:=by simpa using hi
  have NB:j<d'.size:=by simpa using hj
  have:=hS i j (zzbe _) fP (by simp;omega);rw[af2]at this;simp only[getElem!_pos d' i dm,getElem!_pos d' j NB,decide_eq_false_iff_not,Int.not_lt]at this;simpa using this
 rintro d' hl ⟨h1,h2⟩;rw[HO,HP _ _ _ (by rw[Vw,Vw,hl])];exact hK d' h1 h2
def F3(Y:YT)(rt:Rt)(m:AM)(K:UV)(hK:K (.aS []) m):aF Tryz.prog aD Y 244 [.sl rt [],.fn 245 [] []] m K:=by
 refine aF.jU Nn.bF fun N w0 an γ w vs hm hl hr=>?_
 match vs,hr with
 |[u,v],hr=>
  have h1:au w γ (.sl rt []) u:=hr.2 0 _ _ rfl rfl;cases h1 with
  |@sl _ _ _ a cap b off sz cv _ _ _ _ _ _ _=>
   have nU:=AnyF.slices_SortFunc_none {aaw with} a cap v w;change Calls Tryz.prog 244 _ _ _ at nU;refine nU.mono ?_;rintro e w' ⟨rfl,rfl⟩;exact⟨_,γ,_,m,rfl,(Ev.refl _ _).cR,hm,hl,yo,hK⟩
 |[],hr=>exact absurd hr.1 zd
 |[_],hr=>exact absurd hr.1 zd
 |_::_::_::_,hr=>exact absurd hr.1 zd
def encI(x:Int):PP:=[.int .i64 x]
def iS(d:Array Int):flatK encI 1 d=d.map (Value.int .i64):=by
 refine Array.ext zd fun t h1 h2=>?_;have ht:t<d.size:=by simpa using h2
 have:=get_flatK encI 1 d t (Nm ht);rw[getElem!_pos _ t h1]at this;rw[this];have e2:d[t]! =d[t]:=getElem!_pos d t ht;simp[Nat.div_one,Nat.mod_one,encI,ht]
def sI(Y:YT)(d:Pi)(hd:d.length<=1000000000)(m:AM)(id:Nat)(post:P1)(hB:m.boxes[id]?=some (aj d++post))(aK:aj d++post≠[])(K:UV)
  (hK:K (.aS []) (m.wr id (aj (d.mergeSort fun x y=>decide (x<=y))++post))):
  aF Tryz.prog aD Y 113 [.bs id 0 d.length 1] m K:=by
 have ajF:∀l:Pi,(l.map fun x=>[I x]).flatten=aj l:=by
  intro l;induction l with
  |nil=>rfl
  |cons x l ih=>simp[aj]at ih |-;exact ih
 refine BF (α:=Int) (d:=d) (more:=[]) (sz:=1) (off:=0) MT.bF encI (fun x=>[I x]) (fun _=>rfl) (fun _ _ x=>.cons (.int _ _) .nil) (fun w γ x vs h=>?_) (fun x v hv=>by simp[encI]at hv;subst hv;rfl) hB aK
  ⟨[],post,by rw[ajF];rfl,rfl⟩ (d2:=fun d'=>d'=d.mergeSort fun x y=>decide (x<=y)) ?_ ?_
 ·obtain⟨v,rfl,hv⟩:=Yy h;cases hv;rfl
 ·intro w b cap mv γ hmv hH hblk;have:mv=[]:=zzbl.1 hmv.1.symm;subst this
  have hH':Holds (Value.int .i64) w b 0 d.toArray:=by
   intro j hj;unfold HoldsK at hH;rw[iS]at hH;have:=hH j (Nm hj);have NB:j<d.length:=by simpa using hj
   simpa[NB]using this
  have nU:=AnyM.slices_Sort_int sortInt b 0 cap d w hH' hblk zE;change Calls Tryz.prog 113 _ _ _ at nU;refine nU.mono ?_;rintro e w' ⟨rfl,n,os,rfl⟩;refine⟨rfl,_,n,os,zd,rfl,?_⟩;unfold sortWorldK putRowK;rw[iS];congr 1;unfold putRow;refine mapBlock_congr _ _ _ _ fun c e fr _=>?_;unfold putCells;apply zzgf;intro k;simp only[zzhi,Array.size_map];cases c[k]? with
  |none=>rfl
  |some x=>
   simp only[zzcb];congr 1;by_cases hc:0<=k/\k<0+(d.mergeSort fun x y=>decide (x<=y)).toArray.size
   ·rw[if_pos hc,if_pos hc];have hk:k<(d.mergeSort fun x y=>decide (x<=y)).toArray.size:=zE
    have tI:k<((d.mergeSort fun x y=>decide (x<=y)).toArray.map (Value.int .i64)).size:=by simpa using hk
    simp only[zzef];rw[getElem!_pos _ k hk,getElem!_pos _ k tI];simp
   rw[if_neg hc,if_neg hc]
 rintro d' hl rfl;rw[ajF,HP _ _ _ (by simp[aj])];exact hK
def pH(Y:YT)(rt:Rt)(m:AM)(K:UV)(hK:K (.aS []) m):aF Tryz.prog aD Y 113 [.sl rt []] m K:=by
 refine aF.jU MT.bF fun N w0 an γ w vs hm hl hr=>?_;obtain⟨u,rfl,h1⟩:=Yy hr;cases h1 with
 |@sl _ _ _ a cap b off sz cv _ _ _ _ _ _ _=>
  have nU:=AnyM.slices_Sort_int_none sortInt a cap w;change Calls Tryz.prog 113 _ _ _ at nU;refine nU.mono ?_;rintro e w' ⟨rfl,rfl⟩;exact⟨_,γ,_,m,rfl,(Ev.refl _ _).cR,hm,hl,yo,hK⟩
