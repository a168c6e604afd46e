import Derived.Test.YtnopaopphmjnmaaGreatDoorMEMT
set_option linter.all false
namespace Go.Proofs.YtnopaopphmjnmaaGreatDoor
open Go Go.Abs
def yY{at_ n t:Int}(hn:1<=n)(ht:at_<=t):∀{l:List Sp},VS l->(∀x,t<=x->x<t+n->Xr l x)->∃s,Gy at_ n l=some s/\s<=t
 |[],_,h=>by
  have:=h t (zzbv _) (by omega);simp at this
 |a::r,hv,h=>by
  have ha:=hv.1 a (by simp);have hp:=zzc.1 hv.2;have hr:VS r:=⟨fun s hs=>hv.1 s (by simp[hs]),hp.2⟩;rw[Gy];by_cases c:max a.1 at_<a.2/\n<=a.2-max a.1 at_
  ·rw[if_pos c];refine⟨_,rfl,?_⟩;have h0:=h t (zzbv _) (by omega);rw[Xd]at h0;obtain h0|⟨s,hs,h1,h2⟩:=h0
   ·omega
   have:=hp.1 s hs;omega
  rw[if_neg c]
  have axX:∀x,t<=x->x<t+n->¬(a.1<=x/\x<a.2):=by
   intro x P6 hx2 hx
   have h2:¬Xr (a::r) a.2:=by
    rw[Xd];rintro(h|⟨s,hs,h1,_⟩)
    ·omega
    have:=hp.1 s hs;omega
   have h3:t+n<=a.2:=by
    rcases zzfj a.2 (t+n)with h'|h'
    ·exact absurd (h a.2 (by omega) h') h2
    exact h'
   have h4:a.1<=t:=by
    rcases zzfj t a.1 with h'|h'
    ·have h5:=h (a.1-1) (by omega) (by omega);rw[Xd]at h5;obtain h5|⟨s,hs,h6,_⟩:=h5
     ·omega
     have:=hp.1 s hs;omega
    exact h'
   exact c ⟨by omega,by omega⟩
  refine yY hn ht hr fun x h1 h2=>?_;have h3:=h x h1 h2;rw[Xd]at h3;exact h3.resolve_left (axX x h1 h2)
def yZ{p:Pl}{it k at_ n t:Int}(hn:1<=n/\n<=1000000)(ht:at_<=t)(hk:k*1000000<=t/\t+n<=(k+2)*1000000)(h:∀x,t<=x->x<t+n->gZ p it 0 x):∃s,mj (Za p it k) at_ n=some s/\s<=t:=by
 rw[mj,if_neg (by omega)];refine yY hn.1 ht (Va _).1 fun x h1 h2=>?_;rw[(Va _).2,Qcj];exact⟨by omega,by omega,h x h1 h2⟩
def agZ{p:Pl}{it k at_ n s:Int}(hn:1<=n)(h:mj (Za p it k) at_ n=some s):s+n<=(k+2)*1000000:=by
 rw[mj,if_neg (by omega)]at h;obtain⟨a,ha,h1,h2,h3⟩:=Dk h;have:Xr (Xm (Za p it k)) (s+n-1):=⟨a,ha,by omega,by omega⟩;rw[(Va _).2,Qcj]at this;omega
def BH{p:Pl}{e:En}{last from_ n t:Int}(he:1<=e.fr/\e.fr<=1000000)(h1:from_<=t)(h2:t<=last)(h3:n*1000000<=t)(h:∀x,t<=x->x<t+e.fr->gZ p e.it 0 x):∃s,Tq p e last from_ n=some s/\s<=t:=by
 rw[Tq,if_pos (by omega)];cases hs:mj (Za p e.it n) from_ e.fr with
 |none=>
  simp only;refine BH he h1 h2 ?_ h;rcases zzfj t ((n+1)*1000000)with h'|h'
  ·obtain⟨s,iM,_⟩:=yZ (p:=p) (it:=e.it) (k:=n) he h1 ⟨h3,by omega⟩ h;rw[hs]at iM;cases iM
  exact h'
 |some s=>
  simp only;have bJ:=agZ he.1 hs
  have cm:s<=t:=by
   rcases zzfj ((n+2)*1000000) (t+e.fr)with h'|h'
   ·omega
   obtain⟨s',iM,bZ⟩:=yZ (p:=p) (it:=e.it) (k:=n) he h1 ⟨h3,h'⟩ h;rw[hs]at iM;cases iM;exact bZ
  rw[if_neg (by omega)];exact⟨s,rfl,cm⟩
termination_by(last-n*1000000+1000000).toNat
decreasing_by omega
def D2{p:Pl}{e:En}{from_ t:Int}(he:1<=e.fr/\e.fr<=1000000)(h1:from_<=t)(h0:0<=t)(h2:t<=e.la/\t+e.fr<=p.ln/\t<=100000000)(h:∀x,t<=x->x<t+e.fr->gZ p e.it 0 x):∃s,Yh p e from_=some s/\s<=t:=by
 rw[Yh,if_neg (by omega)];refine BH he (by omega) (by simp only[mV];omega) ?_ h;have hm:0<=max from_ 0:=by omega
 rw[zzcm hm];omega
def LeU(us' us:List (Int×Int)):Prop:=∀k,(af k us').getD 0<=(af k us).getD 0
def LeE(en' en:List (Int×Int)):Prop:=∀k v',af k en'=some v'->∃v,af k en=some v/\v'<=v
def LeE.refl(en:List (Int×Int)):LeE en en:=fun k v h=>⟨v,h,zzbv _⟩
def LeU.note{us' us:List (Int×Int)}(h:LeU us' us)(it:Int):LeU (Vx us' it) (Vx us it):=fun k=>by
 rw[Vx,Vx,Uo,Uo];have:=h it;split
 ·simp;omega
 exact h k
def LeU.skip{us' us:List (Int×Int)}(h:LeU us' us)(it:Int):LeU us' (Vx us it):=fun k=>by
 rw[Vx,Uo];split
 ·rename_i e;have:=h it;rw[e];simp;omega
 exact h k
def LeE.note{p p':Pl}{en' en:List (Int×Int)}(h:LeE en' en)(it:Int){e' e:Int}(he:e'<=e)(h0:0<=e')(hp:Xj it p'.aM=Xj it p.aM):LeE (Zn p' en' it e') (Zn p en it e):=fun k v' hk=>by
 unfold Zn at hk |-
 rw[hp]at hk;cases hf:Xj it p.aM with
 |none=>rw[hf]at hk;exact h k v' hk
 |some x=>
  rw[hf]at hk;simp only[Uo]at hk |-
  split at hk
  ·rename_i YS;cases hk;refine⟨_,by rw[if_pos YS],?_⟩;cases h1:af x.sp en' with
   |none=>
    cases h2:af x.sp en with
    |none=>simp;omega
    |some v=>simp;omega
   |some v1=>
    obtain⟨v,hv,bZ⟩:=h _ _ h1;rw[hv];simp;omega
  rename_i YS;obtain⟨v,hv,bZ⟩:=h k v' hk;exact⟨v,by rw[if_neg YS];exact hv,bZ⟩
def LeE.skip{p:Pl}{en' en:List (Int×Int)}(h:LeE en' en)(it e:Int):LeE en' (Zn p en it e):=fun k v' hk=>by
 obtain⟨v,hv,bZ⟩:=h k v' hk;unfold Zn;cases hf:Xj it p.aM with
 |none=>exact⟨v,hv,bZ⟩
 |some x=>
  simp only[Uo];split
  ·rename_i YS;subst YS;exact⟨_,rfl,by rw[hv];simp;omega⟩
  exact⟨v,hv,bZ⟩
def y4{en' en:List (Int×Int)}(h:LeE en' en):∀(l:List Sp){f' f:Int},f'<=f->Un en' l f'<=Un en l f
 |[],_,_,hf=>hf
 |r::l,f',f,hf=>by
  rw[Un,Un];refine y4 h l ?_;cases h1:af r.1 en' with
  |none=>
   cases h2:af r.1 en with
   |none=>exact hf
   |some v=>simp only;omega
  |some v1=>
   obtain⟨v,hv,bZ⟩:=h _ _ h1;rw[hv];simp only;omega
structure ag0 (p' p:Pl):Prop where
 aM:p'.aM=p.aM
 ens:p'.ens=p.ens
 ln:p'.ln=p.ln
 runs:∀it,Wv p' it=Wv p it
 riv:∀it,Kz p' it=Kz p it
 perm:∀it x,gZ p it 0 x->gZ p' it 0 x
def ag0.refl(p:Pl):ag0 p p:=⟨rfl,rfl,rfl,fun _=>rfl,fun _=>rfl,fun _ _ h=>h⟩
inductive BI:List Sp->List Sp->Prop
 |nil (l:List Sp):BI [] l
 |skip {l' l:List Sp} (s:Sp):BI l' l->BI l' (s::l)
 |cons {l' l:List Sp} (id s' s:Int):s'<=s->BI l' l->BI ((id,s')::l') ((id,s)::l)
def SV{p' p:Pl}(hm:ag0 p' p){ag1 ids:List Int}(anZ:ag1.Sublist ids):∀{us' us en' en:List (Int×Int)}{free' free last' last:Int}{l:List Sp},LeU us' us->LeE en' en->free'<=free->last'<=last->Jp p ids us en free last=some l->
  ∃l',Jp p' ag1 us' en' free' last'=some l'/\BI l' l:=by
 induction anZ with
 |slnil=>
  intro us' us en' en free' free last' last l _ _ _ _ h;exact⟨[],rfl,.nil _⟩
 |@cons ag1 ids id _ ih=>
  intro us' us en' en free' free last' last l hu he hf hla h;rw[Jp]at h;cases hk:zT id p.ens 0 with
  |none=>rw[hk]at h;cases h
  |some k=>
   rw[hk]at h;simp only at h;split at h
   ·cases h
   rename_i qv;cases hx:p.ens[k]? with
   |none=>rw[hx]at h;cases h
   |some e=>
    rw[hx]at h;simp only at h;split at h
    ·cases h
    cases hs:Yh p e (Un en (Kz p e.it) (max e.ea free))with
    |none=>rw[hs]at h;cases h
    |some s=>
     rw[hs]at h;simp only at h;cases hg:Jp p ids (Vx us e.it) (Zn p en e.it (s+e.fr)) (s+e.fr) k with
     |none=>rw[hg]at h;cases h
     |some r=>
      rw[hg]at h;cases h;obtain⟨a1,a2,_⟩:=Qbi hs;have fK:=Gz en (Kz p e.it) (max e.ea free);obtain⟨l',h1,h2⟩:=ih (hu.skip e.it) (he.skip e.it (s+e.fr)) (free':=free') (by omega) (last':=last') (by omega) hg;exact⟨l',h1,.skip _ h2⟩
 |@cons_cons ag1 ids id _ ih=>
  intro us' us en' en free' free last' last l hu he hf hla h;rw[Jp]at h;rw[Jp,hm.ens];cases hk:zT id p.ens 0 with
  |none=>rw[hk]at h;cases h
  |some k=>
   rw[hk]at h;simp only at h |-
   split at h
   ·cases h
   rename_i qv;rw[if_neg (by omega)];cases hx:p.ens[k]? with
   |none=>rw[hx]at h;cases h
   |some e=>
    rw[hx]at h;simp only at h |-
    split at h
    ·cases h
    rename_i hr;have hue:=hu e.it;rw[hm.runs,hm.riv,if_neg (by intro hh;exact hr ⟨hh.1,by omega⟩)];cases hs:Yh p e (Un en (Kz p e.it) (max e.ea free))with
    |none=>rw[hs]at h;cases h
    |some s=>
     rw[hs]at h;simp only at h;cases hg:Jp p ids (Vx us e.it) (Zn p en e.it (s+e.fr)) (s+e.fr) k with
     |none=>rw[hg]at h;cases h
     |some r=>
      rw[hg]at h;cases h;obtain⟨a1,a2,a3,a4,a5,a6,a7⟩:=Qbi hs;have hfm:=y4 he (Kz p e.it) (show max e.ea free'<=max e.ea free by omega);obtain⟨s',iM,bZ⟩:=D2 (p:=p') (from_:=Un en' (Kz p e.it) (max e.ea free')) a1 (by omega) a3 ⟨a4,by rw[hm.ln];exact a5,a6⟩ (fun x h1 h2=>hm.perm _ _ (a7 x h1 h2));have cL:=Qbi iM;rw[iM];simp only;obtain⟨l',h1,h2⟩:=ih (hu.note e.it) (he.note e.it (e':=s'+e.fr) (e:=s+e.fr) (by omega) (by omega) (by rw[hm.aM])) (free':=s'+e.fr) (by omega) (last':=(k:Int)) (zzbv _) hg;rw[h1];exact⟨_,rfl,.cons id s' s bZ h2⟩
open Go Go.Abs
def aaM(ok:List Int->Bool):Prop:=∀a b:List Int,a.Sublist b->ok b=true->ok a=true
def Ia(b:Bd):aaM (oC b):=fun a c hs h=>by
 unfold oC at h |-
 obtain⟨l,hl⟩:=zzci.1 h;obtain⟨l',h1,_⟩:=SV (ag0.refl b.p) hs (us':=b.us) (en':=b.en) (free':=b.at_) (last':= -1) (fun _=>zzbv _) (LeE.refl _) (zzbv _) (zzbv _) hl;rw[h1];rfl
theorem PC(b:Bd):oC b []=true:=rfl
open Go Go.Abs
def Xc(w:Bool):List Int->List Bool->List Int
 |id::r,k::ks=>if(k==w)=true then id::Xc w r ks else Xc w r ks
 |_,_=>[]
def Ka(ok:List Int->Bool)(rd:Int->Nat)(ids:List Int)(r:Nat)(K:List Bool)(i:Nat):List Bool:=match ids[i]? with
 |some id=>if rd id=r then K.set i (ok (Xc true ids (K.set i true)))else K
 |none=>K
def Jh(ok:List Int->Bool)(rd:Int->Nat)(ids:List Int)(r:Nat)(K:List Bool):List Bool:=(List.range ids.length).foldl (Ka ok rd ids r) K
def Jr(ok:List Int->Bool)(rd:Int->Nat)(ids:List Int):List Bool:=Jh ok rd ids 2 (Jh ok rd ids 1 (Jh ok rd ids 0 (List.replicate ids.length false)))
def D3(K K':List Bool):Prop:=∀j,K.getD j false=true->K'.getD j false=true
def D3.refl(K:List Bool):D3 K K:=fun _ h=>h
def D3.trans{K K' K'':List Bool}(h:D3 K K')(k:D3 K' K''):D3 K K'':=fun j hj=>k j (h j hj)
def kQ(K:List Bool)(i j:Nat)(b:Bool):(K.set i b).getD j false=if i=j/\i<K.length then b else K.getD j false:=by
 simp only[zzar,zzcx];by_cases h:i=j
 ·subst h;by_cases h2:i<K.length
  ·simp[h2]
  have:K[i]?=none:=zzau (by omega);simp[h2]
 simp[h]
def D3.set{K K':List Bool}(h:D3 K K')(hl:K.length=K'.length)(i:Nat):D3 (K.set i true) (K'.set i true):=fun j hj=>by
 rw[kQ]at hj |-
 split at hj
 ·rename_i hc;rw[if_pos ⟨hc.1,by omega⟩]
 rename_i hc;rw[if_neg (by rw[<- hl];exact hc)];exact h j hj
def D3.abn(K:List Bool)(i:Nat):D3 K (K.set i true):=fun j hj=>by
 rw[kQ];split
 ·rfl
 exact hj
def BJ:∀(ids:List Int){K K':List Bool},K.length=K'.length->D3 K K'->(Xc true ids K).Sublist (Xc true ids K')
 |[],_,_,_,_=>by simp[Xc]
 |id::r,[],[],_,_=>by simp[Xc]
 |id::r,[],_::_,h,_=>by simp at h
 |id::r,_::_,[],h,_=>by simp at h
 |id::r,k::ks,k'::ks',hl,h=>by
  have ih:=BJ r (K:=ks) (K':=ks') (by simpa using hl) (fun j hj=>by simpa using h (j+1) (by simpa using hj));have h0:=h 0;simp at h0;cases k with
  |false=>
   cases k' with
   |false=>simpa[Xc]using ih
   |true=>simpa[Xc]using ih.cons id
  |true=>
   rw[h0 rfl];simpa[Xc]using ih.cons_cons id
def SX(ok:List Int->Bool)(rd:Int->Nat)(ids:List Int)(r:Nat)(K:List Bool)(i:Nat):(Ka ok rd ids r K i).length=K.length:=by
 unfold Ka;split
 ·split<;>simp
 rfl
structure ChI (ok:List Int->Bool) (rd:Int->Nat) (ids:List Int) (r i:Nat) (K:List Bool):Prop where
 len:K.length=ids.length
 kok:ok (Xc true ids K)=true
 todo:∀(j:Nat)(id:Int),ids[j]?=some id->(r<rd id\/rd id=r/\i<=j)->K.getD j false=false
 done:∀(j:Nat)(id:Int),ids[j]?=some id->(rd id<r\/rd id=r/\j<i)->K.getD j false=true\/ok (Xc true ids (K.set j true))=false
def ChI.step{ok:List Int->Bool}(hm:aaM ok){rd:Int->Nat}{ids:List Int}{r i:Nat}{K:List Bool}(h:ChI ok rd ids r i K)(hi:i<ids.length):ChI ok rd ids r (i+1) (Ka ok rd ids r K i)/\D3 K (Ka ok rd ids r K i):=by
 obtain⟨id,aN⟩:=aR hi;unfold Ka;rw[aN];simp only;by_cases hr:rd id=r
 ·rw[if_pos hr];have hf:=h.todo i id aN (.inr ⟨hr,zzab _⟩)
  have WL:K.set i false=K:=by
   apply zzee (by simp);intro n h1 h2;rw[List.getElem_set];split
   ·rename_i e;subst e;rw[zzar,zzad h2]at hf;exact hf.symm
   rfl
  cases bV:ok (Xc true ids (K.set i true))with
  |false=>
   rw[WL];refine⟨⟨h.len,h.kok,fun j x hj hc=>h.todo j x hj (by omega),fun j x hj hc=>?_⟩,D3.refl K⟩;rcases zzaa j i with ai|bu
   ·exact h.done j x hj (by omega)
   obtain hc|hc:=hc
   ·exact h.done j x hj (.inl hc)
   obtain rfl:j=i:=by omega
   exact .inr bV
  |true=>
   have bZ:=D3.abn K i;refine⟨⟨by simp[h.len],bV,fun j x hj hc=>?_,fun j x hj hc=>?_⟩,bZ⟩
   ·rw[kQ,if_neg (by rintro⟨e,_⟩;subst e;rw[aN]at hj;cases hj;omega)];exact h.todo j x hj (by omega)
   rcases Nat.decEq j i with aK|rfl
   ·have hd:=h.done j x hj (by omega);obtain hd|hd:=hd
    ·exact .inl (bZ j hd)
    right;have hs:=BJ ids (K:=K.set j true) (K':=(K.set i true).set j true) (by simp) (bZ.set (by simp) j);cases hb:ok (Xc true ids ((K.set i true).set j true))with
    |false=>rfl
    |true=>rw[hm _ _ hs hb]at hd;cases hd
   left;rw[kQ,if_pos ⟨rfl,by rw[h.len];exact hi⟩]
 rw[if_neg hr];refine⟨⟨h.len,h.kok,fun j x hj hc=>h.todo j x hj (by omega),fun j x hj hc=>h.done j x hj ?_⟩,D3.refl K⟩;obtain hc|hc:=hc
 ·exact .inl hc
 have:j≠i:=by rintro rfl;rw[aN]at hj;cases hj;exact hr hc.1
 exact .inr ⟨hc.1,by omega⟩
def ChI.round{ok:List Int->Bool}(hm:aaM ok){rd:Int->Nat}{ids:List Int}{r:Nat}{K:List Bool}(h:ChI ok rd ids r 0 K):ChI ok rd ids (r+1) 0 (Jh ok rd ids r K)/\D3 K (Jh ok rd ids r K):=by
 have key:∀n,n<=ids.length->ChI ok rd ids r n ((List.range n).foldl (Ka ok rd ids r) K)/\D3 K ((List.range n).foldl (Ka ok rd ids r) K):=by
  intro n;induction n with
  |zero=>intro _;exact⟨h,D3.refl K⟩
  |succ n ih=>
   intro hn;obtain⟨h1,h2⟩:=ih (by omega);obtain⟨g1,g2⟩:=h1.step hm (by omega);rw[zzfb,zzgi];exact⟨g1,h2.trans g2⟩
 obtain⟨h1,h2⟩:=key ids.length (zzab _);refine⟨⟨h1.len,h1.kok,fun j x hj hc=>h1.todo j x hj (by omega),fun j x hj hc=>h1.done j x hj ?_⟩,h2⟩;have:=(zza.1 hj).1;omega
def y5(ids:List Int)(n:Nat):Xc true ids (List.replicate n false)=[]:=by
 induction ids generalizing n with
 |nil=>simp[Xc]
 |cons x r ih=>
  cases n with
  |zero=>simp[Xc]
  |succ n=>rw[zzf,Xc];simpa using ih n
def tw{ok:List Int->Bool}(hm:aaM ok)(h0:ok []=true)(rd:Int->Nat)(ids:List Int)(fI:∀id∈ids,rd id<=2):
  (Jr ok rd ids).length=ids.length/\ok (Xc true ids (Jr ok rd ids))=true/\∀(j:Nat)(id:Int),ids[j]?=some id->(Jr ok rd ids).getD j false=true\/ok (Xc true ids ((Jr ok rd ids).set j true))=false:=by
 have hi:ChI ok rd ids 0 0 (List.replicate ids.length false):=⟨by simp,by rw[y5];exact h0,fun j id hj _=>by
  rw[zzar,zzcn];split<;>rfl,fun j id hj hc=>by omega⟩
 have h1:=(hi.round hm).1;have h2:=(h1.round hm).1;have h3:=(h2.round hm).1;refine⟨h3.len,h3.kok,fun j id hj=>h3.done j id hj (.inl ?_)⟩;have:=fI id (zzac hj);omega
open Go Go.Abs
open Go Go.Abs
def aun(it:Int)(bf:List (Int×Int)):Int:=((bf.filter fun a=>decide (a.1=it)).length:Nat)
structure ayx (p:Pl) (bf us en:List (Int×Int)):Prop where
 us:∀it,(af it us).getD 0<=aun it bf
 en:∀k v,af k en=some v->∃a∈bf,∃x,Xj a.1 p.aM=some x/\x.sp=k/\v<=a.2
structure ayy (p:Pl) (bf us en:List (Int×Int)):Prop where
 us:∀it,aun it bf<=(af it us).getD 0
 en:∀a∈bf,∀x,Xj a.1 p.aM=some x->∃v,af x.sp en=some v/\a.2<=v
open Go Go.Abs
def ayc(p:Pl)(c:Cl):Pl:={p with cls:=p.cls++[c]}
open Go Go.Abs
def g0(ok:List Int->Bool)(rd:Int->Nat):List Int->List Int->List Bool
 |[],_=>[]
 |id::r,Ib=>if rd id=0 then ok (Ib++[id])::g0 ok rd r (if ok (Ib++[id])=true then Ib++[id]else Ib)else false::g0 ok rd r Ib
def abo(ok:List Int->Bool)(rd:Int->Nat):∀(l Ib:List Int),(g0 ok rd l Ib).length=l.length
 |[],_=>rfl
 |id::r,Ib=>by rw[g0];split<;>simp[abo ok rd r]
def kR(w:Bool):∀(a:List Int)(K:List Bool)(b:List Int)(L:List Bool),a.length=K.length->Xc w (a++b) (K++L)=Xc w a K++Xc w b L
 |[],[],_,_,_=>rfl
 |[],_::_,_,_,h=>by simp at h
 |_::_,[],_,_,h=>by simp at h
 |x::a,k::K,b,L,h=>by
  simp only[zzae,Xc];rw[kR w a K b L (by simpa using h)];split<;>simp
def y6(ok:List Int->Bool)(rd:Int->Nat):∀(b a:List Int)(K:List Bool),a.length=K.length->((List.range' a.length b.length).foldl (Ka ok rd (a++b) 0) (K++List.replicate b.length false))=K++g0 ok rd b (Xc true a K)
 |[],a,K,h=>by simp[g0]
 |id::b,a,K,h=>by
  rw[zzba,zzgq,zzd];have aN:(a++id::b)[a.length]?=some id:=by simp
  have hK:a.length<(K++List.replicate (b.length+1) false).length:=by simp;omega
  have bU:∀x,(K++List.replicate (b.length+1) false).set a.length x=(K++[x])++List.replicate b.length false:=fun x=>by
   rw[zzct _ _ (by omega),h,zzev,zzf];simp
  have hab:a++id::b=(a++[id])++b:=by simp
  have axY:Xc true (a++id::b) ((K++[true])++List.replicate b.length false)=Xc true a K++[id]:=by
   rw[hab,kR true (a++[id]) (K++[true]) b _ (by simp[h]),kR true a K [id] [true] h,y5];simp[Xc]
  have aH:∀x:Bool,(a++[id]).length=(K++[x]).length:=fun x=>by simp[h]
  have ew:a.length+1=(a++[id]).length:=by simp
  unfold Ka;rw[aN];simp only;by_cases hr:rd id=0
  ·rw[if_pos hr,bU true,axY,bU,g0,if_pos hr];have ih:=y6 ok rd b (a++[id]) (K++[ok (Xc true a K++[id])]) (aH _);rw[<- hab,<- ew]at ih;rw[show(List.foldl (fun K i=>Ka ok rd (a++id::b) 0 K i))=List.foldl (Ka ok rd (a++id::b) 0)from rfl]at*
   refine ih.trans ?_;rw[kR true a K [id] _ h];cases hb:ok (Xc true a K++[id])<;>simp[Xc]
  rw[if_neg hr,g0,if_neg hr];have ih:=y6 ok rd b (a++[id]) (K++[false]) (aH _);rw[<- hab,<- ew]at ih;have e:K++List.replicate (b.length+1) false=(K++[false])++List.replicate b.length false:=by rw[zzf];simp
  rw[e];refine ih.trans ?_;rw[kR true a K [id] _ h];simp[Xc]
def SY(ok:List Int->Bool)(rd:Int->Nat)(ids:List Int):Jh ok rd ids 0 (List.replicate ids.length false)=g0 ok rd ids []:=by
 have:=y6 ok rd ids [] [] rfl;simp only[zzch,zzaj,Xc]at this;rw[Jh,zzfr];exact this
def lS(ok:List Int->Bool)(rd:Int->Nat):∀(ids Ib:List Int),(Xc false ids (g0 ok rd ids Ib)).filter (fun id=>decide (rd id=0))=Xc false (ids.filter fun id=>decide (rd id=0)) (g0 ok rd (ids.filter fun id=>decide (rd id=0)) Ib)
 |[],Ib=>rfl
 |id::r,Ib=>by
  by_cases h:rd id=0
  ·rw[zzdt (by simp[h]),g0,g0,if_pos h,if_pos h];cases hb:ok (Ib++[id])with
   |true=>simpa[Xc]using lS ok rd r (Ib++[id])
   |false=>
    simp only[Xc,zzbq,if_false,beq_self_eq_true,if_true];rw[zzdt (by simp[h]),lS ok rd r Ib]
  rw[zzdu (by simp[h]),g0,if_neg h];simp only[Xc,beq_self_eq_true,if_true];rw[zzdu (by simp[h]),lS ok rd r Ib]
def abp(rd:Int->Nat)(ids:List Int)(K K':List Bool):Prop:=∀(j:Nat)(id:Int),ids[j]?=some id->rd id=0->K.getD j false=K'.getD j false
def BK(rd:Int->Nat):∀(ids:List Int)(K K':List Bool),K.length=ids.length->K'.length=ids.length->abp rd ids K K'->(Xc false ids K).filter (fun id=>decide (rd id=0))=(Xc false ids K').filter (fun id=>decide (rd id=0))
 |[],K,K',_,_,_=>by simp[Xc]
 |id::r,[],_,h,_,_=>by simp at h
 |id::r,_::_,[],_,h,_=>by simp at h
 |id::r,k::K,k'::K',h1,h2,h=>by
  have ih:=BK rd r K K' (by simpa using h1) (by simpa using h2) fun j x hj hx=>by simpa using h (j+1) x (by simpa using hj) hx
  by_cases hr:rd id=0
  ·have h0:=h 0 id rfl hr;simp at h0;subst h0;simp only[Xc];split
   ·rw[zzdt (by simp[hr]),zzdt (by simp[hr]),ih]
   exact ih
  simp only[Xc]
  have e:∀(b:Bool)(l:List Int),(if(b==false)=true then id::l else l).filter (fun id=>decide (rd id=0))=l.filter fun id=>decide (rd id=0):=fun b l=>by
   split
   ·rw[zzdu (by simp[hr])]
   rfl
  rw[e,e,ih]
def tD(ok:List Int->Bool)(rd:Int->Nat)(ids:List Int)(r:Nat)(hr:r≠0)(K:List Bool):abp rd ids (Jh ok rd ids r K) K/\(Jh ok rd ids r K).length=K.length:=by
 have key:∀(L:List Nat)(K:List Bool),abp rd ids (L.foldl (Ka ok rd ids r) K) K/\(L.foldl (Ka ok rd ids r) K).length=K.length:=by
  intro L;induction L with
  |nil=>intro K;exact⟨fun _ _ _ _=>rfl,rfl⟩
  |cons i L ih=>
   intro K;obtain⟨h1,h2⟩:=ih (Ka ok rd ids r K i);refine⟨fun j id hj aN=>?_,by rw[zzd,h2,SX]⟩;rw[zzd,h1 j id hj aN];unfold Ka;cases hi:ids[i]? with
   |none=>rfl
   |some x=>
    simp only;split
    ·rename_i hx;rw[kQ,if_neg (by rintro⟨e,_⟩;subst e;rw[hi]at hj;cases hj;omega)]
    rfl
 exact key _ K
def axZ(ok:List Int->Bool)(rd:Int->Nat)(ids:List Int):(Xc false ids (Jr ok rd ids)).filter (fun id=>decide (rd id=0))=Xc false (ids.filter fun id=>decide (rd id=0)) (Jr ok rd (ids.filter fun id=>decide (rd id=0))):=by
 obtain⟨S,hS⟩:∃S,(ids.filter fun id=>decide (rd id=0))=S:=⟨_,rfl⟩;have bP:∀(L:List Int),Jr ok rd L=Jh ok rd L 2 (Jh ok rd L 1 (g0 ok rd L [])):=fun L=>by rw[Jr,SY]
 have two:∀(L:List Int),(Xc false L (Jr ok rd L)).filter (fun id=>decide (rd id=0))=(Xc false L (g0 ok rd L [])).filter (fun id=>decide (rd id=0)):=fun L=>by
  rw[bP];obtain⟨a1,a2⟩:=tD ok rd L 1 (by omega) (g0 ok rd L []);obtain⟨b1,b2⟩:=tD ok rd L 2 (by omega) (Jh ok rd L 1 (g0 ok rd L []));have hg:=abo ok rd L [];refine BK rd L _ _ (by omega) hg fun j id hj aN=>?_;rw[b1 j id hj aN,a1 j id hj aN]
 rw[two ids,lS,hS]
 have hSf:∀id∈S,rd id=0:=fun id h=>by
  rw[<- hS]at h;simpa using(zzcp.1 h).2
 have bJ:∀(L:List Int)(K:List Bool),∀x∈Xc false L K,x∈L:=by
  intro L;induction L with
  |nil=>intro K x hx;simp[Xc]at hx
  |cons y L ih=>
   intro K x hx;cases K with
   |nil=>simp[Xc]at hx
   |cons k K=>
    simp only[Xc]at hx;split at hx
    ·rcases zzaw.1 hx with rfl|hx
     ·simp
     exact zzex _ (ih K x hx)
    exact zzex _ (ih K x hx)
 have aN:∀K:List Bool,(Xc false S K).filter (fun id=>decide (rd id=0))=Xc false S K:=fun K=>zzfz.2 fun x hx=>by simp[hSf x (bJ S K x hx)]
 have:=two S;rw[aN,aN]at this;exact this.symm
end Go.Proofs.YtnopaopphmjnmaaGreatDoor
