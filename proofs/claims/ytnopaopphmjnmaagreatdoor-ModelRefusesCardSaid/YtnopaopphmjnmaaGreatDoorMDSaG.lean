import Derived.Test.YtnopaopphmjnmaaGreatDoorMDMT
set_option linter.all false
namespace Go.Proofs.YtnopaopphmjnmaaGreatDoor
open Go Go.Abs
def yI{at_ n t:Int}(hn:1<=n)(ht:at_<=t):∀{l:List Sp},VS l->(∀x,t<=x->x<t+n->Xq l x)->∃s,Gr at_ n l=some s/\s<=t
 |[],_,h=>by
  have:=h t (zzbx _) (by omega);simp at this
 |a::r,hv,h=>by
  have ha:=hv.1 a (by simp);have hp:=zzbz.1 hv.2;have hr:VS r:=⟨fun s hs=>hv.1 s (by simp[hs]),hp.2⟩;rw[Gr];by_cases c:max a.1 at_<a.2/\n<=a.2-max a.1 at_
  ·rw[if_pos c];refine⟨_,rfl,?_⟩;have h0:=h t (zzbx _) (by omega);rw[Xd]at h0;obtain h0|⟨s,hs,h1,h2⟩:=h0
   ·omega
   have:=hp.1 s hs;omega
  rw[if_neg c]
  have ay3:∀x,t<=x->x<t+n->¬(a.1<=x/\x<a.2):=by
   intro x PY hx2 hx
   have h2:¬Xq (a::r) a.2:=by
    rw[Xd];rintro(h|⟨s,hs,h1,_⟩)
    ·omega
    have:=hp.1 s hs;omega
   have h3:t+n<=a.2:=by
    rcases zzfe a.2 (t+n)with h'|h'
    ·exact absurd (h a.2 (by omega) h') h2
    exact h'
   have h4:a.1<=t:=by
    rcases zzfe t a.1 with h'|h'
    ·have h5:=h (a.1-1) (by omega) (by omega);rw[Xd]at h5;obtain h5|⟨s,hs,h6,_⟩:=h5
     ·omega
     have:=hp.1 s hs;omega
    exact h'
   exact c ⟨by omega,by omega⟩
  refine yI hn ht hr fun x h1 h2=>?_;have h3:=h x h1 h2;rw[Xd]at h3;exact h3.resolve_left (ay3 x h1 h2)
def yJ{p:Pl}{it k at_ n t:Int}(hn:1<=n/\n<=1000000)(ht:at_<=t)(hk:k*1000000<=t/\t+n<=(k+2)*1000000)(h:∀x,t<=x->x<t+n->gT p it 0 x):∃s,lR (Xw p it k) at_ n=some s/\s<=t:=by
 rw[lR,if_neg (by omega)];refine yI hn.1 ht (Zw _).1 fun x h1 h2=>?_;rw[(Zw _).2,Qbt];exact⟨by omega,by omega,h x h1 h2⟩
def ahn{p:Pl}{it k at_ n s:Int}(hn:1<=n)(h:lR (Xw p it k) at_ n=some s):s+n<=(k+2)*1000000:=by
 rw[lR,if_neg (by omega)]at h;obtain⟨a,ha,h1,h2,h3⟩:=Db h;have:Xq (Xk (Xw p it k)) (s+n-1):=⟨a,ha,by omega,by omega⟩;rw[(Zw _).2,Qbt]at this;omega
def BE{p:Pl}{e:En}{last from_ n t:Int}(he:1<=e.fr/\e.fr<=1000000)(h1:from_<=t)(h2:t<=last)(h3:n*1000000<=t)(h:∀x,t<=x->x<t+e.fr->gT p e.it 0 x):∃s,Tq p e last from_ n=some s/\s<=t:=by
 rw[Tq,if_pos (by omega)];cases hs:lR (Xw p e.it n) from_ e.fr with
 |none=>
  simp only;refine BE he h1 h2 ?_ h;rcases zzfe t ((n+1)*1000000)with h'|h'
  ·obtain⟨s,iG,_⟩:=yJ (p:=p) (it:=e.it) (k:=n) he h1 ⟨h3,by omega⟩ h;rw[hs]at iG;cases iG
  exact h'
 |some s=>
  simp only;have bJ:=ahn he.1 hs
  have cc:s<=t:=by
   rcases zzfe ((n+2)*1000000) (t+e.fr)with h'|h'
   ·omega
   obtain⟨s',iG,bX⟩:=yJ (p:=p) (it:=e.it) (k:=n) he h1 ⟨h3,h'⟩ h;rw[hs]at iG;cases iG;exact bX
  rw[if_neg (by omega)];exact⟨s,rfl,cc⟩
termination_by(last-n*1000000+1000000).toNat
decreasing_by omega
def DX{p:Pl}{e:En}{from_ t:Int}(he:1<=e.fr/\e.fr<=1000000)(h1:from_<=t)(h0:0<=t)(h2:t<=e.la/\t+e.fr<=p.ln/\t<=100000000)(h:∀x,t<=x->x<t+e.fr->gT p e.it 0 x):∃s,Vz p e from_=some s/\s<=t:=by
 rw[Vz,if_neg (by omega)];refine BE he (by omega) (by simp only[mH];omega) ?_ h;have hm:0<=max from_ 0:=by omega
 rw[zzcl hm];omega
def LeU(us' us:List (Int×Int)):Prop:=∀k,(af k us').getD 0<=(af k us).getD 0
def LeE(en' en:List (Int×Int)):Prop:=∀k v',af k en'=some v'->∃v,af k en=some v/\v'<=v
def LeE.refl(en:List (Int×Int)):LeE en en:=fun k v h=>⟨v,h,zzbx _⟩
def LeU.note{us' us:List (Int×Int)}(h:LeU us' us)(it:Int):LeU (Vr us' it) (Vr us it):=fun k=>by
 rw[Vr,Vr,Vq,Vq];have:=h it;split
 ·simp;omega
 exact h k
def LeU.skip{us' us:List (Int×Int)}(h:LeU us' us)(it:Int):LeU us' (Vr us it):=fun k=>by
 rw[Vr,Vq];split
 ·rename_i e;have:=h it;rw[e];simp;omega
 exact h k
def LeE.note{p p':Pl}{en' en:List (Int×Int)}(h:LeE en' en)(it:Int){e' e:Int}(he:e'<=e)(h0:0<=e')(hp:Xg it p'.aL=Xg it p.aL):LeE (Zl p' en' it e') (Zl p en it e):=fun k v' hk=>by
 unfold Zl at hk |-
 rw[hp]at hk;cases hf:Xg it p.aL with
 |none=>rw[hf]at hk;exact h k v' hk
 |some x=>
  rw[hf]at hk;simp only[Vq]at hk |-
  split at hk
  ·rename_i Zs;cases hk;refine⟨_,by rw[if_pos Zs],?_⟩;cases h1:af x.sp en' with
   |none=>
    cases h2:af x.sp en with
    |none=>simp;omega
    |some v=>simp;omega
   |some v1=>
    obtain⟨v,hv,bX⟩:=h _ _ h1;rw[hv];simp;omega
  rename_i Zs;obtain⟨v,hv,bX⟩:=h k v' hk;exact⟨v,by rw[if_neg Zs];exact hv,bX⟩
def LeE.skip{p:Pl}{en' en:List (Int×Int)}(h:LeE en' en)(it e:Int):LeE en' (Zl p en it e):=fun k v' hk=>by
 obtain⟨v,hv,bX⟩:=h k v' hk;unfold Zl;cases hf:Xg it p.aL with
 |none=>exact⟨v,hv,bX⟩
 |some x=>
  simp only[Vq];split
  ·rename_i Zs;subst Zs;exact⟨_,rfl,by rw[hv];simp;omega⟩
  exact⟨v,hv,bX⟩
def yK{en' en:List (Int×Int)}(h:LeE en' en):∀(l:List Sp){f' f:Int},f'<=f->Uh en' l f'<=Uh en l f
 |[],_,_,hf=>hf
 |r::l,f',f,hf=>by
  rw[Uh,Uh];refine yK h l ?_;cases h1:af r.1 en' with
  |none=>
   cases h2:af r.1 en with
   |none=>exact hf
   |some v=>simp only;omega
  |some v1=>
   obtain⟨v,hv,bX⟩:=h _ _ h1;rw[hv];simp only;omega
structure aho (p' p:Pl):Prop where
 aL:p'.aL=p.aL
 ens:p'.ens=p.ens
 ln:p'.ln=p.ln
 runs:∀it,Wn p' it=Wn p it
 riv:∀it,Kq p' it=Kq p it
 perm:∀it x,gT p it 0 x->gT p' it 0 x
def aho.refl(p:Pl):aho p p:=⟨rfl,rfl,rfl,fun _=>rfl,fun _=>rfl,fun _ _ h=>h⟩
inductive BF:List Sp->List Sp->Prop
 |nil (l:List Sp):BF [] l
 |skip {l' l:List Sp} (s:Sp):BF l' l->BF l' (s::l)
 |cons {l' l:List Sp} (id s' s:Int):s'<=s->BF l' l->BF ((id,s')::l') ((id,s)::l)
def SR{p' p:Pl}(hm:aho p' p){ahp ids:List Int}(anz:ahp.Sublist ids):∀{us' us en' en:List (Int×Int)}{free' free last' last:Int}{l:List Sp},LeU us' us->LeE en' en->free'<=free->last'<=last->Uy p ids us en free last=some l->
  ∃l',Uy p' ahp us' en' free' last'=some l'/\BF l' l:=by
 induction anz with
 |slnil=>
  intro us' us en' en free' free last' last l _ _ _ _ h;exact⟨[],rfl,.nil _⟩
 |@cons ahp ids id _ ih=>
  intro us' us en' en free' free last' last l hu he hf hla h;rw[Uy]at h;cases hk:zI id p.ens 0 with
  |none=>rw[hk]at h;cases h
  |some k=>
   rw[hk]at h;simp only at h;split at h
   ·cases h
   rename_i zj;cases hx:p.ens[k]? with
   |none=>rw[hx]at h;cases h
   |some e=>
    rw[hx]at h;simp only at h;split at h
    ·cases h
    cases hs:Vz p e (Uh en (Kq p e.it) (max e.ea free))with
    |none=>rw[hs]at h;cases h
    |some s=>
     rw[hs]at h;simp only at h;cases hg:Uy p ids (Vr us e.it) (Zl p en e.it (s+e.fr)) (s+e.fr) k with
     |none=>rw[hg]at h;cases h
     |some r=>
      rw[hg]at h;cases h;obtain⟨a1,a2,_⟩:=Qax hs;have gr:=Gs en (Kq p e.it) (max e.ea free);obtain⟨l',h1,h2⟩:=ih (hu.skip e.it) (he.skip e.it (s+e.fr)) (free':=free') (by omega) (last':=last') (by omega) hg;exact⟨l',h1,.skip _ h2⟩
 |@cons_cons ahp ids id _ ih=>
  intro us' us en' en free' free last' last l hu he hf hla h;rw[Uy]at h;rw[Uy,hm.ens];cases hk:zI id p.ens 0 with
  |none=>rw[hk]at h;cases h
  |some k=>
   rw[hk]at h;simp only at h |-
   split at h
   ·cases h
   rename_i zj;rw[if_neg (by omega)];cases hx:p.ens[k]? with
   |none=>rw[hx]at h;cases h
   |some e=>
    rw[hx]at h;simp only at h |-
    split at h
    ·cases h
    rename_i hr;have hue:=hu e.it;rw[hm.runs,hm.riv,if_neg (by intro hh;exact hr ⟨hh.1,by omega⟩)];cases hs:Vz p e (Uh en (Kq p e.it) (max e.ea free))with
    |none=>rw[hs]at h;cases h
    |some s=>
     rw[hs]at h;simp only at h;cases hg:Uy p ids (Vr us e.it) (Zl p en e.it (s+e.fr)) (s+e.fr) k with
     |none=>rw[hg]at h;cases h
     |some r=>
      rw[hg]at h;cases h;obtain⟨a1,a2,a3,a4,a5,a6,a7⟩:=Qax hs;have hfm:=yK he (Kq p e.it) (show max e.ea free'<=max e.ea free by omega);obtain⟨s',iG,bX⟩:=DX (p:=p') (from_:=Uh en' (Kq p e.it) (max e.ea free')) a1 (by omega) a3 ⟨a4,by rw[hm.ln];exact a5,a6⟩ (fun x h1 h2=>hm.perm _ _ (a7 x h1 h2));have cK:=Qax iG;rw[iG];simp only;obtain⟨l',h1,h2⟩:=ih (hu.note e.it) (he.note e.it (e':=s'+e.fr) (e:=s+e.fr) (by omega) (by omega) (by rw[hm.aL])) (free':=s'+e.fr) (by omega) (last':=(k:Int)) (zzbx _) hg;rw[h1];exact⟨_,rfl,.cons id s' s bX h2⟩
open Go Go.Abs
def aa2(ok:List Int->Bool):Prop:=∀a b:List Int,a.Sublist b->ok b=true->ok a=true
def HW(b:Bd):aa2 (om b):=fun a c hs h=>by
 unfold om at h |-
 obtain⟨l,hl⟩:=zzcp.1 h;obtain⟨l',h1,_⟩:=SR (aho.refl b.p) hs (us':=b.us) (en':=b.en) (free':=b.at_) (last':= -1) (fun _=>zzbx _) (LeE.refl _) (zzbx _) (zzbx _) hl;rw[h1];rfl
theorem Px(b:Bd):om b []=true:=rfl
open Go Go.Abs
def Xc(w:Bool):List Int->List Bool->List Int
 |id::r,k::ks=>if(k==w)=true then id::Xc w r ks else Xc w r ks
 |_,_=>[]
def Jq(ok:List Int->Bool)(rd:Int->Nat)(ids:List Int)(r:Nat)(K:List Bool)(i:Nat):List Bool:=match ids[i]? with
 |some id=>if rd id=r then K.set i (ok (Xc true ids (K.set i true)))else K
 |none=>K
def Ja(ok:List Int->Bool)(rd:Int->Nat)(ids:List Int)(r:Nat)(K:List Bool):List Bool:=(List.range ids.length).foldl (Jq ok rd ids r) K
def Jj(ok:List Int->Bool)(rd:Int->Nat)(ids:List Int):List Bool:=Ja ok rd ids 2 (Ja ok rd ids 1 (Ja ok rd ids 0 (List.replicate ids.length false)))
def DY(K K':List Bool):Prop:=∀j,K.getD j false=true->K'.getD j false=true
def DY.refl(K:List Bool):DY K K:=fun _ h=>h
def DY.trans{K K' K'':List Bool}(h:DY K K')(k:DY K' K''):DY K K'':=fun j hj=>k j (h j hj)
def kj(K:List Bool)(i j:Nat)(b:Bool):(K.set i b).getD j false=if i=j/\i<K.length then b else K.getD j false:=by
 simp only[zzas,zzcw];by_cases h:i=j
 ·subst h;by_cases h2:i<K.length
  ·simp[h2]
  have:K[i]?=none:=zzax (by omega);simp[h2]
 simp[h]
def DY.set{K K':List Bool}(h:DY K K')(hl:K.length=K'.length)(i:Nat):DY (K.set i true) (K'.set i true):=fun j hj=>by
 rw[kj]at hj |-
 split at hj
 ·rename_i hc;rw[if_pos ⟨hc.1,by omega⟩]
 rename_i hc;rw[if_neg (by rw[<- hl];exact hc)];exact h j hj
def DY.abu(K:List Bool)(i:Nat):DY K (K.set i true):=fun j hj=>by
 rw[kj];split
 ·rfl
 exact hj
def BG:∀(ids:List Int){K K':List Bool},K.length=K'.length->DY K K'->(Xc true ids K).Sublist (Xc true ids K')
 |[],_,_,_,_=>by simp[Xc]
 |id::r,[],[],_,_=>by simp[Xc]
 |id::r,[],_::_,h,_=>by simp at h
 |id::r,_::_,[],h,_=>by simp at h
 |id::r,k::ks,k'::ks',hl,h=>by
  have ih:=BG r (K:=ks) (K':=ks') (by simpa using hl) (fun j hj=>by simpa using h (j+1) (by simpa using hj));have h0:=h 0;simp at h0;cases k with
  |false=>
   cases k' with
   |false=>simpa[Xc]using ih
   |true=>simpa[Xc]using ih.cons id
  |true=>
   rw[h0 rfl];simpa[Xc]using ih.cons_cons id
def SS(ok:List Int->Bool)(rd:Int->Nat)(ids:List Int)(r:Nat)(K:List Bool)(i:Nat):(Jq ok rd ids r K i).length=K.length:=by
 unfold Jq;split
 ·split<;>simp
 rfl
structure ChI (ok:List Int->Bool) (rd:Int->Nat) (ids:List Int) (r i:Nat) (K:List Bool):Prop where
 len:K.length=ids.length
 kok:ok (Xc true ids K)=true
 todo:∀(j:Nat)(id:Int),ids[j]?=some id->(r<rd id\/rd id=r/\i<=j)->K.getD j false=false
 done:∀(j:Nat)(id:Int),ids[j]?=some id->(rd id<r\/rd id=r/\j<i)->K.getD j false=true\/ok (Xc true ids (K.set j true))=false
def ChI.step{ok:List Int->Bool}(hm:aa2 ok){rd:Int->Nat}{ids:List Int}{r i:Nat}{K:List Bool}(h:ChI ok rd ids r i K)(hi:i<ids.length):ChI ok rd ids r (i+1) (Jq ok rd ids r K i)/\DY K (Jq ok rd ids r K i):=by
 obtain⟨id,aO⟩:=aP hi;unfold Jq;rw[aO];simp only;by_cases hr:rd id=r
 ·rw[if_pos hr];have hf:=h.todo i id aO (.inr ⟨hr,zzab _⟩)
  have WZ:K.set i false=K:=by
   apply zzed (by simp);intro n h1 h2;rw[List.getElem_set];split
   ·rename_i e;subst e;rw[zzas,zzad h2]at hf;exact hf.symm
   rfl
  cases bT:ok (Xc true ids (K.set i true))with
  |false=>
   rw[WZ];refine⟨⟨h.len,h.kok,fun j x hj hc=>h.todo j x hj (by omega),fun j x hj hc=>?_⟩,DY.refl K⟩;rcases zzaa j i with ai|bw
   ·exact h.done j x hj (by omega)
   obtain hc|hc:=hc
   ·exact h.done j x hj (.inl hc)
   obtain rfl:j=i:=by omega
   exact .inr bT
  |true=>
   have bX:=DY.abu K i;refine⟨⟨by simp[h.len],bT,fun j x hj hc=>?_,fun j x hj hc=>?_⟩,bX⟩
   ·rw[kj,if_neg (by rintro⟨e,_⟩;subst e;rw[aO]at hj;cases hj;omega)];exact h.todo j x hj (by omega)
   rcases Nat.decEq j i with aJ|rfl
   ·have hd:=h.done j x hj (by omega);obtain hd|hd:=hd
    ·exact .inl (bX j hd)
    right;have hs:=BG ids (K:=K.set j true) (K':=(K.set i true).set j true) (by simp) (bX.set (by simp) j);cases hb:ok (Xc true ids ((K.set i true).set j true))with
    |false=>rfl
    |true=>rw[hm _ _ hs hb]at hd;cases hd
   left;rw[kj,if_pos ⟨rfl,by rw[h.len];exact hi⟩]
 rw[if_neg hr];refine⟨⟨h.len,h.kok,fun j x hj hc=>h.todo j x hj (by omega),fun j x hj hc=>h.done j x hj ?_⟩,DY.refl K⟩;obtain hc|hc:=hc
 ·exact .inl hc
 have:j≠i:=by rintro rfl;rw[aO]at hj;cases hj;exact hr hc.1
 exact .inr ⟨hc.1,by omega⟩
def ChI.round{ok:List Int->Bool}(hm:aa2 ok){rd:Int->Nat}{ids:List Int}{r:Nat}{K:List Bool}(h:ChI ok rd ids r 0 K):ChI ok rd ids (r+1) 0 (Ja ok rd ids r K)/\DY K (Ja ok rd ids r K):=by
 have key:∀n,n<=ids.length->ChI ok rd ids r n ((List.range n).foldl (Jq ok rd ids r) K)/\DY K ((List.range n).foldl (Jq ok rd ids r) K):=by
  intro n;induction n with
  |zero=>intro _;exact⟨h,DY.refl K⟩
  |succ n ih=>
   intro hn;obtain⟨h1,h2⟩:=ih (by omega);obtain⟨g1,g2⟩:=h1.step hm (by omega);rw[zzej,zzge];exact⟨g1,h2.trans g2⟩
 obtain⟨h1,h2⟩:=key ids.length (zzab _);refine⟨⟨h1.len,h1.kok,fun j x hj hc=>h1.todo j x hj (by omega),fun j x hj hc=>h1.done j x hj ?_⟩,h2⟩;have:=(zza.1 hj).1;omega
def yL(ids:List Int)(n:Nat):Xc true ids (List.replicate n false)=[]:=by
 induction ids generalizing n with
 |nil=>simp[Xc]
 |cons x r ih=>
  cases n with
  |zero=>simp[Xc]
  |succ n=>rw[zzew,Xc];simpa using ih n
def tc{ok:List Int->Bool}(hm:aa2 ok)(h0:ok []=true)(rd:Int->Nat)(ids:List Int)(gG:∀id∈ids,rd id<=2):
  (Jj ok rd ids).length=ids.length/\ok (Xc true ids (Jj ok rd ids))=true/\∀(j:Nat)(id:Int),ids[j]?=some id->(Jj ok rd ids).getD j false=true\/ok (Xc true ids ((Jj ok rd ids).set j true))=false:=by
 have hi:ChI ok rd ids 0 0 (List.replicate ids.length false):=⟨by simp,by rw[yL];exact h0,fun j id hj _=>by
  rw[zzas,zzcm];split<;>rfl,fun j id hj hc=>by omega⟩
 have h1:=(hi.round hm).1;have h2:=(h1.round hm).1;have h3:=(h2.round hm).1;refine⟨h3.len,h3.kok,fun j id hj=>h3.done j id hj (.inl ?_)⟩;have:=gG id (zzac hj);omega
open Go Go.Abs
open Go Go.Abs
def avl(it:Int)(bf:List (Int×Int)):Int:=((bf.filter fun a=>decide (a.1=it)).length:Nat)
structure azC (p:Pl) (bf us en:List (Int×Int)):Prop where
 us:∀it,(af it us).getD 0<=avl it bf
 en:∀k v,af k en=some v->∃a∈bf,∃x,Xg a.1 p.aL=some x/\x.sp=k/\v<=a.2
structure azD (p:Pl) (bf us en:List (Int×Int)):Prop where
 us:∀it,avl it bf<=(af it us).getD 0
 en:∀a∈bf,∀x,Xg a.1 p.aL=some x->∃v,af x.sp en=some v/\a.2<=v
open Go Go.Abs
def azh(p:Pl)(c:Cl):Pl:={p with cls:=p.cls++[c]}
open Go Go.Abs
def g0(ok:List Int->Bool)(rd:Int->Nat):List Int->List Int->List Bool
 |[],_=>[]
 |id::r,HX=>if rd id=0 then ok (HX++[id])::g0 ok rd r (if ok (HX++[id])=true then HX++[id]else HX)else false::g0 ok rd r HX
def abv(ok:List Int->Bool)(rd:Int->Nat):∀(l HX:List Int),(g0 ok rd l HX).length=l.length
 |[],_=>rfl
 |id::r,HX=>by rw[g0];split<;>simp[abv ok rd r]
def ko(w:Bool):∀(a:List Int)(K:List Bool)(b:List Int)(L:List Bool),a.length=K.length->Xc w (a++b) (K++L)=Xc w a K++Xc w b L
 |[],[],_,_,_=>rfl
 |[],_::_,_,_,h=>by simp at h
 |_::_,[],_,_,h=>by simp at h
 |x::a,k::K,b,L,h=>by
  simp only[zzae,Xc];rw[ko w a K b L (by simpa using h)];split<;>simp
def yM(ok:List Int->Bool)(rd:Int->Nat):∀(b a:List Int)(K:List Bool),a.length=K.length->((List.range' a.length b.length).foldl (Jq ok rd (a++b) 0) (K++List.replicate b.length false))=K++g0 ok rd b (Xc true a K)
 |[],a,K,h=>by simp[g0]
 |id::b,a,K,h=>by
  rw[zzbd,zzgm,zzcx];have aO:(a++id::b)[a.length]?=some id:=by simp
  have hK:a.length<(K++List.replicate (b.length+1) false).length:=by simp;omega
  have bW:∀x,(K++List.replicate (b.length+1) false).set a.length x=(K++[x])++List.replicate b.length false:=fun x=>by
   rw[zzcq _ _ (by omega),h,zzdl,zzew];simp
  have XD:a++id::b=(a++[id])++b:=by simp
  have an1:Xc true (a++id::b) ((K++[true])++List.replicate b.length false)=Xc true a K++[id]:=by
   rw[XD,ko true (a++[id]) (K++[true]) b _ (by simp[h]),ko true a K [id] [true] h,yL];simp[Xc]
  have aI:∀x:Bool,(a++[id]).length=(K++[x]).length:=fun x=>by simp[h]
  have ef:a.length+1=(a++[id]).length:=by simp
  unfold Jq;rw[aO];simp only;by_cases hr:rd id=0
  ·rw[if_pos hr,bW true,an1,bW,g0,if_pos hr];have ih:=yM ok rd b (a++[id]) (K++[ok (Xc true a K++[id])]) (aI _);rw[<- XD,<- ef]at ih;rw[show(List.foldl (fun K i=>Jq ok rd (a++id::b) 0 K i))=List.foldl (Jq ok rd (a++id::b) 0)from rfl]at*
   refine ih.trans ?_;rw[ko true a K [id] _ h];cases hb:ok (Xc true a K++[id])<;>simp[Xc]
  rw[if_neg hr,g0,if_neg hr];have ih:=yM ok rd b (a++[id]) (K++[false]) (aI _);rw[<- XD,<- ef]at ih;have e:K++List.replicate (b.length+1) false=(K++[false])++List.replicate b.length false:=by rw[zzew];simp
  rw[e];refine ih.trans ?_;rw[ko true a K [id] _ h];simp[Xc]
def SU(ok:List Int->Bool)(rd:Int->Nat)(ids:List Int):Ja ok rd ids 0 (List.replicate ids.length false)=g0 ok rd ids []:=by
 have:=yM ok rd ids [] [] rfl;simp only[zzcf,zzah,Xc]at this;rw[Ja,zzfn];exact this
def lF(ok:List Int->Bool)(rd:Int->Nat):∀(ids HX:List Int),(Xc false ids (g0 ok rd ids HX)).filter (fun id=>decide (rd id=0))=Xc false (ids.filter fun id=>decide (rd id=0)) (g0 ok rd (ids.filter fun id=>decide (rd id=0)) HX)
 |[],HX=>rfl
 |id::r,HX=>by
  by_cases h:rd id=0
  ·rw[zzdo (by simp[h]),g0,g0,if_pos h,if_pos h];cases hb:ok (HX++[id])with
   |true=>simpa[Xc]using lF ok rd r (HX++[id])
   |false=>
    simp only[Xc,zzbq,if_false,beq_self_eq_true,if_true];rw[zzdo (by simp[h]),lF ok rd r HX]
  rw[zzfg (by simp[h]),g0,if_neg h];simp only[Xc,beq_self_eq_true,if_true];rw[zzfg (by simp[h]),lF ok rd r HX]
def abw(rd:Int->Nat)(ids:List Int)(K K':List Bool):Prop:=∀(j:Nat)(id:Int),ids[j]?=some id->rd id=0->K.getD j false=K'.getD j false
def BH(rd:Int->Nat):∀(ids:List Int)(K K':List Bool),K.length=ids.length->K'.length=ids.length->abw rd ids K K'->(Xc false ids K).filter (fun id=>decide (rd id=0))=(Xc false ids K').filter (fun id=>decide (rd id=0))
 |[],K,K',_,_,_=>by simp[Xc]
 |id::r,[],_,h,_,_=>by simp at h
 |id::r,_::_,[],_,h,_=>by simp at h
 |id::r,k::K,k'::K',h1,h2,h=>by
  have ih:=BH rd r K K' (by simpa using h1) (by simpa using h2) fun j x hj hx=>by simpa using h (j+1) x (by simpa using hj) hx
  by_cases hr:rd id=0
  ·have h0:=h 0 id rfl hr;simp at h0;subst h0;simp only[Xc];split
   ·rw[zzdo (by simp[hr]),zzdo (by simp[hr]),ih]
   exact ih
  simp only[Xc]
  have e:∀(b:Bool)(l:List Int),(if(b==false)=true then id::l else l).filter (fun id=>decide (rd id=0))=l.filter fun id=>decide (rd id=0):=fun b l=>by
   split
   ·rw[zzfg (by simp[hr])]
   rfl
  rw[e,e,ih]
def th(ok:List Int->Bool)(rd:Int->Nat)(ids:List Int)(r:Nat)(hr:r≠0)(K:List Bool):abw rd ids (Ja ok rd ids r K) K/\(Ja ok rd ids r K).length=K.length:=by
 have key:∀(L:List Nat)(K:List Bool),abw rd ids (L.foldl (Jq ok rd ids r) K) K/\(L.foldl (Jq ok rd ids r) K).length=K.length:=by
  intro L;induction L with
  |nil=>intro K;exact⟨fun _ _ _ _=>rfl,rfl⟩
  |cons i L ih=>
   intro K;obtain⟨h1,h2⟩:=ih (Jq ok rd ids r K i);refine⟨fun j id hj aO=>?_,by rw[zzcx,h2,SS]⟩;rw[zzcx,h1 j id hj aO];unfold Jq;cases hi:ids[i]? with
   |none=>rfl
   |some x=>
    simp only;split
    ·rename_i hx;rw[kj,if_neg (by rintro⟨e,_⟩;subst e;rw[hi]at hj;cases hj;omega)]
    rfl
 exact key _ K
def ay4(ok:List Int->Bool)(rd:Int->Nat)(ids:List Int):(Xc false ids (Jj ok rd ids)).filter (fun id=>decide (rd id=0))=Xc false (ids.filter fun id=>decide (rd id=0)) (Jj ok rd (ids.filter fun id=>decide (rd id=0))):=by
 obtain⟨S,hS⟩:∃S,(ids.filter fun id=>decide (rd id=0))=S:=⟨_,rfl⟩;have bS:∀(L:List Int),Jj ok rd L=Ja ok rd L 2 (Ja ok rd L 1 (g0 ok rd L [])):=fun L=>by rw[Jj,SU]
 have two:∀(L:List Int),(Xc false L (Jj ok rd L)).filter (fun id=>decide (rd id=0))=(Xc false L (g0 ok rd L [])).filter (fun id=>decide (rd id=0)):=fun L=>by
  rw[bS];obtain⟨a1,a2⟩:=th ok rd L 1 (by omega) (g0 ok rd L []);obtain⟨b1,b2⟩:=th ok rd L 2 (by omega) (Ja ok rd L 1 (g0 ok rd L []));have hg:=abv ok rd L [];refine BH rd L _ _ (by omega) hg fun j id hj aO=>?_;rw[b1 j id hj aO,a1 j id hj aO]
 rw[two ids,lF,hS]
 have hSf:∀id∈S,rd id=0:=fun id h=>by
  rw[<- hS]at h;simpa using(zzcy.1 h).2
 have bJ:∀(L:List Int)(K:List Bool),∀x∈Xc false L K,x∈L:=by
  intro L;induction L with
  |nil=>intro K x hx;simp[Xc]at hx
  |cons y L ih=>
   intro K x hx;cases K with
   |nil=>simp[Xc]at hx
   |cons k K=>
    simp only[Xc]at hx;split at hx
    ·rcases zzau.1 hx with rfl|hx
     ·simp
     exact zzet _ (ih K x hx)
    exact zzet _ (ih K x hx)
 have aO:∀K:List Bool,(Xc false S K).filter (fun id=>decide (rd id=0))=Xc false S K:=fun K=>zzfw.2 fun x hx=>by simp[hSf x (bJ S K x hx)]
 have:=two S;rw[aO,aO]at this;exact this.symm
end Go.Proofs.YtnopaopphmjnmaaGreatDoor
