import Derived.Test.YtnopaopphmjnmaaGreatDoorMLMT
set_option linter.all false
namespace Go.Proofs.YtnopaopphmjnmaaGreatDoor
open Go Go.Abs
def yS{at_ n t:Int}(hn:1<=n)(ht:at_<=t):∀{l:List Sp},VS l->(∀x,t<=x->x<t+n->Xt l x)->∃s,Gp at_ n l=some s/\s<=t
 |[],_,h=>by
  have:=h t (zzbu _) (by omega);simp at this
 |a::r,hv,h=>by
  have ha:=hv.1 a (by simp);have hp:=zzbx.1 hv.2;have hr:VS r:=⟨fun s hs=>hv.1 s (by simp[hs]),hp.2⟩;rw[Gp];by_cases c:max a.1 at_<a.2/\n<=a.2-max a.1 at_
  ·rw[if_pos c];refine⟨_,rfl,?_⟩;have h0:=h t (zzbu _) (by omega);rw[Xc]at h0;obtain h0|⟨s,hs,h1,h2⟩:=h0
   ·omega
   have:=hp.1 s hs;omega
  rw[if_neg c]
  have axX:∀x,t<=x->x<t+n->¬(a.1<=x/\x<a.2):=by
   intro x PR hx2 hx
   have h2:¬Xt (a::r) a.2:=by
    rw[Xc];rintro(h|⟨s,hs,h1,_⟩)
    ·omega
    have:=hp.1 s hs;omega
   have h3:t+n<=a.2:=by
    rcases zzfj a.2 (t+n)with h'|h'
    ·exact absurd (h a.2 (by omega) h') h2
    exact h'
   have h4:a.1<=t:=by
    rcases zzfj t a.1 with h'|h'
    ·have h5:=h (a.1-1) (by omega) (by omega);rw[Xc]at h5;obtain h5|⟨s,hs,h6,_⟩:=h5
     ·omega
     have:=hp.1 s hs;omega
    exact h'
   exact c ⟨by omega,by omega⟩
  refine yS hn ht hr fun x h1 h2=>?_;have h3:=h x h1 h2;rw[Xc]at h3;exact h3.resolve_left (axX x h1 h2)
def yT{p:Pl}{it k at_ n t:Int}(hn:1<=n/\n<=1000000)(ht:at_<=t)(hk:k*1000000<=t/\t+n<=(k+2)*1000000)(h:∀x,t<=x->x<t+n->gV p it 0 x):∃s,lX (Za p it k) at_ n=some s/\s<=t:=by
 rw[lX,if_neg (by omega)];refine yS hn.1 ht (Va _).1 fun x h1 h2=>?_;rw[(Va _).2,Qcc];exact⟨by omega,by omega,h x h1 h2⟩
def ag3{p:Pl}{it k at_ n s:Int}(hn:1<=n)(h:lX (Za p it k) at_ n=some s):s+n<=(k+2)*1000000:=by
 rw[lX,if_neg (by omega)]at h;obtain⟨a,ha,h1,h2,h3⟩:=Dk h;have:Xt (Xl (Za p it k)) (s+n-1):=⟨a,ha,by omega,by omega⟩;rw[(Va _).2,Qcc]at this;omega
def BF{p:Pl}{e:En}{last from_ n t:Int}(he:1<=e.fr/\e.fr<=1000000)(h1:from_<=t)(h2:t<=last)(h3:n*1000000<=t)(h:∀x,t<=x->x<t+e.fr->gV p e.it 0 x):∃s,Tu p e last from_ n=some s/\s<=t:=by
 rw[Tu,if_pos (by omega)];cases hs:lX (Za p e.it n) from_ e.fr with
 |none=>
  simp only;refine BF he h1 h2 ?_ h;rcases zzfj t ((n+1)*1000000)with h'|h'
  ·obtain⟨s,iH,_⟩:=yT (p:=p) (it:=e.it) (k:=n) he h1 ⟨h3,by omega⟩ h;rw[hs]at iH;cases iH
  exact h'
 |some s=>
  simp only;have bI:=ag3 he.1 hs
  have cc:s<=t:=by
   rcases zzfj ((n+2)*1000000) (t+e.fr)with h'|h'
   ·omega
   obtain⟨s',iH,ck⟩:=yT (p:=p) (it:=e.it) (k:=n) he h1 ⟨h3,h'⟩ h;rw[hs]at iH;cases iH;exact ck
  rw[if_neg (by omega)];exact⟨s,rfl,cc⟩
termination_by(last-n*1000000+1000000).toNat
decreasing_by omega
def DY{p:Pl}{e:En}{from_ t:Int}(he:1<=e.fr/\e.fr<=1000000)(h1:from_<=t)(h0:0<=t)(h2:t<=e.la/\t+e.fr<=p.ln/\t<=100000000)(h:∀x,t<=x->x<t+e.fr->gV p e.it 0 x):∃s,Ye p e from_=some s/\s<=t:=by
 rw[Ye,if_neg (by omega)];refine BF he (by omega) (by simp only[mT];omega) ?_ h;have hm:0<=max from_ 0:=by omega
 rw[zzco hm];omega
def LeU(us' us:List (Int×Int)):Prop:=∀k,(af k us').getD 0<=(af k us).getD 0
def LeE(en' en:List (Int×Int)):Prop:=∀k v',af k en'=some v'->∃v,af k en=some v/\v'<=v
def LeE.refl(en:List (Int×Int)):LeE en en:=fun k v h=>⟨v,h,zzbu _⟩
def LeU.note{us' us:List (Int×Int)}(h:LeU us' us)(it:Int):LeU (Vt us' it) (Vt us it):=fun k=>by
 rw[Vt,Vt,Yc,Yc];have:=h it;split
 ·simp;omega
 exact h k
def LeU.skip{us' us:List (Int×Int)}(h:LeU us' us)(it:Int):LeU us' (Vt us it):=fun k=>by
 rw[Vt,Yc];split
 ·rename_i e;have:=h it;rw[e];simp;omega
 exact h k
def LeE.note{p p':Pl}{en' en:List (Int×Int)}(h:LeE en' en)(it:Int){e' e:Int}(he:e'<=e)(h0:0<=e')(hp:Xh it p'.aL=Xh it p.aL):LeE (Zl p' en' it e') (Zl p en it e):=fun k v' hk=>by
 unfold Zl at hk |-
 rw[hp]at hk;cases hf:Xh it p.aL with
 |none=>rw[hf]at hk;exact h k v' hk
 |some x=>
  rw[hf]at hk;simp only[Yc]at hk |-
  split at hk
  ·rename_i YZ;cases hk;refine⟨_,by rw[if_pos YZ],?_⟩;cases h1:af x.sp en' with
   |none=>
    cases h2:af x.sp en with
    |none=>simp;omega
    |some v=>simp;omega
   |some v1=>
    obtain⟨v,hv,ck⟩:=h _ _ h1;rw[hv];simp;omega
  rename_i YZ;obtain⟨v,hv,ck⟩:=h k v' hk;exact⟨v,by rw[if_neg YZ];exact hv,ck⟩
def LeE.skip{p:Pl}{en' en:List (Int×Int)}(h:LeE en' en)(it e:Int):LeE en' (Zl p en it e):=fun k v' hk=>by
 obtain⟨v,hv,ck⟩:=h k v' hk;unfold Zl;cases hf:Xh it p.aL with
 |none=>exact⟨v,hv,ck⟩
 |some x=>
  simp only[Yc];split
  ·rename_i YZ;subst YZ;exact⟨_,rfl,by rw[hv];simp;omega⟩
  exact⟨v,hv,ck⟩
def yU{en' en:List (Int×Int)}(h:LeE en' en):∀(l:List Sp){f' f:Int},f'<=f->Uj en' l f'<=Uj en l f
 |[],_,_,hf=>hf
 |r::l,f',f,hf=>by
  rw[Uj,Uj];refine yU h l ?_;cases h1:af r.1 en' with
  |none=>
   cases h2:af r.1 en with
   |none=>exact hf
   |some v=>simp only;omega
  |some v1=>
   obtain⟨v,hv,ck⟩:=h _ _ h1;rw[hv];simp only;omega
structure ag4 (p' p:Pl):Prop where
 aL:p'.aL=p.aL
 ens:p'.ens=p.ens
 ln:p'.ln=p.ln
 runs:∀it,Wp p' it=Wp p it
 riv:∀it,Kt p' it=Kt p it
 perm:∀it x,gV p it 0 x->gV p' it 0 x
def ag4.refl(p:Pl):ag4 p p:=⟨rfl,rfl,rfl,fun _=>rfl,fun _=>rfl,fun _ _ h=>h⟩
inductive BG:List Sp->List Sp->Prop
 |nil (l:List Sp):BG [] l
 |skip {l' l:List Sp} (s:Sp):BG l' l->BG l' (s::l)
 |cons {l' l:List Sp} (id s' s:Int):s'<=s->BG l' l->BG ((id,s')::l') ((id,s)::l)
def S0{p' p:Pl}(hm:ag4 p' p){ag5 ids:List Int}(anX:ag5.Sublist ids):∀{us' us en' en:List (Int×Int)}{free' free last' last:Int}{l:List Sp},LeU us' us->LeE en' en->free'<=free->last'<=last->Jk p ids us en free last=some l->
  ∃l',Jk p' ag5 us' en' free' last'=some l'/\BG l' l:=by
 induction anX with
 |slnil=>
  intro us' us en' en free' free last' last l _ _ _ _ h;exact⟨[],rfl,.nil _⟩
 |@cons ag5 ids id _ ih=>
  intro us' us en' en free' free last' last l hu he hf hla h;rw[Jk]at h;cases hk:zR id p.ens 0 with
  |none=>rw[hk]at h;cases h
  |some k=>
   rw[hk]at h;simp only at h;split at h
   ·cases h
   rename_i oz;cases hx:p.ens[k]? with
   |none=>rw[hx]at h;cases h
   |some e=>
    rw[hx]at h;simp only at h;split at h
    ·cases h
    cases hs:Ye p e (Uj en (Kt p e.it) (max e.ea free))with
    |none=>rw[hs]at h;cases h
    |some s=>
     rw[hs]at h;simp only at h;cases hg:Jk p ids (Vt us e.it) (Zl p en e.it (s+e.fr)) (s+e.fr) k with
     |none=>rw[hg]at h;cases h
     |some r=>
      rw[hg]at h;cases h;obtain⟨a1,a2,_⟩:=Qbf hs;have gh:=Gq en (Kt p e.it) (max e.ea free);obtain⟨l',h1,h2⟩:=ih (hu.skip e.it) (he.skip e.it (s+e.fr)) (free':=free') (by omega) (last':=last') (by omega) hg;exact⟨l',h1,.skip _ h2⟩
 |@cons_cons ag5 ids id _ ih=>
  intro us' us en' en free' free last' last l hu he hf hla h;rw[Jk]at h;rw[Jk,hm.ens];cases hk:zR id p.ens 0 with
  |none=>rw[hk]at h;cases h
  |some k=>
   rw[hk]at h;simp only at h |-
   split at h
   ·cases h
   rename_i oz;rw[if_neg (by omega)];cases hx:p.ens[k]? with
   |none=>rw[hx]at h;cases h
   |some e=>
    rw[hx]at h;simp only at h |-
    split at h
    ·cases h
    rename_i hr;have hue:=hu e.it;rw[hm.runs,hm.riv,if_neg (by intro hh;exact hr ⟨hh.1,by omega⟩)];cases hs:Ye p e (Uj en (Kt p e.it) (max e.ea free))with
    |none=>rw[hs]at h;cases h
    |some s=>
     rw[hs]at h;simp only at h;cases hg:Jk p ids (Vt us e.it) (Zl p en e.it (s+e.fr)) (s+e.fr) k with
     |none=>rw[hg]at h;cases h
     |some r=>
      rw[hg]at h;cases h;obtain⟨a1,a2,a3,a4,a5,a6,a7⟩:=Qbf hs;have hfm:=yU he (Kt p e.it) (show max e.ea free'<=max e.ea free by omega);obtain⟨s',iH,ck⟩:=DY (p:=p') (from_:=Uj en' (Kt p e.it) (max e.ea free')) a1 (by omega) a3 ⟨a4,by rw[hm.ln];exact a5,a6⟩ (fun x h1 h2=>hm.perm _ _ (a7 x h1 h2));have cH:=Qbf iH;rw[iH];simp only;obtain⟨l',h1,h2⟩:=ih (hu.note e.it) (he.note e.it (e':=s'+e.fr) (e:=s+e.fr) (by omega) (by omega) (by rw[hm.aL])) (free':=s'+e.fr) (by omega) (last':=(k:Int)) (zzbu _) hg;rw[h1];exact⟨_,rfl,.cons id s' s ck h2⟩
open Go Go.Abs
def aaL(ok:List Int->Bool):Prop:=∀a b:List Int,a.Sublist b->ok b=true->ok a=true
def H6(b:Bd):aaL (oA b):=fun a c hs h=>by
 unfold oA at h |-
 obtain⟨l,hl⟩:=zzcj.1 h;obtain⟨l',h1,_⟩:=S0 (ag4.refl b.p) hs (us':=b.us) (en':=b.en) (free':=b.at_) (last':= -1) (fun _=>zzbu _) (LeE.refl _) (zzbu _) (zzbu _) hl;rw[h1];rfl
theorem Po(b:Bd):oA b []=true:=rfl
open Go Go.Abs
def Xb(w:Bool):List Int->List Bool->List Int
 |id::r,k::ks=>if(k==w)=true then id::Xb w r ks else Xb w r ks
 |_,_=>[]
def Jv(ok:List Int->Bool)(rd:Int->Nat)(ids:List Int)(r:Nat)(K:List Bool)(i:Nat):List Bool:=match ids[i]? with
 |some id=>if rd id=r then K.set i (ok (Xb true ids (K.set i true)))else K
 |none=>K
def Jb(ok:List Int->Bool)(rd:Int->Nat)(ids:List Int)(r:Nat)(K:List Bool):List Bool:=(List.range ids.length).foldl (Jv ok rd ids r) K
def Jm(ok:List Int->Bool)(rd:Int->Nat)(ids:List Int):List Bool:=Jb ok rd ids 2 (Jb ok rd ids 1 (Jb ok rd ids 0 (List.replicate ids.length false)))
def DZ(K K':List Bool):Prop:=∀j,K.getD j false=true->K'.getD j false=true
def DZ.refl(K:List Bool):DZ K K:=fun _ h=>h
def DZ.trans{K K' K'':List Bool}(h:DZ K K')(k:DZ K' K''):DZ K K'':=fun j hj=>k j (h j hj)
def ku(K:List Bool)(i j:Nat)(b:Bool):(K.set i b).getD j false=if i=j/\i<K.length then b else K.getD j false:=by
 simp only[zzar,zzcx];by_cases h:i=j
 ·subst h;by_cases h2:i<K.length
  ·simp[h2]
  have:K[i]?=none:=zzay (by omega);simp[h2]
 simp[h]
def DZ.set{K K':List Bool}(h:DZ K K')(hl:K.length=K'.length)(i:Nat):DZ (K.set i true) (K'.set i true):=fun j hj=>by
 rw[ku]at hj |-
 split at hj
 ·rename_i hc;rw[if_pos ⟨hc.1,by omega⟩]
 rename_i hc;rw[if_neg (by rw[<- hl];exact hc)];exact h j hj
def DZ.abl(K:List Bool)(i:Nat):DZ K (K.set i true):=fun j hj=>by
 rw[ku];split
 ·rfl
 exact hj
def BH:∀(ids:List Int){K K':List Bool},K.length=K'.length->DZ K K'->(Xb true ids K).Sublist (Xb true ids K')
 |[],_,_,_,_=>by simp[Xb]
 |id::r,[],[],_,_=>by simp[Xb]
 |id::r,[],_::_,h,_=>by simp at h
 |id::r,_::_,[],h,_=>by simp at h
 |id::r,k::ks,k'::ks',hl,h=>by
  have ih:=BH r (K:=ks) (K':=ks') (by simpa using hl) (fun j hj=>by simpa using h (j+1) (by simpa using hj));have h0:=h 0;simp at h0;cases k with
  |false=>
   cases k' with
   |false=>simpa[Xb]using ih
   |true=>simpa[Xb]using ih.cons id
  |true=>
   rw[h0 rfl];simpa[Xb]using ih.cons_cons id
def S1(ok:List Int->Bool)(rd:Int->Nat)(ids:List Int)(r:Nat)(K:List Bool)(i:Nat):(Jv ok rd ids r K i).length=K.length:=by
 unfold Jv;split
 ·split<;>simp
 rfl
structure ChI (ok:List Int->Bool) (rd:Int->Nat) (ids:List Int) (r i:Nat) (K:List Bool):Prop where
 len:K.length=ids.length
 kok:ok (Xb true ids K)=true
 todo:∀(j:Nat)(id:Int),ids[j]?=some id->(r<rd id\/rd id=r/\i<=j)->K.getD j false=false
 done:∀(j:Nat)(id:Int),ids[j]?=some id->(rd id<r\/rd id=r/\j<i)->K.getD j false=true\/ok (Xb true ids (K.set j true))=false
def ChI.step{ok:List Int->Bool}(hm:aaL ok){rd:Int->Nat}{ids:List Int}{r i:Nat}{K:List Bool}(h:ChI ok rd ids r i K)(hi:i<ids.length):ChI ok rd ids r (i+1) (Jv ok rd ids r K i)/\DZ K (Jv ok rd ids r K i):=by
 obtain⟨id,aN⟩:=aS hi;unfold Jv;rw[aN];simp only;by_cases hr:rd id=r
 ·rw[if_pos hr];have hf:=h.todo i id aN (.inr ⟨hr,zzab _⟩)
  have WN:K.set i false=K:=by
   apply zzed (by simp);intro n h1 h2;rw[List.getElem_set];split
   ·rename_i e;subst e;rw[zzar,zzac h2]at hf;exact hf.symm
   rfl
  cases bQ:ok (Xb true ids (K.set i true))with
  |false=>
   rw[WN];refine⟨⟨h.len,h.kok,fun j x hj hc=>h.todo j x hj (by omega),fun j x hj hc=>?_⟩,DZ.refl K⟩;rcases zzaa j i with ai|bu
   ·exact h.done j x hj (by omega)
   obtain hc|hc:=hc
   ·exact h.done j x hj (.inl hc)
   obtain rfl:j=i:=by omega
   exact .inr bQ
  |true=>
   have ck:=DZ.abl K i;refine⟨⟨by simp[h.len],bQ,fun j x hj hc=>?_,fun j x hj hc=>?_⟩,ck⟩
   ·rw[ku,if_neg (by rintro⟨e,_⟩;subst e;rw[aN]at hj;cases hj;omega)];exact h.todo j x hj (by omega)
   rcases Nat.decEq j i with aK|rfl
   ·have hd:=h.done j x hj (by omega);obtain hd|hd:=hd
    ·exact .inl (ck j hd)
    right;have hs:=BH ids (K:=K.set j true) (K':=(K.set i true).set j true) (by simp) (ck.set (by simp) j);cases hb:ok (Xb true ids ((K.set i true).set j true))with
    |false=>rfl
    |true=>rw[hm _ _ hs hb]at hd;cases hd
   left;rw[ku,if_pos ⟨rfl,by rw[h.len];exact hi⟩]
 rw[if_neg hr];refine⟨⟨h.len,h.kok,fun j x hj hc=>h.todo j x hj (by omega),fun j x hj hc=>h.done j x hj ?_⟩,DZ.refl K⟩;obtain hc|hc:=hc
 ·exact .inl hc
 have:j≠i:=by rintro rfl;rw[aN]at hj;cases hj;exact hr hc.1
 exact .inr ⟨hc.1,by omega⟩
def ChI.round{ok:List Int->Bool}(hm:aaL ok){rd:Int->Nat}{ids:List Int}{r:Nat}{K:List Bool}(h:ChI ok rd ids r 0 K):ChI ok rd ids (r+1) 0 (Jb ok rd ids r K)/\DZ K (Jb ok rd ids r K):=by
 have key:∀n,n<=ids.length->ChI ok rd ids r n ((List.range n).foldl (Jv ok rd ids r) K)/\DZ K ((List.range n).foldl (Jv ok rd ids r) K):=by
  intro n;induction n with
  |zero=>intro _;exact⟨h,DZ.refl K⟩
  |succ n ih=>
   intro hn;obtain⟨h1,h2⟩:=ih (by omega);obtain⟨g1,g2⟩:=h1.step hm (by omega);rw[zzfb,zzgo];exact⟨g1,h2.trans g2⟩
 obtain⟨h1,h2⟩:=key ids.length (zzab _);refine⟨⟨h1.len,h1.kok,fun j x hj hc=>h1.todo j x hj (by omega),fun j x hj hc=>h1.done j x hj ?_⟩,h2⟩;have:=(zza.1 hj).1;omega
def yV(ids:List Int)(n:Nat):Xb true ids (List.replicate n false)=[]:=by
 induction ids generalizing n with
 |nil=>simp[Xb]
 |cons x r ih=>
  cases n with
  |zero=>simp[Xb]
  |succ n=>rw[zzf,Xb];simpa using ih n
def tf{ok:List Int->Bool}(hm:aaL ok)(h0:ok []=true)(rd:Int->Nat)(ids:List Int)(fB:∀id∈ids,rd id<=2):
  (Jm ok rd ids).length=ids.length/\ok (Xb true ids (Jm ok rd ids))=true/\∀(j:Nat)(id:Int),ids[j]?=some id->(Jm ok rd ids).getD j false=true\/ok (Xb true ids ((Jm ok rd ids).set j true))=false:=by
 have hi:ChI ok rd ids 0 0 (List.replicate ids.length false):=⟨by simp,by rw[yV];exact h0,fun j id hj _=>by
  rw[zzar,zzcp];split<;>rfl,fun j id hj hc=>by omega⟩
 have h1:=(hi.round hm).1;have h2:=(h1.round hm).1;have h3:=(h2.round hm).1;refine⟨h3.len,h3.kok,fun j id hj=>h3.done j id hj (.inl ?_)⟩;have:=fB id (zzad hj);omega
open Go Go.Abs
open Go Go.Abs
def aui(it:Int)(bf:List (Int×Int)):Int:=((bf.filter fun a=>decide (a.1=it)).length:Nat)
structure ayx (p:Pl) (bf us en:List (Int×Int)):Prop where
 us:∀it,(af it us).getD 0<=aui it bf
 en:∀k v,af k en=some v->∃a∈bf,∃x,Xh a.1 p.aL=some x/\x.sp=k/\v<=a.2
structure ayy (p:Pl) (bf us en:List (Int×Int)):Prop where
 us:∀it,aui it bf<=(af it us).getD 0
 en:∀a∈bf,∀x,Xh a.1 p.aL=some x->∃v,af x.sp en=some v/\a.2<=v
open Go Go.Abs
def ayc(p:Pl)(c:Cl):Pl:={p with cls:=p.cls++[c]}
open Go Go.Abs
def g0(ok:List Int->Bool)(rd:Int->Nat):List Int->List Int->List Bool
 |[],_=>[]
 |id::r,H7=>if rd id=0 then ok (H7++[id])::g0 ok rd r (if ok (H7++[id])=true then H7++[id]else H7)else false::g0 ok rd r H7
def abm(ok:List Int->Bool)(rd:Int->Nat):∀(l H7:List Int),(g0 ok rd l H7).length=l.length
 |[],_=>rfl
 |id::r,H7=>by rw[g0];split<;>simp[abm ok rd r]
def kz(w:Bool):∀(a:List Int)(K:List Bool)(b:List Int)(L:List Bool),a.length=K.length->Xb w (a++b) (K++L)=Xb w a K++Xb w b L
 |[],[],_,_,_=>rfl
 |[],_::_,_,_,h=>by simp at h
 |_::_,[],_,_,h=>by simp at h
 |x::a,k::K,b,L,h=>by
  simp only[zzae,Xb];rw[kz w a K b L (by simpa using h)];split<;>simp
def yW(ok:List Int->Bool)(rd:Int->Nat):∀(b a:List Int)(K:List Bool),a.length=K.length->((List.range' a.length b.length).foldl (Jv ok rd (a++b) 0) (K++List.replicate b.length false))=K++g0 ok rd b (Xb true a K)
 |[],a,K,h=>by simp[g0]
 |id::b,a,K,h=>by
  rw[zzbb,zzgx,zzcz];have aN:(a++id::b)[a.length]?=some id:=by simp
  have hK:a.length<(K++List.replicate (b.length+1) false).length:=by simp;omega
  have bV:∀x,(K++List.replicate (b.length+1) false).set a.length x=(K++[x])++List.replicate b.length false:=fun x=>by
   rw[zzcs _ _ (by omega),h,zzdn,zzf];simp
  have hab:a++id::b=(a++[id])++b:=by simp
  have axY:Xb true (a++id::b) ((K++[true])++List.replicate b.length false)=Xb true a K++[id]:=by
   rw[hab,kz true (a++[id]) (K++[true]) b _ (by simp[h]),kz true a K [id] [true] h,yV];simp[Xb]
  have aH:∀x:Bool,(a++[id]).length=(K++[x]).length:=fun x=>by simp[h]
  have dZ:a.length+1=(a++[id]).length:=by simp
  unfold Jv;rw[aN];simp only;by_cases hr:rd id=0
  ·rw[if_pos hr,bV true,axY,bV,g0,if_pos hr];have ih:=yW ok rd b (a++[id]) (K++[ok (Xb true a K++[id])]) (aH _);rw[<- hab,<- dZ]at ih;rw[show(List.foldl (fun K i=>Jv ok rd (a++id::b) 0 K i))=List.foldl (Jv ok rd (a++id::b) 0)from rfl]at*
   refine ih.trans ?_;rw[kz true a K [id] _ h];cases hb:ok (Xb true a K++[id])<;>simp[Xb]
  rw[if_neg hr,g0,if_neg hr];have ih:=yW ok rd b (a++[id]) (K++[false]) (aH _);rw[<- hab,<- dZ]at ih;have e:K++List.replicate (b.length+1) false=(K++[false])++List.replicate b.length false:=by rw[zzf];simp
  rw[e];refine ih.trans ?_;rw[kz true a K [id] _ h];simp[Xb]
def S2(ok:List Int->Bool)(rd:Int->Nat)(ids:List Int):Jb ok rd ids 0 (List.replicate ids.length false)=g0 ok rd ids []:=by
 have:=yW ok rd ids [] [] rfl;simp only[zzch,zzai,Xb]at this;rw[Jb,zzfv];exact this
def lK(ok:List Int->Bool)(rd:Int->Nat):∀(ids H7:List Int),(Xb false ids (g0 ok rd ids H7)).filter (fun id=>decide (rd id=0))=Xb false (ids.filter fun id=>decide (rd id=0)) (g0 ok rd (ids.filter fun id=>decide (rd id=0)) H7)
 |[],H7=>rfl
 |id::r,H7=>by
  by_cases h:rd id=0
  ·rw[zzdr (by simp[h]),g0,g0,if_pos h,if_pos h];cases hb:ok (H7++[id])with
   |true=>simpa[Xb]using lK ok rd r (H7++[id])
   |false=>
    simp only[Xb,zzbq,if_false,beq_self_eq_true,if_true];rw[zzdr (by simp[h]),lK ok rd r H7]
  rw[zzfl (by simp[h]),g0,if_neg h];simp only[Xb,beq_self_eq_true,if_true];rw[zzfl (by simp[h]),lK ok rd r H7]
def abn(rd:Int->Nat)(ids:List Int)(K K':List Bool):Prop:=∀(j:Nat)(id:Int),ids[j]?=some id->rd id=0->K.getD j false=K'.getD j false
def BI(rd:Int->Nat):∀(ids:List Int)(K K':List Bool),K.length=ids.length->K'.length=ids.length->abn rd ids K K'->(Xb false ids K).filter (fun id=>decide (rd id=0))=(Xb false ids K').filter (fun id=>decide (rd id=0))
 |[],K,K',_,_,_=>by simp[Xb]
 |id::r,[],_,h,_,_=>by simp at h
 |id::r,_::_,[],_,h,_=>by simp at h
 |id::r,k::K,k'::K',h1,h2,h=>by
  have ih:=BI rd r K K' (by simpa using h1) (by simpa using h2) fun j x hj hx=>by simpa using h (j+1) x (by simpa using hj) hx
  by_cases hr:rd id=0
  ·have h0:=h 0 id rfl hr;simp at h0;subst h0;simp only[Xb];split
   ·rw[zzdr (by simp[hr]),zzdr (by simp[hr]),ih]
   exact ih
  simp only[Xb]
  have e:∀(b:Bool)(l:List Int),(if(b==false)=true then id::l else l).filter (fun id=>decide (rd id=0))=l.filter fun id=>decide (rd id=0):=fun b l=>by
   split
   ·rw[zzfl (by simp[hr])]
   rfl
  rw[e,e,ih]
def tq(ok:List Int->Bool)(rd:Int->Nat)(ids:List Int)(r:Nat)(hr:r≠0)(K:List Bool):abn rd ids (Jb ok rd ids r K) K/\(Jb ok rd ids r K).length=K.length:=by
 have key:∀(L:List Nat)(K:List Bool),abn rd ids (L.foldl (Jv ok rd ids r) K) K/\(L.foldl (Jv ok rd ids r) K).length=K.length:=by
  intro L;induction L with
  |nil=>intro K;exact⟨fun _ _ _ _=>rfl,rfl⟩
  |cons i L ih=>
   intro K;obtain⟨h1,h2⟩:=ih (Jv ok rd ids r K i);refine⟨fun j id hj aN=>?_,by rw[zzcz,h2,S1]⟩;rw[zzcz,h1 j id hj aN];unfold Jv;cases hi:ids[i]? with
   |none=>rfl
   |some x=>
    simp only;split
    ·rename_i hx;rw[ku,if_neg (by rintro⟨e,_⟩;subst e;rw[hi]at hj;cases hj;omega)]
    rfl
 exact key _ K
def axZ(ok:List Int->Bool)(rd:Int->Nat)(ids:List Int):(Xb false ids (Jm ok rd ids)).filter (fun id=>decide (rd id=0))=Xb false (ids.filter fun id=>decide (rd id=0)) (Jm ok rd (ids.filter fun id=>decide (rd id=0))):=by
 obtain⟨S,hS⟩:∃S,(ids.filter fun id=>decide (rd id=0))=S:=⟨_,rfl⟩;have bR:∀(L:List Int),Jm ok rd L=Jb ok rd L 2 (Jb ok rd L 1 (g0 ok rd L [])):=fun L=>by rw[Jm,S2]
 have two:∀(L:List Int),(Xb false L (Jm ok rd L)).filter (fun id=>decide (rd id=0))=(Xb false L (g0 ok rd L [])).filter (fun id=>decide (rd id=0)):=fun L=>by
  rw[bR];obtain⟨a1,a2⟩:=tq ok rd L 1 (by omega) (g0 ok rd L []);obtain⟨b1,b2⟩:=tq ok rd L 2 (by omega) (Jb ok rd L 1 (g0 ok rd L []));have hg:=abm ok rd L [];refine BI rd L _ _ (by omega) hg fun j id hj aN=>?_;rw[b1 j id hj aN,a1 j id hj aN]
 rw[two ids,lK,hS]
 have hSf:∀id∈S,rd id=0:=fun id h=>by
  rw[<- hS]at h;simpa using(zzck.1 h).2
 have bI:∀(L:List Int)(K:List Bool),∀x∈Xb false L K,x∈L:=by
  intro L;induction L with
  |nil=>intro K x hx;simp[Xb]at hx
  |cons y L ih=>
   intro K x hx;cases K with
   |nil=>simp[Xb]at hx
   |cons k K=>
    simp only[Xb]at hx;split at hx
    ·rcases zzat.1 hx with rfl|hx
     ·simp
     exact zzex _ (ih K x hx)
    exact zzex _ (ih K x hx)
 have aN:∀K:List Bool,(Xb false S K).filter (fun id=>decide (rd id=0))=Xb false S K:=fun K=>zzgc.2 fun x hx=>by simp[hSf x (bI S K x hx)]
 have:=two S;rw[aN,aN]at this;exact this.symm
end Go.Proofs.YtnopaopphmjnmaaGreatDoor
