import Derived.Test.YthjppoincojfkaaGreatDoorRBMT
set_option linter.all false
namespace Go.Proofs.YthjppoincojfkaaGreatDoor
open Go Go.Abs
def yM{at_ n t:Int}(hn:1<=n)(ht:at_<=t):∀{l:List Sp},VS l->(∀x,t<=x->x<t+n->Xv l x)->∃s,Gk at_ n l=some s/\s<=t
 |[],_,h=>by
  have:=h t (zzbu _) zE;simp at this
 |a::r,hv,h=>by
  have ha:=hv.1 a zd;have hp:=zzcc.1 hv.2;have hr:VS r:=⟨fun s hs=>hv.1 s (by simp[hs]),hp.2⟩;rw[Gk];by_cases c:max a.1 at_<a.2/\n<=a.2-max a.1 at_
  ·rw[if_pos c];refine⟨_,rfl,?_⟩;have h0:=h t (zzbu _) zE;rw[Xf]at h0;obtain h0|⟨s,hs,h1,h2⟩:=h0
   ·omega
   have:=hp.1 s hs;omega
  rw[if_neg c]
  have ax4:∀x,t<=x->x<t+n->¬(a.1<=x/\x<a.2):=by
   intro x Pe hx2 hx
   have h2:¬Xv (a::r) a.2:=by
    rw[Xf];rintro(h|⟨s,hs,h1,_⟩)
    ·omega
    have:=hp.1 s hs;omega
   have h3:t+n<=a.2:=by
    rcases zzei a.2 (t+n)with h'|h'
    ·exact absurd (h a.2 zE h') h2
    exact h'
   have h4:a.1<=t:=by
    rcases zzei t a.1 with h'|h'
    ·have h5:=h (a.1-1) zE zE;rw[Xf]at h5;obtain h5|⟨s,hs,h6,_⟩:=h5
     ·omega
     have:=hp.1 s hs;omega
    exact h'
   exact c ⟨zE,zE⟩
  refine yM hn ht hr fun x h1 h2=>?_;have h3:=h x h1 h2;rw[Xf]at h3;exact h3.resolve_left (ax4 x h1 h2)
def yN{p:Pl}{it k at_ n t:Int}(hn:1<=n/\n<=1000000)(ht:at_<=t)(hk:k*1000000<=t/\t+n<=(k+2)*1000000)(h:∀x,t<=x->x<t+n->gW p it 0 x):∃s,lP (Zc p it k) at_ n=some s/\s<=t:=by
 rw[lP,if_neg zE];refine yM hn.1 ht (Zw _).1 fun x h1 h2=>?_;rw[(Zw _).2,Qci];exact⟨zE,zE,h x h1 h2⟩
def afH{p:Pl}{it k at_ n s:Int}(hn:1<=n)(h:lP (Zc p it k) at_ n=some s):s+n<=(k+2)*1000000:=by
 rw[lP,if_neg zE]at h;obtain⟨a,ha,h1,h2,h3⟩:=DQ h;have:Xv (Xm (Zc p it k)) (s+n-1):=⟨a,ha,zE,zE⟩;rw[(Zw _).2,Qci]at this;omega
def Bz{p:Pl}{e:En}{last from_ n t:Int}(he:1<=e.fr/\e.fr<=1000000)(h1:from_<=t)(h2:t<=last)(h3:n*1000000<=t)(h:∀x,t<=x->x<t+e.fr->gW p e.it 0 x):∃s,St p e last from_ n=some s/\s<=t:=by
 rw[St,if_pos zE];cases hs:lP (Zc p e.it n) from_ e.fr with
 |none=>
  simp only;refine Bz he h1 h2 ?_ h;rcases zzei t ((n+1)*1000000)with h'|h'
  ·obtain⟨s,dK,_⟩:=yN (p:=p) (it:=e.it) (k:=n) he h1 ⟨h3,zE⟩ h;rw[hs]at dK;cases dK
  exact h'
 |some s=>
  simp only;have bP:=afH he.1 hs
  have bY:s<=t:=by
   rcases zzei ((n+2)*1000000) (t+e.fr)with h'|h'
   ·omega
   obtain⟨s',dK,cm⟩:=yN (p:=p) (it:=e.it) (k:=n) he h1 ⟨h3,h'⟩ h;rw[hs]at dK;cases dK;exact cm
  rw[if_neg zE];exact⟨s,rfl,bY⟩
termination_by(last-n*1000000+1000000).toNat
decreasing_by omega
def DR{p:Pl}{e:En}{from_ t:Int}(he:1<=e.fr/\e.fr<=1000000)(h1:from_<=t)(h0:0<=t)(h2:t<=e.la/\t+e.fr<=p.ln/\t<=100000000)(h:∀x,t<=x->x<t+e.fr->gW p e.it 0 x):∃s,Vr p e from_=some s/\s<=t:=by
 rw[Vr,if_neg zE];refine Bz he zE (by simp only[mB];omega) ?_ h;have hm:0<=max from_ 0:=zE
 rw[zzck hm];omega
def LeU(us' us:List (Int×Int)):Prop:=∀k,(af k us').getD 0<=(af k us).getD 0
def LeE(en' en:List (Int×Int)):Prop:=∀k v',af k en'=some v'->∃v,af k en=some v/\v'<=v
def LeE.refl(en:List (Int×Int)):LeE en en:=fun k v h=>⟨v,h,zzbu _⟩
def LeU.note{us' us:List (Int×Int)}(h:LeU us' us)(it:Int):LeU (Vv us' it) (Vv us it):=fun k=>by
 rw[Vv,Vv,Ja,Ja];have:=h it;split
 ·simp;omega
 exact h k
def LeU.skip{us' us:List (Int×Int)}(h:LeU us' us)(it:Int):LeU us' (Vv us it):=fun k=>by
 rw[Vv,Ja];split
 ·rename_i e;have:=h it;rw[e];simp;omega
 exact h k
def LeE.note{p p':Pl}{en' en:List (Int×Int)}(h:LeE en' en)(it:Int){e' e:Int}(he:e'<=e)(h0:0<=e')(hp:Xg it p'.aM=Xg it p.aM):LeE (Zm p' en' it e') (Zm p en it e):=fun k v' hk=>by
 unfold Zm at hk |-
 rw[hp]at hk;cases hf:Xg it p.aM with
 |none=>rw[hf]at hk;exact h k v' hk
 |some x=>
  rw[hf]at hk;simp only[Ja]at hk |-
  split at hk
  ·rename_i XX;cases hk;refine⟨_,by rw[if_pos XX],?_⟩;cases h1:af x.sp en' with
   |none=>
    cases h2:af x.sp en with
    |none=>simp;omega
    |some v=>simp;omega
   |some v1=>
    obtain⟨v,hv,cm⟩:=h _ _ h1;rw[hv];simp;omega
  rename_i XX;obtain⟨v,hv,cm⟩:=h k v' hk;exact⟨v,by rw[if_neg XX];exact hv,cm⟩
def LeE.skip{p:Pl}{en' en:List (Int×Int)}(h:LeE en' en)(it e:Int):LeE en' (Zm p en it e):=fun k v' hk=>by
 obtain⟨v,hv,cm⟩:=h k v' hk;unfold Zm;cases hf:Xg it p.aM with
 |none=>exact⟨v,hv,cm⟩
 |some x=>
  simp only[Ja];split
  ·rename_i XX;subst XX;exact⟨_,rfl,by rw[hv];simp;omega⟩
  exact⟨v,hv,cm⟩
def yO{en' en:List (Int×Int)}(h:LeE en' en):∀(l:List Sp){f' f:Int},f'<=f->Ua en' l f'<=Ua en l f
 |[],_,_,hf=>hf
 |r::l,f',f,hf=>by
  rw[Ua,Ua];refine yO h l ?_;cases h1:af r.1 en' with
  |none=>
   cases h2:af r.1 en with
   |none=>exact hf
   |some v=>simp only;omega
  |some v1=>
   obtain⟨v,hv,cm⟩:=h _ _ h1;rw[hv];simp only;omega
structure afI (p' p:Pl):Prop where
 aM:p'.aM=p.aM
 ens:p'.ens=p.ens
 ln:p'.ln=p.ln
 runs:∀it,Wt p' it=Wt p it
 riv:∀it,Kk p' it=Kk p it
 perm:∀it x,gW p it 0 x->gW p' it 0 x
def afI.refl(p:Pl):afI p p:=⟨rfl,rfl,rfl,fun _=>rfl,fun _=>rfl,fun _ _ h=>h⟩
inductive BA:List Sp->List Sp->Prop
 |nil (l:List Sp):BA [] l
 |skip {l' l:List Sp} (s:Sp):BA l' l->BA l' (s::l)
 |cons {l' l:List Sp} (id s' s:Int):s'<=s->BA l' l->BA ((id,s')::l') ((id,s)::l)
def RP{p' p:Pl}(hm:afI p' p){afJ ids:Pi}(anb:afJ.Sublist ids):∀{us' us en' en:List (Int×Int)}{free' free last' last:Int}{l:List Sp},LeU us' us->LeE en' en->free'<=free->last'<=last->Ur p ids us en free last=some l->
  ∃l',Ur p' afJ us' en' free' last'=some l'/\BA l' l:=by
 induction anb with
 |slnil=>
  intro us' us en' en free' free last' last l _ _ _ _ h;exact⟨[],rfl,.nil _⟩
 |@cons afJ ids id _ ih=>
  intro us' us en' en free' free last' last l hu he hf hla h;rw[Ur]at h;cases hk:y9 id p.ens 0 with
  |none=>rw[hk]at h;cases h
  |some k=>
   rw[hk]at h;simp only at h;split at h
   ·cases h
   rename_i sj;cases hx:p.ens[k]? with
   |none=>rw[hx]at h;cases h
   |some e=>
    rw[hx]at h;simp only at h;split at h
    ·cases h
    cases hs:Vr p e (Ua en (Kk p e.it) (max e.ea free))with
    |none=>rw[hs]at h;cases h
    |some s=>
     rw[hs]at h;simp only at h;cases hg:Ur p ids (Vv us e.it) (Zm p en e.it (s+e.fr)) (s+e.fr) k with
     |none=>rw[hg]at h;cases h
     |some r=>
      rw[hg]at h;cases h;obtain⟨a1,a2,_⟩:=Jy hs;have fB:=yP en (Kk p e.it) (max e.ea free);obtain⟨l',h1,h2⟩:=ih (hu.skip e.it) (he.skip e.it (s+e.fr)) (free':=free') zE (last':=last') zE hg;exact⟨l',h1,.skip _ h2⟩
 |@cons_cons afJ ids id _ ih=>
  intro us' us en' en free' free last' last l hu he hf hla h;rw[Ur]at h;rw[Ur,hm.ens];cases hk:y9 id p.ens 0 with
  |none=>rw[hk]at h;cases h
  |some k=>
   rw[hk]at h;simp only at h |-
   split at h
   ·cases h
   rename_i sj;rw[if_neg zE];cases hx:p.ens[k]? with
   |none=>rw[hx]at h;cases h
   |some e=>
    rw[hx]at h;simp only at h |-
    split at h
    ·cases h
    rename_i hr;have hue:=hu e.it;rw[hm.runs,hm.riv,if_neg (by intro hh;exact hr ⟨hh.1,zE⟩)];cases hs:Vr p e (Ua en (Kk p e.it) (max e.ea free))with
    |none=>rw[hs]at h;cases h
    |some s=>
     rw[hs]at h;simp only at h;cases hg:Ur p ids (Vv us e.it) (Zm p en e.it (s+e.fr)) (s+e.fr) k with
     |none=>rw[hg]at h;cases h
     |some r=>
      rw[hg]at h;cases h;obtain⟨a1,a2,a3,a4,a5,a6,a7⟩:=Jy hs;have hfm:=yO he (Kk p e.it) (show max e.ea free'<=max e.ea free by omega);obtain⟨s',dK,cm⟩:=DR (p:=p') (from_:=Ua en' (Kk p e.it) (max e.ea free')) a1 zE a3 ⟨a4,by rw[hm.ln];exact a5,a6⟩ (fun x h1 h2=>hm.perm _ _ (a7 x h1 h2));have cM:=Jy dK;rw[dK];simp only;obtain⟨l',h1,h2⟩:=ih (hu.note e.it) (he.note e.it (e':=s'+e.fr) (e:=s+e.fr) zE zE (by rw[hm.aM])) (free':=s'+e.fr) zE (last':=(k:Int)) (zzbu _) hg;rw[h1];exact⟨_,rfl,.cons id s' s cm h2⟩
open Go Go.Abs
def aay(ok:Pi->Bool):Prop:=∀a b:Pi,a.Sublist b->ok b=true->ok a=true
def HD(b:Bd):aay (oq b):=fun a c hs h=>by
 unfold oq at h |-
 obtain⟨l,hl⟩:=zzcd.1 h;obtain⟨l',h1,_⟩:=RP (afI.refl b.p) hs (us':=b.us) (en':=b.en) (free':=b.at_) (last':= -1) (fun _=>zzbu _) (LeE.refl _) (zzbu _) (zzbu _) hl;rw[h1];rfl
theorem OE(b:Bd):oq b []=true:=rfl
open Go Go.Abs
def Xe(w:Bool):Pi->List Bool->Pi
 |id::r,k::ks=>if(k==w)=true then id::Xe w r ks else Xe w r ks
 |_,_=>[]
def Jw(ok:Pi->Bool)(rd:Int->Nat)(ids:Pi)(r:Nat)(K:List Bool)(i:Nat):List Bool:=match ids[i]? with
 |some id=>if rd id=r then K.set i (ok (Xe true ids (K.set i true)))else K
 |none=>K
def Jc(ok:Pi->Bool)(rd:Int->Nat)(ids:Pi)(r:Nat)(K:List Bool):List Bool:=(List.range ids.length).foldl (Jw ok rd ids r) K
def Jp(ok:Pi->Bool)(rd:Int->Nat)(ids:Pi):List Bool:=Jc ok rd ids 2 (Jc ok rd ids 1 (Jc ok rd ids 0 (List.replicate ids.length false)))
def DS(K K':List Bool):Prop:=∀j,K.getD j false=true->K'.getD j false=true
def DS.refl(K:List Bool):DS K K:=fun _ h=>h
def DS.trans{K K' K'':List Bool}(h:DS K K')(k:DS K' K''):DS K K'':=fun j hj=>k j (h j hj)
def kj(K:List Bool)(i j:Nat)(b:Bool):(K.set i b).getD j false=if i=j/\i<K.length then b else K.getD j false:=by
 simp only[zzav,zzgi];by_cases h:i=j
 ·subst h;by_cases h2:i<K.length
  ·simp[h2]
  have:K[i]?=none:=zzar zE;simp[h2]
 simp[h]
def DS.set{K K':List Bool}(h:DS K K')(hl:K.length=K'.length)(i:Nat):DS (K.set i true) (K'.set i true):=fun j hj=>by
 rw[kj]at hj |-
 split at hj
 ·rename_i hc;rw[if_pos ⟨hc.1,zE⟩]
 rename_i hc;rw[if_neg (by rw[<- hl];exact hc)];exact h j hj
def DS.aaz(K:List Bool)(i:Nat):DS K (K.set i true):=fun j hj=>by
 rw[kj];split
 ·rfl
 exact hj
def BB:∀(ids:Pi){K K':List Bool},K.length=K'.length->DS K K'->(Xe true ids K).Sublist (Xe true ids K')
 |[],_,_,_,_=>by simp[Xe]
 |id::r,[],[],_,_=>by simp[Xe]
 |id::r,[],_::_,h,_=>by simp at h
 |id::r,_::_,[],h,_=>by simp at h
 |id::r,k::ks,k'::ks',hl,h=>by
  have ih:=BB r (K:=ks) (K':=ks') (Nm hl) (fun j hj=>by simpa using h (j+1) (Nm hj));have h0:=h 0;simp at h0;cases k with
  |false=>
   cases k' with
   |false=>simpa[Xe]using ih
   |true=>simpa[Xe]using ih.cons id
  |true=>
   rw[h0 rfl];simpa[Xe]using ih.cons_cons id
def RQ(ok:Pi->Bool)(rd:Int->Nat)(ids:Pi)(r:Nat)(K:List Bool)(i:Nat):(Jw ok rd ids r K i).length=K.length:=by
 unfold Jw;split
 ·split<;>simp
 rfl
structure ChI (ok:Pi->Bool) (rd:Int->Nat) (ids:Pi) (r i:Nat) (K:List Bool):Prop where
 len:K.length=ids.length
 kok:ok (Xe true ids K)=true
 todo:∀(j:Nat)(id:Int),ids[j]?=some id->(r<rd id\/rd id=r/\i<=j)->K.getD j false=false
 done:∀(j:Nat)(id:Int),ids[j]?=some id->(rd id<r\/rd id=r/\j<i)->K.getD j false=true\/ok (Xe true ids (K.set j true))=false
def ChI.step{ok:Pi->Bool}(hm:aay ok){rd:Int->Nat}{ids:Pi}{r i:Nat}{K:List Bool}(h:ChI ok rd ids r i K)(hi:i<ids.length):ChI ok rd ids r (i+1) (Jw ok rd ids r K i)/\DS K (Jw ok rd ids r K i):=by
 obtain⟨id,aL⟩:=aV hi;unfold Jw;rw[aL];simp only;by_cases hr:rd id=r
 ·rw[if_pos hr];have hf:=h.todo i id aL (.inr ⟨hr,zzab _⟩)
  have VC:K.set i false=K:=by
   apply zzey zd;intro n h1 h2;rw[List.getElem_set];split
   ·rename_i e;subst e;rw[zzav,zzaf h2]at hf;exact hf.symm
   rfl
  cases bU:ok (Xe true ids (K.set i true))with
  |false=>
   rw[VC];refine⟨⟨h.len,h.kok,fun j x hj hc=>h.todo j x hj zE,fun j x hj hc=>?_⟩,DS.refl K⟩;rcases zzaa j i with ai|bn
   ·exact h.done j x hj zE
   obtain hc|hc:=hc
   ·exact h.done j x hj (.inl hc)
   obtain rfl:j=i:=zE
   exact .inr bU
  |true=>
   have cm:=DS.aaz K i;refine⟨⟨by simp[h.len],bU,fun j x hj hc=>?_,fun j x hj hc=>?_⟩,cm⟩
   ·rw[kj,if_neg (by rintro⟨e,_⟩;subst e;rw[aL]at hj;cases hj;omega)];exact h.todo j x hj zE
   rcases Nat.decEq j i with aN|rfl
   ·have hd:=h.done j x hj zE;obtain hd|hd:=hd
    ·exact .inl (cm j hd)
    right;have hs:=BB ids (K:=K.set j true) (K':=(K.set i true).set j true) zd (cm.set zd j);cases hb:ok (Xe true ids ((K.set i true).set j true))with
    |false=>rfl
    |true=>rw[hm _ _ hs hb]at hd;cases hd
   left;rw[kj,if_pos ⟨rfl,by rw[h.len];exact hi⟩]
 rw[if_neg hr];refine⟨⟨h.len,h.kok,fun j x hj hc=>h.todo j x hj zE,fun j x hj hc=>h.done j x hj ?_⟩,DS.refl K⟩;obtain hc|hc:=hc
 ·exact .inl hc
 have:j≠i:=by rintro rfl;rw[aL]at hj;cases hj;exact hr hc.1
 exact .inr ⟨hc.1,zE⟩
def ChI.round{ok:Pi->Bool}(hm:aay ok){rd:Int->Nat}{ids:Pi}{r:Nat}{K:List Bool}(h:ChI ok rd ids r 0 K):ChI ok rd ids (r+1) 0 (Jc ok rd ids r K)/\DS K (Jc ok rd ids r K):=by
 have key:∀n,n<=ids.length->ChI ok rd ids r n ((List.range n).foldl (Jw ok rd ids r) K)/\DS K ((List.range n).foldl (Jw ok rd ids r) K):=by
  intro n;induction n with
  |zero=>intro _;exact⟨h,DS.refl K⟩
  |succ n ih=>
   intro hn;obtain⟨h1,h2⟩:=ih zE;obtain⟨g1,g2⟩:=h1.step hm zE;rw[zzfe,zzgj];exact⟨g1,h2.trans g2⟩
 obtain⟨h1,h2⟩:=key ids.length (zzab _);refine⟨⟨h1.len,h1.kok,fun j x hj hc=>h1.todo j x hj zE,fun j x hj hc=>h1.done j x hj ?_⟩,h2⟩;have:=(zza.1 hj).1;omega
def yQ(ids:Pi)(n:Nat):Xe true ids (List.replicate n false)=[]:=by
 induction ids generalizing n with
 |nil=>simp[Xe]
 |cons x r ih=>
  cases n with
  |zero=>simp[Xe]
  |succ n=>rw[zzfz,Xe];simpa using ih n
def choose_spec{ok:Pi->Bool}(hm:aay ok)(h0:ok []=true)(rd:Int->Nat)(ids:Pi)(iE:∀id∈ids,rd id<=2):
  (Jp ok rd ids).length=ids.length/\ok (Xe true ids (Jp ok rd ids))=true/\∀(j:Nat)(id:Int),ids[j]?=some id->(Jp ok rd ids).getD j false=true\/ok (Xe true ids ((Jp ok rd ids).set j true))=false:=by
 have hi:ChI ok rd ids 0 0 (List.replicate ids.length false):=⟨zd,by rw[yQ];exact h0,fun j id hj _=>by
  rw[zzav,zzcl];split<;>rfl,fun j id hj hc=>zE⟩
 have h1:=(hi.round hm).1;have h2:=(h1.round hm).1;have h3:=(h2.round hm).1;refine⟨h3.len,h3.kok,fun j id hj=>h3.done j id hj (.inl ?_)⟩;have:=iE id (zzad hj);omega
open Go Go.Abs
open Go Go.Abs
def atO(it:Int)(bf:List (Int×Int)):Int:=((bf.filter fun a=>decide (a.1=it)).length:Nat)
structure ay0 (p:Pl) (bf us en:List (Int×Int)):Prop where
 us:∀it,(af it us).getD 0<=atO it bf
 en:∀k v,af k en=some v->∃a∈bf,∃x,Xg a.1 p.aM=some x/\x.sp=k/\v<=a.2
structure ay1 (p:Pl) (bf us en:List (Int×Int)):Prop where
 us:∀it,atO it bf<=(af it us).getD 0
 en:∀a∈bf,∀x,Xg a.1 p.aM=some x->∃v,af x.sp en=some v/\a.2<=v
open Go Go.Abs
def ayG(p:Pl)(c:Cl):Pl:={p with cls:=p.cls++[c]}
open Go Go.Abs
def g0(ok:Pi->Bool)(rd:Int->Nat):Pi->Pi->List Bool
 |[],_=>[]
 |id::r,ij=>if rd id=0 then ok (ij++[id])::g0 ok rd r (if ok (ij++[id])=true then ij++[id]else ij)else false::g0 ok rd r ij
def aaA(ok:Pi->Bool)(rd:Int->Nat):∀(l ij:Pi),(g0 ok rd l ij).length=l.length
 |[],_=>rfl
 |id::r,ij=>by rw[g0];split<;>simp[aaA ok rd r]
def ko(w:Bool):∀(a:Pi)(K:List Bool)(b:Pi)(L:List Bool),a.length=K.length->Xe w (a++b) (K++L)=Xe w a K++Xe w b L
 |[],[],_,_,_=>rfl
 |[],_::_,_,_,h=>by simp at h
 |_::_,[],_,_,h=>by simp at h
 |x::a,k::K,b,L,h=>by
  simp only[zzae,Xe];rw[ko w a K b L (Nm h)];split<;>simp
def yR(ok:Pi->Bool)(rd:Int->Nat):∀(b a:Pi)(K:List Bool),a.length=K.length->((List.range' a.length b.length).foldl (Jw ok rd (a++b) 0) (K++List.replicate b.length false))=K++g0 ok rd b (Xe true a K)
 |[],a,K,h=>by simp[g0]
 |id::b,a,K,h=>by
  rw[zzbg,zzgq,zzcx];have aL:(a++id::b)[a.length]?=some id:=zd
  have hK:a.length<(K++List.replicate (b.length+1) false).length:=by simp;omega
  have bR:∀x,(K++List.replicate (b.length+1) false).set a.length x=(K++[x])++List.replicate b.length false:=fun x=>by
   rw[zzdd _ _ zE,h,zzfp,zzfz];simp
  have hab:a++id::b=(a++[id])++b:=zd
  have ax5:Xe true (a++id::b) ((K++[true])++List.replicate b.length false)=Xe true a K++[id]:=by
   rw[hab,ko true (a++[id]) (K++[true]) b _ (by simp[h]),ko true a K [id] [true] h,yQ];simp[Xe]
  have aH:∀x:Bool,(a++[id]).length=(K++[x]).length:=fun x=>by simp[h]
  have gM:a.length+1=(a++[id]).length:=zd
  unfold Jw;rw[aL];simp only;by_cases hr:rd id=0
  ·rw[if_pos hr,bR true,ax5,bR,g0,if_pos hr];have ih:=yR ok rd b (a++[id]) (K++[ok (Xe true a K++[id])]) (aH _);rw[<- hab,<- gM]at ih;rw[show(List.foldl (fun K i=>Jw ok rd (a++id::b) 0 K i))=List.foldl (Jw ok rd (a++id::b) 0)from rfl]at*
   refine ih.trans ?_;rw[ko true a K [id] _ h];cases hb:ok (Xe true a K++[id])<;>simp[Xe]
  rw[if_neg hr,g0,if_neg hr];have ih:=yR ok rd b (a++[id]) (K++[false]) (aH _);rw[<- hab,<- gM]at ih;have e:K++List.replicate (b.length+1) false=(K++[false])++List.replicate b.length false:=by rw[zzfz];simp
  rw[e];refine ih.trans ?_;rw[ko true a K [id] _ h];simp[Xe]
def RR(ok:Pi->Bool)(rd:Int->Nat)(ids:Pi):Jc ok rd ids 0 (List.replicate ids.length false)=g0 ok rd ids []:=by
 have:=yR ok rd ids [] [] rfl;simp only[zzcn,zzai,Xe]at this;rw[Jc,zzfo];exact this
def lz(ok:Pi->Bool)(rd:Int->Nat):∀(ids ij:Pi),(Xe false ids (g0 ok rd ids ij)).filter (fun id=>decide (rd id=0))=Xe false (ids.filter fun id=>decide (rd id=0)) (g0 ok rd (ids.filter fun id=>decide (rd id=0)) ij)
 |[],ij=>rfl
 |id::r,ij=>by
  by_cases h:rd id=0
  ·rw[zzdi (by simp[h]),g0,g0,if_pos h,if_pos h];cases hb:ok (ij++[id])with
   |true=>simpa[Xe]using lz ok rd r (ij++[id])
   |false=>
    simp only[Xe,zzbh,if_false,beq_self_eq_true,if_true];rw[zzdi (by simp[h]),lz ok rd r ij]
  rw[zzfj (by simp[h]),g0,if_neg h];simp only[Xe,beq_self_eq_true,if_true];rw[zzfj (by simp[h]),lz ok rd r ij]
def aaB(rd:Int->Nat)(ids:Pi)(K K':List Bool):Prop:=∀(j:Nat)(id:Int),ids[j]?=some id->rd id=0->K.getD j false=K'.getD j false
def BC(rd:Int->Nat):∀(ids:Pi)(K K':List Bool),K.length=ids.length->K'.length=ids.length->aaB rd ids K K'->(Xe false ids K).filter (fun id=>decide (rd id=0))=(Xe false ids K').filter (fun id=>decide (rd id=0))
 |[],K,K',_,_,_=>by simp[Xe]
 |id::r,[],_,h,_,_=>by simp at h
 |id::r,_::_,[],_,h,_=>by simp at h
 |id::r,k::K,k'::K',h1,h2,h=>by
  have ih:=BC rd r K K' (Nm h1) (Nm h2) fun j x hj hx=>by simpa using h (j+1) x (Nm hj) hx
  by_cases hr:rd id=0
  ·have h0:=h 0 id rfl hr;simp at h0;subst h0;simp only[Xe];split
   ·rw[zzdi (by simp[hr]),zzdi (by simp[hr]),ih]
   exact ih
  simp only[Xe]
  have e:∀(b:Bool)(l:Pi),(if(b==false)=true then id::l else l).filter (fun id=>decide (rd id=0))=l.filter fun id=>decide (rd id=0):=fun b l=>by
   split
   ·rw[zzfj (by simp[hr])]
   rfl
  rw[e,e,ih]
def tf(ok:Pi->Bool)(rd:Int->Nat)(ids:Pi)(r:Nat)(hr:r≠0)(K:List Bool):aaB rd ids (Jc ok rd ids r K) K/\(Jc ok rd ids r K).length=K.length:=by
 have key:∀(L:Pa)(K:List Bool),aaB rd ids (L.foldl (Jw ok rd ids r) K) K/\(L.foldl (Jw ok rd ids r) K).length=K.length:=by
  intro L;induction L with
  |nil=>intro K;exact⟨fun _ _ _ _=>rfl,rfl⟩
  |cons i L ih=>
   intro K;obtain⟨h1,h2⟩:=ih (Jw ok rd ids r K i);refine⟨fun j id hj aL=>?_,by rw[zzcx,h2,RQ]⟩;rw[zzcx,h1 j id hj aL];unfold Jw;cases hi:ids[i]? with
   |none=>rfl
   |some x=>
    simp only;split
    ·rename_i hx;rw[kj,if_neg (by rintro⟨e,_⟩;subst e;rw[hi]at hj;cases hj;omega)]
    rfl
 exact key _ K
def ax6(ok:Pi->Bool)(rd:Int->Nat)(ids:Pi):(Xe false ids (Jp ok rd ids)).filter (fun id=>decide (rd id=0))=Xe false (ids.filter fun id=>decide (rd id=0)) (Jp ok rd (ids.filter fun id=>decide (rd id=0))):=by
 obtain⟨S,hS⟩:∃S,(ids.filter fun id=>decide (rd id=0))=S:=⟨_,rfl⟩;have bC:∀(L:Pi),Jp ok rd L=Jc ok rd L 2 (Jc ok rd L 1 (g0 ok rd L [])):=fun L=>by rw[Jp,RR]
 have two:∀(L:Pi),(Xe false L (Jp ok rd L)).filter (fun id=>decide (rd id=0))=(Xe false L (g0 ok rd L [])).filter (fun id=>decide (rd id=0)):=fun L=>by
  rw[bC];obtain⟨a1,a2⟩:=tf ok rd L 1 zE (g0 ok rd L []);obtain⟨b1,b2⟩:=tf ok rd L 2 zE (Jc ok rd L 1 (g0 ok rd L []));have hg:=aaA ok rd L [];refine BC rd L _ _ zE hg fun j id hj aL=>?_;rw[b1 j id hj aL,a1 j id hj aL]
 rw[two ids,lz,hS]
 have hSf:∀id∈S,rd id=0:=fun id h=>by
  rw[<- hS]at h;simpa using(zzbz.1 h).2
 have bP:∀(L:Pi)(K:List Bool),∀x∈Xe false L K,x∈L:=by
  intro L;induction L with
  |nil=>intro K x hx;simp[Xe]at hx
  |cons y L ih=>
   intro K x hx;cases K with
   |nil=>simp[Xe]at hx
   |cons k K=>
    simp only[Xe]at hx;split at hx
    ·rcases zzaq.1 hx with rfl|hx
     ·simp
     exact zzdh _ (ih K x hx)
    exact zzdh _ (ih K x hx)
 have aL:∀K:List Bool,(Xe false S K).filter (fun id=>decide (rd id=0))=Xe false S K:=fun K=>zzfw.2 fun x hx=>by simp[hSf x (bP S K x hx)]
 have:=two S;rw[aL,aL]at this;exact this.symm
