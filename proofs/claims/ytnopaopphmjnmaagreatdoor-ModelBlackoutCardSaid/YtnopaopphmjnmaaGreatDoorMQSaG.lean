import Derived.Test.YtnopaopphmjnmaaGreatDoorMQMT
set_option linter.all false
namespace Go.Proofs.YtnopaopphmjnmaaGreatDoor
open Go Go.Abs
def za{at_ n t:Int}(hn:1<=n)(ht:at_<=t):∀{l:List Sp},VS l->(∀x,t<=x->x<t+n->Xx l x)->∃s,G6 at_ n l=some s/\s<=t
 |[],_,h=>by
  have:=h t (zzbq _) zE;simp at this
 |a::r,hv,h=>by
  have ha:=hv.1 a zd;have hp:=zzch.1 hv.2;have hr:VS r:=⟨fun s hs=>hv.1 s (by simp[hs]),hp.2⟩;rw[G6];by_cases c:max a.1 at_<a.2/\n<=a.2-max a.1 at_
  ·rw[if_pos c];refine⟨_,rfl,?_⟩;have h0:=h t (zzbq _) zE;rw[Xf]at h0;obtain h0|⟨s,hs,h1,h2⟩:=h0
   ·omega
   have:=hp.1 s hs;omega
  rw[if_neg c]
  have azd:∀x,t<=x->x<t+n->¬(a.1<=x/\x<a.2):=by
   intro x Q9 hx2 hx
   have h2:¬Xx (a::r) a.2:=by
    rw[Xf];rintro(h|⟨s,hs,h1,_⟩)
    ·omega
    have:=hp.1 s hs;omega
   have h3:t+n<=a.2:=by
    rcases zzfp a.2 (t+n)with h'|h'
    ·exact absurd (h a.2 zE h') h2
    exact h'
   have h4:a.1<=t:=by
    rcases zzfp t a.1 with h'|h'
    ·have h5:=h (a.1-1) zE zE;rw[Xf]at h5;obtain h5|⟨s,hs,h6,_⟩:=h5
     ·omega
     have:=hp.1 s hs;omega
    exact h'
   exact c ⟨zE,zE⟩
  refine za hn ht hr fun x h1 h2=>?_;have h3:=h x h1 h2;rw[Xf]at h3;exact h3.resolve_left (azd x h1 h2)
def zb{p:Pl}{it k at_ n t:Int}(hn:1<=n/\n<=1000000)(ht:at_<=t)(hk:k*1000000<=t/\t+n<=(k+2)*1000000)(h:∀x,t<=x->x<t+n->ic p it 0 x):∃s,me (Zc p it k) at_ n=some s/\s<=t:=by
 rw[me,if_neg zE];refine za hn.1 ht (Va _).1 fun x h1 h2=>?_;rw[(Va _).2,Qck];exact⟨zE,zE,h x h1 h2⟩
def ahG{p:Pl}{it k at_ n s:Int}(hn:1<=n)(h:me (Zc p it k) at_ n=some s):s+n<=(k+2)*1000000:=by
 rw[me,if_neg zE]at h;obtain⟨a,ha,h1,h2,h3⟩:=DN h;have:Xx (Xn (Zc p it k)) (s+n-1):=⟨a,ha,zE,zE⟩;rw[(Va _).2,Qck]at this;omega
def Cc{p:Pl}{e:En}{last from_ n t:Int}(he:1<=e.fr/\e.fr<=1000000)(h1:from_<=t)(h2:t<=last)(h3:n*1000000<=t)(h:∀x,t<=x->x<t+e.fr->ic p e.it 0 x):∃s,UB p e last from_ n=some s/\s<=t:=by
 rw[UB,if_pos zE];cases hs:me (Zc p e.it n) from_ e.fr with
 |none=>
  simp only;refine Cc he h1 h2 ?_ h;rcases zzfp t ((n+1)*1000000)with h'|h'
  ·obtain⟨s,iQ,_⟩:=zb (p:=p) (it:=e.it) (k:=n) he h1 ⟨h3,zE⟩ h;rw[hs]at iQ;cases iQ
  exact h'
 |some s=>
  simp only;have bL:=ahG he.1 hs
  have ct:s<=t:=by
   rcases zzfp ((n+2)*1000000) (t+e.fr)with h'|h'
   ·omega
   obtain⟨s',iQ,cw⟩:=zb (p:=p) (it:=e.it) (k:=n) he h1 ⟨h3,h'⟩ h;rw[hs]at iQ;cases iQ;exact cw
  rw[if_neg zE];exact⟨s,rfl,ct⟩
termination_by(last-n*1000000+1000000).toNat
decreasing_by omega
def Ex{p:Pl}{e:En}{from_ t:Int}(he:1<=e.fr/\e.fr<=1000000)(h1:from_<=t)(h0:0<=t)(h2:t<=e.la/\t+e.fr<=p.ln/\t<=100000000)(h:∀x,t<=x->x<t+e.fr->ic p e.it 0 x):∃s,Yi p e from_=some s/\s<=t:=by
 rw[Yi,if_neg zE];refine Cc he zE (by simp only[mX];omega) ?_ h;have hm:0<=max from_ 0:=zE
 rw[zzco hm];omega
def LeU(us' us:List (Int×Int)):Prop:=∀k,(af k us').getD 0<=(af k us).getD 0
def LeE(en' en:List (Int×Int)):Prop:=∀k v',af k en'=some v'->∃v,af k en=some v/\v'<=v
def LeE.refl(en:List (Int×Int)):LeE en en:=fun k v h=>⟨v,h,zzbq _⟩
def LeU.note{us' us:List (Int×Int)}(h:LeU us' us)(it:Int):LeU (Vu us' it) (Vu us it):=fun k=>by
 rw[Vu,Vu,Yf,Yf];have:=h it;split
 ·simp;omega
 exact h k
def LeU.skip{us' us:List (Int×Int)}(h:LeU us' us)(it:Int):LeU us' (Vu us it):=fun k=>by
 rw[Vu,Yf];split
 ·rename_i e;have:=h it;rw[e];simp;omega
 exact h k
def LeE.note{p p':Pl}{en' en:List (Int×Int)}(h:LeE en' en)(it:Int){e' e:Int}(he:e'<=e)(h0:0<=e')(hp:Xh it p'.aN=Xh it p.aN):LeE (Zt p' en' it e') (Zt p en it e):=fun k v' hk=>by
 unfold Zt at hk |-
 rw[hp]at hk;cases hf:Xh it p.aN with
 |none=>rw[hf]at hk;exact h k v' hk
 |some x=>
  rw[hf]at hk;simp only[Yf]at hk |-
  split at hk
  ·rename_i Z2;cases hk;refine⟨_,by rw[if_pos Z2],?_⟩;cases h1:af x.sp en' with
   |none=>
    cases h2:af x.sp en with
    |none=>simp;omega
    |some v=>simp;omega
   |some v1=>
    obtain⟨v,hv,cw⟩:=h _ _ h1;rw[hv];simp;omega
  rename_i Z2;obtain⟨v,hv,cw⟩:=h k v' hk;exact⟨v,by rw[if_neg Z2];exact hv,cw⟩
def LeE.skip{p:Pl}{en' en:List (Int×Int)}(h:LeE en' en)(it e:Int):LeE en' (Zt p en it e):=fun k v' hk=>by
 obtain⟨v,hv,cw⟩:=h k v' hk;unfold Zt;cases hf:Xh it p.aN with
 |none=>exact⟨v,hv,cw⟩
 |some x=>
  simp only[Yf];split
  ·rename_i Z2;subst Z2;exact⟨_,rfl,by rw[hv];simp;omega⟩
  exact⟨v,hv,cw⟩
def ze{en' en:List (Int×Int)}(h:LeE en' en):∀(l:List Sp){f' f:Int},f'<=f->Um en' l f'<=Um en l f
 |[],_,_,hf=>hf
 |r::l,f',f,hf=>by
  rw[Um,Um];refine ze h l ?_;cases h1:af r.1 en' with
  |none=>
   cases h2:af r.1 en with
   |none=>exact hf
   |some v=>simp only;omega
  |some v1=>
   obtain⟨v,hv,cw⟩:=h _ _ h1;rw[hv];simp only;omega
structure ahH (p' p:Pl):Prop where
 aN:p'.aN=p.aN
 ens:p'.ens=p.ens
 ln:p'.ln=p.ln
 runs:∀it,Wy p' it=Wy p it
 riv:∀it,Wh p' it=Wh p it
 perm:∀it x,ic p it 0 x->ic p' it 0 x
def ahH.refl(p:Pl):ahH p p:=⟨rfl,rfl,rfl,fun _=>rfl,fun _=>rfl,fun _ _ h=>h⟩
inductive Cd:List Sp->List Sp->Prop
 |nil (l:List Sp):Cd [] l
 |skip {l' l:List Sp} (s:Sp):Cd l' l->Cd l' (s::l)
 |cons {l' l:List Sp} (id s' s:Int):s'<=s->Cd l' l->Cd ((id,s')::l') ((id,s)::l)
def TK{p' p:Pl}(hm:ahH p' p){ahI ids:List Int}(aoX:ahI.Sublist ids):∀{us' us en' en:List (Int×Int)}{free' free last' last:Int}{l:List Sp},LeU us' us->LeE en' en->free'<=free->last'<=last->Jq p ids us en free last=some l->
  ∃l',Jq p' ahI us' en' free' last'=some l'/\Cd l' l:=by
 induction aoX with
 |slnil=>
  intro us' us en' en free' free last' last l _ _ _ _ h;exact⟨[],rfl,.nil _⟩
 |@cons ahI ids id _ ih=>
  intro us' us en' en free' free last' last l hu he hf hla h;rw[Jq]at h;cases hk:Ah id p.ens 0 with
  |none=>rw[hk]at h;cases h
  |some k=>
   rw[hk]at h;simp only at h;split at h
   ·cases h
   rename_i sI;cases hx:p.ens[k]? with
   |none=>rw[hx]at h;cases h
   |some e=>
    rw[hx]at h;simp only at h;split at h
    ·cases h
    cases hs:Yi p e (Um en (Wh p e.it) (max e.ea free))with
    |none=>rw[hs]at h;cases h
    |some s=>
     rw[hs]at h;simp only at h;cases hg:Jq p ids (Vu us e.it) (Zt p en e.it (s+e.fr)) (s+e.fr) k with
     |none=>rw[hg]at h;cases h
     |some r=>
      rw[hg]at h;cases h;obtain⟨a1,a2,_⟩:=Qbh hs;have eG:=G7 en (Wh p e.it) (max e.ea free);obtain⟨l',h1,h2⟩:=ih (hu.skip e.it) (he.skip e.it (s+e.fr)) (free':=free') zE (last':=last') zE hg;exact⟨l',h1,.skip _ h2⟩
 |@cons_cons ahI ids id _ ih=>
  intro us' us en' en free' free last' last l hu he hf hla h;rw[Jq]at h;rw[Jq,hm.ens];cases hk:Ah id p.ens 0 with
  |none=>rw[hk]at h;cases h
  |some k=>
   rw[hk]at h;simp only at h |-
   split at h
   ·cases h
   rename_i sI;rw[if_neg zE];cases hx:p.ens[k]? with
   |none=>rw[hx]at h;cases h
   |some e=>
    rw[hx]at h;simp only at h |-
    split at h
    ·cases h
    rename_i hr;have hue:=hu e.it;rw[hm.runs,hm.riv,if_neg (by intro hh;exact hr ⟨hh.1,zE⟩)];cases hs:Yi p e (Um en (Wh p e.it) (max e.ea free))with
    |none=>rw[hs]at h;cases h
    |some s=>
     rw[hs]at h;simp only at h;cases hg:Jq p ids (Vu us e.it) (Zt p en e.it (s+e.fr)) (s+e.fr) k with
     |none=>rw[hg]at h;cases h
     |some r=>
      rw[hg]at h;cases h;obtain⟨a1,a2,a3,a4,a5,a6,a7⟩:=Qbh hs;have hfm:=ze he (Wh p e.it) (show max e.ea free'<=max e.ea free by omega);obtain⟨s',iQ,cw⟩:=Ex (p:=p') (from_:=Um en' (Wh p e.it) (max e.ea free')) a1 zE a3 ⟨a4,by rw[hm.ln];exact a5,a6⟩ (fun x h1 h2=>hm.perm _ _ (a7 x h1 h2));have cO:=Qbh iQ;rw[iQ];simp only;obtain⟨l',h1,h2⟩:=ih (hu.note e.it) (he.note e.it (e':=s'+e.fr) (e:=s+e.fr) zE zE (by rw[hm.aN])) (free':=s'+e.fr) zE (last':=(k:Int)) (zzbq _) hg;rw[h1];exact⟨_,rfl,.cons id s' s cw h2⟩
open Go Go.Abs
def ab3(ok:List Int->Bool):Prop:=∀a b:List Int,a.Sublist b->ok b=true->ok a=true
def IU(b:Bd):ab3 (oH b):=fun a c hs h=>by
 unfold oH at h |-
 obtain⟨l,hl⟩:=zzci.1 h;obtain⟨l',h1,_⟩:=TK (ahH.refl b.p) hs (us':=b.us) (en':=b.en) (free':=b.at_) (last':= -1) (fun _=>zzbq _) (LeE.refl _) (zzbq _) (zzbq _) hl;rw[h1];rfl
theorem QE(b:Bd):oH b []=true:=rfl
open Go Go.Abs
def Xe(w:Bool):List Int->List Bool->List Int
 |id::r,k::ks=>if(k==w)=true then id::Xe w r ks else Xe w r ks
 |_,_=>[]
def Kc(ok:List Int->Bool)(rd:Int->Nat)(ids:List Int)(r:Nat)(K:List Bool)(i:Nat):List Bool:=match ids[i]? with
 |some id=>if rd id=r then K.set i (ok (Xe true ids (K.set i true)))else K
 |none=>K
def Ji(ok:List Int->Bool)(rd:Int->Nat)(ids:List Int)(r:Nat)(K:List Bool):List Bool:=(List.range ids.length).foldl (Kc ok rd ids r) K
def Jt(ok:List Int->Bool)(rd:Int->Nat)(ids:List Int):List Bool:=Ji ok rd ids 2 (Ji ok rd ids 1 (Ji ok rd ids 0 (List.replicate ids.length false)))
def Ey(K K':List Bool):Prop:=∀j,K.getD j false=true->K'.getD j false=true
def Ey.refl(K:List Bool):Ey K K:=fun _ h=>h
def Ey.trans{K K' K'':List Bool}(h:Ey K K')(k:Ey K' K''):Ey K K'':=fun j hj=>k j (h j hj)
def kR(K:List Bool)(i j:Nat)(b:Bool):(K.set i b).getD j false=if i=j/\i<K.length then b else K.getD j false:=by
 simp only[zzar,zzcy];by_cases h:i=j
 ·subst h;by_cases h2:i<K.length
  ·simp[h2]
  have:K[i]?=none:=zzaw zE;simp[h2]
 simp[h]
def Ey.set{K K':List Bool}(h:Ey K K')(hl:K.length=K'.length)(i:Nat):Ey (K.set i true) (K'.set i true):=fun j hj=>by
 rw[kR]at hj |-
 split at hj
 ·rename_i hc;rw[if_pos ⟨hc.1,zE⟩]
 rename_i hc;rw[if_neg (by rw[<- hl];exact hc)];exact h j hj
def Ey.ab4(K:List Bool)(i:Nat):Ey K (K.set i true):=fun j hj=>by
 rw[kR];split
 ·rfl
 exact hj
def Ce:∀(ids:List Int){K K':List Bool},K.length=K'.length->Ey K K'->(Xe true ids K).Sublist (Xe true ids K')
 |[],_,_,_,_=>by simp[Xe]
 |id::r,[],[],_,_=>by simp[Xe]
 |id::r,[],_::_,h,_=>by simp at h
 |id::r,_::_,[],h,_=>by simp at h
 |id::r,k::ks,k'::ks',hl,h=>by
  have ih:=Ce r (K:=ks) (K':=ks') (by simpa using hl) (fun j hj=>by simpa using h (j+1) (by simpa using hj));have h0:=h 0;simp at h0;cases k with
  |false=>
   cases k' with
   |false=>simpa[Xe]using ih
   |true=>simpa[Xe]using ih.cons id
  |true=>
   rw[h0 rfl];simpa[Xe]using ih.cons_cons id
def TL(ok:List Int->Bool)(rd:Int->Nat)(ids:List Int)(r:Nat)(K:List Bool)(i:Nat):(Kc ok rd ids r K i).length=K.length:=by
 unfold Kc;split
 ·split<;>simp
 rfl
structure ChI (ok:List Int->Bool) (rd:Int->Nat) (ids:List Int) (r i:Nat) (K:List Bool):Prop where
 len:K.length=ids.length
 kok:ok (Xe true ids K)=true
 todo:∀(j:Nat)(id:Int),ids[j]?=some id->(r<rd id\/rd id=r/\i<=j)->K.getD j false=false
 done:∀(j:Nat)(id:Int),ids[j]?=some id->(rd id<r\/rd id=r/\j<i)->K.getD j false=true\/ok (Xe true ids (K.set j true))=false
def ChI.step{ok:List Int->Bool}(hm:ab3 ok){rd:Int->Nat}{ids:List Int}{r i:Nat}{K:List Bool}(h:ChI ok rd ids r i K)(hi:i<ids.length):ChI ok rd ids r (i+1) (Kc ok rd ids r K i)/\Ey K (Kc ok rd ids r K i):=by
 obtain⟨id,aK⟩:=aU hi;unfold Kc;rw[aK];simp only;by_cases hr:rd id=r
 ·rw[if_pos hr];have hf:=h.todo i id aK (.inr ⟨hr,zzab _⟩)
  have XW:K.set i false=K:=by
   apply zzeh zd;intro n h1 h2;rw[List.getElem_set];split
   ·rename_i e;subst e;rw[zzar,zzae h2]at hf;exact hf.symm
   rfl
  cases bZ:ok (Xe true ids (K.set i true))with
  |false=>
   rw[XW];refine⟨⟨h.len,h.kok,fun j x hj hc=>h.todo j x hj zE,fun j x hj hc=>?_⟩,Ey.refl K⟩;rcases zzaa j i with ai|bz
   ·exact h.done j x hj zE
   obtain hc|hc:=hc
   ·exact h.done j x hj (.inl hc)
   obtain rfl:j=i:=zE
   exact .inr bZ
  |true=>
   have cw:=Ey.ab4 K i;refine⟨⟨by simp[h.len],bZ,fun j x hj hc=>?_,fun j x hj hc=>?_⟩,cw⟩
   ·rw[kR,if_neg (by rintro⟨e,_⟩;subst e;rw[aK]at hj;cases hj;omega)];exact h.todo j x hj zE
   rcases Nat.decEq j i with aM|rfl
   ·have hd:=h.done j x hj zE;obtain hd|hd:=hd
    ·exact .inl (cw j hd)
    right;have hs:=Ce ids (K:=K.set j true) (K':=(K.set i true).set j true) zd (cw.set zd j);cases hb:ok (Xe true ids ((K.set i true).set j true))with
    |false=>rfl
    |true=>rw[hm _ _ hs hb]at hd;cases hd
   left;rw[kR,if_pos ⟨rfl,by rw[h.len];exact hi⟩]
 rw[if_neg hr];refine⟨⟨h.len,h.kok,fun j x hj hc=>h.todo j x hj zE,fun j x hj hc=>h.done j x hj ?_⟩,Ey.refl K⟩;obtain hc|hc:=hc
 ·exact .inl hc
 have:j≠i:=by rintro rfl;rw[aK]at hj;cases hj;exact hr hc.1
 exact .inr ⟨hc.1,zE⟩
def ChI.round{ok:List Int->Bool}(hm:ab3 ok){rd:Int->Nat}{ids:List Int}{r:Nat}{K:List Bool}(h:ChI ok rd ids r 0 K):ChI ok rd ids (r+1) 0 (Ji ok rd ids r K)/\Ey K (Ji ok rd ids r K):=by
 have key:∀n,n<=ids.length->ChI ok rd ids r n ((List.range n).foldl (Kc ok rd ids r) K)/\Ey K ((List.range n).foldl (Kc ok rd ids r) K):=by
  intro n;induction n with
  |zero=>intro _;exact⟨h,Ey.refl K⟩
  |succ n ih=>
   intro hn;obtain⟨h1,h2⟩:=ih zE;obtain⟨g1,g2⟩:=h1.step hm zE;rw[zzfi,zzgp];exact⟨g1,h2.trans g2⟩
 obtain⟨h1,h2⟩:=key ids.length (zzab _);refine⟨⟨h1.len,h1.kok,fun j x hj hc=>h1.todo j x hj zE,fun j x hj hc=>h1.done j x hj ?_⟩,h2⟩;have:=(zza.1 hj).1;omega
def zf(ids:List Int)(n:Nat):Xe true ids (List.replicate n false)=[]:=by
 induction ids generalizing n with
 |nil=>simp[Xe]
 |cons x r ih=>
  cases n with
  |zero=>simp[Xe]
  |succ n=>rw[zzfg,Xe];simpa using ih n
def tO{ok:List Int->Bool}(hm:ab3 ok)(h0:ok []=true)(rd:Int->Nat)(ids:List Int)(fL:∀id∈ids,rd id<=2):
  (Jt ok rd ids).length=ids.length/\ok (Xe true ids (Jt ok rd ids))=true/\∀(j:Nat)(id:Int),ids[j]?=some id->(Jt ok rd ids).getD j false=true\/ok (Xe true ids ((Jt ok rd ids).set j true))=false:=by
 have hi:ChI ok rd ids 0 0 (List.replicate ids.length false):=⟨zd,by rw[zf];exact h0,fun j id hj _=>by
  rw[zzar,zzcp];split<;>rfl,fun j id hj hc=>zE⟩
 have h1:=(hi.round hm).1;have h2:=(h1.round hm).1;have h3:=(h2.round hm).1;refine⟨h3.len,h3.kok,fun j id hj=>h3.done j id hj (.inl ?_)⟩;have:=fL id (zzac hj);omega
open Go Go.Abs
open Go Go.Abs
def avt(it:Int)(bf:List (Int×Int)):Int:=((bf.filter fun a=>decide (a.1=it)).length:Nat)
structure azP (p:Pl) (bf us en:List (Int×Int)):Prop where
 us:∀it,(af it us).getD 0<=avt it bf
 en:∀k v,af k en=some v->∃a∈bf,∃x,Xh a.1 p.aN=some x/\x.sp=k/\v<=a.2
structure azQ (p:Pl) (bf us en:List (Int×Int)):Prop where
 us:∀it,avt it bf<=(af it us).getD 0
 en:∀a∈bf,∀x,Xh a.1 p.aN=some x->∃v,af x.sp en=some v/\a.2<=v
open Go Go.Abs
def azt(p:Pl)(c:Cl):Pl:={p with cls:=p.cls++[c]}
open Go Go.Abs
def g0(ok:List Int->Bool)(rd:Int->Nat):List Int->List Int->List Bool
 |[],_=>[]
 |id::r,IV=>if rd id=0 then ok (IV++[id])::g0 ok rd r (if ok (IV++[id])=true then IV++[id]else IV)else false::g0 ok rd r IV
def ab5(ok:List Int->Bool)(rd:Int->Nat):∀(l IV:List Int),(g0 ok rd l IV).length=l.length
 |[],_=>rfl
 |id::r,IV=>by rw[g0];split<;>simp[ab5 ok rd r]
def kS(w:Bool):∀(a:List Int)(K:List Bool)(b:List Int)(L:List Bool),a.length=K.length->Xe w (a++b) (K++L)=Xe w a K++Xe w b L
 |[],[],_,_,_=>rfl
 |[],_::_,_,_,h=>by simp at h
 |_::_,[],_,_,h=>by simp at h
 |x::a,k::K,b,L,h=>by
  simp only[zzad,Xe];rw[kS w a K b L (by simpa using h)];split<;>simp
def zg(ok:List Int->Bool)(rd:Int->Nat):∀(b a:List Int)(K:List Bool),a.length=K.length->((List.range' a.length b.length).foldl (Kc ok rd (a++b) 0) (K++List.replicate b.length false))=K++g0 ok rd b (Xe true a K)
 |[],a,K,h=>by simp[g0]
 |id::b,a,K,h=>by
  rw[zzbe,zzgx,zzd];have aK:(a++id::b)[a.length]?=some id:=zd
  have hK:a.length<(K++List.replicate (b.length+1) false).length:=by simp;omega
  have bY:∀x,(K++List.replicate (b.length+1) false).set a.length x=(K++[x])++List.replicate b.length false:=fun x=>by
   rw[zzcu _ _ zE,h,zzdi,zzfg];simp
  have hab:a++id::b=(a++[id])++b:=zd
  have aze:Xe true (a++id::b) ((K++[true])++List.replicate b.length false)=Xe true a K++[id]:=by
   rw[hab,kS true (a++[id]) (K++[true]) b _ (by simp[h]),kS true a K [id] [true] h,zf];simp[Xe]
  have aH:∀x:Bool,(a++[id]).length=(K++[x]).length:=fun x=>by simp[h]
  have ez:a.length+1=(a++[id]).length:=zd
  unfold Kc;rw[aK];simp only;by_cases hr:rd id=0
  ·rw[if_pos hr,bY true,aze,bY,g0,if_pos hr];have ih:=zg ok rd b (a++[id]) (K++[ok (Xe true a K++[id])]) (aH _);rw[<- hab,<- ez]at ih;rw[show(List.foldl (fun K i=>Kc ok rd (a++id::b) 0 K i))=List.foldl (Kc ok rd (a++id::b) 0)from rfl]at*
   refine ih.trans ?_;rw[kS true a K [id] _ h];cases hb:ok (Xe true a K++[id])<;>simp[Xe]
  rw[if_neg hr,g0,if_neg hr];have ih:=zg ok rd b (a++[id]) (K++[false]) (aH _);rw[<- hab,<- ez]at ih;have e:K++List.replicate (b.length+1) false=(K++[false])++List.replicate b.length false:=by rw[zzfg];simp
  rw[e];refine ih.trans ?_;rw[kS true a K [id] _ h];simp[Xe]
def TM(ok:List Int->Bool)(rd:Int->Nat)(ids:List Int):Ji ok rd ids 0 (List.replicate ids.length false)=g0 ok rd ids []:=by
 have:=zg ok rd ids [] [] rfl;simp only[zzcf,zzah,Xe]at this;rw[Ji,zzfy];exact this
def lT(ok:List Int->Bool)(rd:Int->Nat):∀(ids IV:List Int),(Xe false ids (g0 ok rd ids IV)).filter (fun id=>decide (rd id=0))=Xe false (ids.filter fun id=>decide (rd id=0)) (g0 ok rd (ids.filter fun id=>decide (rd id=0)) IV)
 |[],IV=>rfl
 |id::r,IV=>by
  by_cases h:rd id=0
  ·rw[zzdg (by simp[h]),g0,g0,if_pos h,if_pos h];cases hb:ok (IV++[id])with
   |true=>simpa[Xe]using lT ok rd r (IV++[id])
   |false=>
    simp only[Xe,zzbp,if_false,beq_self_eq_true,if_true];rw[zzdg (by simp[h]),lT ok rd r IV]
  rw[zzfr (by simp[h]),g0,if_neg h];simp only[Xe,beq_self_eq_true,if_true];rw[zzfr (by simp[h]),lT ok rd r IV]
def ab6(rd:Int->Nat)(ids:List Int)(K K':List Bool):Prop:=∀(j:Nat)(id:Int),ids[j]?=some id->rd id=0->K.getD j false=K'.getD j false
def Cf(rd:Int->Nat):∀(ids:List Int)(K K':List Bool),K.length=ids.length->K'.length=ids.length->ab6 rd ids K K'->(Xe false ids K).filter (fun id=>decide (rd id=0))=(Xe false ids K').filter (fun id=>decide (rd id=0))
 |[],K,K',_,_,_=>by simp[Xe]
 |id::r,[],_,h,_,_=>by simp at h
 |id::r,_::_,[],_,h,_=>by simp at h
 |id::r,k::K,k'::K',h1,h2,h=>by
  have ih:=Cf rd r K K' (by simpa using h1) (by simpa using h2) fun j x hj hx=>by simpa using h (j+1) x (by simpa using hj) hx
  by_cases hr:rd id=0
  ·have h0:=h 0 id rfl hr;simp at h0;subst h0;simp only[Xe];split
   ·rw[zzdg (by simp[hr]),zzdg (by simp[hr]),ih]
   exact ih
  simp only[Xe]
  have e:∀(b:Bool)(l:List Int),(if(b==false)=true then id::l else l).filter (fun id=>decide (rd id=0))=l.filter fun id=>decide (rd id=0):=fun b l=>by
   split
   ·rw[zzfr (by simp[hr])]
   rfl
  rw[e,e,ih]
def tP(ok:List Int->Bool)(rd:Int->Nat)(ids:List Int)(r:Nat)(hr:r≠0)(K:List Bool):ab6 rd ids (Ji ok rd ids r K) K/\(Ji ok rd ids r K).length=K.length:=by
 have key:∀(L:List Nat)(K:List Bool),ab6 rd ids (L.foldl (Kc ok rd ids r) K) K/\(L.foldl (Kc ok rd ids r) K).length=K.length:=by
  intro L;induction L with
  |nil=>intro K;exact⟨fun _ _ _ _=>rfl,rfl⟩
  |cons i L ih=>
   intro K;obtain⟨h1,h2⟩:=ih (Kc ok rd ids r K i);refine⟨fun j id hj aK=>?_,by rw[zzd,h2,TL]⟩;rw[zzd,h1 j id hj aK];unfold Kc;cases hi:ids[i]? with
   |none=>rfl
   |some x=>
    simp only;split
    ·rename_i hx;rw[kR,if_neg (by rintro⟨e,_⟩;subst e;rw[hi]at hj;cases hj;omega)]
    rfl
 exact key _ K
def azf(ok:List Int->Bool)(rd:Int->Nat)(ids:List Int):(Xe false ids (Jt ok rd ids)).filter (fun id=>decide (rd id=0))=Xe false (ids.filter fun id=>decide (rd id=0)) (Jt ok rd (ids.filter fun id=>decide (rd id=0))):=by
 obtain⟨S,hS⟩:∃S,(ids.filter fun id=>decide (rd id=0))=S:=⟨_,rfl⟩;have bF:∀(L:List Int),Jt ok rd L=Ji ok rd L 2 (Ji ok rd L 1 (g0 ok rd L [])):=fun L=>by rw[Jt,TM]
 have two:∀(L:List Int),(Xe false L (Jt ok rd L)).filter (fun id=>decide (rd id=0))=(Xe false L (g0 ok rd L [])).filter (fun id=>decide (rd id=0)):=fun L=>by
  rw[bF];obtain⟨a1,a2⟩:=tP ok rd L 1 zE (g0 ok rd L []);obtain⟨b1,b2⟩:=tP ok rd L 2 zE (Ji ok rd L 1 (g0 ok rd L []));have hg:=ab5 ok rd L [];refine Cf rd L _ _ zE hg fun j id hj aK=>?_;rw[b1 j id hj aK,a1 j id hj aK]
 rw[two ids,lT,hS]
 have hSf:∀id∈S,rd id=0:=fun id h=>by
  rw[<- hS]at h;simpa using(zzcg.1 h).2
 have bL:∀(L:List Int)(K:List Bool),∀x∈Xe false L K,x∈L:=by
  intro L;induction L with
  |nil=>intro K x hx;simp[Xe]at hx
  |cons y L ih=>
   intro K x hx;cases K with
   |nil=>simp[Xe]at hx
   |cons k K=>
    simp only[Xe]at hx;split at hx
    ·rcases zzat.1 hx with rfl|hx
     ·simp
     exact zzfc _ (ih K x hx)
    exact zzfc _ (ih K x hx)
 have aK:∀K:List Bool,(Xe false S K).filter (fun id=>decide (rd id=0))=Xe false S K:=fun K=>zzel.2 fun x hx=>by simp[hSf x (bL S K x hx)]
 have:=two S;rw[aK,aK]at this;exact this.symm
