import Derived.Test.YthjppoincojfkaaGreatDoorRPMT
set_option linter.all false
set_option maxRecDepth 100000
set_option maxHeartbeats 64000000
namespace Go.Proofs.YthjppoincojfkaaGreatDoor
open Go Go.Abs
def yM{at_ n t:Int}(hn:1<=n)(ht:at_<=t):∀{l:List Sp},VS l->(∀x,t<=x->x<t+n->Xu l x)->∃s,Gn at_ n l=some s/\s<=t
 |[],_,h=>by
  have:=h t (zzbt _) zE;simp at this
 |a::r,hv,h=>by
  have ha:=hv.1 a zd;have hp:=zzby.1 hv.2;have hr:VS r:=⟨fun s hs=>hv.1 s (by simp[hs]),hp.2⟩;rw[Gn];by_cases c:max a.1 at_<a.2/\n<=a.2-max a.1 at_
  ·rw[if_pos c];refine⟨_,rfl,?_⟩;have h0:=h t (zzbt _) zE;rw[Xh]at h0;obtain h0|⟨s,hs,h1,h2⟩:=h0
   ·omega
   have:=hp.1 s hs;omega
  rw[if_neg c]
  have ayC:∀x,t<=x->x<t+n->¬(a.1<=x/\x<a.2):=by
   intro x Pf hx2 hx
   have h2:¬Xu (a::r) a.2:=by
    rw[Xh];rintro(h|⟨s,hs,h1,_⟩)
    ·omega
    have:=hp.1 s hs;omega
   have h3:t+n<=a.2:=by
    rcases zzfh a.2 (t+n)with h'|h'
    ·exact absurd (h a.2 zE h') h2
    exact h'
   have h4:a.1<=t:=by
    rcases zzfh t a.1 with h'|h'
    ·have h5:=h (a.1-1) zE zE;rw[Xh]at h5;obtain h5|⟨s,hs,h6,_⟩:=h5
     ·omega
     have:=hp.1 s hs;omega
    exact h'
   exact c ⟨zE,zE⟩
  refine yM hn ht hr fun x h1 h2=>?_;have h3:=h x h1 h2;rw[Xh]at h3;exact h3.resolve_left (ayC x h1 h2)
def yN{p:Pl}{it k at_ n t:Int}(hn:1<=n/\n<=1000000)(ht:at_<=t)(hk:k*1000000<=t/\t+n<=(k+2)*1000000)(h:∀x,t<=x->x<t+n->KZ p it 0 x):∃s,lR (Xy p it k) at_ n=some s/\s<=t:=by
 rw[lR,if_neg zE];refine yM hn.1 ht (Zw _).1 fun x h1 h2=>?_;rw[(Zw _).2,Qck];exact⟨zE,zE,h x h1 h2⟩
def af9{p:Pl}{it k at_ n s:Int}(hn:1<=n)(h:lR (Xy p it k) at_ n=some s):s+n<=(k+2)*1000000:=by
 rw[lR,if_neg zE]at h;obtain⟨a,ha,h1,h2,h3⟩:=Df h;have:Xu (Xm (Xy p it k)) (s+n-1):=⟨a,ha,zE,zE⟩;rw[(Zw _).2,Qck]at this;omega
def BE{p:Pl}{e:En}{last from_ n t:Int}(he:1<=e.fr/\e.fr<=1000000)(h1:from_<=t)(h2:t<=last)(h3:n*1000000<=t)(h:∀x,t<=x->x<t+e.fr->KZ p e.it 0 x):∃s,SB p e last from_ n=some s/\s<=t:=by
 rw[SB,if_pos zE];cases hs:lR (Xy p e.it n) from_ e.fr with
 |none=>
  simp only;refine BE he h1 h2 ?_ h;rcases zzfh t ((n+1)*1000000)with h'|h'
  ·obtain⟨s,dK,_⟩:=yN (p:=p) (it:=e.it) (k:=n) he h1 ⟨h3,zE⟩ h;rw[hs]at dK;cases dK
  exact h'
 |some s=>
  simp only;have bO:=af9 he.1 hs
  have bY:s<=t:=by
   rcases zzfh ((n+2)*1000000) (t+e.fr)with h'|h'
   ·omega
   obtain⟨s',dK,cn⟩:=yN (p:=p) (it:=e.it) (k:=n) he h1 ⟨h3,h'⟩ h;rw[hs]at dK;cases dK;exact cn
  rw[if_neg zE];exact⟨s,rfl,bY⟩
termination_by(last-n*1000000+1000000).toNat
decreasing_by omega
def DY{p:Pl}{e:En}{from_ t:Int}(he:1<=e.fr/\e.fr<=1000000)(h1:from_<=t)(h0:0<=t)(h2:t<=e.la/\t+e.fr<=p.ln/\t<=100000000)(h:∀x,t<=x->x<t+e.fr->KZ p e.it 0 x):∃s,Vq p e from_=some s/\s<=t:=by
 rw[Vq,if_neg zE];refine BE he zE (by simp only[mD];omega) ?_ h;have hm:0<=max from_ 0:=zE
 rw[zzcl hm];omega
def LeU(us' us:List (Int×Int)):Prop:=∀k,(af k us').getD 0<=(af k us).getD 0
def LeE(en' en:List (Int×Int)):Prop:=∀k v',af k en'=some v'->∃v,af k en=some v/\v'<=v
def LeE.refl(en:List (Int×Int)):LeE en en:=fun k v h=>⟨v,h,zzbt _⟩
def LeU.note{us' us:List (Int×Int)}(h:LeU us' us)(it:Int):LeU (Vv us' it) (Vv us it):=fun k=>by
 rw[Vv,Vv,Uk,Uk];have:=h it;split
 ·simp;omega
 exact h k
def LeU.skip{us' us:List (Int×Int)}(h:LeU us' us)(it:Int):LeU us' (Vv us it):=fun k=>by
 rw[Vv,Uk];split
 ·rename_i e;have:=h it;rw[e];simp;omega
 exact h k
def LeE.note{p p':Pl}{en' en:List (Int×Int)}(h:LeE en' en)(it:Int){e' e:Int}(he:e'<=e)(h0:0<=e')(hp:Xj it p'.aM=Xj it p.aM):LeE (Zn p' en' it e') (Zn p en it e):=fun k v' hk=>by
 unfold Zn at hk |-
 rw[hp]at hk;cases hf:Xj it p.aM with
 |none=>rw[hf]at hk;exact h k v' hk
 |some x=>
  rw[hf]at hk;simp only[Uk]at hk |-
  split at hk
  ·rename_i XW;cases hk;refine⟨_,by rw[if_pos XW],?_⟩;cases h1:af x.sp en' with
   |none=>
    cases h2:af x.sp en with
    |none=>simp;omega
    |some v=>simp;omega
   |some v1=>
    obtain⟨v,hv,cn⟩:=h _ _ h1;rw[hv];simp;omega
  rename_i XW;obtain⟨v,hv,cn⟩:=h k v' hk;exact⟨v,by rw[if_neg XW];exact hv,cn⟩
def LeE.skip{p:Pl}{en' en:List (Int×Int)}(h:LeE en' en)(it e:Int):LeE en' (Zn p en it e):=fun k v' hk=>by
 obtain⟨v,hv,cn⟩:=h k v' hk;unfold Zn;cases hf:Xj it p.aM with
 |none=>exact⟨v,hv,cn⟩
 |some x=>
  simp only[Uk];split
  ·rename_i XW;subst XW;exact⟨_,rfl,by rw[hv];simp;omega⟩
  exact⟨v,hv,cn⟩
def yO{en' en:List (Int×Int)}(h:LeE en' en):∀(l:List Sp){f' f:Int},f'<=f->Ub en' l f'<=Ub en l f
 |[],_,_,hf=>hf
 |r::l,f',f,hf=>by
  rw[Ub,Ub];refine yO h l ?_;cases h1:af r.1 en' with
  |none=>
   cases h2:af r.1 en with
   |none=>exact hf
   |some v=>simp only;omega
  |some v1=>
   obtain⟨v,hv,cn⟩:=h _ _ h1;rw[hv];simp only;omega
structure aga (p' p:Pl):Prop where
 aM:p'.aM=p.aM
 ens:p'.ens=p.ens
 ln:p'.ln=p.ln
 runs:∀it,Wy p' it=Wy p it
 riv:∀it,Km p' it=Km p it
 perm:∀it x,KZ p it 0 x->KZ p' it 0 x
def aga.refl(p:Pl):aga p p:=⟨rfl,rfl,rfl,fun _=>rfl,fun _=>rfl,fun _ _ h=>h⟩
inductive BF:List Sp->List Sp->Prop
 |nil (l:List Sp):BF [] l
 |skip {l' l:List Sp} (s:Sp):BF l' l->BF l' (s::l)
 |cons {l' l:List Sp} (id s' s:Int):s'<=s->BF l' l->BF ((id,s')::l') ((id,s)::l)
def RX{p' p:Pl}(hm:aga p' p){agb ids:Pi}(anF:agb.Sublist ids):∀{us' us en' en:List (Int×Int)}{free' free last' last:Int}{l:List Sp},LeU us' us->LeE en' en->free'<=free->last'<=last->Uu p ids us en free last=some l->
  ∃l',Uu p' agb us' en' free' last'=some l'/\BF l' l:=by
 induction anF with
 |slnil=>
  intro us' us en' en free' free last' last l _ _ _ _ h;exact⟨[],rfl,.nil _⟩
 |@cons agb ids id _ ih=>
  intro us' us en' en free' free last' last l hu he hf hla h;rw[Uu]at h;cases hk:za id p.ens 0 with
  |none=>rw[hk]at h;cases h
  |some k=>
   rw[hk]at h;simp only at h;split at h
   ·cases h
   rename_i qv;cases hx:p.ens[k]? with
   |none=>rw[hx]at h;cases h
   |some e=>
    rw[hx]at h;simp only at h;split at h
    ·cases h
    cases hs:Vq p e (Ub en (Km p e.it) (max e.ea free))with
    |none=>rw[hs]at h;cases h
    |some s=>
     rw[hs]at h;simp only at h;cases hg:Uu p ids (Vv us e.it) (Zn p en e.it (s+e.fr)) (s+e.fr) k with
     |none=>rw[hg]at h;cases h
     |some r=>
      rw[hg]at h;cases h;obtain⟨a1,a2,_⟩:=Jz hs;have fh:=xH en (Km p e.it) (max e.ea free);obtain⟨l',h1,h2⟩:=ih (hu.skip e.it) (he.skip e.it (s+e.fr)) (free':=free') zE (last':=last') zE hg;exact⟨l',h1,.skip _ h2⟩
 |@cons_cons agb ids id _ ih=>
  intro us' us en' en free' free last' last l hu he hf hla h;rw[Uu]at h;rw[Uu,hm.ens];cases hk:za id p.ens 0 with
  |none=>rw[hk]at h;cases h
  |some k=>
   rw[hk]at h;simp only at h |-
   split at h
   ·cases h
   rename_i qv;rw[if_neg zE];cases hx:p.ens[k]? with
   |none=>rw[hx]at h;cases h
   |some e=>
    rw[hx]at h;simp only at h |-
    split at h
    ·cases h
    rename_i hr;have hue:=hu e.it;rw[hm.runs,hm.riv,if_neg (by intro hh;exact hr ⟨hh.1,zE⟩)];cases hs:Vq p e (Ub en (Km p e.it) (max e.ea free))with
    |none=>rw[hs]at h;cases h
    |some s=>
     rw[hs]at h;simp only at h;cases hg:Uu p ids (Vv us e.it) (Zn p en e.it (s+e.fr)) (s+e.fr) k with
     |none=>rw[hg]at h;cases h
     |some r=>
      rw[hg]at h;cases h;obtain⟨a1,a2,a3,a4,a5,a6,a7⟩:=Jz hs;have hfm:=yO he (Km p e.it) (show max e.ea free'<=max e.ea free by omega);obtain⟨s',dK,cn⟩:=DY (p:=p') (from_:=Ub en' (Km p e.it) (max e.ea free')) a1 zE a3 ⟨a4,by rw[hm.ln];exact a5,a6⟩ (fun x h1 h2=>hm.perm _ _ (a7 x h1 h2));have cL:=Jz dK;rw[dK];simp only;obtain⟨l',h1,h2⟩:=ih (hu.note e.it) (he.note e.it (e':=s'+e.fr) (e:=s+e.fr) zE zE (by rw[hm.aM])) (free':=s'+e.fr) zE (last':=(k:Int)) (zzbt _) hg;rw[h1];exact⟨_,rfl,.cons id s' s cn h2⟩
def aaQ(ok:Pi->Bool):Prop:=∀a b:Pi,a.Sublist b->ok b=true->ok a=true
def HN(b:Bd):aaQ (oy b):=fun a c hs h=>by
 unfold oy at h |-
 obtain⟨l,hl⟩:=zzcf.1 h;obtain⟨l',h1,_⟩:=RX (aga.refl b.p) hs (us':=b.us) (en':=b.en) (free':=b.at_) (last':= -1) (fun _=>zzbt _) (LeE.refl _) (zzbt _) (zzbt _) hl;rw[h1];rfl
theorem OQ(b:Bd):oy b []=true:=rfl
def Xg(w:Bool):Pi->List Bool->Pi
 |id::r,k::ks=>if(k==w)=true then id::Xg w r ks else Xg w r ks
 |_,_=>[]
def Jy(ok:Pi->Bool)(rd:Int->Nat)(ids:Pi)(r:Nat)(K:List Bool)(i:Nat):List Bool:=match ids[i]? with
 |some id=>if rd id=r then K.set i (ok (Xg true ids (K.set i true)))else K
 |none=>K
def Jf(ok:Pi->Bool)(rd:Int->Nat)(ids:Pi)(r:Nat)(K:List Bool):List Bool:=(List.range ids.length).foldl (Jy ok rd ids r) K
def Jo(ok:Pi->Bool)(rd:Int->Nat)(ids:Pi):List Bool:=Jf ok rd ids 2 (Jf ok rd ids 1 (Jf ok rd ids 0 (List.replicate ids.length false)))
def DZ(K K':List Bool):Prop:=∀j,K.getD j false=true->K'.getD j false=true
def DZ.refl(K:List Bool):DZ K K:=fun _ h=>h
def DZ.trans{K K' K'':List Bool}(h:DZ K K')(k:DZ K' K''):DZ K K'':=fun j hj=>k j (h j hj)
def j7(K:List Bool)(i j:Nat)(b:Bool):(K.set i b).getD j false=if i=j/\i<K.length then b else K.getD j false:=by
 simp only[zzax,zzgi];by_cases h:i=j
 ·subst h;by_cases h2:i<K.length
  ·simp[h2]
  have:K[i]?=none:=zzas zE;simp[h2]
 simp[h]
def DZ.set{K K':List Bool}(h:DZ K K')(hl:K.length=K'.length)(i:Nat):DZ (K.set i true) (K'.set i true):=fun j hj=>by
 rw[j7]at hj |-
 split at hj
 ·rename_i hc;rw[if_pos ⟨hc.1,zE⟩]
 rename_i hc;rw[if_neg (by rw[<- hl];exact hc)];exact h j hj
def DZ.aaR(K:List Bool)(i:Nat):DZ K (K.set i true):=fun j hj=>by
 rw[j7];split
 ·rfl
 exact hj
def BG:∀(ids:Pi){K K':List Bool},K.length=K'.length->DZ K K'->(Xg true ids K).Sublist (Xg true ids K')
 |[],_,_,_,_=>by simp[Xg]
 |id::r,[],[],_,_=>by simp[Xg]
 |id::r,[],_::_,h,_=>by simp at h
 |id::r,_::_,[],h,_=>by simp at h
 |id::r,k::ks,k'::ks',hl,h=>by
  have ih:=BG r (K:=ks) (K':=ks') (Nm hl) (fun j hj=>by simpa using h (j+1) (Nm hj));have h0:=h 0;simp at h0;cases k with
  |false=>
   cases k' with
   |false=>simpa[Xg]using ih
   |true=>simpa[Xg]using ih.cons id
  |true=>
   rw[h0 rfl];simpa[Xg]using ih.cons_cons id
def RY(ok:Pi->Bool)(rd:Int->Nat)(ids:Pi)(r:Nat)(K:List Bool)(i:Nat):(Jy ok rd ids r K i).length=K.length:=by
 unfold Jy;split
 ·split<;>simp
 rfl
structure ChI (ok:Pi->Bool) (rd:Int->Nat) (ids:Pi) (r i:Nat) (K:List Bool):Prop where
 len:K.length=ids.length
 kok:ok (Xg true ids K)=true
 todo:∀(j:Nat)(id:Int),ids[j]?=some id->(r<rd id\/rd id=r/\i<=j)->K.getD j false=false
 done:∀(j:Nat)(id:Int),ids[j]?=some id->(rd id<r\/rd id=r/\j<i)->K.getD j false=true\/ok (Xg true ids (K.set j true))=false
def ChI.step{ok:Pi->Bool}(hm:aaQ ok){rd:Int->Nat}{ids:Pi}{r i:Nat}{K:List Bool}(h:ChI ok rd ids r i K)(hi:i<ids.length):ChI ok rd ids r (i+1) (Jy ok rd ids r K i)/\DZ K (Jy ok rd ids r K i):=by
 obtain⟨id,aL⟩:=aV hi;unfold Jy;rw[aL];simp only;by_cases hr:rd id=r
 ·rw[if_pos hr];have hf:=h.todo i id aL (.inr ⟨hr,zzab _⟩)
  have VE:K.set i false=K:=by
   apply zzex zd;intro n h1 h2;rw[List.getElem_set];split
   ·rename_i e;subst e;rw[zzax,zzaf h2]at hf;exact hf.symm
   rfl
  cases bU:ok (Xg true ids (K.set i true))with
  |false=>
   rw[VE];refine⟨⟨h.len,h.kok,fun j x hj hc=>h.todo j x hj zE,fun j x hj hc=>?_⟩,DZ.refl K⟩;rcases zzaa j i with ai|bq
   ·exact h.done j x hj zE
   obtain hc|hc:=hc
   ·exact h.done j x hj (.inl hc)
   obtain rfl:j=i:=zE
   exact .inr bU
  |true=>
   have cn:=DZ.aaR K i;refine⟨⟨by simp[h.len],bU,fun j x hj hc=>?_,fun j x hj hc=>?_⟩,cn⟩
   ·rw[j7,if_neg (by rintro⟨e,_⟩;subst e;rw[aL]at hj;cases hj;omega)];exact h.todo j x hj zE
   rcases Nat.decEq j i with aO|rfl
   ·have hd:=h.done j x hj zE;obtain hd|hd:=hd
    ·exact .inl (cn j hd)
    right;have hs:=BG ids (K:=K.set j true) (K':=(K.set i true).set j true) zd (cn.set zd j);cases hb:ok (Xg true ids ((K.set i true).set j true))with
    |false=>rfl
    |true=>rw[hm _ _ hs hb]at hd;cases hd
   left;rw[j7,if_pos ⟨rfl,by rw[h.len];exact hi⟩]
 rw[if_neg hr];refine⟨⟨h.len,h.kok,fun j x hj hc=>h.todo j x hj zE,fun j x hj hc=>h.done j x hj ?_⟩,DZ.refl K⟩;obtain hc|hc:=hc
 ·exact .inl hc
 have:j≠i:=by rintro rfl;rw[aL]at hj;cases hj;exact hr hc.1
 exact .inr ⟨hc.1,zE⟩
def ChI.round{ok:Pi->Bool}(hm:aaQ ok){rd:Int->Nat}{ids:Pi}{r:Nat}{K:List Bool}(h:ChI ok rd ids r 0 K):ChI ok rd ids (r+1) 0 (Jf ok rd ids r K)/\DZ K (Jf ok rd ids r K):=by
 have key:∀n,n<=ids.length->ChI ok rd ids r n ((List.range n).foldl (Jy ok rd ids r) K)/\DZ K ((List.range n).foldl (Jy ok rd ids r) K):=by
  intro n;induction n with
  |zero=>intro _;exact⟨h,DZ.refl K⟩
  |succ n ih=>
   intro hn;obtain⟨h1,h2⟩:=ih zE;obtain⟨g1,g2⟩:=h1.step hm zE;rw[zzfc,zzgk];exact⟨g1,h2.trans g2⟩
 obtain⟨h1,h2⟩:=key ids.length (zzab _);refine⟨⟨h1.len,h1.kok,fun j x hj hc=>h1.todo j x hj zE,fun j x hj hc=>h1.done j x hj ?_⟩,h2⟩;have:=(zza.1 hj).1;omega
def yP(ids:Pi)(n:Nat):Xg true ids (List.replicate n false)=[]:=by
 induction ids generalizing n with
 |nil=>simp[Xg]
 |cons x r ih=>
  cases n with
  |zero=>simp[Xg]
  |succ n=>rw[zzg,Xg];simpa using ih n
def choose_spec{ok:Pi->Bool}(hm:aaQ ok)(h0:ok []=true)(rd:Int->Nat)(ids:Pi)(iC:∀id∈ids,rd id<=2):
  (Jo ok rd ids).length=ids.length/\ok (Xg true ids (Jo ok rd ids))=true/\∀(j:Nat)(id:Int),ids[j]?=some id->(Jo ok rd ids).getD j false=true\/ok (Xg true ids ((Jo ok rd ids).set j true))=false:=by
 have hi:ChI ok rd ids 0 0 (List.replicate ids.length false):=⟨zd,by rw[yP];exact h0,fun j id hj _=>by
  rw[zzax,zzcm];split<;>rfl,fun j id hj hc=>zE⟩
 have h1:=(hi.round hm).1;have h2:=(h1.round hm).1;have h3:=(h2.round hm).1;refine⟨h3.len,h3.kok,fun j id hj=>h3.done j id hj (.inl ?_)⟩;have:=iC id (zzad hj);omega
def Ma(p:Pl)(e:En)(f:Int):Option Int:=
 if e.fr<1\/1000000<e.fr\/p.ln<e.fr then none else
 if max f 0<1000000/\0<=mD p e/\mD p e<1000000 then(match lR (Xy p e.it 0) (max f 0) e.fr with
  |none=>none
  |some s=>if mD p e<s then none else some s)else Vq p e f
def RZ(p:Pl)(e:En)(f:Int):Ma p e f=Vq p e f:=by
 unfold Ma;split
 ·rename_i h;rw[Vq,if_pos h]
 rename_i h;split
 ·rename_i h2;rw[Vq,if_neg h];have hz:(max f 0).tdiv 1000000=0:=Int.tdiv_eq_zero_of_lt zE zE;rw[hz]
  conv=>rhs;unfold SB
  rw[if_pos zE];cases lR (Xy p e.it 0) (max f 0) e.fr with
  |none=>
   simp only;unfold SB;rw[if_neg zE]
  |some s=>rfl
 rfl
def anG(p:Pl):Pi->List (Int×Int)->List (Int×Int)->Int->Int->Option (List Sp)
 |[],_,_,_,_=>some []
 |id::r,us,en,free,last=>match za id p.ens 0 with
  |none=>none
  |some k=>if(k:Int)<=last then none else match p.ens[k]? with
   |none=>none
   |some e=>if Wy p e.it≠ -1/\Wy p e.it<=(af e.it us).getD 0 then none else
    match Ma p e (Ub en (Km p e.it) (max e.ea free))with
    |none=>none
    |some s=>match anG p r (Vv us e.it) (Zn p en e.it (s+e.fr)) (s+e.fr) k with
     |none=>none
     |some l=>some ((id,s)::l)
def ON(p:Pl):∀(ids:Pi)(us en:List (Int×Int))(free last:Int),anG p ids us en free last=Uu p ids us en free last
 |[],_,_,_,_=>rfl
 |id::r,us,en,free,last=>by
  rw[anG,Uu];simp only[RZ,ON p r];rfl
def ayD(of:Int)(sh:List Sp)(x fr to:Int):Bool:=
 if Yh of sh=false\/x<0\/10000000000<x\/fr<0\/86400<=fr\/to<0\/86400<=to then false else
 if fr<to then decide (fr<=(x+yQ of sh x)%86400)&&decide ((x+yQ of sh x)%86400<to)else decide (fr<=(x+yQ of sh x)%86400)||decide ((x+yQ of sh x)%86400<to)
def ayE(s r:Int):Bool:=if 0<=r/\r<8 then decide ((s/2 ^ r.toNat)%2=1)else false
def aum(c:Cl)(k item region:Int):Bool:=decide (c.ki=k)&&(Zc c&&(decide (c.it=item)&&ayE c.re region))
def hasB(l:List Sp)(x:Int):Bool:=l.any fun s=>decide (s.1<=x)&&decide (x<s.2)
def ajv(a:Int):P2:=[I a]
def anH:Pi->Int->Pi
 |[],x=>[x]
 |a::r,x=>if a<x then a::anH r x else if a=x then a::r else x::a::r
def anI(item region:Int)(c:Cl):Bool:=aum c 1 item region||aum c 2 item region
def edS(C:List Cl):Pi:=C.foldl (fun e c=>anH (anH e c.fr) c.to) []
def anJ(C:List Cl)(Ed:Pi):Nat->List Sp
 |0=>[]
 |j+1=>if grX C (Ed.getD j 0)=true then nI (anJ C Ed j) (Ed.getD j 0) (Ed.getD (j+1) 0)else anJ C Ed j
def ayF(cs:List Cl)(item region:Int):List Sp:=anJ (cs.filter (anI item region)) (edS (cs.filter (anI item region))) ((edS (cs.filter (anI item region))).length-1)
def aun:P2->Int
 |[.int _ a]=>a
 |_=>0
@[simp] def agc(l:Pi):(l.map ajv).map aun=l:=by
 induction l with
 |nil=>rfl
 |cons a l ih=>simp only[zzbb,ih];rfl
@[simp] def auo(l:Pi):l.map (aun ∘ ajv)=l:=by rw[<- zzcu];exact agc l
def aup(p:Pl)(item region f:Int):Bool:=match Xj item p.aM with
 |none=>false
 |some it=>if region<0\/8<=region\/f<0\/100000000<f then false else if it.ki=5 then true else if Kk p=false then false else
  hasB (ayF p.cls item region) (p.ep+Ym p.nu p.de f)&&(uD p.cls it.ra).all fun w=>ayD p.of p.sh (p.ep+Ym p.nu p.de f) w.1 w.2
def azr(p:Pl)(last f:Int):Int:=if Kk p=true then min last (xk p.nu p.de (Ym p.nu p.de f+1))else last
def azs(p:Pl)(item region first f:Int)(L:List Sp):Prop:=VS L/\(∀s∈L,s.2<=f)/\(∀x,Xu L x<->first<=x/\x<f/\aup p item region x=true)/\(L.length:Int)<=f-first
def auq(it:Int)(bf:List (Int×Int)):Int:=((bf.filter fun a=>decide (a.1=it)).length:Nat)
structure azt (p:Pl) (bf us en:List (Int×Int)):Prop where
 us:∀it,(af it us).getD 0<=auq it bf
 en:∀k v,af k en=some v->∃a∈bf,∃x,Xj a.1 p.aM=some x/\x.sp=k/\v<=a.2
structure azu (p:Pl) (bf us en:List (Int×Int)):Prop where
 us:∀it,auq it bf<=(af it us).getD 0
 en:∀a∈bf,∀x,Xj a.1 p.aM=some x->∃v,af x.sp en=some v/\a.2<=v
def ay1(p:Pl)(c:Cl):Pl:={p with cls:=p.cls++[c]}
def g0(ok:Pi->Bool)(rd:Int->Nat):Pi->Pi->List Bool
 |[],_=>[]
 |id::r,gZ=>if rd id=0 then ok (gZ++[id])::g0 ok rd r (if ok (gZ++[id])=true then gZ++[id]else gZ)else false::g0 ok rd r gZ
def aaS(ok:Pi->Bool)(rd:Int->Nat):∀(l gZ:Pi),(g0 ok rd l gZ).length=l.length
 |[],_=>rfl
 |id::r,gZ=>by rw[g0];split<;>simp[aaS ok rd r]
def j8(w:Bool):∀(a:Pi)(K:List Bool)(b:Pi)(L:List Bool),a.length=K.length->Xg w (a++b) (K++L)=Xg w a K++Xg w b L
 |[],[],_,_,_=>rfl
 |[],_::_,_,_,h=>by simp at h
 |_::_,[],_,_,h=>by simp at h
 |x::a,k::K,b,L,h=>by
  simp only[zzae,Xg];rw[j8 w a K b L (Nm h)];split<;>simp
def yR(ok:Pi->Bool)(rd:Int->Nat):∀(b a:Pi)(K:List Bool),a.length=K.length->((List.range' a.length b.length).foldl (Jy ok rd (a++b) 0) (K++List.replicate b.length false))=K++g0 ok rd b (Xg true a K)
 |[],a,K,h=>by simp[g0]
 |id::b,a,K,h=>by
  rw[zzaz,zzgr,zzcx];have aL:(a++id::b)[a.length]?=some id:=zd
  have hK:a.length<(K++List.replicate (b.length+1) false).length:=by simp;omega
  have bR:∀x,(K++List.replicate (b.length+1) false).set a.length x=(K++[x])++List.replicate b.length false:=fun x=>by
   rw[zzdc _ _ zE,h,zzfp,zzg];simp
  have hab:a++id::b=(a++[id])++b:=zd
  have ayG:Xg true (a++id::b) ((K++[true])++List.replicate b.length false)=Xg true a K++[id]:=by
   rw[hab,j8 true (a++[id]) (K++[true]) b _ (by simp[h]),j8 true a K [id] [true] h,yP];simp[Xg]
  have aH:∀x:Bool,(a++[id]).length=(K++[x]).length:=fun x=>by simp[h]
  have gJ:a.length+1=(a++[id]).length:=zd
  unfold Jy;rw[aL];simp only;by_cases hr:rd id=0
  ·rw[if_pos hr,bR true,ayG,bR,g0,if_pos hr];have ih:=yR ok rd b (a++[id]) (K++[ok (Xg true a K++[id])]) (aH _);rw[<- hab,<- gJ]at ih;rw[show(List.foldl (fun K i=>Jy ok rd (a++id::b) 0 K i))=List.foldl (Jy ok rd (a++id::b) 0)from rfl]at*
   refine ih.trans ?_;rw[j8 true a K [id] _ h];cases hb:ok (Xg true a K++[id])<;>simp[Xg]
  rw[if_neg hr,g0,if_neg hr];have ih:=yR ok rd b (a++[id]) (K++[false]) (aH _);rw[<- hab,<- gJ]at ih;have e:K++List.replicate (b.length+1) false=(K++[false])++List.replicate b.length false:=by rw[zzg];simp
  rw[e];refine ih.trans ?_;rw[j8 true a K [id] _ h];simp[Xg]
def R2(ok:Pi->Bool)(rd:Int->Nat)(ids:Pi):Jf ok rd ids 0 (List.replicate ids.length false)=g0 ok rd ids []:=by
 have:=yR ok rd ids [] [] rfl;simp only[zzco,zzai,Xg]at this;rw[Jf,zzfo];exact this
def lB(ok:Pi->Bool)(rd:Int->Nat):∀(ids gZ:Pi),(Xg false ids (g0 ok rd ids gZ)).filter (fun id=>decide (rd id=0))=Xg false (ids.filter fun id=>decide (rd id=0)) (g0 ok rd (ids.filter fun id=>decide (rd id=0)) gZ)
 |[],gZ=>rfl
 |id::r,gZ=>by
  by_cases h:rd id=0
  ·rw[zzdz (by simp[h]),g0,g0,if_pos h,if_pos h];cases hb:ok (gZ++[id])with
   |true=>simpa[Xg]using lB ok rd r (gZ++[id])
   |false=>
    simp only[Xg,zzbh,if_false,beq_self_eq_true,if_true];rw[zzdz (by simp[h]),lB ok rd r gZ]
  rw[zzfi (by simp[h]),g0,if_neg h];simp only[Xg,beq_self_eq_true,if_true];rw[zzfi (by simp[h]),lB ok rd r gZ]
def aaT(rd:Int->Nat)(ids:Pi)(K K':List Bool):Prop:=∀(j:Nat)(id:Int),ids[j]?=some id->rd id=0->K.getD j false=K'.getD j false
def BH(rd:Int->Nat):∀(ids:Pi)(K K':List Bool),K.length=ids.length->K'.length=ids.length->aaT rd ids K K'->(Xg false ids K).filter (fun id=>decide (rd id=0))=(Xg false ids K').filter (fun id=>decide (rd id=0))
 |[],K,K',_,_,_=>by simp[Xg]
 |id::r,[],_,h,_,_=>by simp at h
 |id::r,_::_,[],_,h,_=>by simp at h
 |id::r,k::K,k'::K',h1,h2,h=>by
  have ih:=BH rd r K K' (Nm h1) (Nm h2) fun j x hj hx=>by simpa using h (j+1) x (Nm hj) hx
  by_cases hr:rd id=0
  ·have h0:=h 0 id rfl hr;simp at h0;subst h0;simp only[Xg];split
   ·rw[zzdz (by simp[hr]),zzdz (by simp[hr]),ih]
   exact ih
  simp only[Xg]
  have e:∀(b:Bool)(l:Pi),(if(b==false)=true then id::l else l).filter (fun id=>decide (rd id=0))=l.filter fun id=>decide (rd id=0):=fun b l=>by
   split
   ·rw[zzfi (by simp[hr])]
   rfl
  rw[e,e,ih]
def tg(ok:Pi->Bool)(rd:Int->Nat)(ids:Pi)(r:Nat)(hr:r≠0)(K:List Bool):aaT rd ids (Jf ok rd ids r K) K/\(Jf ok rd ids r K).length=K.length:=by
 have key:∀(L:Pa)(K:List Bool),aaT rd ids (L.foldl (Jy ok rd ids r) K) K/\(L.foldl (Jy ok rd ids r) K).length=K.length:=by
  intro L;induction L with
  |nil=>intro K;exact⟨fun _ _ _ _=>rfl,rfl⟩
  |cons i L ih=>
   intro K;obtain⟨h1,h2⟩:=ih (Jy ok rd ids r K i);refine⟨fun j id hj aL=>?_,by rw[zzcx,h2,RY]⟩;rw[zzcx,h1 j id hj aL];unfold Jy;cases hi:ids[i]? with
   |none=>rfl
   |some x=>
    simp only;split
    ·rename_i hx;rw[j7,if_neg (by rintro⟨e,_⟩;subst e;rw[hi]at hj;cases hj;omega)]
    rfl
 exact key _ K
def ayH(ok:Pi->Bool)(rd:Int->Nat)(ids:Pi):(Xg false ids (Jo ok rd ids)).filter (fun id=>decide (rd id=0))=Xg false (ids.filter fun id=>decide (rd id=0)) (Jo ok rd (ids.filter fun id=>decide (rd id=0))):=by
 obtain⟨S,hS⟩:∃S,(ids.filter fun id=>decide (rd id=0))=S:=⟨_,rfl⟩;have bD:∀(L:Pi),Jo ok rd L=Jf ok rd L 2 (Jf ok rd L 1 (g0 ok rd L [])):=fun L=>by rw[Jo,R2]
 have two:∀(L:Pi),(Xg false L (Jo ok rd L)).filter (fun id=>decide (rd id=0))=(Xg false L (g0 ok rd L [])).filter (fun id=>decide (rd id=0)):=fun L=>by
  rw[bD];obtain⟨a1,a2⟩:=tg ok rd L 1 zE (g0 ok rd L []);obtain⟨b1,b2⟩:=tg ok rd L 2 zE (Jf ok rd L 1 (g0 ok rd L []));have hg:=aaS ok rd L [];refine BH rd L _ _ zE hg fun j id hj aL=>?_;rw[b1 j id hj aL,a1 j id hj aL]
 rw[two ids,lB,hS]
 have hSf:∀id∈S,rd id=0:=fun id h=>by
  rw[<- hS]at h;simpa using(zzbw.1 h).2
 have bO:∀(L:Pi)(K:List Bool),∀x∈Xg false L K,x∈L:=by
  intro L;induction L with
  |nil=>intro K x hx;simp[Xg]at hx
  |cons y L ih=>
   intro K x hx;cases K with
   |nil=>simp[Xg]at hx
   |cons k K=>
    simp only[Xg]at hx;split at hx
    ·rcases zzap.1 hx with rfl|hx
     ·simp
     exact zzdh _ (ih K x hx)
    exact zzdh _ (ih K x hx)
 have aL:∀K:List Bool,(Xg false S K).filter (fun id=>decide (rd id=0))=Xg false S K:=fun K=>zzfx.2 fun x hx=>by simp[hSf x (bO S K x hx)]
 have:=two S;rw[aL,aL]at this;exact this.symm
section
variable (P:Int->Prop) (fr low:Int)
def OkA(t:Int):Prop:=∀x,t<=x->x<t+fr->P x
structure RfI (c run last:Int):Prop where
 no:∀t,low<=t->t+fr<=c->¬OkA P fr t
 st:(run= -1/\last= -1/\∀x,low<=x->x<c->¬P x)\/(low<=run/\run<last/\last<=c/\(∀x,run<=x->x<last->P x)/\(run=low\/¬P (run-1))/\∀x,last<=x->x<c->¬P x)
end
def nlB(a b:List Sp):Bool:=a.all fun x=>b.all fun y=>!(decide (x.1=y.1)&&decide (y.2<x.2))
def jV(w:Bool):∀(ids:Pi)(K:List Bool),(Xg w ids K).Sublist ids
 |[],K=>by cases K<;>simp[Xg]
 |id::r,[]=>by simp[Xg]
 |id::r,k::ks=>by
  rw[Xg];split
  ·exact(jV w r ks).cons_cons id
  exact(jV w r ks).cons id
def HO:∀{ids:Pi}{K:List Bool},K.length=ids.length->(∀j,j<ids.length->K.getD j false=true)->Xg true ids K=ids/\Xg false ids K=[]
 |[],K,_,_=>by cases K<;>exact⟨rfl,rfl⟩
 |id::r,[],h,_=>by simp at h
 |id::r,k::ks,h,hk=>by
  have h0:=hk 0 zd;simp at h0;subst h0
  obtain⟨h1,h2⟩:=HO (ids:=r) (K:=ks) (Nm h) fun j hj=>by
   have:=hk (j+1) (Nm hj);simpa using this
  simp[Xg,h1,h2]
def Mb{ok:Pi->Bool}(hm:aaQ ok)(h0:ok []=true)(rd:Int->Nat)(ids:Pi)(iC:∀id∈ids,rd id<=2)(h:ok ids=true):Xg true ids (Jo ok rd ids)=ids/\Xg false ids (Jo ok rd ids)=[]:=by
 obtain⟨h1,h2,h3⟩:=choose_spec hm h0 rd ids iC;refine HO h1 fun j hj=>?_;rcases h3 j _ (zzaf hj)with h4|h4
 ·exact h4
 rw[hm _ _ (jV true ids _) h]at h4;cases h4
def amQ(n:Int):Prop:= -9223372036854775808<=n/\n<=9223372036854775807
structure Ca where
 p:Pl
 ids:Pi
 wh:Int
 at_:Int
 past:List Ad
structure PlK (p:Pl):Prop where
 cls:p.cls.length<=1000
 sh:p.sh.length<=1000
 aM:p.aM.length<=1000
 ens:p.ens.length<=1000
 bks:p.bks.length<=1000
 als:∀e∈p.ens,e.al.length<=1000
 ln: -9223372036854775808<=p.ln/\p.ln<=9223372036854775807
 ea:∀e∈p.ens,-9223372036854775808<=e.ea/\e.ea<=9223372036854775807
 la:∀e∈p.ens,-9223372036854775808<=e.la/\e.la<=9223372036854775807
 fr:∀e∈p.ens,-9223372036854775808<=e.fr/\e.fr<=2000
def PlK.spn{p:Pl}(h:PlK p):(Yy p).length<=1000:=by
 have:=pU p.aM [] [];have:=h.aM;simp only[Yy];simp at*;omega
def HP:∀(l:List Ad)(us:List (Int×Int))(n:Int),0<=n->pT n us->pT (n+l.length) (N5 l us)
 |[],us,n,_,h=>by simpa[N5]using h
 |a::r,us,n,hn,h=>by
  rw[N5]
  have h1:pT (n+1) (if rz a=true then Vv us a.it else us):=by
   split
   ·exact h.note hn a.it
   exact fun k v hk=>by have:=h k v hk;omega
  have h2:=HP r _ (n+1) zE h1;have:n+((a::r).length:Int)=n+1+(r.length:Int):=by simp;omega
  rw[this];exact h2
def HQ(p:Pl):∀(l:List Ad)(en:List (Int×Int)),tV en->tV (N6 p l en)
 |[],en,h=>by simpa[N6]using h
 |a::r,en,h=>by
  rw[N6];refine HQ p r _ ?_;cases hc:rz a with
  |false=>simpa[hc]using h
  |true=>
   simp only[if_true];refine h.note a.it _ ?_;simp[rz]at hc;omega
def Hf(l:Pi):AV:=if l=[]then .sl .nil []else .sl .ro (l.map Qy)
def gD(p:Pl)(at_:Int)(past:List Ad):Bd:=⟨p,at_,N5 past [],N6 p past [],[],[],[]⟩
def amR(p:Pl)(at_:Int)(past:List Ad):Bg (gD p at_ past):=⟨fun _ _ h=>(by cases h),fun _ _ h=>(by cases h),fun _ _ h=>(by cases h)⟩
def Rz(p:Pl)(id:Int):Nat:=match Xb id p.ens with
 |none=>2
 |some e=>if e.bo≠0 then 0 else match Xj e.it p.aM with
  |none=>2
  |some x=>if x.ki=1\/x.ki=4 then 1 else 2
def Wh(p:Pl)(at_:Int)(past:List Ad)(ids:Pi):List Bool:=Jo (oy (gD p at_ past)) (Rz p) ids
def RB(p:Pl)(at_:Int)(past:List Ad)(ids:Pi):AV:=
 .aS [IQ ((Yc p at_ past (Xg true ids (Wh p at_ past ids))).getD []),Hf (Xg false ids (Wh p at_ past ids))]
theorem uT(p:Pl)(at_:Int)(past:List Ad)(ids:Pi):oy (gD p at_ past) ids=(Yc p at_ past ids).isSome:=rfl
def aaU(p:Pl)(id:Int):Rz p id<=2:=by
 unfold Rz;cases Xb id p.ens with
 |none=>exact zzab _
 |some e=>
  simp only;split
  ·omega
  cases Xj e.it p.aM with
  |none=>exact zzab _
  |some x=>simp only;split<;>omega
def LI(p:Pl)(at_:Int)(past:List Ad)(ids:Pi):(Wh p at_ past ids).length=ids.length/\(Yc p at_ past (Xg true ids (Wh p at_ past ids))).isSome=true/\
  ∀(j:Nat)(id:Int),ids[j]?=some id->(Wh p at_ past ids).getD j false=true\/(Yc p at_ past (Xg true ids ((Wh p at_ past ids).set j true))).isSome=false:=
 choose_spec (HN _) (OQ _) (Rz p) ids fun id _=>aaU p id
def RC(p:Pl)(at_:Int)(past:List Ad)(ids:Pi)(h:(Yc p at_ past ids).isSome=true):Xg true ids (Wh p at_ past ids)=ids/\Xg false ids (Wh p at_ past ids)=[]:=
 Mb (HN _) (OQ _) (Rz p) ids (fun id _=>aaU p id) h
def Z1(past:List Ad):pT (past.length:Int) (N5 past []):=by
 have h:=HP past [] 0 zE (fun k v h=>by cases h);rwa [Int.zero_add]at h
def Z2(p:Pl)(past:List Ad):tV (N6 p past []):=HQ p past [] (fun k v h=>by cases h)
def UL(p:Pl)(id:Int):Int:=match za id p.ens 0 with
 |none=> -1
 |some k=>(k:Int)
def BI{w:Bool}:∀{ids:Pi}{K:List Bool}{i:Nat}{id:Int}{k:Bool},ids[i]?=some id->K[i]?=some k->Xg w (ids.take (i+1)) (K.take (i+1))=Xg w (ids.take i) (K.take i)++if(k==w)=true then[id]else[]
 |[],_,_,_,_,h,_=>by simp at h
 |_::_,[],_,_,_,_,h=>by simp at h
 |x::r,y::ks,0,id,k,h1,h2=>by
  simp at h1 h2;subst h1;subst h2;simp[Xg]
 |x::r,y::ks,i+1,id,k,h1,h2=>by
  have ih:=BI (w:=w) (ids:=r) (K:=ks) (i:=i) (Nm h1) (Nm h2);rw[zzel,zzel,zzel,zzel,Xg,Xg,ih];split<;>simp
def aaV(p:Pl)(id:Int):(∃(n k:Nat)(e:En),Xb id p.ens=some e/\p.ens[k]?=some e/\Xk [id] (bG iA (De p)) 0=some (n,I k))\/(Xb id p.ens=none/\Xk [id] (bG iA (De p)) 0=none):=by
 have key:∀(l:List En)(i:Nat),za id l i=none->Xb id l=none:=by
  intro l;induction l with
  |nil=>intro i _;rfl
  |cons x r ih=>
   intro i h;rw[za]at h;split at h
   ·cases h
   rename_i hn;rw[Xb,if_neg hn];exact ih _ h
 rcases Xw iA id (De p) 0 with⟨p1,p2,_⟩|⟨u,n,p1,p2,_⟩
 ·rw[uG]at p1;cases hx:za id p.ens 0 with
  |none=>exact .inr ⟨key _ _ hx,p2⟩
  |some k=>rw[hx]at p1;cases p1
 rw[uG]at p1;cases hx:za id p.ens 0 with
 |none=>rw[hx]at p1;cases p1
 |some k=>
  rw[hx]at p1;cases p1;obtain⟨_,e,h2,h3,h4⟩:=kT hx;rw[zzer]at h2;exact .inl ⟨_,k,e,h4,h2,p2⟩
def afy(pre post:T5)(ls:Pa)(b:Bd)(id:Int)(Y:YT)(K:So)(hK:∀ex,K (I (Rz b.p id:Nat)) (aP pre b (post++ex) ls)):
  aB Tryz.prog aD Y 164 [.ptr (pre.length+9) 0,I id] (aP pre b post ls) K:=by
 refine Xn acL (fun _ _ _=>.junk) zd ?_;unfold Rz at hK;rcases aaV b.p id with⟨n,k,e,he,hk,hp⟩|⟨he,hp⟩
 ·rw[he]at hK;simp only at hK;have qv:=(zza.1 hk).1;have zD:(k:Int)<(b.p.ens.length:Int):=zE
  have xO:=Qdj hk;by_cases b1:e.bo=0
  ·rw[if_neg (by simp[b1])]at hK;rcases Qdh b.p e.it with⟨ni,y,hy,hi⟩|⟨hy,hi⟩
   ·rw[hy]at hK;simp only at hK;by_cases c1:y.ki=1
    ·rw[if_pos (.inl c1)]at hK;simp[vm,aP,aW,Qo,Qa,hp,qv,zD,xO,Qd,b1];refine Um ?_;simp[vn,aP,aW,Qo,Qa,Qd,hi,rA,Qj,c1];simpa[aP,aW,Qo,Qa,Qj,Qd,b1,c1]using hK [Qd e,Qj y]
    by_cases c2:y.ki=4
    ·rw[if_pos (.inr c2)]at hK;simp[vm,aP,aW,Qo,Qa,hp,qv,zD,xO,Qd,b1];refine Um ?_;simp[vn,aP,aW,Qo,Qa,Qd,hi,rA,Qj,c1,c2];simpa[aP,aW,Qo,Qa,Qj,Qd,b1,c1,c2]using hK [Qd e,Qj y]
    rw[if_neg (by rintro(h|h);exact c1 h;exact c2 h)]at hK;simp[vm,aP,aW,Qo,Qa,hp,qv,zD,xO,Qd,b1];refine Um ?_;simp[vn,aP,aW,Qo,Qa,Qd,hi,rA,Qj,c1,c2];simpa[aP,aW,Qo,Qa,Qj,Qd,b1,c1,c2]using hK [Qd e,Qj y]
   rw[hy]at hK;simp only at hK;simp[vm,aP,aW,Qo,Qa,hp,qv,zD,xO,Qd,b1];refine Um ?_;simp[vn,aP,aW,Qo,Qa,Qd,hi];simpa[aP,aW,Qo,Qa,Qd,b1]using hK [Qd e,[I 0,I 0,I 0,I 0,I 0]]
  rw[if_pos b1]at hK;simp[vm,vn,aP,aW,Qo,Qa,hp,qv,zD,xO,Qd,b1];simpa[aP,aW,Qo,Qa,Qd]using hK [Qd e]
 rw[he]at hK;simp only at hK;simp[vm,vn,aP,aW,Qo,Qa,hp];simpa[aP,aW,Qo,Qa]using hK []
def rJ(n:Nat)(S:Pi):Rt:=if S=[]then .nil else .own n 1
def oe(S:Pi):Pa:=if S=[]then[]else[S.length]
def aur(ids:Pi)(K:List Bool)(w:Bool)(m0:AM)(f:Nat->AV)(m:AM):Prop:=
 ∃(i:Nat),f 10=I i/\i<=ids.length/\f 5=.sl (rJ m0.lens.length (Xg w (ids.take i) (K.take i))) ((Xg w (ids.take i) (K.take i)).map Qy)/\m={m0 with lens:=m0.lens++oe (Xg w (ids.take i) (K.take i))}
def RA(ids:Pi)(K:List Bool)(w:Bool)(hi:ids.length<=1000)(hk:K.length=ids.length)(m:AM)(ia ib kb:Nat)(h1:Qh m.boxes ia=[.sl .ro (ids.map Qy)])(h2:Qh m.boxes ib=[.bs kb 0 ids.length 1])(h3:Qh m.boxes kb=K.map .bool)
  (g1:ia<m.boxes.length)(g2:ib<m.boxes.length)(g3:kb<m.boxes.length)(Y:YT)(Q:So)(hQ:Q (.sl (rJ m.lens.length (Xg w ids K)) ((Xg w ids K).map Qy)) {m with lens:=m.lens++oe (Xg w ids K)}):
  aB Tryz.prog aD Y 163 [.bool w,.ptr ia 0,.ptr ib 0] m Q:=by
 refine Xn acK (fun _ _ _=>.junk) zd ?_;simp[TT,h1,g1];refine Qi vl (aur ids K w m) (fun f _=>ids.length-(numOf (f 10)).toNat) ?_ ?_
 ·exact⟨0,zd,zE,by simp[Xg,rJ],by simp[Xg,oe]⟩
 rintro f m' ⟨i,jq,iV,h5,rfl⟩;rcases zzaa i ids.length with ai|bq
 ·obtain⟨id,hx⟩:=aV ai;obtain⟨k,hy⟩:∃x,K[i]?=some x:=⟨_,zzaf zE⟩;have ah:Qh (ids.map Qy) i=Qy id:=Qu (by simp[hx]);have bL:nth ((K.map AV.bool).drop i) 0=.bool k:=alx (by simp[hy]);have xg:min 1 (K.length-i)=1:=zE
  have anK:i<K.length:=zE
  have aa:(i:Int)<(ids.length:Int):=zE
  have hw:=bP i zE;have bA:=BI (w:=w) hx hy
  have iB:(Xg w (ids.take i) (K.take i)).length<=1000:=by
   have:=(jV w (ids.take i) (K.take i)).length_le;simp at this;omega
  obtain⟨S,hS⟩:∃S,Xg w (ids.take i) (K.take i)=S:=⟨_,rfl⟩;rw[hS]at h5 bA iB |-
  cases hc:(k==w)with
  |false=>
   rw[hc]at bA;have bA:Xg w (ids.take (i+1)) (K.take (i+1))=S:=by rw[bA];simp
   simp[jq,h5,ai,aa,anK,ah,Qy,vl,hw,hc,h2,h3,g2,g3,bL,xg,show 1<=K.length-i by omega];refine⟨aQ,⟨i+1,zd,zE,by rw[bA];simp[h5,Qy],by rw[bA]⟩,zE⟩
  |true=>
   rw[hc]at bA;have bA:Xg w (ids.take (i+1)) (K.take (i+1))=S++[id]:=by rw[bA];simp
   by_cases hSe:S=[]
   ·subst hSe;simp only[rJ,oe,if_true,zzcs,zzau]at h5 |-
    simp[jq,h5,ai,aa,anK,ah,Qy,vl,hw,hc,h2,h3,g2,g3,bL,xg,show 1<=K.length-i by omega];refine⟨aQ,⟨i+1,zd,zE,by rw[bA];simp[Qy,rJ],by rw[bA];simp[oe]⟩,zE⟩
   simp only[rJ,oe,if_neg hSe]at h5 |-
   have bY:(m.lens++[S.length]).set m.lens.length (S.length+1)=m.lens++[S.length+1]:=by rw[List.set_append,if_neg zE];simp
   simp[jq,h5,ai,aa,anK,ah,Qy,vl,hw,hc,h2,h3,g2,g3,bL,xg,show 1<=K.length-i by omega];refine⟨⟨?_,zE⟩,aQ,⟨i+1,zd,zE,by rw[bA];simp[Qy,rJ],by rw[bA];simp[oe]⟩,zE⟩
   ·rintro row (⟨a,_,rfl⟩|rfl)<;>rfl
 have bO:¬(i:Int)<(ids.length:Int):=zE
 rw[zzat zE,zzat zE]at h5 |-
 simp[jq,h5,bO,zzbk.2 bq,vl,ahe];exact hQ
