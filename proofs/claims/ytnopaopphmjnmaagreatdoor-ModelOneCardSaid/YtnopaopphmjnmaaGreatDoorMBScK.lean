import Derived.Test.YtnopaopphmjnmaaGreatDoorMBMT
set_option linter.all false
set_option maxRecDepth 100000
set_option maxHeartbeats 64000000
namespace Go.Proofs.YtnopaopphmjnmaaGreatDoor
open Go Go.Abs
def yy{at_ n t:Int}(hn:1<=n)(ht:at_<=t):∀{l:List Sp},VS l->(∀x,t<=x->x<t+n->Xr l x)->∃s,Ge at_ n l=some s/\s<=t
 |[],_,h=>by
  have:=h t (zzbv _) (by omega);simp at this
 |a::r,hv,h=>by
  have ha:=hv.1 a (by simp);have hp:=zzbw.1 hv.2;have hr:VS r:=⟨fun s hs=>hv.1 s (by simp[hs]),hp.2⟩;rw[Ge];by_cases c:max a.1 at_<a.2/\n<=a.2-max a.1 at_
  ·rw[if_pos c];refine⟨_,rfl,?_⟩;have h0:=h t (zzbv _) (by omega);rw[Xc]at h0;obtain h0|⟨s,hs,h1,h2⟩:=h0
   ·omega
   have:=hp.1 s hs;omega
  rw[if_neg c]
  have axd:∀x,t<=x->x<t+n->¬(a.1<=x/\x<a.2):=by
   intro x Px hx2 hx
   have h2:¬Xr (a::r) a.2:=by
    rw[Xc];rintro(h|⟨s,hs,h1,_⟩)
    ·omega
    have:=hp.1 s hs;omega
   have h3:t+n<=a.2:=by
    rcases zzff a.2 (t+n)with h'|h'
    ·exact absurd (h a.2 (by omega) h') h2
    exact h'
   have h4:a.1<=t:=by
    rcases zzff t a.1 with h'|h'
    ·have h5:=h (a.1-1) (by omega) (by omega);rw[Xc]at h5;obtain h5|⟨s,hs,h6,_⟩:=h5
     ·omega
     have:=hp.1 s hs;omega
    exact h'
   exact c ⟨by omega,by omega⟩
  refine yy hn ht hr fun x h1 h2=>?_;have h3:=h x h1 h2;rw[Xc]at h3;exact h3.resolve_left (axd x h1 h2)
def yz{p:Pl}{it k at_ n t:Int}(hn:1<=n/\n<=1000000)(ht:at_<=t)(hk:k*1000000<=t/\t+n<=(k+2)*1000000)(h:∀x,t<=x->x<t+n->gO p it 0 x):∃s,lN (Xx p it k) at_ n=some s/\s<=t:=by
 rw[lN,if_neg (by omega)];refine yy hn.1 ht (Zy _).1 fun x h1 h2=>?_;rw[(Zy _).2,Qbu];exact⟨by omega,by omega,h x h1 h2⟩
def agz{p:Pl}{it k at_ n s:Int}(hn:1<=n)(h:lN (Xx p it k) at_ n=some s):s+n<=(k+2)*1000000:=by
 rw[lN,if_neg (by omega)]at h;obtain⟨a,ha,h1,h2,h3⟩:=CU h;have:Xr (Xl (Xx p it k)) (s+n-1):=⟨a,ha,by omega,by omega⟩;rw[(Zy _).2,Qbu]at this;omega
def Bm{p:Pl}{e:En}{last from_ n t:Int}(he:1<=e.fr/\e.fr<=1000000)(h1:from_<=t)(h2:t<=last)(h3:n*1000000<=t)(h:∀x,t<=x->x<t+e.fr->gO p e.it 0 x):∃s,S3 p e last from_ n=some s/\s<=t:=by
 rw[S3,if_pos (by omega)];cases hs:lN (Xx p e.it n) from_ e.fr with
 |none=>
  simp only;refine Bm he h1 h2 ?_ h;rcases zzff t ((n+1)*1000000)with h'|h'
  ·obtain⟨s,iz,_⟩:=yz (p:=p) (it:=e.it) (k:=n) he h1 ⟨h3,by omega⟩ h;rw[hs]at iz;cases iz
  exact h'
 |some s=>
  simp only;have bI:=agz he.1 hs
  have bU:s<=t:=by
   rcases zzff ((n+2)*1000000) (t+e.fr)with h'|h'
   ·omega
   obtain⟨s',iz,cc⟩:=yz (p:=p) (it:=e.it) (k:=n) he h1 ⟨h3,h'⟩ h;rw[hs]at iz;cases iz;exact cc
  rw[if_neg (by omega)];exact⟨s,rfl,bU⟩
termination_by(last-n*1000000+1000000).toNat
decreasing_by omega
def DD{p:Pl}{e:En}{from_ t:Int}(he:1<=e.fr/\e.fr<=1000000)(h1:from_<=t)(h0:0<=t)(h2:t<=e.la/\t+e.fr<=p.ln/\t<=100000000)(h:∀x,t<=x->x<t+e.fr->gO p e.it 0 x):∃s,Vz p e from_=some s/\s<=t:=by
 rw[Vz,if_neg (by omega)];refine Bm he (by omega) (by simp only[mB];omega) ?_ h;have hm:0<=max from_ 0:=by omega
 rw[zzck hm];omega
def LeU(us' us:List (Int×Int)):Prop:=∀k,(af k us').getD 0<=(af k us).getD 0
def LeE(en' en:List (Int×Int)):Prop:=∀k v',af k en'=some v'->∃v,af k en=some v/\v'<=v
def LeE.refl(en:List (Int×Int)):LeE en en:=fun k v h=>⟨v,h,zzbv _⟩
def LeU.note{us' us:List (Int×Int)}(h:LeU us' us)(it:Int):LeU (Vs us' it) (Vs us it):=fun k=>by
 rw[Vs,Vs,Uh,Uh];have:=h it;split
 ·simp;omega
 exact h k
def LeU.skip{us' us:List (Int×Int)}(h:LeU us' us)(it:Int):LeU us' (Vs us it):=fun k=>by
 rw[Vs,Uh];split
 ·rename_i e;have:=h it;rw[e];simp;omega
 exact h k
def LeE.note{p p':Pl}{en' en:List (Int×Int)}(h:LeE en' en)(it:Int){e' e:Int}(he:e'<=e)(h0:0<=e')(hp:Xh it p'.aM=Xh it p.aM):LeE (Zm p' en' it e') (Zm p en it e):=fun k v' hk=>by
 unfold Zm at hk |-
 rw[hp]at hk;cases hf:Xh it p.aM with
 |none=>rw[hf]at hk;exact h k v' hk
 |some x=>
  rw[hf]at hk;simp only[Uh]at hk |-
  split at hk
  ·rename_i X6;cases hk;refine⟨_,by rw[if_pos X6],?_⟩;cases h1:af x.sp en' with
   |none=>
    cases h2:af x.sp en with
    |none=>simp;omega
    |some v=>simp;omega
   |some v1=>
    obtain⟨v,hv,cc⟩:=h _ _ h1;rw[hv];simp;omega
  rename_i X6;obtain⟨v,hv,cc⟩:=h k v' hk;exact⟨v,by rw[if_neg X6];exact hv,cc⟩
def LeE.skip{p:Pl}{en' en:List (Int×Int)}(h:LeE en' en)(it e:Int):LeE en' (Zm p en it e):=fun k v' hk=>by
 obtain⟨v,hv,cc⟩:=h k v' hk;unfold Zm;cases hf:Xh it p.aM with
 |none=>exact⟨v,hv,cc⟩
 |some x=>
  simp only[Uh];split
  ·rename_i X6;subst X6;exact⟨_,rfl,by rw[hv];simp;omega⟩
  exact⟨v,hv,cc⟩
def yA{en' en:List (Int×Int)}(h:LeE en' en):∀(l:List Sp){f' f:Int},f'<=f->Ug en' l f'<=Ug en l f
 |[],_,_,hf=>hf
 |r::l,f',f,hf=>by
  rw[Ug,Ug];refine yA h l ?_;cases h1:af r.1 en' with
  |none=>
   cases h2:af r.1 en with
   |none=>exact hf
   |some v=>simp only;omega
  |some v1=>
   obtain⟨v,hv,cc⟩:=h _ _ h1;rw[hv];simp only;omega
structure agB (p' p:Pl):Prop where
 aM:p'.aM=p.aM
 ens:p'.ens=p.ens
 ln:p'.ln=p.ln
 runs:∀it,Wm p' it=Wm p it
 riv:∀it,Kq p' it=Kq p it
 perm:∀it x,gO p it 0 x->gO p' it 0 x
def agB.refl(p:Pl):agB p p:=⟨rfl,rfl,rfl,fun _=>rfl,fun _=>rfl,fun _ _ h=>h⟩
inductive Bn:List Sp->List Sp->Prop
 |nil (l:List Sp):Bn [] l
 |skip {l' l:List Sp} (s:Sp):Bn l' l->Bn l' (s::l)
 |cons {l' l:List Sp} (id s' s:Int):s'<=s->Bn l' l->Bn ((id,s')::l') ((id,s)::l)
def Sx{p' p:Pl}(hm:agB p' p){agC ids:List Int}(anw:agC.Sublist ids):∀{us' us en' en:List (Int×Int)}{free' free last' last:Int}{l:List Sp},LeU us' us->LeE en' en->free'<=free->last'<=last->Jh p ids us en free last=some l->
  ∃l',Jh p' agC us' en' free' last'=some l'/\Bn l' l:=by
 induction anw with
 |slnil=>
  intro us' us en' en free' free last' last l _ _ _ _ h;exact⟨[],rfl,.nil _⟩
 |@cons agC ids id _ ih=>
  intro us' us en' en free' free last' last l hu he hf hla h;rw[Jh]at h;cases hk:zq id p.ens 0 with
  |none=>rw[hk]at h;cases h
  |some k=>
   rw[hk]at h;simp only at h;split at h
   ·cases h
   rename_i DQ;cases hx:p.ens[k]? with
   |none=>rw[hx]at h;cases h
   |some e=>
    rw[hx]at h;simp only at h;split at h
    ·cases h
    cases hs:Vz p e (Ug en (Kq p e.it) (max e.ea free))with
    |none=>rw[hs]at h;cases h
    |some s=>
     rw[hs]at h;simp only at h;cases hg:Jh p ids (Vs us e.it) (Zm p en e.it (s+e.fr)) (s+e.fr) k with
     |none=>rw[hg]at h;cases h
     |some r=>
      rw[hg]at h;cases h;obtain⟨a1,a2,_⟩:=Qaw hs;have gj:=Gf en (Kq p e.it) (max e.ea free);obtain⟨l',h1,h2⟩:=ih (hu.skip e.it) (he.skip e.it (s+e.fr)) (free':=free') (by omega) (last':=last') (by omega) hg;exact⟨l',h1,.skip _ h2⟩
 |@cons_cons agC ids id _ ih=>
  intro us' us en' en free' free last' last l hu he hf hla h;rw[Jh]at h;rw[Jh,hm.ens];cases hk:zq id p.ens 0 with
  |none=>rw[hk]at h;cases h
  |some k=>
   rw[hk]at h;simp only at h |-
   split at h
   ·cases h
   rename_i DQ;rw[if_neg (by omega)];cases hx:p.ens[k]? with
   |none=>rw[hx]at h;cases h
   |some e=>
    rw[hx]at h;simp only at h |-
    split at h
    ·cases h
    rename_i hr;have hue:=hu e.it;rw[hm.runs,hm.riv,if_neg (by intro hh;exact hr ⟨hh.1,by omega⟩)];cases hs:Vz p e (Ug en (Kq p e.it) (max e.ea free))with
    |none=>rw[hs]at h;cases h
    |some s=>
     rw[hs]at h;simp only at h;cases hg:Jh p ids (Vs us e.it) (Zm p en e.it (s+e.fr)) (s+e.fr) k with
     |none=>rw[hg]at h;cases h
     |some r=>
      rw[hg]at h;cases h;obtain⟨a1,a2,a3,a4,a5,a6,a7⟩:=Qaw hs;have hfm:=yA he (Kq p e.it) (show max e.ea free'<=max e.ea free by omega);obtain⟨s',iz,cc⟩:=DD (p:=p') (from_:=Ug en' (Kq p e.it) (max e.ea free')) a1 (by omega) a3 ⟨a4,by rw[hm.ln];exact a5,a6⟩ (fun x h1 h2=>hm.perm _ _ (a7 x h1 h2));have cK:=Qaw iz;rw[iz];simp only;obtain⟨l',h1,h2⟩:=ih (hu.note e.it) (he.note e.it (e':=s'+e.fr) (e:=s+e.fr) (by omega) (by omega) (by rw[hm.aM])) (free':=s'+e.fr) (by omega) (last':=(k:Int)) (zzbv _) hg;rw[h1];exact⟨_,rfl,.cons id s' s cc h2⟩
def aa1(ok:List Int->Bool):Prop:=∀a b:List Int,a.Sublist b->ok b=true->ok a=true
def HN(b:Bd):aa1 (nZ b):=fun a c hs h=>by
 unfold nZ at h |-
 obtain⟨l,hl⟩:=zzco.1 h;obtain⟨l',h1,_⟩:=Sx (agB.refl b.p) hs (us':=b.us) (en':=b.en) (free':=b.at_) (last':= -1) (fun _=>zzbv _) (LeE.refl _) (zzbv _) (zzbv _) hl;rw[h1];rfl
theorem O4(b:Bd):nZ b []=true:=rfl
def Xb(w:Bool):List Int->List Bool->List Int
 |id::r,k::ks=>if(k==w)=true then id::Xb w r ks else Xb w r ks
 |_,_=>[]
def Jr(ok:List Int->Bool)(rd:Int->Nat)(ids:List Int)(r:Nat)(K:List Bool)(i:Nat):List Bool:=match ids[i]? with
 |some id=>if rd id=r then K.set i (ok (Xb true ids (K.set i true)))else K
 |none=>K
def Uy(ok:List Int->Bool)(rd:Int->Nat)(ids:List Int)(r:Nat)(K:List Bool):List Bool:=(List.range ids.length).foldl (Jr ok rd ids r) K
def Jk(ok:List Int->Bool)(rd:Int->Nat)(ids:List Int):List Bool:=Uy ok rd ids 2 (Uy ok rd ids 1 (Uy ok rd ids 0 (List.replicate ids.length false)))
def DE(K K':List Bool):Prop:=∀j,K.getD j false=true->K'.getD j false=true
def DE.refl(K:List Bool):DE K K:=fun _ h=>h
def DE.trans{K K' K'':List Bool}(h:DE K K')(k:DE K' K''):DE K K'':=fun j hj=>k j (h j hj)
def j5(K:List Bool)(i j:Nat)(b:Bool):(K.set i b).getD j false=if i=j/\i<K.length then b else K.getD j false:=by
 simp only[zzas,zzcv];by_cases h:i=j
 ·subst h;by_cases h2:i<K.length
  ·simp[h2]
  have:K[i]?=none:=zzax (by omega);simp[h2]
 simp[h]
def DE.set{K K':List Bool}(h:DE K K')(hl:K.length=K'.length)(i:Nat):DE (K.set i true) (K'.set i true):=fun j hj=>by
 rw[j5]at hj |-
 split at hj
 ·rename_i hc;rw[if_pos ⟨hc.1,by omega⟩]
 rename_i hc;rw[if_neg (by rw[<- hl];exact hc)];exact h j hj
def DE.aa2(K:List Bool)(i:Nat):DE K (K.set i true):=fun j hj=>by
 rw[j5];split
 ·rfl
 exact hj
def Bo:∀(ids:List Int){K K':List Bool},K.length=K'.length->DE K K'->(Xb true ids K).Sublist (Xb true ids K')
 |[],_,_,_,_=>by simp[Xb]
 |id::r,[],[],_,_=>by simp[Xb]
 |id::r,[],_::_,h,_=>by simp at h
 |id::r,_::_,[],h,_=>by simp at h
 |id::r,k::ks,k'::ks',hl,h=>by
  have ih:=Bo r (K:=ks) (K':=ks') (by simpa using hl) (fun j hj=>by simpa using h (j+1) (by simpa using hj));have h0:=h 0;simp at h0;cases k with
  |false=>
   cases k' with
   |false=>simpa[Xb]using ih
   |true=>simpa[Xb]using ih.cons id
  |true=>
   rw[h0 rfl];simpa[Xb]using ih.cons_cons id
def Sy(ok:List Int->Bool)(rd:Int->Nat)(ids:List Int)(r:Nat)(K:List Bool)(i:Nat):(Jr ok rd ids r K i).length=K.length:=by
 unfold Jr;split
 ·split<;>simp
 rfl
structure ChI (ok:List Int->Bool) (rd:Int->Nat) (ids:List Int) (r i:Nat) (K:List Bool):Prop where
 len:K.length=ids.length
 kok:ok (Xb true ids K)=true
 todo:∀(j:Nat)(id:Int),ids[j]?=some id->(r<rd id\/rd id=r/\i<=j)->K.getD j false=false
 done:∀(j:Nat)(id:Int),ids[j]?=some id->(rd id<r\/rd id=r/\j<i)->K.getD j false=true\/ok (Xb true ids (K.set j true))=false
def ChI.step{ok:List Int->Bool}(hm:aa1 ok){rd:Int->Nat}{ids:List Int}{r i:Nat}{K:List Bool}(h:ChI ok rd ids r i K)(hi:i<ids.length):ChI ok rd ids r (i+1) (Jr ok rd ids r K i)/\DE K (Jr ok rd ids r K i):=by
 obtain⟨id,aO⟩:=aR hi;unfold Jr;rw[aO];simp only;by_cases hr:rd id=r
 ·rw[if_pos hr];have hf:=h.todo i id aO (.inr ⟨hr,zzab _⟩)
  have V5:K.set i false=K:=by
   apply zzea (by simp);intro n h1 h2;rw[List.getElem_set];split
   ·rename_i e;subst e;rw[zzas,zzad h2]at hf;exact hf.symm
   rfl
  cases bT:ok (Xb true ids (K.set i true))with
  |false=>
   rw[V5];refine⟨⟨h.len,h.kok,fun j x hj hc=>h.todo j x hj (by omega),fun j x hj hc=>?_⟩,DE.refl K⟩;rcases zzaa j i with ai|bB
   ·exact h.done j x hj (by omega)
   obtain hc|hc:=hc
   ·exact h.done j x hj (.inl hc)
   obtain rfl:j=i:=by omega
   exact .inr bT
  |true=>
   have cc:=DE.aa2 K i;refine⟨⟨by simp[h.len],bT,fun j x hj hc=>?_,fun j x hj hc=>?_⟩,cc⟩
   ·rw[j5,if_neg (by rintro⟨e,_⟩;subst e;rw[aO]at hj;cases hj;omega)];exact h.todo j x hj (by omega)
   rcases Nat.decEq j i with aJ|rfl
   ·have hd:=h.done j x hj (by omega);obtain hd|hd:=hd
    ·exact .inl (cc j hd)
    right;have hs:=Bo ids (K:=K.set j true) (K':=(K.set i true).set j true) (by simp) (cc.set (by simp) j);cases hb:ok (Xb true ids ((K.set i true).set j true))with
    |false=>rfl
    |true=>rw[hm _ _ hs hb]at hd;cases hd
   left;rw[j5,if_pos ⟨rfl,by rw[h.len];exact hi⟩]
 rw[if_neg hr];refine⟨⟨h.len,h.kok,fun j x hj hc=>h.todo j x hj (by omega),fun j x hj hc=>h.done j x hj ?_⟩,DE.refl K⟩;obtain hc|hc:=hc
 ·exact .inl hc
 have:j≠i:=by rintro rfl;rw[aO]at hj;cases hj;exact hr hc.1
 exact .inr ⟨hc.1,by omega⟩
def ChI.round{ok:List Int->Bool}(hm:aa1 ok){rd:Int->Nat}{ids:List Int}{r:Nat}{K:List Bool}(h:ChI ok rd ids r 0 K):ChI ok rd ids (r+1) 0 (Uy ok rd ids r K)/\DE K (Uy ok rd ids r K):=by
 have key:∀n,n<=ids.length->ChI ok rd ids r n ((List.range n).foldl (Jr ok rd ids r) K)/\DE K ((List.range n).foldl (Jr ok rd ids r) K):=by
  intro n;induction n with
  |zero=>intro _;exact⟨h,DE.refl K⟩
  |succ n ih=>
   intro hn;obtain⟨h1,h2⟩:=ih (by omega);obtain⟨g1,g2⟩:=h1.step hm (by omega);rw[zzex,zzgg];exact⟨g1,h2.trans g2⟩
 obtain⟨h1,h2⟩:=key ids.length (zzab _);refine⟨⟨h1.len,h1.kok,fun j x hj hc=>h1.todo j x hj (by omega),fun j x hj hc=>h1.done j x hj ?_⟩,h2⟩;have:=(zza.1 hj).1;omega
def yB(ids:List Int)(n:Nat):Xb true ids (List.replicate n false)=[]:=by
 induction ids generalizing n with
 |nil=>simp[Xb]
 |cons x r ih=>
  cases n with
  |zero=>simp[Xb]
  |succ n=>rw[zzev,Xb];simpa using ih n
def sO{ok:List Int->Bool}(hm:aa1 ok)(h0:ok []=true)(rd:Int->Nat)(ids:List Int)(gC:∀id∈ids,rd id<=2):
  (Jk ok rd ids).length=ids.length/\ok (Xb true ids (Jk ok rd ids))=true/\∀(j:Nat)(id:Int),ids[j]?=some id->(Jk ok rd ids).getD j false=true\/ok (Xb true ids ((Jk ok rd ids).set j true))=false:=by
 have hi:ChI ok rd ids 0 0 (List.replicate ids.length false):=⟨by simp,by rw[yB];exact h0,fun j id hj _=>by
  rw[zzas,zzcl];split<;>rfl,fun j id hj hc=>by omega⟩
 have h1:=(hi.round hm).1;have h2:=(h1.round hm).1;have h3:=(h2.round hm).1;refine⟨h3.len,h3.kok,fun j id hj=>h3.done j id hj (.inl ?_)⟩;have:=gC id (zzac hj);omega
def Mc(p:Pl)(e:En)(f:Int):Option Int:=
 if e.fr<1\/1000000<e.fr\/p.ln<e.fr then none else
 if max f 0<1000000/\0<=mB p e/\mB p e<1000000 then(match lN (Xx p e.it 0) (max f 0) e.fr with
  |none=>none
  |some s=>if mB p e<s then none else some s)else Vz p e f
def SA(p:Pl)(e:En)(f:Int):Mc p e f=Vz p e f:=by
 unfold Mc;split
 ·rename_i h;rw[Vz,if_pos h]
 rename_i h;split
 ·rename_i h2;rw[Vz,if_neg h];have hz:(max f 0).tdiv 1000000=0:=Int.tdiv_eq_zero_of_lt (by omega) (by omega);rw[hz]
  conv=>rhs;unfold S3
  rw[if_pos (by omega)];cases lN (Xx p e.it 0) (max f 0) e.fr with
  |none=>
   simp only;unfold S3;rw[if_neg (by omega)]
  |some s=>rfl
 rfl
def anx(p:Pl):List Int->List (Int×Int)->List (Int×Int)->Int->Int->Option (List Sp)
 |[],_,_,_,_=>some []
 |id::r,us,en,free,last=>match zq id p.ens 0 with
  |none=>none
  |some k=>if(k:Int)<=last then none else match p.ens[k]? with
   |none=>none
   |some e=>if Wm p e.it≠ -1/\Wm p e.it<=(af e.it us).getD 0 then none else
    match Mc p e (Ug en (Kq p e.it) (max e.ea free))with
    |none=>none
    |some s=>match anx p r (Vs us e.it) (Zm p en e.it (s+e.fr)) (s+e.fr) k with
     |none=>none
     |some l=>some ((id,s)::l)
def OO(p:Pl):∀(ids:List Int)(us en:List (Int×Int))(free last:Int),anx p ids us en free last=Jh p ids us en free last
 |[],_,_,_,_=>rfl
 |id::r,us,en,free,last=>by
  rw[anx,Jh];simp only[SA,OO p r];rfl
def axe(of:Int)(sh:List Sp)(x fr to:Int):Bool:=
 if Vy of sh=false\/x<0\/10000000000<x\/fr<0\/86400<=fr\/to<0\/86400<=to then false else
 if fr<to then decide (fr<=(x+yC of sh x)%86400)&&decide ((x+yC of sh x)%86400<to)else decide (fr<=(x+yC of sh x)%86400)||decide ((x+yC of sh x)%86400<to)
def DF(n lo hi:Int):Pure Tryz.prog az 133 [I n,I lo,I hi] (.bool (wi n lo hi)):=by
 refine Qn acf (fun _ _ _=>.junk) (by simp) ?_;by_cases h1:lo<=n<;>by_cases h2:n<=hi<;>simp[ahb,ahc,wi,h1,h2]
def HC(c:Cl):Pure Tryz.prog az 65 [.agg (Qg c)] (.bool (Xj c)):=by
 have kw:=DF;refine Qn akO DG (by simp) ?_;by_cases h1:c.ki=1
 ·simp[D4,D5,Qg,DG,h1];refine⟨kw _ _ _,fun _=>kw _ _ _,?_⟩;clear kw;obtain⟨ki,it,fr,to,re,n,a,b⟩:=c;simp only at h1;rw[zzbl];simp[Xj,Km,Uf,Vu,wi,h1];omega
 by_cases h2:c.ki=2
 ·simp[D4,D5,Qg,DG,h2];refine⟨kw _ _ _,fun _=>kw _ _ _,?_⟩;clear kw;obtain⟨ki,it,fr,to,re,n,a,b⟩:=c;simp only at h2;rw[zzbl];simp[Xj,Km,Uf,Vu,wi,h2];omega
 by_cases h3:c.ki=3
 ·simp[D4,D5,Qg,DG,h3];refine⟨kw _ _ _,fun _=>kw _ _ _,fun _ _=>kw _ _ _,?_⟩;clear kw;obtain⟨ki,it,fr,to,re,n,a,b⟩:=c;simp only at h3;rw[zzbl];simp[Xj,Km,Uf,Vu,wi,h3];omega
 by_cases h4:c.ki=4
 ·simp[D4,D5,Qg,DG,h4];refine⟨kw _ _ _,fun _=>kw _ _ _,fun _ _=>kw _ _ _,?_⟩;clear kw;obtain⟨ki,it,fr,to,re,n,a,b⟩:=c;simp only at h4;rw[zzbl];simp[Xj,Km,Uf,Vu,wi,h4];omega
 by_cases h5:c.ki=5
 ·simp[D4,D5,Qg,DG,h5];refine⟨kw _ _ _,fun _=>kw _ _ _,kw _ _ _,fun _=>kw _ _ _,fun _ _ _=>kw _ _ _,?_⟩;clear kw;obtain⟨ki,it,fr,to,re,n,a,b⟩:=c;simp only at h5;rw[zzbl];simp[Xj,Km,Uf,wi,h5];omega
 by_cases h6:c.ki=6
 ·simp[D4,D5,Qg,DG,h6];refine⟨kw _ _ _,fun _=>kw _ _ _,kw _ _ _,fun _=>kw _ _ _,fun _ _ _ _ _=>kw _ _ _,?_⟩;clear kw;obtain⟨ki,it,fr,to,re,n,a,b⟩:=c;simp only at h6;rw[zzbl];simp[Xj,Km,Uf,Jj,wi,h6];omega
 have hv:Xj c=false:=by simp[Xj,Uf,h1,h2,h3,h4,h5,h6]
 rw[hv];simp[D4,D5,Qg,DG,h1,h2,h3,h4,h5,h6];exact⟨kw _ _ _,fun _=>kw _ _ _⟩
def axf(s r:Int):Bool:=if 0<=r/\r<8 then decide ((s/2 ^ r.toNat)%2=1)else false
def atx(c:Cl)(k item region:Int):Bool:=decide (c.ki=k)&&(Xj c&&(decide (c.it=item)&&axf c.re region))
def hasB(l:List Sp)(x:Int):Bool:=l.any fun s=>decide (s.1<=x)&&decide (x<s.2)
def aj4(a:Int):List AV:=[I a]
def anz:List Int->Int->List Int
 |[],x=>[x]
 |a::r,x=>if a<x then a::anz r x else if a=x then a::r else x::a::r
def anA(item region:Int)(c:Cl):Bool:=atx c 1 item region||atx c 2 item region
def edS(C:List Cl):List Int:=C.foldl (fun e c=>anz (anz e c.fr) c.to) []
def anB(C:List Cl)(Ed:List Int):Nat->List Sp
 |0=>[]
 |j+1=>if grX C (Ed.getD j 0)=true then nA (anB C Ed j) (Ed.getD j 0) (Ed.getD (j+1) 0)else anB C Ed j
def axg(cs:List Cl)(item region:Int):List Sp:=anB (cs.filter (anA item region)) (edS (cs.filter (anA item region))) ((edS (cs.filter (anA item region))).length-1)
def aty:List AV->Int
 |[.int _ a]=>a
 |_=>0
@[simp] def agD(l:List Int):(l.map aj4).map aty=l:=by
 induction l with
 |nil=>rfl
 |cons a l ih=>simp only[zzaw,ih];rfl
@[simp] def atz(l:List Int):l.map (aty ∘ aj4)=l:=by rw[<- zzcs];exact agD l
def atA(p:Pl)(item region f:Int):Bool:=match Xh item p.aM with
 |none=>false
 |some it=>if region<0\/8<=region\/f<0\/100000000<f then false else if it.ki=5 then true else if Ka p=false then false else
  hasB (axg p.cls item region) (p.ep+Yj p.nu p.de f)&&(tZ p.cls it.ra).all fun w=>axe p.of p.sh (p.ep+Yj p.nu p.de f) w.1 w.2
def axQ(p:Pl)(last f:Int):Int:=if Ka p=true then min last (wJ p.nu p.de (Yj p.nu p.de f+1))else last
def axR(p:Pl)(item region first f:Int)(L:List Sp):Prop:=VS L/\(∀s∈L,s.2<=f)/\(∀x,Xr L x<->first<=x/\x<f/\atA p item region x=true)/\(L.length:Int)<=f-first
def atB(it:Int)(bf:List (Int×Int)):Int:=((bf.filter fun a=>decide (a.1=it)).length:Nat)
structure axS (p:Pl) (bf us en:List (Int×Int)):Prop where
 us:∀it,(af it us).getD 0<=atB it bf
 en:∀k v,af k en=some v->∃a∈bf,∃x,Xh a.1 p.aM=some x/\x.sp=k/\v<=a.2
structure axT (p:Pl) (bf us en:List (Int×Int)):Prop where
 us:∀it,atB it bf<=(af it us).getD 0
 en:∀a∈bf,∀x,Xh a.1 p.aM=some x->∃v,af x.sp en=some v/\a.2<=v
def axv(p:Pl)(c:Cl):Pl:={p with cls:=p.cls++[c]}
def g0(ok:List Int->Bool)(rd:Int->Nat):List Int->List Int->List Bool
 |[],_=>[]
 |id::r,HO=>if rd id=0 then ok (HO++[id])::g0 ok rd r (if ok (HO++[id])=true then HO++[id]else HO)else false::g0 ok rd r HO
def aa3(ok:List Int->Bool)(rd:Int->Nat):∀(l HO:List Int),(g0 ok rd l HO).length=l.length
 |[],_=>rfl
 |id::r,HO=>by rw[g0];split<;>simp[aa3 ok rd r]
def j6(w:Bool):∀(a:List Int)(K:List Bool)(b:List Int)(L:List Bool),a.length=K.length->Xb w (a++b) (K++L)=Xb w a K++Xb w b L
 |[],[],_,_,_=>rfl
 |[],_::_,_,_,h=>by simp at h
 |_::_,[],_,_,h=>by simp at h
 |x::a,k::K,b,L,h=>by
  simp only[zzae,Xb];rw[j6 w a K b L (by simpa using h)];split<;>simp
def yD(ok:List Int->Bool)(rd:Int->Nat):∀(b a:List Int)(K:List Bool),a.length=K.length->((List.range' a.length b.length).foldl (Jr ok rd (a++b) 0) (K++List.replicate b.length false))=K++g0 ok rd b (Xb true a K)
 |[],a,K,h=>by simp[g0]
 |id::b,a,K,h=>by
  rw[zzba,zzgo,zzcw];have aO:(a++id::b)[a.length]?=some id:=by simp
  have hK:a.length<(K++List.replicate (b.length+1) false).length:=by simp;omega
  have bZ:∀x,(K++List.replicate (b.length+1) false).set a.length x=(K++[x])++List.replicate b.length false:=fun x=>by
   rw[zzcq _ _ (by omega),h,zzep,zzev];simp
  have WC:a++id::b=(a++[id])++b:=by simp
  have amM:Xb true (a++id::b) ((K++[true])++List.replicate b.length false)=Xb true a K++[id]:=by
   rw[WC,j6 true (a++[id]) (K++[true]) b _ (by simp[h]),j6 true a K [id] [true] h,yB];simp[Xb]
  have aH:∀x:Bool,(a++[id]).length=(K++[x]).length:=fun x=>by simp[h]
  have dZ:a.length+1=(a++[id]).length:=by simp
  unfold Jr;rw[aO];simp only;by_cases hr:rd id=0
  ·rw[if_pos hr,bZ true,amM,bZ,g0,if_pos hr];have ih:=yD ok rd b (a++[id]) (K++[ok (Xb true a K++[id])]) (aH _);rw[<- WC,<- dZ]at ih;rw[show(List.foldl (fun K i=>Jr ok rd (a++id::b) 0 K i))=List.foldl (Jr ok rd (a++id::b) 0)from rfl]at*
   refine ih.trans ?_;rw[j6 true a K [id] _ h];cases hb:ok (Xb true a K++[id])<;>simp[Xb]
  rw[if_neg hr,g0,if_neg hr];have ih:=yD ok rd b (a++[id]) (K++[false]) (aH _);rw[<- WC,<- dZ]at ih;have e:K++List.replicate (b.length+1) false=(K++[false])++List.replicate b.length false:=by rw[zzev];simp
  rw[e];refine ih.trans ?_;rw[j6 true a K [id] _ h];simp[Xb]
def SB(ok:List Int->Bool)(rd:Int->Nat)(ids:List Int):Uy ok rd ids 0 (List.replicate ids.length false)=g0 ok rd ids []:=by
 have:=yD ok rd ids [] [] rfl;simp only[zzcf,zzai,Xb]at this;rw[Uy,zzfq];exact this
def lz(ok:List Int->Bool)(rd:Int->Nat):∀(ids HO:List Int),(Xb false ids (g0 ok rd ids HO)).filter (fun id=>decide (rd id=0))=Xb false (ids.filter fun id=>decide (rd id=0)) (g0 ok rd (ids.filter fun id=>decide (rd id=0)) HO)
 |[],HO=>rfl
 |id::r,HO=>by
  by_cases h:rd id=0
  ·rw[zzdn (by simp[h]),g0,g0,if_pos h,if_pos h];cases hb:ok (HO++[id])with
   |true=>simpa[Xb]using lz ok rd r (HO++[id])
   |false=>
    simp only[Xb,zzbs,if_false,beq_self_eq_true,if_true];rw[zzdn (by simp[h]),lz ok rd r HO]
  rw[zzfi (by simp[h]),g0,if_neg h];simp only[Xb,beq_self_eq_true,if_true];rw[zzfi (by simp[h]),lz ok rd r HO]
def aa4(rd:Int->Nat)(ids:List Int)(K K':List Bool):Prop:=∀(j:Nat)(id:Int),ids[j]?=some id->rd id=0->K.getD j false=K'.getD j false
def Bp(rd:Int->Nat):∀(ids:List Int)(K K':List Bool),K.length=ids.length->K'.length=ids.length->aa4 rd ids K K'->(Xb false ids K).filter (fun id=>decide (rd id=0))=(Xb false ids K').filter (fun id=>decide (rd id=0))
 |[],K,K',_,_,_=>by simp[Xb]
 |id::r,[],_,h,_,_=>by simp at h
 |id::r,_::_,[],_,h,_=>by simp at h
 |id::r,k::K,k'::K',h1,h2,h=>by
  have ih:=Bp rd r K K' (by simpa using h1) (by simpa using h2) fun j x hj hx=>by simpa using h (j+1) x (by simpa using hj) hx
  by_cases hr:rd id=0
  ·have h0:=h 0 id rfl hr;simp at h0;subst h0;simp only[Xb];split
   ·rw[zzdn (by simp[hr]),zzdn (by simp[hr]),ih]
   exact ih
  simp only[Xb]
  have e:∀(b:Bool)(l:List Int),(if(b==false)=true then id::l else l).filter (fun id=>decide (rd id=0))=l.filter fun id=>decide (rd id=0):=fun b l=>by
   split
   ·rw[zzfi (by simp[hr])]
   rfl
  rw[e,e,ih]
def sP(ok:List Int->Bool)(rd:Int->Nat)(ids:List Int)(r:Nat)(hr:r≠0)(K:List Bool):aa4 rd ids (Uy ok rd ids r K) K/\(Uy ok rd ids r K).length=K.length:=by
 have key:∀(L:List Nat)(K:List Bool),aa4 rd ids (L.foldl (Jr ok rd ids r) K) K/\(L.foldl (Jr ok rd ids r) K).length=K.length:=by
  intro L;induction L with
  |nil=>intro K;exact⟨fun _ _ _ _=>rfl,rfl⟩
  |cons i L ih=>
   intro K;obtain⟨h1,h2⟩:=ih (Jr ok rd ids r K i);refine⟨fun j id hj aO=>?_,by rw[zzcw,h2,Sy]⟩;rw[zzcw,h1 j id hj aO];unfold Jr;cases hi:ids[i]? with
   |none=>rfl
   |some x=>
    simp only;split
    ·rename_i hx;rw[j5,if_neg (by rintro⟨e,_⟩;subst e;rw[hi]at hj;cases hj;omega)]
    rfl
 exact key _ K
def axh(ok:List Int->Bool)(rd:Int->Nat)(ids:List Int):(Xb false ids (Jk ok rd ids)).filter (fun id=>decide (rd id=0))=Xb false (ids.filter fun id=>decide (rd id=0)) (Jk ok rd (ids.filter fun id=>decide (rd id=0))):=by
 obtain⟨S,hS⟩:∃S,(ids.filter fun id=>decide (rd id=0))=S:=⟨_,rfl⟩;have bS:∀(L:List Int),Jk ok rd L=Uy ok rd L 2 (Uy ok rd L 1 (g0 ok rd L [])):=fun L=>by rw[Jk,SB]
 have two:∀(L:List Int),(Xb false L (Jk ok rd L)).filter (fun id=>decide (rd id=0))=(Xb false L (g0 ok rd L [])).filter (fun id=>decide (rd id=0)):=fun L=>by
  rw[bS];obtain⟨a1,a2⟩:=sP ok rd L 1 (by omega) (g0 ok rd L []);obtain⟨b1,b2⟩:=sP ok rd L 2 (by omega) (Uy ok rd L 1 (g0 ok rd L []));have hg:=aa3 ok rd L [];refine Bp rd L _ _ (by omega) hg fun j id hj aO=>?_;rw[b1 j id hj aO,a1 j id hj aO]
 rw[two ids,lz,hS]
 have hSf:∀id∈S,rd id=0:=fun id h=>by
  rw[<- hS]at h;simpa using(zzcx.1 h).2
 have bI:∀(L:List Int)(K:List Bool),∀x∈Xb false L K,x∈L:=by
  intro L;induction L with
  |nil=>intro K x hx;simp[Xb]at hx
  |cons y L ih=>
   intro K x hx;cases K with
   |nil=>simp[Xb]at hx
   |cons k K=>
    simp only[Xb]at hx;split at hx
    ·rcases zzau.1 hx with rfl|hx
     ·simp
     exact zzes _ (ih K x hx)
    exact zzes _ (ih K x hx)
 have aO:∀K:List Bool,(Xb false S K).filter (fun id=>decide (rd id=0))=Xb false S K:=fun K=>zzfy.2 fun x hx=>by simp[hSf x (bI S K x hx)]
 have:=two S;rw[aO,aO]at this;exact this.symm
section
variable (P:Int->Prop) (fr low:Int)
def OkA(t:Int):Prop:=∀x,t<=x->x<t+fr->P x
structure RfI (c run last:Int):Prop where
 no:∀t,low<=t->t+fr<=c->¬OkA P fr t
 st:(run= -1/\last= -1/\∀x,low<=x->x<c->¬P x)\/(low<=run/\run<last/\last<=c/\(∀x,run<=x->x<last->P x)/\(run=low\/¬P (run-1))/\∀x,last<=x->x<c->¬P x)
end
def nlB(a b:List Sp):Bool:=a.all fun x=>b.all fun y=>!(decide (x.1=y.1)&&decide (y.2<x.2))
def jS(w:Bool):∀(ids:List Int)(K:List Bool),(Xb w ids K).Sublist ids
 |[],K=>by cases K<;>simp[Xb]
 |id::r,[]=>by simp[Xb]
 |id::r,k::ks=>by
  rw[Xb];split
  ·exact(jS w r ks).cons_cons id
  exact(jS w r ks).cons id
def HP:∀{ids:List Int}{K:List Bool},K.length=ids.length->(∀j,j<ids.length->K.getD j false=true)->Xb true ids K=ids/\Xb false ids K=[]
 |[],K,_,_=>by cases K<;>exact⟨rfl,rfl⟩
 |id::r,[],h,_=>by simp at h
 |id::r,k::ks,h,hk=>by
  have h0:=hk 0 (by simp);simp at h0;subst h0
  obtain⟨h1,h2⟩:=HP (ids:=r) (K:=ks) (by simpa using h) fun j hj=>by
   have:=hk (j+1) (by simpa using hj);simpa using this
  simp[Xb,h1,h2]
def Me{ok:List Int->Bool}(hm:aa1 ok)(h0:ok []=true)(rd:Int->Nat)(ids:List Int)(gC:∀id∈ids,rd id<=2)(h:ok ids=true):Xb true ids (Jk ok rd ids)=ids/\Xb false ids (Jk ok rd ids)=[]:=by
 obtain⟨h1,h2,h3⟩:=sO hm h0 rd ids gC;refine HP h1 fun j hj=>?_;rcases h3 j _ (zzad hj)with h4|h4
 ·exact h4
 rw[hm _ _ (jS true ids _) h]at h4;cases h4
def amU(n:Int):Prop:= -9223372036854775808<=n/\n<=9223372036854775807
structure Ca where
 p:Pl
 ids:List Int
 wh:Int
 at_:Int
 past:List Ad
structure PlK (p:Pl):Prop where
 cls:p.cls.length<=1000
 sh:p.sh.length<=1000
 aM:p.aM.length<=1000
 ens:p.ens.length<=1000
 bks:p.bks.length<=1000
 als:∀e∈p.ens,e.al.length<=1000
 ln: -9223372036854775808<=p.ln/\p.ln<=9223372036854775807
 ea:∀e∈p.ens,-9223372036854775808<=e.ea/\e.ea<=9223372036854775807
 la:∀e∈p.ens,-9223372036854775808<=e.la/\e.la<=9223372036854775807
 fr:∀e∈p.ens,-9223372036854775808<=e.fr/\e.fr<=2000
def PlK.spn{p:Pl}(h:PlK p):(Yy p).length<=1000:=by
 have:=pz p.aM [] [];have:=h.aM;simp only[Yy];simp at*;omega
def HQ:∀(l:List Ad)(us:List (Int×Int))(n:Int),0<=n->pq n us->pq (n+l.length) (N7 l us)
 |[],us,n,_,h=>by simpa[N7]using h
 |a::r,us,n,hn,h=>by
  rw[N7]
  have h1:pq (n+1) (if qV a=true then Vs us a.it else us):=by
   split
   ·exact h.note hn a.it
   exact fun k v hk=>by have:=h k v hk;omega
  have h2:=HQ r _ (n+1) (by omega) h1;have:n+((a::r).length:Int)=n+1+(r.length:Int):=by simp;omega
  rw[this];exact h2
def HR(p:Pl):∀(l:List Ad)(en:List (Int×Int)),tG en->tG (N8 p l en)
 |[],en,h=>by simpa[N8]using h
 |a::r,en,h=>by
  rw[N8];refine HR p r _ ?_;cases hc:qV a with
  |false=>simpa[hc]using h
  |true=>
   simp only[if_true];refine h.note a.it _ ?_;simp[qV]at hc;omega
def G5(l:List Int):AV:=if l=[]then .sl .nil []else .sl .ro (l.map Xa)
def iB(p:Pl)(at_:Int)(past:List Ad):Bd:=⟨p,at_,N7 past [],N8 p past [],[],[],[]⟩
def amV(p:Pl)(at_:Int)(past:List Ad):AZ (iB p at_ past):=⟨fun _ _ h=>(by cases h),fun _ _ h=>(by cases h),fun _ _ h=>(by cases h)⟩
def RR(p:Pl)(id:Int):Nat:=match Zf id p.ens with
 |none=>2
 |some e=>if e.bo≠0 then 0 else match Xh e.it p.aM with
  |none=>2
  |some x=>if x.ki=1\/x.ki=4 then 1 else 2
def Kn(p:Pl)(at_:Int)(past:List Ad)(ids:List Int):List Bool:=Jk (nZ (iB p at_ past)) (RR p) ids
def RT(p:Pl)(at_:Int)(past:List Ad)(ids:List Int):AV:=
 .aV [Iy ((Ym p at_ past (Xb true ids (Kn p at_ past ids))).getD []),G5 (Xb false ids (Kn p at_ past ids))]
theorem ur(p:Pl)(at_:Int)(past:List Ad)(ids:List Int):nZ (iB p at_ past) ids=(Ym p at_ past ids).isSome:=rfl
def aa5(p:Pl)(id:Int):RR p id<=2:=by
 unfold RR;cases Zf id p.ens with
 |none=>exact zzab _
 |some e=>
  simp only;split
  ·omega
  cases Xh e.it p.aM with
  |none=>exact zzab _
  |some x=>simp only;split<;>omega
def LK(p:Pl)(at_:Int)(past:List Ad)(ids:List Int):(Kn p at_ past ids).length=ids.length/\(Ym p at_ past (Xb true ids (Kn p at_ past ids))).isSome=true/\
  ∀(j:Nat)(id:Int),ids[j]?=some id->(Kn p at_ past ids).getD j false=true\/(Ym p at_ past (Xb true ids ((Kn p at_ past ids).set j true))).isSome=false:=
 sO (HN _) (O4 _) (RR p) ids fun id _=>aa5 p id
def RU(p:Pl)(at_:Int)(past:List Ad)(ids:List Int)(h:(Ym p at_ past ids).isSome=true):Xb true ids (Kn p at_ past ids)=ids/\Xb false ids (Kn p at_ past ids)=[]:=
 Me (HN _) (O4 _) (RR p) ids (fun id _=>aa5 p id) h
def Z1(past:List Ad):pq (past.length:Int) (N7 past []):=by
 have h:=HQ past [] 0 (by omega) (fun k v h=>by cases h);rwa [Int.zero_add]at h
def Z2(p:Pl)(past:List Ad):tG (N8 p past []):=HR p past [] (fun k v h=>by cases h)
def ak5(p:Pl)(id:Int):Int:=match zq id p.ens 0 with
 |none=> -1
 |some k=>(k:Int)
def Bq{w:Bool}:∀{ids:List Int}{K:List Bool}{i:Nat}{id:Int}{k:Bool},ids[i]?=some id->K[i]?=some k->Xb w (ids.take (i+1)) (K.take (i+1))=Xb w (ids.take i) (K.take i)++if(k==w)=true then[id]else[]
 |[],_,_,_,_,h,_=>by simp at h
 |_::_,[],_,_,_,_,h=>by simp at h
 |x::r,y::ks,0,id,k,h1,h2=>by
  simp at h1 h2;subst h1;subst h2;simp[Xb]
 |x::r,y::ks,i+1,id,k,h1,h2=>by
  have ih:=Bq (w:=w) (ids:=r) (K:=ks) (i:=i) (by simpa using h1) (by simpa using h2);rw[zzee,zzee,zzee,zzee,Xb,Xb,ih];split<;>simp
def aa6(p:Pl)(id:Int):(∃(n k:Nat)(e:En),Zf id p.ens=some e/\p.ens[k]?=some e/\Xi [id] (bH iA (CT p)) 0=some (n,I k))\/(Zf id p.ens=none/\Xi [id] (bH iA (CT p)) 0=none):=by
 have key:∀(l:List En)(i:Nat),zq id l i=none->Zf id l=none:=by
  intro l;induction l with
  |nil=>intro i _;rfl
  |cons x r ih=>
   intro i h;rw[zq]at h;split at h
   ·cases h
   rename_i hn;rw[Zf,if_neg hn];exact ih _ h
 rcases Xq iA id (CT p) 0 with⟨p1,p2,_⟩|⟨u,n,p1,p2,_⟩
 ·rw[ue]at p1;cases hx:zq id p.ens 0 with
  |none=>exact .inr ⟨key _ _ hx,p2⟩
  |some k=>rw[hx]at p1;cases p1
 rw[ue]at p1;cases hx:zq id p.ens 0 with
 |none=>rw[hx]at p1;cases p1
 |some k=>
  rw[hx]at p1;cases p1;obtain⟨_,e,h2,h3,h4⟩:=qW hx;rw[zzfb]at h2;exact .inl ⟨_,k,e,h4,h2,p2⟩
def afP(pre post:List (List AV))(ls:List Nat)(b:Bd)(id:Int)(Y:YT)(K:AV->AM->Prop)(hK:∀ex,K (I (RR b.p id:Nat)) (aP pre b (post++ex) ls)):
  an Tryz.prog az Y 228 [.ptr (pre.length+9) 0,I id] (aP pre b post ls) K:=by
 refine Xd adh (fun _ _ _=>.junk) (by simp) ?_;unfold RR at hK;rcases aa6 b.p id with⟨n,k,e,he,hk,hp⟩|⟨he,hp⟩
 ·rw[he]at hK;simp only at hK;have DQ:=(zza.1 hk).1;have za:(k:Int)<(b.p.ens.length:Int):=by omega
  have xm:=Qcs hk;by_cases b1:e.bo=0
  ·rw[if_neg (by simp[b1])]at hK;rcases Qcq b.p e.it with⟨ni,y,hy,hi⟩|⟨hy,hi⟩
   ·rw[hy]at hK;simp only at hK;by_cases c1:y.ki=1
    ·rw[if_pos (.inl c1)]at hK;simp[uW,aP,bq,Qp,Qc,hp,za,xm,Qd,b1];refine Za ?_;simp[uX,hi,qX,Qm,c1];simpa[aP,bq,Qp,Qc,Qm,Qd,b1,c1]using hK [Qd e,Qm y]
    by_cases c2:y.ki=4
    ·rw[if_pos (.inr c2)]at hK;simp[uW,aP,bq,Qp,Qc,hp,za,xm,Qd,b1];refine Za ?_;simp[uX,hi,qX,Qm,c2];simpa[aP,bq,Qp,Qc,Qm,Qd,b1,c1,c2]using hK [Qd e,Qm y]
    rw[if_neg (by rintro(h|h);exact c1 h;exact c2 h)]at hK;simp[uW,aP,bq,Qp,Qc,hp,za,xm,Qd,b1];refine Za ?_;simp[uX,hi,qX,Qm,c1,c2];simpa[aP,bq,Qp,Qc,Qm,Qd,b1,c1,c2]using hK [Qd e,Qm y]
   rw[hy]at hK;simp only at hK;simp[uW,aP,bq,Qp,Qc,hp,za,xm,Qd,b1];refine Za ?_;simp[uX,hi];simpa[aP,bq,Qp,Qc,Qd,b1]using hK [Qd e,[I 0,I 0,I 0,I 0,I 0]]
  rw[if_pos b1]at hK;simp[uW,uX,aP,bq,Qp,Qc,hp,za,xm,Qd,b1];simpa[aP,bq,Qp,Qc,Qd]using hK [Qd e]
 rw[he]at hK;simp only at hK;simp[uW,uX,aP,bq,Qp,Qc,hp];simpa[aP,bq,Qp,Qc]using hK []
def ry(n:Nat)(S:List Int):Rt:=if S=[]then .nil else .own n 1
def nT(S:List Int):List Nat:=if S=[]then[]else[S.length]
def atC(ids:List Int)(K:List Bool)(w:Bool)(m0:AM)(f:Nat->AV)(m:AM):Prop:=
 ∃(i:Nat),f 10=I i/\i<=ids.length/\f 5=.sl (ry m0.lens.length (Xb w (ids.take i) (K.take i))) ((Xb w (ids.take i) (K.take i)).map Xa)/\m={m0 with lens:=m0.lens++nT (Xb w (ids.take i) (K.take i))}
def RS(ids:List Int)(K:List Bool)(w:Bool)(hi:ids.length<=1000)(hk:K.length=ids.length)(m:AM)(ia ib kb:Nat)(h1:Qh m.boxes ia=[.sl .ro (ids.map Xa)])(h2:Qh m.boxes ib=[.bs kb 0 ids.length 1])(h3:Qh m.boxes kb=K.map .bool)
  (g1:ia<m.boxes.length)(g2:ib<m.boxes.length)(g3:kb<m.boxes.length)(Y:YT)(Q:AV->AM->Prop)(hQ:Q (.sl (ry m.lens.length (Xb w ids K)) ((Xb w ids K).map Xa)) {m with lens:=m.lens++nT (Xb w ids K)}):
  an Tryz.prog az Y 227 [.bool w,.ptr ia 0,.ptr ib 0] m Q:=by
 refine Xd adg (fun _ _ _=>.junk) (by simp) ?_;simp[UF,h1];refine Qj uV (atC ids K w m) (fun f _=>ids.length-(numOf (f 10)).toNat) ?_ ?_
 ·exact⟨0,by simp,by omega,by simp[Xb,ry],by simp[Xb,nT]⟩
 rintro f m' ⟨i,nY,fR,h5,rfl⟩;rcases zzaa i ids.length with ai|bB
 ·obtain⟨id,hx⟩:=aR ai;obtain⟨k,hy⟩:∃x,K[i]?=some x:=⟨_,zzad (by omega)⟩;have aa:Qh (ids.map Xa) i=Xa id:=Qs (by simp[hx]);have bK:nth ((K.map AV.bool).drop i) 0=.bool k:=alz (by simp[hy]);have FB:min 1 (K.length-i)=1:=by omega
  have axU:i<K.length:=by omega
  have ah:(i:Int)<(ids.length:Int):=by omega
  have hw:=bJ i (by omega);have bz:=Bq (w:=w) hx hy
  have rP:(Xb w (ids.take i) (K.take i)).length<=1000:=by
   have:=(jS w (ids.take i) (K.take i)).length_le;simp at this;omega
  obtain⟨S,hS⟩:∃S,Xb w (ids.take i) (K.take i)=S:=⟨_,rfl⟩;rw[hS]at h5 bz rP |-
  cases hc:(k==w)with
  |false=>
   rw[hc]at bz;have bz:Xb w (ids.take (i+1)) (K.take (i+1))=S:=by rw[bz];simp
   simp[nY,h5,ah,aa,Xa,uV,hw,hc,h2,h3,bK,FB];refine⟨aN,⟨i+1,by simp,by omega,by rw[bz];simp,by rw[bz]⟩,by omega⟩
  |true=>
   rw[hc]at bz;have bz:Xb w (ids.take (i+1)) (K.take (i+1))=S++[id]:=by rw[bz];simp
   by_cases hSe:S=[]
   ·subst hSe;simp only[ry,nT,if_true,zzce,zzat]at h5 |-
    simp[nY,h5,ah,aa,Xa,uV,hw,hc,h2,h3,bK,FB];refine⟨aN,⟨i+1,by simp,by omega,by rw[bz];simp[Xa,ry],by rw[bz];simp[nT]⟩,by omega⟩
   simp only[ry,nT,if_neg hSe]at h5 |-
   have bU:(m.lens++[S.length]).set m.lens.length (S.length+1)=m.lens++[S.length+1]:=by rw[List.set_append,if_neg (by omega)];simp
   simp[nY,h5,ah,aa,Xa,uV,hw,hc,h2,h3,bK,FB];refine⟨⟨?_,by omega⟩,aN,⟨i+1,by simp,by omega,by rw[bz];simp[Xa,ry],by rw[bz];simp[nT]⟩,by omega⟩
   ·rintro row (⟨a,_,rfl⟩|rfl)<;>rfl
 have bI:¬(i:Int)<(ids.length:Int):=by omega
 rw[zzam (by omega),zzam (by omega)]at h5 |-
 simp[nY,h5,bI,uV,ahW];exact hQ
end Go.Proofs.YtnopaopphmjnmaaGreatDoor
