import Derived.Test.YthjppoincojfkaaGreatDoorRAMT
set_option linter.all false
namespace Go.Proofs.YthjppoincojfkaaGreatDoor
open Go Go.Abs
def yT{at_ n t:Int}(hn:1<=n)(ht:at_<=t):∀{l:List Sp},VS l->(∀x,t<=x->x<t+n->Xv l x)->∃s,Gv at_ n l=some s/\s<=t
 |[],_,h=>by
  have:=h t (zzbu _) zE;simp at this
 |a::r,hv,h=>by
  have ha:=hv.1 a zd;have hp:=zzcb.1 hv.2;have hr:VS r:=⟨fun s hs=>hv.1 s (by simp[hs]),hp.2⟩;rw[Gv];by_cases c:max a.1 at_<a.2/\n<=a.2-max a.1 at_
  ·rw[if_pos c];refine⟨_,rfl,?_⟩;have h0:=h t (zzbu _) zE;rw[Xf]at h0;obtain h0|⟨s,hs,h1,h2⟩:=h0
   ·omega
   have:=hp.1 s hs;omega
  rw[if_neg c]
  have ax7:∀x,t<=x->x<t+n->¬(a.1<=x/\x<a.2):=by
   intro x O9 hx2 hx
   have h2:¬Xv (a::r) a.2:=by
    rw[Xf];rintro(h|⟨s,hs,h1,_⟩)
    ·omega
    have:=hp.1 s hs;omega
   have h3:t+n<=a.2:=by
    rcases zzff a.2 (t+n)with h'|h'
    ·exact absurd (h a.2 zE h') h2
    exact h'
   have h4:a.1<=t:=by
    rcases zzff t a.1 with h'|h'
    ·have h5:=h (a.1-1) zE zE;rw[Xf]at h5;obtain h5|⟨s,hs,h6,_⟩:=h5
     ·omega
     have:=hp.1 s hs;omega
    exact h'
   exact c ⟨zE,zE⟩
  refine yT hn ht hr fun x h1 h2=>?_;have h3:=h x h1 h2;rw[Xf]at h3;exact h3.resolve_left (ax7 x h1 h2)
def yU{p:Pl}{it k at_ n t:Int}(hn:1<=n/\n<=1000000)(ht:at_<=t)(hk:k*1000000<=t/\t+n<=(k+2)*1000000)(h:∀x,t<=x->x<t+n->gU p it 0 x):∃s,lP (Za p it k) at_ n=some s/\s<=t:=by
 rw[lP,if_neg zE];refine yT hn.1 ht (Zy _).1 fun x h1 h2=>?_;rw[(Zy _).2,Qci];exact⟨zE,zE,h x h1 h2⟩
def afN{p:Pl}{it k at_ n s:Int}(hn:1<=n)(h:lP (Za p it k) at_ n=some s):s+n<=(k+2)*1000000:=by
 rw[lP,if_neg zE]at h;obtain⟨a,ha,h1,h2,h3⟩:=Dl h;have:Xv (Xl (Za p it k)) (s+n-1):=⟨a,ha,zE,zE⟩;rw[(Zy _).2,Qci]at this;omega
def BI{p:Pl}{e:En}{last from_ n t:Int}(he:1<=e.fr/\e.fr<=1000000)(h1:from_<=t)(h2:t<=last)(h3:n*1000000<=t)(h:∀x,t<=x->x<t+e.fr->gU p e.it 0 x):∃s,Ss p e last from_ n=some s/\s<=t:=by
 rw[Ss,if_pos zE];cases hs:lP (Za p e.it n) from_ e.fr with
 |none=>
  simp only;refine BI he h1 h2 ?_ h;rcases zzff t ((n+1)*1000000)with h'|h'
  ·obtain⟨s,dK,_⟩:=yU (p:=p) (it:=e.it) (k:=n) he h1 ⟨h3,zE⟩ h;rw[hs]at dK;cases dK
  exact h'
 |some s=>
  simp only;have bQ:=afN he.1 hs
  have bZ:s<=t:=by
   rcases zzff ((n+2)*1000000) (t+e.fr)with h'|h'
   ·omega
   obtain⟨s',dK,cB⟩:=yU (p:=p) (it:=e.it) (k:=n) he h1 ⟨h3,h'⟩ h;rw[hs]at dK;cases dK;exact cB
  rw[if_neg zE];exact⟨s,rfl,bZ⟩
termination_by(last-n*1000000+1000000).toNat
decreasing_by omega
def DZ{p:Pl}{e:En}{from_ t:Int}(he:1<=e.fr/\e.fr<=1000000)(h1:from_<=t)(h0:0<=t)(h2:t<=e.la/\t+e.fr<=p.ln/\t<=100000000)(h:∀x,t<=x->x<t+e.fr->gU p e.it 0 x):∃s,Yk p e from_=some s/\s<=t:=by
 rw[Yk,if_neg zE];refine BI he zE (by simp only[mC];omega) ?_ h;have hm:0<=max from_ 0:=zE
 rw[zzcj hm];omega
def LeU(us' us:List (Int×Int)):Prop:=∀k,(af k us').getD 0<=(af k us).getD 0
def LeE(en' en:List (Int×Int)):Prop:=∀k v',af k en'=some v'->∃v,af k en=some v/\v'<=v
def LeE.refl(en:List (Int×Int)):LeE en en:=fun k v h=>⟨v,h,zzbu _⟩
def LeU.note{us' us:List (Int×Int)}(h:LeU us' us)(it:Int):LeU (Yb us' it) (Yb us it):=fun k=>by
 rw[Yb,Yb,Jc,Jc];have:=h it;split
 ·simp;omega
 exact h k
def LeU.skip{us' us:List (Int×Int)}(h:LeU us' us)(it:Int):LeU us' (Yb us it):=fun k=>by
 rw[Yb,Jc];split
 ·rename_i e;have:=h it;rw[e];simp;omega
 exact h k
def LeE.note{p p':Pl}{en' en:List (Int×Int)}(h:LeE en' en)(it:Int){e' e:Int}(he:e'<=e)(h0:0<=e')(hp:Xk it p'.aN=Xk it p.aN):LeE (Zo p' en' it e') (Zo p en it e):=fun k v' hk=>by
 unfold Zo at hk |-
 rw[hp]at hk;cases hf:Xk it p.aN with
 |none=>rw[hf]at hk;exact h k v' hk
 |some x=>
  rw[hf]at hk;simp only[Jc]at hk |-
  split at hk
  ·rename_i XZ;cases hk;refine⟨_,by rw[if_pos XZ],?_⟩;cases h1:af x.sp en' with
   |none=>
    cases h2:af x.sp en with
    |none=>simp;omega
    |some v=>simp;omega
   |some v1=>
    obtain⟨v,hv,cB⟩:=h _ _ h1;rw[hv];simp;omega
  rename_i XZ;obtain⟨v,hv,cB⟩:=h k v' hk;exact⟨v,by rw[if_neg XZ];exact hv,cB⟩
def LeE.skip{p:Pl}{en' en:List (Int×Int)}(h:LeE en' en)(it e:Int):LeE en' (Zo p en it e):=fun k v' hk=>by
 obtain⟨v,hv,cB⟩:=h k v' hk;unfold Zo;cases hf:Xk it p.aN with
 |none=>exact⟨v,hv,cB⟩
 |some x=>
  simp only[Jc];split
  ·rename_i XZ;subst XZ;exact⟨_,rfl,by rw[hv];simp;omega⟩
  exact⟨v,hv,cB⟩
def yV{en' en:List (Int×Int)}(h:LeE en' en):∀(l:List Sp){f' f:Int},f'<=f->Uk en' l f'<=Uk en l f
 |[],_,_,hf=>hf
 |r::l,f',f,hf=>by
  rw[Uk,Uk];refine yV h l ?_;cases h1:af r.1 en' with
  |none=>
   cases h2:af r.1 en with
   |none=>exact hf
   |some v=>simp only;omega
  |some v1=>
   obtain⟨v,hv,cB⟩:=h _ _ h1;rw[hv];simp only;omega
structure afO (p' p:Pl):Prop where
 aN:p'.aN=p.aN
 ens:p'.ens=p.ens
 ln:p'.ln=p.ln
 runs:∀it,Wu p' it=Wu p it
 riv:∀it,Kz p' it=Kz p it
 perm:∀it x,gU p it 0 x->gU p' it 0 x
def afO.refl(p:Pl):afO p p:=⟨rfl,rfl,rfl,fun _=>rfl,fun _=>rfl,fun _ _ h=>h⟩
inductive BJ:List Sp->List Sp->Prop
 |nil (l:List Sp):BJ [] l
 |skip {l' l:List Sp} (s:Sp):BJ l' l->BJ l' (s::l)
 |cons {l' l:List Sp} (id s' s:Int):s'<=s->BJ l' l->BJ ((id,s')::l') ((id,s)::l)
def RM{p' p:Pl}(hm:afO p' p){afP ids:Pi}(amZ:afP.Sublist ids):∀{us' us en' en:List (Int×Int)}{free' free last' last:Int}{l:List Sp},LeU us' us->LeE en' en->free'<=free->last'<=last->Jl p ids us en free last=some l->
  ∃l',Jl p' afP us' en' free' last'=some l'/\BJ l' l:=by
 induction amZ with
 |slnil=>
  intro us' us en' en free' free last' last l _ _ _ _ h;exact⟨[],rfl,.nil _⟩
 |@cons afP ids id _ ih=>
  intro us' us en' en free' free last' last l hu he hf hla h;rw[Jl]at h;cases hk:z8 id p.ens 0 with
  |none=>rw[hk]at h;cases h
  |some k=>
   rw[hk]at h;simp only at h;split at h
   ·cases h
   rename_i oQ;cases hx:p.ens[k]? with
   |none=>rw[hx]at h;cases h
   |some e=>
    rw[hx]at h;simp only at h;split at h
    ·cases h
    cases hs:Yk p e (Uk en (Kz p e.it) (max e.ea free))with
    |none=>rw[hs]at h;cases h
    |some s=>
     rw[hs]at h;simp only at h;cases hg:Jl p ids (Yb us e.it) (Zo p en e.it (s+e.fr)) (s+e.fr) k with
     |none=>rw[hg]at h;cases h
     |some r=>
      rw[hg]at h;cases h;obtain⟨a1,a2,_⟩:=Qbg hs;have fM:=Gw en (Kz p e.it) (max e.ea free);obtain⟨l',h1,h2⟩:=ih (hu.skip e.it) (he.skip e.it (s+e.fr)) (free':=free') zE (last':=last') zE hg;exact⟨l',h1,.skip _ h2⟩
 |@cons_cons afP ids id _ ih=>
  intro us' us en' en free' free last' last l hu he hf hla h;rw[Jl]at h;rw[Jl,hm.ens];cases hk:z8 id p.ens 0 with
  |none=>rw[hk]at h;cases h
  |some k=>
   rw[hk]at h;simp only at h |-
   split at h
   ·cases h
   rename_i oQ;rw[if_neg zE];cases hx:p.ens[k]? with
   |none=>rw[hx]at h;cases h
   |some e=>
    rw[hx]at h;simp only at h |-
    split at h
    ·cases h
    rename_i hr;have hue:=hu e.it;rw[hm.runs,hm.riv,if_neg (by intro hh;exact hr ⟨hh.1,zE⟩)];cases hs:Yk p e (Uk en (Kz p e.it) (max e.ea free))with
    |none=>rw[hs]at h;cases h
    |some s=>
     rw[hs]at h;simp only at h;cases hg:Jl p ids (Yb us e.it) (Zo p en e.it (s+e.fr)) (s+e.fr) k with
     |none=>rw[hg]at h;cases h
     |some r=>
      rw[hg]at h;cases h;obtain⟨a1,a2,a3,a4,a5,a6,a7⟩:=Qbg hs;have hfm:=yV he (Kz p e.it) (show max e.ea free'<=max e.ea free by omega);obtain⟨s',dK,cB⟩:=DZ (p:=p') (from_:=Uk en' (Kz p e.it) (max e.ea free')) a1 zE a3 ⟨a4,by rw[hm.ln];exact a5,a6⟩ (fun x h1 h2=>hm.perm _ _ (a7 x h1 h2));have cN:=Qbg dK;rw[dK];simp only;obtain⟨l',h1,h2⟩:=ih (hu.note e.it) (he.note e.it (e':=s'+e.fr) (e:=s+e.fr) zE zE (by rw[hm.aN])) (free':=s'+e.fr) zE (last':=(k:Int)) (zzbu _) hg;rw[h1];exact⟨_,rfl,.cons id s' s cB h2⟩
def aas(ok:Pi->Bool):Prop:=∀a b:Pi,a.Sublist b->ok b=true->ok a=true
def HR(b:Bd):aas (ow b):=fun a c hs h=>by
 unfold ow at h |-
 obtain⟨l,hl⟩:=zzcd.1 h;obtain⟨l',h1,_⟩:=RM (afO.refl b.p) hs (us':=b.us) (en':=b.en) (free':=b.at_) (last':= -1) (fun _=>zzbu _) (LeE.refl _) (zzbu _) (zzbu _) hl;rw[h1];rfl
theorem OJ(b:Bd):ow b []=true:=rfl
def Xe(w:Bool):Pi->List Bool->Pi
 |id::r,k::ks=>if(k==w)=true then id::Xe w r ks else Xe w r ks
 |_,_=>[]
def Ka(ok:Pi->Bool)(rd:Int->Nat)(ids:Pi)(r:Nat)(K:List Bool)(i:Nat):List Bool:=match ids[i]? with
 |some id=>if rd id=r then K.set i (ok (Xe true ids (K.set i true)))else K
 |none=>K
def Jd(ok:Pi->Bool)(rd:Int->Nat)(ids:Pi)(r:Nat)(K:List Bool):List Bool:=(List.range ids.length).foldl (Ka ok rd ids r) K
def Jp(ok:Pi->Bool)(rd:Int->Nat)(ids:Pi):List Bool:=Jd ok rd ids 2 (Jd ok rd ids 1 (Jd ok rd ids 0 (List.replicate ids.length false)))
def D0(K K':List Bool):Prop:=∀j,K.getD j false=true->K'.getD j false=true
def D0.refl(K:List Bool):D0 K K:=fun _ h=>h
def D0.trans{K K' K'':List Bool}(h:D0 K K')(k:D0 K' K''):D0 K K'':=fun j hj=>k j (h j hj)
def j8(K:List Bool)(i j:Nat)(b:Bool):(K.set i b).getD j false=if i=j/\i<K.length then b else K.getD j false:=by
 simp only[zzaw,zzgg];by_cases h:i=j
 ·subst h;by_cases h2:i<K.length
  ·simp[h2]
  have:K[i]?=none:=zzat zE;simp[h2]
 simp[h]
def D0.set{K K':List Bool}(h:D0 K K')(hl:K.length=K'.length)(i:Nat):D0 (K.set i true) (K'.set i true):=fun j hj=>by
 rw[j8]at hj |-
 split at hj
 ·rename_i hc;rw[if_pos ⟨hc.1,zE⟩]
 rename_i hc;rw[if_neg (by rw[<- hl];exact hc)];exact h j hj
def D0.aat(K:List Bool)(i:Nat):D0 K (K.set i true):=fun j hj=>by
 rw[j8];split
 ·rfl
 exact hj
def BK:∀(ids:Pi){K K':List Bool},K.length=K'.length->D0 K K'->(Xe true ids K).Sublist (Xe true ids K')
 |[],_,_,_,_=>by simp[Xe]
 |id::r,[],[],_,_=>by simp[Xe]
 |id::r,[],_::_,h,_=>by simp at h
 |id::r,_::_,[],h,_=>by simp at h
 |id::r,k::ks,k'::ks',hl,h=>by
  have ih:=BK r (K:=ks) (K':=ks') (Nm hl) (fun j hj=>by simpa using h (j+1) (Nm hj));have h0:=h 0;simp at h0;cases k with
  |false=>
   cases k' with
   |false=>simpa[Xe]using ih
   |true=>simpa[Xe]using ih.cons id
  |true=>
   rw[h0 rfl];simpa[Xe]using ih.cons_cons id
def RN(ok:Pi->Bool)(rd:Int->Nat)(ids:Pi)(r:Nat)(K:List Bool)(i:Nat):(Ka ok rd ids r K i).length=K.length:=by
 unfold Ka;split
 ·split<;>simp
 rfl
structure ChI (ok:Pi->Bool) (rd:Int->Nat) (ids:Pi) (r i:Nat) (K:List Bool):Prop where
 len:K.length=ids.length
 kok:ok (Xe true ids K)=true
 todo:∀(j:Nat)(id:Int),ids[j]?=some id->(r<rd id\/rd id=r/\i<=j)->K.getD j false=false
 done:∀(j:Nat)(id:Int),ids[j]?=some id->(rd id<r\/rd id=r/\j<i)->K.getD j false=true\/ok (Xe true ids (K.set j true))=false
def ChI.step{ok:Pi->Bool}(hm:aas ok){rd:Int->Nat}{ids:Pi}{r i:Nat}{K:List Bool}(h:ChI ok rd ids r i K)(hi:i<ids.length):ChI ok rd ids r (i+1) (Ka ok rd ids r K i)/\D0 K (Ka ok rd ids r K i):=by
 obtain⟨id,aL⟩:=aV hi;unfold Ka;rw[aL];simp only;by_cases hr:rd id=r
 ·rw[if_pos hr];have hf:=h.todo i id aL (.inr ⟨hr,zzab _⟩)
  have VC:K.set i false=K:=by
   apply zzeu zd;intro n h1 h2;rw[List.getElem_set];split
   ·rename_i e;subst e;rw[zzaw,zzaf h2]at hf;exact hf.symm
   rfl
  cases bU:ok (Xe true ids (K.set i true))with
  |false=>
   rw[VC];refine⟨⟨h.len,h.kok,fun j x hj hc=>h.todo j x hj zE,fun j x hj hc=>?_⟩,D0.refl K⟩;rcases zzaa j i with ai|bn
   ·exact h.done j x hj zE
   obtain hc|hc:=hc
   ·exact h.done j x hj (.inl hc)
   obtain rfl:j=i:=zE
   exact .inr bU
  |true=>
   have cB:=D0.aat K i;refine⟨⟨by simp[h.len],bU,fun j x hj hc=>?_,fun j x hj hc=>?_⟩,cB⟩
   ·rw[j8,if_neg (by rintro⟨e,_⟩;subst e;rw[aL]at hj;cases hj;omega)];exact h.todo j x hj zE
   rcases Nat.decEq j i with aO|rfl
   ·have hd:=h.done j x hj zE;obtain hd|hd:=hd
    ·exact .inl (cB j hd)
    right;have hs:=BK ids (K:=K.set j true) (K':=(K.set i true).set j true) zd (cB.set zd j);cases hb:ok (Xe true ids ((K.set i true).set j true))with
    |false=>rfl
    |true=>rw[hm _ _ hs hb]at hd;cases hd
   left;rw[j8,if_pos ⟨rfl,by rw[h.len];exact hi⟩]
 rw[if_neg hr];refine⟨⟨h.len,h.kok,fun j x hj hc=>h.todo j x hj zE,fun j x hj hc=>h.done j x hj ?_⟩,D0.refl K⟩;obtain hc|hc:=hc
 ·exact .inl hc
 have:j≠i:=by rintro rfl;rw[aL]at hj;cases hj;exact hr hc.1
 exact .inr ⟨hc.1,zE⟩
def ChI.round{ok:Pi->Bool}(hm:aas ok){rd:Int->Nat}{ids:Pi}{r:Nat}{K:List Bool}(h:ChI ok rd ids r 0 K):ChI ok rd ids (r+1) 0 (Jd ok rd ids r K)/\D0 K (Jd ok rd ids r K):=by
 have key:∀n,n<=ids.length->ChI ok rd ids r n ((List.range n).foldl (Ka ok rd ids r) K)/\D0 K ((List.range n).foldl (Ka ok rd ids r) K):=by
  intro n;induction n with
  |zero=>intro _;exact⟨h,D0.refl K⟩
  |succ n ih=>
   intro hn;obtain⟨h1,h2⟩:=ih zE;obtain⟨g1,g2⟩:=h1.step hm zE;rw[zzez,zzgh];exact⟨g1,h2.trans g2⟩
 obtain⟨h1,h2⟩:=key ids.length (zzab _);refine⟨⟨h1.len,h1.kok,fun j x hj hc=>h1.todo j x hj zE,fun j x hj hc=>h1.done j x hj ?_⟩,h2⟩;have:=(zza.1 hj).1;omega
def yW(ids:Pi)(n:Nat):Xe true ids (List.replicate n false)=[]:=by
 induction ids generalizing n with
 |nil=>simp[Xe]
 |cons x r ih=>
  cases n with
  |zero=>simp[Xe]
  |succ n=>rw[zzfx,Xe];simpa using ih n
def choose_spec{ok:Pi->Bool}(hm:aas ok)(h0:ok []=true)(rd:Int->Nat)(ids:Pi)(iI:∀id∈ids,rd id<=2):
  (Jp ok rd ids).length=ids.length/\ok (Xe true ids (Jp ok rd ids))=true/\∀(j:Nat)(id:Int),ids[j]?=some id->(Jp ok rd ids).getD j false=true\/ok (Xe true ids ((Jp ok rd ids).set j true))=false:=by
 have hi:ChI ok rd ids 0 0 (List.replicate ids.length false):=⟨zd,by rw[yW];exact h0,fun j id hj _=>by
  rw[zzaw,zzcl];split<;>rfl,fun j id hj hc=>zE⟩
 have h1:=(hi.round hm).1;have h2:=(h1.round hm).1;have h3:=(h2.round hm).1;refine⟨h3.len,h3.kok,fun j id hj=>h3.done j id hj (.inl ?_)⟩;have:=iI id (zzae hj);omega
def atK(it:Int)(bf:List (Int×Int)):Int:=((bf.filter fun a=>decide (a.1=it)).length:Nat)
structure ayZ (p:Pl) (bf us en:List (Int×Int)):Prop where
 us:∀it,(af it us).getD 0<=atK it bf
 en:∀k v,af k en=some v->∃a∈bf,∃x,Xk a.1 p.aN=some x/\x.sp=k/\v<=a.2
structure ay0 (p:Pl) (bf us en:List (Int×Int)):Prop where
 us:∀it,atK it bf<=(af it us).getD 0
 en:∀a∈bf,∀x,Xk a.1 p.aN=some x->∃v,af x.sp en=some v/\a.2<=v
def ayD(p:Pl)(c:Cl):Pl:={p with cls:=p.cls++[c]}
def g0(ok:Pi->Bool)(rd:Int->Nat):Pi->Pi->List Bool
 |[],_=>[]
 |id::r,iq=>if rd id=0 then ok (iq++[id])::g0 ok rd r (if ok (iq++[id])=true then iq++[id]else iq)else false::g0 ok rd r iq
def aau(ok:Pi->Bool)(rd:Int->Nat):∀(l iq:Pi),(g0 ok rd l iq).length=l.length
 |[],_=>rfl
 |id::r,iq=>by rw[g0];split<;>simp[aau ok rd r]
def j9(w:Bool):∀(a:Pi)(K:List Bool)(b:Pi)(L:List Bool),a.length=K.length->Xe w (a++b) (K++L)=Xe w a K++Xe w b L
 |[],[],_,_,_=>rfl
 |[],_::_,_,_,h=>by simp at h
 |_::_,[],_,_,h=>by simp at h
 |x::a,k::K,b,L,h=>by
  simp only[zzad,Xe];rw[j9 w a K b L (Nm h)];split<;>simp
def yX(ok:Pi->Bool)(rd:Int->Nat):∀(b a:Pi)(K:List Bool),a.length=K.length->((List.range' a.length b.length).foldl (Ka ok rd (a++b) 0) (K++List.replicate b.length false))=K++g0 ok rd b (Xe true a K)
 |[],a,K,h=>by simp[g0]
 |id::b,a,K,h=>by
  rw[zzbd,zzgo,zzcy];have aL:(a++id::b)[a.length]?=some id:=zd
  have hK:a.length<(K++List.replicate (b.length+1) false).length:=by simp;omega
  have bS:∀x,(K++List.replicate (b.length+1) false).set a.length x=(K++[x])++List.replicate b.length false:=fun x=>by
   rw[zzde _ _ zE,h,zzfn,zzfx];simp
  have hab:a++id::b=(a++[id])++b:=zd
  have ax8:Xe true (a++id::b) ((K++[true])++List.replicate b.length false)=Xe true a K++[id]:=by
   rw[hab,j9 true (a++[id]) (K++[true]) b _ (by simp[h]),j9 true a K [id] [true] h,yW];simp[Xe]
  have aH:∀x:Bool,(a++[id]).length=(K++[x]).length:=fun x=>by simp[h]
  have gO:a.length+1=(a++[id]).length:=zd
  unfold Ka;rw[aL];simp only;by_cases hr:rd id=0
  ·rw[if_pos hr,bS true,ax8,bS,g0,if_pos hr];have ih:=yX ok rd b (a++[id]) (K++[ok (Xe true a K++[id])]) (aH _);rw[<- hab,<- gO]at ih;rw[show(List.foldl (fun K i=>Ka ok rd (a++id::b) 0 K i))=List.foldl (Ka ok rd (a++id::b) 0)from rfl]at*
   refine ih.trans ?_;rw[j9 true a K [id] _ h];cases hb:ok (Xe true a K++[id])<;>simp[Xe]
  rw[if_neg hr,g0,if_neg hr];have ih:=yX ok rd b (a++[id]) (K++[false]) (aH _);rw[<- hab,<- gO]at ih;have e:K++List.replicate (b.length+1) false=(K++[false])++List.replicate b.length false:=by rw[zzfx];simp
  rw[e];refine ih.trans ?_;rw[j9 true a K [id] _ h];simp[Xe]
def RO(ok:Pi->Bool)(rd:Int->Nat)(ids:Pi):Jd ok rd ids 0 (List.replicate ids.length false)=g0 ok rd ids []:=by
 have:=yX ok rd ids [] [] rfl;simp only[zzco,zzai,Xe]at this;rw[Jd,zzfm];exact this
def lz(ok:Pi->Bool)(rd:Int->Nat):∀(ids iq:Pi),(Xe false ids (g0 ok rd ids iq)).filter (fun id=>decide (rd id=0))=Xe false (ids.filter fun id=>decide (rd id=0)) (g0 ok rd (ids.filter fun id=>decide (rd id=0)) iq)
 |[],iq=>rfl
 |id::r,iq=>by
  by_cases h:rd id=0
  ·rw[zzdv (by simp[h]),g0,g0,if_pos h,if_pos h];cases hb:ok (iq++[id])with
   |true=>simpa[Xe]using lz ok rd r (iq++[id])
   |false=>
    simp only[Xe,zzbh,if_false,beq_self_eq_true,if_true];rw[zzdv (by simp[h]),lz ok rd r iq]
  rw[zzfg (by simp[h]),g0,if_neg h];simp only[Xe,beq_self_eq_true,if_true];rw[zzfg (by simp[h]),lz ok rd r iq]
def aav(rd:Int->Nat)(ids:Pi)(K K':List Bool):Prop:=∀(j:Nat)(id:Int),ids[j]?=some id->rd id=0->K.getD j false=K'.getD j false
def BL(rd:Int->Nat):∀(ids:Pi)(K K':List Bool),K.length=ids.length->K'.length=ids.length->aav rd ids K K'->(Xe false ids K).filter (fun id=>decide (rd id=0))=(Xe false ids K').filter (fun id=>decide (rd id=0))
 |[],K,K',_,_,_=>by simp[Xe]
 |id::r,[],_,h,_,_=>by simp at h
 |id::r,_::_,[],_,h,_=>by simp at h
 |id::r,k::K,k'::K',h1,h2,h=>by
  have ih:=BL rd r K K' (Nm h1) (Nm h2) fun j x hj hx=>by simpa using h (j+1) x (Nm hj) hx
  by_cases hr:rd id=0
  ·have h0:=h 0 id rfl hr;simp at h0;subst h0;simp only[Xe];split
   ·rw[zzdv (by simp[hr]),zzdv (by simp[hr]),ih]
   exact ih
  simp only[Xe]
  have e:∀(b:Bool)(l:Pi),(if(b==false)=true then id::l else l).filter (fun id=>decide (rd id=0))=l.filter fun id=>decide (rd id=0):=fun b l=>by
   split
   ·rw[zzfg (by simp[hr])]
   rfl
  rw[e,e,ih]
def tC(ok:Pi->Bool)(rd:Int->Nat)(ids:Pi)(r:Nat)(hr:r≠0)(K:List Bool):aav rd ids (Jd ok rd ids r K) K/\(Jd ok rd ids r K).length=K.length:=by
 have key:∀(L:Pa)(K:List Bool),aav rd ids (L.foldl (Ka ok rd ids r) K) K/\(L.foldl (Ka ok rd ids r) K).length=K.length:=by
  intro L;induction L with
  |nil=>intro K;exact⟨fun _ _ _ _=>rfl,rfl⟩
  |cons i L ih=>
   intro K;obtain⟨h1,h2⟩:=ih (Ka ok rd ids r K i);refine⟨fun j id hj aL=>?_,by rw[zzcy,h2,RN]⟩;rw[zzcy,h1 j id hj aL];unfold Ka;cases hi:ids[i]? with
   |none=>rfl
   |some x=>
    simp only;split
    ·rename_i hx;rw[j8,if_neg (by rintro⟨e,_⟩;subst e;rw[hi]at hj;cases hj;omega)]
    rfl
 exact key _ K
def ax9(ok:Pi->Bool)(rd:Int->Nat)(ids:Pi):(Xe false ids (Jp ok rd ids)).filter (fun id=>decide (rd id=0))=Xe false (ids.filter fun id=>decide (rd id=0)) (Jp ok rd (ids.filter fun id=>decide (rd id=0))):=by
 obtain⟨S,hS⟩:∃S,(ids.filter fun id=>decide (rd id=0))=S:=⟨_,rfl⟩;have bD:∀(L:Pi),Jp ok rd L=Jd ok rd L 2 (Jd ok rd L 1 (g0 ok rd L [])):=fun L=>by rw[Jp,RO]
 have two:∀(L:Pi),(Xe false L (Jp ok rd L)).filter (fun id=>decide (rd id=0))=(Xe false L (g0 ok rd L [])).filter (fun id=>decide (rd id=0)):=fun L=>by
  rw[bD];obtain⟨a1,a2⟩:=tC ok rd L 1 zE (g0 ok rd L []);obtain⟨b1,b2⟩:=tC ok rd L 2 zE (Jd ok rd L 1 (g0 ok rd L []));have hg:=aau ok rd L [];refine BL rd L _ _ zE hg fun j id hj aL=>?_;rw[b1 j id hj aL,a1 j id hj aL]
 rw[two ids,lz,hS]
 have hSf:∀id∈S,rd id=0:=fun id h=>by
  rw[<- hS]at h;simpa using(zzce.1 h).2
 have bQ:∀(L:Pi)(K:List Bool),∀x∈Xe false L K,x∈L:=by
  intro L;induction L with
  |nil=>intro K x hx;simp[Xe]at hx
  |cons y L ih=>
   intro K x hx;cases K with
   |nil=>simp[Xe]at hx
   |cons k K=>
    simp only[Xe]at hx;split at hx
    ·rcases zzao.1 hx with rfl|hx
     ·simp
     exact zzdc _ (ih K x hx)
    exact zzdc _ (ih K x hx)
 have aL:∀K:List Bool,(Xe false S K).filter (fun id=>decide (rd id=0))=Xe false S K:=fun K=>zzfv.2 fun x hx=>by simp[hSf x (bQ S K x hx)]
 have:=two S;rw[aL,aL]at this;exact this.symm
section
variable (P:Int->Prop) (fr low:Int)
def OkA(t:Int):Prop:=∀x,t<=x->x<t+fr->P x
structure RfI (c run last:Int):Prop where
 no:∀t,low<=t->t+fr<=c->¬OkA P fr t
 st:(run= -1/\last= -1/\∀x,low<=x->x<c->¬P x)\/(low<=run/\run<last/\last<=c/\(∀x,run<=x->x<last->P x)/\(run=low\/¬P (run-1))/\∀x,last<=x->x<c->¬P x)
end
def nlB(a b:List Sp):Bool:=a.all fun x=>b.all fun y=>!(decide (x.1=y.1)&&decide (y.2<x.2))
def kj(w:Bool):∀(ids:Pi)(K:List Bool),(Xe w ids K).Sublist ids
 |[],K=>by cases K<;>simp[Xe]
 |id::r,[]=>by simp[Xe]
 |id::r,k::ks=>by
  rw[Xe];split
  ·exact(kj w r ks).cons_cons id
  exact(kj w r ks).cons id
def HS:∀{ids:Pi}{K:List Bool},K.length=ids.length->(∀j,j<ids.length->K.getD j false=true)->Xe true ids K=ids/\Xe false ids K=[]
 |[],K,_,_=>by cases K<;>exact⟨rfl,rfl⟩
 |id::r,[],h,_=>by simp at h
 |id::r,k::ks,h,hk=>by
  have h0:=hk 0 zd;simp at h0;subst h0
  obtain⟨h1,h2⟩:=HS (ids:=r) (K:=ks) (Nm h) fun j hj=>by
   have:=hk (j+1) (Nm hj);simpa using this
  simp[Xe,h1,h2]
def L6{ok:Pi->Bool}(hm:aas ok)(h0:ok []=true)(rd:Int->Nat)(ids:Pi)(iI:∀id∈ids,rd id<=2)(h:ok ids=true):Xe true ids (Jp ok rd ids)=ids/\Xe false ids (Jp ok rd ids)=[]:=by
 obtain⟨h1,h2,h3⟩:=choose_spec hm h0 rd ids iI;refine HS h1 fun j hj=>?_;rcases h3 j _ (zzaf hj)with h4|h4
 ·exact h4
 rw[hm _ _ (kj true ids _) h]at h4;cases h4
def amz(n:Int):Prop:= -9223372036854775808<=n/\n<=9223372036854775807
structure Ca where
 p:Pl
 ids:Pi
 wh:Int
 at_:Int
 past:List Ad
structure PlK (p:Pl):Prop where
 cls:p.cls.length<=1000
 sh:p.sh.length<=1000
 aN:p.aN.length<=1000
 ens:p.ens.length<=1000
 bks:p.bks.length<=1000
 als:∀e∈p.ens,e.al.length<=1000
 ln: -9223372036854775808<=p.ln/\p.ln<=9223372036854775807
 ea:∀e∈p.ens,-9223372036854775808<=e.ea/\e.ea<=9223372036854775807
 la:∀e∈p.ens,-9223372036854775808<=e.la/\e.la<=9223372036854775807
 fr:∀e∈p.ens,-9223372036854775808<=e.fr/\e.fr<=2000
def PlK.spn{p:Pl}(h:PlK p):(Ub p).length<=1000:=by
 have:=pU p.aN [] [];have:=h.aN;simp only[Ub];simp at*;omega
def HT:∀(l:List Ad)(us:List (Int×Int))(n:Int),0<=n->pT n us->pT (n+l.length) (N0 l us)
 |[],us,n,_,h=>by simpa[N0]using h
 |a::r,us,n,hn,h=>by
  rw[N0]
  have h1:pT (n+1) (if rF a=true then Yb us a.it else us):=by
   split
   ·exact h.note hn a.it
   exact fun k v hk=>by have:=h k v hk;omega
  have h2:=HT r _ (n+1) zE h1;have:n+((a::r).length:Int)=n+1+(r.length:Int):=by simp;omega
  rw[this];exact h2
def HU(p:Pl):∀(l:List Ad)(en:List (Int×Int)),ug en->ug (N1 p l en)
 |[],en,h=>by simpa[N1]using h
 |a::r,en,h=>by
  rw[N1];refine HU p r _ ?_;cases hc:rF a with
  |false=>simpa[hc]using h
  |true=>
   simp only[if_true];refine h.note a.it _ ?_;simp[rF]at hc;omega
def Ht(l:Pi):AV:=if l=[]then .sl .nil []else .sl .ro (l.map Xa)
def gJ(p:Pl)(at_:Int)(past:List Ad):Bd:=⟨p,at_,N0 past [],N1 p past [],[],[],[]⟩
def am0(p:Pl)(at_:Int)(past:List Ad):Bp (gJ p at_ past):=⟨fun _ _ h=>(by cases h),fun _ _ h=>(by cases h),fun _ _ h=>(by cases h)⟩
def RP(p:Pl)(id:Int):Nat:=match Zh id p.ens with
 |none=>2
 |some e=>if e.bo≠0 then 0 else match Xk e.it p.aN with
  |none=>2
  |some x=>if x.ki=1\/x.ki=4 then 1 else 2
def Kw(p:Pl)(at_:Int)(past:List Ad)(ids:Pi):List Bool:=Jp (ow (gJ p at_ past)) (RP p) ids
def RB(p:Pl)(at_:Int)(past:List Ad)(ids:Pi):AV:=
 .aS [IE ((Yu p at_ past (Xe true ids (Kw p at_ past ids))).getD []),Ht (Xe false ids (Kw p at_ past ids))]
theorem vg(p:Pl)(at_:Int)(past:List Ad)(ids:Pi):ow (gJ p at_ past) ids=(Yu p at_ past ids).isSome:=rfl
def aaw(p:Pl)(id:Int):RP p id<=2:=by
 unfold RP;cases Zh id p.ens with
 |none=>exact zzab _
 |some e=>
  simp only;split
  ·omega
  cases Xk e.it p.aN with
  |none=>exact zzab _
  |some x=>simp only;split<;>omega
def L7(p:Pl)(at_:Int)(past:List Ad)(ids:Pi):(Kw p at_ past ids).length=ids.length/\(Yu p at_ past (Xe true ids (Kw p at_ past ids))).isSome=true/\
  ∀(j:Nat)(id:Int),ids[j]?=some id->(Kw p at_ past ids).getD j false=true\/(Yu p at_ past (Xe true ids ((Kw p at_ past ids).set j true))).isSome=false:=
 choose_spec (HR _) (OJ _) (RP p) ids fun id _=>aaw p id
def RQ(p:Pl)(at_:Int)(past:List Ad)(ids:Pi)(h:(Yu p at_ past ids).isSome=true):Xe true ids (Kw p at_ past ids)=ids/\Xe false ids (Kw p at_ past ids)=[]:=
 L6 (HR _) (OJ _) (RP p) ids (fun id _=>aaw p id) h
