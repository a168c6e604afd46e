import Derived.Test.YtfliagpjbbkijaaGreatDoorVBMT
set_option linter.all false
set_option maxRecDepth 100000
set_option maxHeartbeats 64000000
namespace Go.Proofs.YtfliagpjbbkijaaGreatDoor
open Go Go.Abs
def yf{at_ n t:Int}(hn:1<=n)(ht:at_<=t):∀{l:List Sp},VS l->(∀x,t<=x->x<t+n->Xw l x)->∃s,GL at_ n l=some s/\s<=t
 |[],_,h=>by
  have:=h t (zzcx _) zE;simp at this
 |a::r,hv,h=>by
  have ha:=hv.1 a zd;have hp:=zzc.1 hv.2;have hr:VS r:=⟨fun s hs=>hv.1 s (by simp[hs]),hp.2⟩;rw[GL];by_cases c:max a.1 at_<a.2/\n<=a.2-max a.1 at_
  ·rw[if_pos c];refine⟨_,rfl,?_⟩;have h0:=h t (zzcx _) zE;rw[Xh]at h0;obtain h0|⟨s,hs,h1,h2⟩:=h0
   ·omega
   have:=hp.1 s hs;omega
  rw[if_neg c]
  have azg:∀x,t<=x->x<t+n->¬(a.1<=x/\x<a.2):=by
   intro x Im Q0 hx
   have h2:¬Xw (a::r) a.2:=by
    rw[Xh];rintro(h|⟨s,hs,h1,_⟩)
    ·omega
    have:=hp.1 s hs;omega
   have h3:t+n<=a.2:=by
    rcases zzgt a.2 (t+n)with h'|h'
    ·exact absurd (h a.2 zE h') h2
    exact h'
   have h4:a.1<=t:=by
    rcases zzgt t a.1 with h'|h'
    ·have h5:=h (a.1-1) zE zE;rw[Xh]at h5;obtain h5|⟨s,hs,h6,_⟩:=h5
     ·omega
     have:=hp.1 s hs;omega
    exact h'
   exact c ⟨zE,zE⟩
  refine yf hn ht hr fun x h1 h2=>?_;have h3:=h x h1 h2;rw[Xh]at h3;exact h3.resolve_left (azg x h1 h2)
def yg{p:Pl}{it k at_ n t:Int}(hn:1<=n/\n<=1000000)(ht:at_<=t)(hk:k*1000000<=t/\t+n<=(k+2)*1000000)(h:∀x,t<=x->x<t+n->jK p it 0 x):∃s,lH (Xz p it k) at_ n=some s/\s<=t:=by
 rw[lH,if_neg zE];refine yf hn.1 ht (Yh _).1 fun x h1 h2=>?_;rw[(Yh _).2,Qby];exact⟨zE,zE,h x h1 h2⟩
def afX{p:Pl}{it k at_ n s:Int}(hn:1<=n)(h:lH (Xz p it k) at_ n=some s):s+n<=(k+2)*1000000:=by
 rw[lH,if_neg zE]at h;obtain⟨a,ha,h1,h2,h3⟩:=Dr h;have:Xw (Xi (Xz p it k)) (s+n-1):=⟨a,ha,zE,zE⟩;rw[(Yh _).2,Qby]at this;omega
def BA{p:Pl}{e:En}{last from_ n t:Int}(he:1<=e.fr/\e.fr<=1000000)(h1:from_<=t)(h2:t<=last)(h3:n*1000000<=t)(h:∀x,t<=x->x<t+e.fr->jK p e.it 0 x):∃s,SZ p e last from_ n=some s/\s<=t:=by
 rw[SZ,if_pos zE];cases hs:lH (Xz p e.it n) from_ e.fr with
 |none=>
  simp only;refine BA he h1 h2 ?_ h;rcases zzgt t ((n+1)*1000000)with h'|h'
  ·obtain⟨s,dR,_⟩:=yg (p:=p) (it:=e.it) (k:=n) he h1 ⟨h3,zE⟩ h;rw[hs]at dR;cases dR
  exact h'
 |some s=>
  simp only;have bT:=afX he.1 hs
  have cI:s<=t:=by
   rcases zzgt ((n+2)*1000000) (t+e.fr)with h'|h'
   ·omega
   obtain⟨s',dR,cw⟩:=yg (p:=p) (it:=e.it) (k:=n) he h1 ⟨h3,h'⟩ h;rw[hs]at dR;cases dR;exact cw
  rw[if_neg zE];exact⟨s,rfl,cI⟩
termination_by(last-n*1000000+1000000).toNat
decreasing_by omega
def DK{p:Pl}{e:En}{from_ t:Int}(he:1<=e.fr/\e.fr<=1000000)(h1:from_<=t)(h0:0<=t)(h2:t<=e.la/\t+e.fr<=p.ln/\t<=100000000)(h:∀x,t<=x->x<t+e.fr->jK p e.it 0 x):∃s,Ye p e from_=some s/\s<=t:=by
 rw[Ye,if_neg zE];refine BA he zE (by simp only[mq];omega) ?_ h;have hm:0<=max from_ 0:=zE
 rw[zzca hm];omega
def LeU(us' us:List (Int×Int)):Prop:=∀k,(af k us').getD 0<=(af k us).getD 0
def LeE(en' en:List (Int×Int)):Prop:=∀k v',af k en'=some v'->∃v,af k en=some v/\v'<=v
def LeE.refl(en:List (Int×Int)):LeE en en:=fun k v h=>⟨v,h,zzcx _⟩
def LeU.note{us' us:List (Int×Int)}(h:LeU us' us)(it:Int):LeU (Vu us' it) (Vu us it):=fun k=>by
 rw[Vu,Vu,Uz,Uz];have:=h it;split
 ·simp;omega
 exact h k
def LeU.skip{us' us:List (Int×Int)}(h:LeU us' us)(it:Int):LeU us' (Vu us it):=fun k=>by
 rw[Vu,Uz];split
 ·rename_i e;have:=h it;rw[e];simp;omega
 exact h k
def LeE.note{p p':Pl}{en' en:List (Int×Int)}(h:LeE en' en)(it:Int){e' e:Int}(he:e'<=e)(h0:0<=e')(hp:Xk it p'.aT=Xk it p.aT):LeE (Zx p' en' it e') (Zx p en it e):=fun k v' hk=>by
 unfold Zx at hk |-
 rw[hp]at hk;cases hf:Xk it p.aT with
 |none=>rw[hf]at hk;exact h k v' hk
 |some x=>
  rw[hf]at hk;simp only[Uz]at hk |-
  split at hk
  ·rename_i X3;cases hk;refine⟨_,by rw[if_pos X3],?_⟩;cases h1:af x.sp en' with
   |none=>
    cases h2:af x.sp en with
    |none=>simp;omega
    |some v=>simp;omega
   |some v1=>
    obtain⟨v,hv,cw⟩:=h _ _ h1;rw[hv];simp;omega
  rename_i X3;obtain⟨v,hv,cw⟩:=h k v' hk;exact⟨v,by rw[if_neg X3];exact hv,cw⟩
def LeE.skip{p:Pl}{en' en:List (Int×Int)}(h:LeE en' en)(it e:Int):LeE en' (Zx p en it e):=fun k v' hk=>by
 obtain⟨v,hv,cw⟩:=h k v' hk;unfold Zx;cases hf:Xk it p.aT with
 |none=>exact⟨v,hv,cw⟩
 |some x=>
  simp only[Uz];split
  ·rename_i X3;subst X3;exact⟨_,rfl,by rw[hv];simp;omega⟩
  exact⟨v,hv,cw⟩
def yh{en' en:List (Int×Int)}(h:LeE en' en):∀(l:List Sp){f' f:Int},f'<=f->Ur en' l f'<=Ur en l f
 |[],_,_,hf=>hf
 |r::l,f',f,hf=>by
  rw[Ur,Ur];refine yh h l ?_;cases h1:af r.1 en' with
  |none=>
   cases h2:af r.1 en with
   |none=>exact hf
   |some v=>simp only;omega
  |some v1=>
   obtain⟨v,hv,cw⟩:=h _ _ h1;rw[hv];simp only;omega
structure afY (p' p:Pl):Prop where
 aT:p'.aT=p.aT
 ens:p'.ens=p.ens
 ln:p'.ln=p.ln
 runs:∀it,Wh p' it=Wh p it
 riv:∀it,Wi p' it=Wi p it
 perm:∀it x,jK p it 0 x->jK p' it 0 x
def afY.refl(p:Pl):afY p p:=⟨rfl,rfl,rfl,fun _=>rfl,fun _=>rfl,fun _ _ h=>h⟩
inductive BB:List Sp->List Sp->Prop
 |nil (l:List Sp):BB [] l
 |skip {l' l:List Sp} (s:Sp):BB l' l->BB l' (s::l)
 |cons {l' l:List Sp} (id s' s:Int):s'<=s->BB l' l->BB ((id,s')::l') ((id,s)::l)
def RZ{p' p:Pl}(hm:afY p' p){afZ ids:Pi}(anz:afZ.Sublist ids):∀{us' us en' en:List (Int×Int)}{free' free last' last:Int}{l:List Sp},LeU us' us->LeE en' en->free'<=free->last'<=last->Jz p ids us en free last=some l->
  ∃l',Jz p' afZ us' en' free' last'=some l'/\BB l' l:=by
 induction anz with
 |slnil=>
  intro us' us en' en free' free last' last l _ _ _ _ h;exact⟨[],rfl,.nil _⟩
 |@cons afZ ids id _ ih=>
  intro us' us en' en free' free last' last l hu he hf hla h;rw[Jz]at h;cases hk:Bi id p.ens 0 with
  |none=>rw[hk]at h;cases h
  |some k=>
   rw[hk]at h;simp only at h;split at h
   ·cases h
   rename_i qu;cases hx:p.ens[k]? with
   |none=>rw[hx]at h;cases h
   |some e=>
    rw[hx]at h;simp only at h;split at h
    ·cases h
    cases hs:Ye p e (Ur en (Wi p e.it) (max e.ea free))with
    |none=>rw[hs]at h;cases h
    |some s=>
     rw[hs]at h;simp only at h;cases hg:Jz p ids (Vu us e.it) (Zx p en e.it (s+e.fr)) (s+e.fr) k with
     |none=>rw[hg]at h;cases h
     |some r=>
      rw[hg]at h;cases h;obtain⟨a1,a2,_⟩:=Qcs hs;have gG:=GM en (Wi p e.it) (max e.ea free);obtain⟨l',h1,h2⟩:=ih (hu.skip e.it) (he.skip e.it (s+e.fr)) (free':=free') zE (last':=last') zE hg;exact⟨l',h1,.skip _ h2⟩
 |@cons_cons afZ ids id _ ih=>
  intro us' us en' en free' free last' last l hu he hf hla h;rw[Jz]at h;rw[Jz,hm.ens];cases hk:Bi id p.ens 0 with
  |none=>rw[hk]at h;cases h
  |some k=>
   rw[hk]at h;simp only at h |-
   split at h
   ·cases h
   rename_i qu;rw[if_neg zE];cases hx:p.ens[k]? with
   |none=>rw[hx]at h;cases h
   |some e=>
    rw[hx]at h;simp only at h |-
    split at h
    ·cases h
    rename_i hr;have hue:=hu e.it;rw[hm.runs,hm.riv,if_neg (by intro hh;exact hr ⟨hh.1,zE⟩)];cases hs:Ye p e (Ur en (Wi p e.it) (max e.ea free))with
    |none=>rw[hs]at h;cases h
    |some s=>
     rw[hs]at h;simp only at h;cases hg:Jz p ids (Vu us e.it) (Zx p en e.it (s+e.fr)) (s+e.fr) k with
     |none=>rw[hg]at h;cases h
     |some r=>
      rw[hg]at h;cases h;obtain⟨a1,a2,a3,a4,a5,a6,a7⟩:=Qcs hs;have hfm:=yh he (Wi p e.it) (show max e.ea free'<=max e.ea free by omega);obtain⟨s',dR,cw⟩:=DK (p:=p') (from_:=Ur en' (Wi p e.it) (max e.ea free')) a1 zE a3 ⟨a4,by rw[hm.ln];exact a5,a6⟩ (fun x h1 h2=>hm.perm _ _ (a7 x h1 h2));have cU:=Qcs dR;rw[dR];simp only;obtain⟨l',h1,h2⟩:=ih (hu.note e.it) (he.note e.it (e':=s'+e.fr) (e:=s+e.fr) zE zE (by rw[hm.aT])) (free':=s'+e.fr) zE (last':=(k:Int)) (zzcx _) hg;rw[h1];exact⟨_,rfl,.cons id s' s cw h2⟩
def aai(ok:Pi->Bool):Prop:=∀a b:Pi,a.Sublist b->ok b=true->ok a=true
def HF(b:Bd):aai (og b):=fun a c hs h=>by
 unfold og at h |-
 obtain⟨l,hl⟩:=zzcd.1 h;obtain⟨l',h1,_⟩:=RZ (afY.refl b.p) hs (us':=b.us) (en':=b.en) (free':=b.at_) (last':= -1) (fun _=>zzcx _) (LeE.refl _) (zzcx _) (zzcx _) hl;rw[h1];rfl
theorem OP(b:Bd):og b []=true:=rfl
def Xc(w:Bool):Pi->List Bool->Pi
 |id::r,k::ks=>if(k==w)=true then id::Xc w r ks else Xc w r ks
 |_,_=>[]
def Jm(ok:Pi->Bool)(rd:Int->Nat)(ids:Pi)(r:Nat)(K:List Bool)(i:Nat):List Bool:=match ids[i]? with
 |some id=>if rd id=r then K.set i (ok (Xc true ids (K.set i true)))else K
 |none=>K
def Ja(ok:Pi->Bool)(rd:Int->Nat)(ids:Pi)(r:Nat)(K:List Bool):List Bool:=(List.range ids.length).foldl (Jm ok rd ids r) K
def Jg(ok:Pi->Bool)(rd:Int->Nat)(ids:Pi):List Bool:=Ja ok rd ids 2 (Ja ok rd ids 1 (Ja ok rd ids 0 (List.replicate ids.length false)))
def DL(K K':List Bool):Prop:=∀j,K.getD j false=true->K'.getD j false=true
def DL.refl(K:List Bool):DL K K:=fun _ h=>h
def DL.trans{K K' K'':List Bool}(h:DL K K')(k:DL K' K''):DL K K'':=fun j hj=>k j (h j hj)
def jQ(K:List Bool)(i j:Nat)(b:Bool):(K.set i b).getD j false=if i=j/\i<K.length then b else K.getD j false:=by
 simp only[zzaq,zzgl];by_cases h:i=j
 ·subst h;by_cases h2:i<K.length
  ·simp[h2]
  have:K[i]?=none:=zzar zE;simp[h2]
 simp[h]
def DL.set{K K':List Bool}(h:DL K K')(hl:K.length=K'.length)(i:Nat):DL (K.set i true) (K'.set i true):=fun j hj=>by
 rw[jQ]at hj |-
 split at hj
 ·rename_i hc;rw[if_pos ⟨hc.1,zE⟩]
 rename_i hc;rw[if_neg (by rw[<- hl];exact hc)];exact h j hj
def DL.aaj(K:List Bool)(i:Nat):DL K (K.set i true):=fun j hj=>by
 rw[jQ];split
 ·rfl
 exact hj
def BC:∀(ids:Pi){K K':List Bool},K.length=K'.length->DL K K'->(Xc true ids K).Sublist (Xc true ids K')
 |[],_,_,_,_=>by simp[Xc]
 |id::r,[],[],_,_=>by simp[Xc]
 |id::r,[],_::_,h,_=>by simp at h
 |id::r,_::_,[],h,_=>by simp at h
 |id::r,k::ks,k'::ks',hl,h=>by
  have ih:=BC r (K:=ks) (K':=ks') (Nm hl) (fun j hj=>by simpa using h (j+1) (Nm hj));have h0:=h 0;simp at h0;cases k with
  |false=>
   cases k' with
   |false=>simpa[Xc]using ih
   |true=>simpa[Xc]using ih.cons id
  |true=>
   rw[h0 rfl];simpa[Xc]using ih.cons_cons id
def R2(ok:Pi->Bool)(rd:Int->Nat)(ids:Pi)(r:Nat)(K:List Bool)(i:Nat):(Jm ok rd ids r K i).length=K.length:=by
 unfold Jm;split
 ·split<;>simp
 rfl
structure ChI (ok:Pi->Bool) (rd:Int->Nat) (ids:Pi) (r i:Nat) (K:List Bool):Prop where
 len:K.length=ids.length
 kok:ok (Xc true ids K)=true
 todo:∀(j:Nat)(id:Int),ids[j]?=some id->(r<rd id\/rd id=r/\i<=j)->K.getD j false=false
 done:∀(j:Nat)(id:Int),ids[j]?=some id->(rd id<r\/rd id=r/\j<i)->K.getD j false=true\/ok (Xc true ids (K.set j true))=false
def ChI.step{ok:Pi->Bool}(hm:aai ok){rd:Int->Nat}{ids:Pi}{r i:Nat}{K:List Bool}(h:ChI ok rd ids r i K)(hi:i<ids.length):ChI ok rd ids r (i+1) (Jm ok rd ids r K i)/\DL K (Jm ok rd ids r K i):=by
 obtain⟨id,aL⟩:=aX hi;unfold Jm;rw[aL];simp only;by_cases hr:rd id=r
 ·rw[if_pos hr];have hf:=h.todo i id aL (.inr ⟨hr,zzaa _⟩)
  have VJ:K.set i false=K:=by
   apply zzey zd;intro n h1 h2;rw[List.getElem_set];split
   ·rename_i e;subst e;rw[zzaq,zzac h2]at hf;exact hf.symm
   rfl
  cases bY:ok (Xc true ids (K.set i true))with
  |false=>
   rw[VJ];refine⟨⟨h.len,h.kok,fun j x hj hc=>h.todo j x hj zE,fun j x hj hc=>?_⟩,DL.refl K⟩;rcases zzab j i with ah|bu
   ·exact h.done j x hj zE
   obtain hc|hc:=hc
   ·exact h.done j x hj (.inl hc)
   obtain rfl:j=i:=zE
   exact .inr bY
  |true=>
   have cw:=DL.aaj K i;refine⟨⟨by simp[h.len],bY,fun j x hj hc=>?_,fun j x hj hc=>?_⟩,cw⟩
   ·rw[jQ,if_neg (by rintro⟨e,_⟩;subst e;rw[aL]at hj;cases hj;omega)];exact h.todo j x hj zE
   rcases Nat.decEq j i with aK|rfl
   ·have hd:=h.done j x hj zE;obtain hd|hd:=hd
    ·exact .inl (cw j hd)
    right;have hs:=BC ids (K:=K.set j true) (K':=(K.set i true).set j true) zd (cw.set zd j);cases hb:ok (Xc true ids ((K.set i true).set j true))with
    |false=>rfl
    |true=>rw[hm _ _ hs hb]at hd;cases hd
   left;rw[jQ,if_pos ⟨rfl,by rw[h.len];exact hi⟩]
 rw[if_neg hr];refine⟨⟨h.len,h.kok,fun j x hj hc=>h.todo j x hj zE,fun j x hj hc=>h.done j x hj ?_⟩,DL.refl K⟩;obtain hc|hc:=hc
 ·exact .inl hc
 have:j≠i:=by rintro rfl;rw[aL]at hj;cases hj;exact hr hc.1
 exact .inr ⟨hc.1,zE⟩
def ChI.round{ok:Pi->Bool}(hm:aai ok){rd:Int->Nat}{ids:Pi}{r:Nat}{K:List Bool}(h:ChI ok rd ids r 0 K):ChI ok rd ids (r+1) 0 (Ja ok rd ids r K)/\DL K (Ja ok rd ids r K):=by
 have key:∀n,n<=ids.length->ChI ok rd ids r n ((List.range n).foldl (Jm ok rd ids r) K)/\DL K ((List.range n).foldl (Jm ok rd ids r) K):=by
  intro n;induction n with
  |zero=>intro _;exact⟨h,DL.refl K⟩
  |succ n ih=>
   intro hn;obtain⟨h1,h2⟩:=ih zE;obtain⟨g1,g2⟩:=h1.step hm zE;rw[zzff,zzgm];exact⟨g1,h2.trans g2⟩
 obtain⟨h1,h2⟩:=key ids.length (zzaa _);refine⟨⟨h1.len,h1.kok,fun j x hj hc=>h1.todo j x hj zE,fun j x hj hc=>h1.done j x hj ?_⟩,h2⟩;have:=(zza.1 hj).1;omega
def yj(ids:Pi)(n:Nat):Xc true ids (List.replicate n false)=[]:=by
 induction ids generalizing n with
 |nil=>simp[Xc]
 |cons x r ih=>
  cases n with
  |zero=>simp[Xc]
  |succ n=>rw[zzek,Xc];simpa using ih n
def choose_spec{ok:Pi->Bool}(hm:aai ok)(h0:ok []=true)(rd:Int->Nat)(ids:Pi)(eX:∀id∈ids,rd id<=2):
  (Jg ok rd ids).length=ids.length/\ok (Xc true ids (Jg ok rd ids))=true/\∀(j:Nat)(id:Int),ids[j]?=some id->(Jg ok rd ids).getD j false=true\/ok (Xc true ids ((Jg ok rd ids).set j true))=false:=by
 have hi:ChI ok rd ids 0 0 (List.replicate ids.length false):=⟨zd,by rw[yj];exact h0,fun j id hj _=>by
  rw[zzaq,zzcn];split<;>rfl,fun j id hj hc=>zE⟩
 have h1:=(hi.round hm).1;have h2:=(h1.round hm).1;have h3:=(h2.round hm).1;refine⟨h3.len,h3.kok,fun j id hj=>h3.done j id hj (.inl ?_)⟩;have:=eX id (zzad hj);omega
def LU(p:Pl)(e:En)(f:Int):Option Int:=
 if e.fr<1\/1000000<e.fr\/p.ln<e.fr then none else
 if max f 0<1000000/\0<=mq p e/\mq p e<1000000 then(match lH (Xz p e.it 0) (max f 0) e.fr with
  |none=>none
  |some s=>if mq p e<s then none else some s)else Ye p e f
def R3(p:Pl)(e:En)(f:Int):LU p e f=Ye p e f:=by
 unfold LU;split
 ·rename_i h;rw[Ye,if_pos h]
 rename_i h;split
 ·rename_i h2;rw[Ye,if_neg h];have hz:(max f 0).tdiv 1000000=0:=Int.tdiv_eq_zero_of_lt zE zE;rw[hz]
  conv=>rhs;unfold SZ
  rw[if_pos zE];cases lH (Xz p e.it 0) (max f 0) e.fr with
  |none=>
   simp only;unfold SZ;rw[if_neg zE]
  |some s=>rfl
 rfl
def anA(p:Pl):Pi->List (Int×Int)->List (Int×Int)->Int->Int->Option (List Sp)
 |[],_,_,_,_=>some []
 |id::r,us,en,free,last=>match Bi id p.ens 0 with
  |none=>none
  |some k=>if(k:Int)<=last then none else match p.ens[k]? with
   |none=>none
   |some e=>if Wh p e.it≠ -1/\Wh p e.it<=(af e.it us).getD 0 then none else
    match LU p e (Ur en (Wi p e.it) (max e.ea free))with
    |none=>none
    |some s=>match anA p r (Vu us e.it) (Zx p en e.it (s+e.fr)) (s+e.fr) k with
     |none=>none
     |some l=>some ((id,s)::l)
def OQ(p:Pl):∀(ids:Pi)(us en:List (Int×Int))(free last:Int),anA p ids us en free last=Jz p ids us en free last
 |[],_,_,_,_=>rfl
 |id::r,us,en,free,last=>by
  rw[anA,Jz];simp only[R3,OQ p r];rfl
def auC(it:Int)(bf:List (Int×Int)):Int:=((bf.filter fun a=>decide (a.1=it)).length:Nat)
structure az9 (p:Pl) (bf us en:List (Int×Int)):Prop where
 us:∀it,(af it us).getD 0<=auC it bf
 en:∀k v,af k en=some v->∃a∈bf,∃x,Xk a.1 p.aT=some x/\x.sp=k/\v<=a.2
structure aAa (p:Pl) (bf us en:List (Int×Int)):Prop where
 us:∀it,auC it bf<=(af it us).getD 0
 en:∀a∈bf,∀x,Xk a.1 p.aT=some x->∃v,af x.sp en=some v/\a.2<=v
def azR(p:Pl)(c:Cl):Pl:={p with cls:=p.cls++[c]}
def g0(ok:Pi->Bool)(rd:Int->Nat):Pi->Pi->List Bool
 |[],_=>[]
 |id::r,HG=>if rd id=0 then ok (HG++[id])::g0 ok rd r (if ok (HG++[id])=true then HG++[id]else HG)else false::g0 ok rd r HG
def aak(ok:Pi->Bool)(rd:Int->Nat):∀(l HG:Pi),(g0 ok rd l HG).length=l.length
 |[],_=>rfl
 |id::r,HG=>by rw[g0];split<;>simp[aak ok rd r]
def jR(w:Bool):∀(a:Pi)(K:List Bool)(b:Pi)(L:List Bool),a.length=K.length->Xc w (a++b) (K++L)=Xc w a K++Xc w b L
 |[],[],_,_,_=>rfl
 |[],_::_,_,_,h=>by simp at h
 |_::_,[],_,_,h=>by simp at h
 |x::a,k::K,b,L,h=>by
  simp only[zzaf,Xc];rw[jR w a K b L (Nm h)];split<;>simp
def yl(ok:Pi->Bool)(rd:Int->Nat):∀(b a:Pi)(K:List Bool),a.length=K.length->((List.range' a.length b.length).foldl (Jm ok rd (a++b) 0) (K++List.replicate b.length false))=K++g0 ok rd b (Xc true a K)
 |[],a,K,h=>by simp[g0]
 |id::b,a,K,h=>by
  rw[zzba,zzez,zzcu];have aL:(a++id::b)[a.length]?=some id:=zd
  have hK:a.length<(K++List.replicate (b.length+1) false).length:=by simp;omega
  have bQ:∀x,(K++List.replicate (b.length+1) false).set a.length x=(K++[x])++List.replicate b.length false:=fun x=>by
   rw[zzch _ _ zE,h,zzex,zzek];simp
  have SP:a++id::b=(a++[id])++b:=zd
  have azh:Xc true (a++id::b) ((K++[true])++List.replicate b.length false)=Xc true a K++[id]:=by
   rw[SP,jR true (a++[id]) (K++[true]) b _ (by simp[h]),jR true a K [id] [true] h,yj];simp[Xc]
  have aH:∀x:Bool,(a++[id]).length=(K++[x]).length:=fun x=>by simp[h]
  have eR:a.length+1=(a++[id]).length:=zd
  unfold Jm;rw[aL];simp only;by_cases hr:rd id=0
  ·rw[if_pos hr,bQ true,azh,bQ,g0,if_pos hr];have ih:=yl ok rd b (a++[id]) (K++[ok (Xc true a K++[id])]) (aH _);rw[<- SP,<- eR]at ih;rw[show(List.foldl (fun K i=>Jm ok rd (a++id::b) 0 K i))=List.foldl (Jm ok rd (a++id::b) 0)from rfl]at*
   refine ih.trans ?_;rw[jR true a K [id] _ h];cases hb:ok (Xc true a K++[id])<;>simp[Xc]
  rw[if_neg hr,g0,if_neg hr];have ih:=yl ok rd b (a++[id]) (K++[false]) (aH _);rw[<- SP,<- eR]at ih;have e:K++List.replicate (b.length+1) false=(K++[false])++List.replicate b.length false:=by rw[zzek];simp
  rw[e];refine ih.trans ?_;rw[jR true a K [id] _ h];simp[Xc]
def R4(ok:Pi->Bool)(rd:Int->Nat)(ids:Pi):Ja ok rd ids 0 (List.replicate ids.length false)=g0 ok rd ids []:=by
 have:=yl ok rd ids [] [] rfl;simp only[zzcp,zzah,Xc]at this;rw[Ja,zzed];exact this
def kW(ok:Pi->Bool)(rd:Int->Nat):∀(ids HG:Pi),(Xc false ids (g0 ok rd ids HG)).filter (fun id=>decide (rd id=0))=Xc false (ids.filter fun id=>decide (rd id=0)) (g0 ok rd (ids.filter fun id=>decide (rd id=0)) HG)
 |[],HG=>rfl
 |id::r,HG=>by
  by_cases h:rd id=0
  ·rw[zzdv (by simp[h]),g0,g0,if_pos h,if_pos h];cases hb:ok (HG++[id])with
   |true=>simpa[Xc]using kW ok rd r (HG++[id])
   |false=>
    simp only[Xc,zzbo,if_false,beq_self_eq_true,if_true];rw[zzdv (by simp[h]),kW ok rd r HG]
  rw[zzfm (by simp[h]),g0,if_neg h];simp only[Xc,beq_self_eq_true,if_true];rw[zzfm (by simp[h]),kW ok rd r HG]
def aal(rd:Int->Nat)(ids:Pi)(K K':List Bool):Prop:=∀(j:Nat)(id:Int),ids[j]?=some id->rd id=0->K.getD j false=K'.getD j false
def BD(rd:Int->Nat):∀(ids:Pi)(K K':List Bool),K.length=ids.length->K'.length=ids.length->aal rd ids K K'->(Xc false ids K).filter (fun id=>decide (rd id=0))=(Xc false ids K').filter (fun id=>decide (rd id=0))
 |[],K,K',_,_,_=>by simp[Xc]
 |id::r,[],_,h,_,_=>by simp at h
 |id::r,_::_,[],_,h,_=>by simp at h
 |id::r,k::K,k'::K',h1,h2,h=>by
  have ih:=BD rd r K K' (Nm h1) (Nm h2) fun j x hj hx=>by simpa using h (j+1) x (Nm hj) hx
  by_cases hr:rd id=0
  ·have h0:=h 0 id rfl hr;simp at h0;subst h0;simp only[Xc];split
   ·rw[zzdv (by simp[hr]),zzdv (by simp[hr]),ih]
   exact ih
  simp only[Xc]
  have e:∀(b:Bool)(l:Pi),(if(b==false)=true then id::l else l).filter (fun id=>decide (rd id=0))=l.filter fun id=>decide (rd id=0):=fun b l=>by
   split
   ·rw[zzfm (by simp[hr])]
   rfl
  rw[e,e,ih]
def tf(ok:Pi->Bool)(rd:Int->Nat)(ids:Pi)(r:Nat)(hr:r≠0)(K:List Bool):aal rd ids (Ja ok rd ids r K) K/\(Ja ok rd ids r K).length=K.length:=by
 have key:∀(L:P2)(K:List Bool),aal rd ids (L.foldl (Jm ok rd ids r) K) K/\(L.foldl (Jm ok rd ids r) K).length=K.length:=by
  intro L;induction L with
  |nil=>intro K;exact⟨fun _ _ _ _=>rfl,rfl⟩
  |cons i L ih=>
   intro K;obtain⟨h1,h2⟩:=ih (Jm ok rd ids r K i);refine⟨fun j id hj aL=>?_,by rw[zzcu,h2,R2]⟩;rw[zzcu,h1 j id hj aL];unfold Jm;cases hi:ids[i]? with
   |none=>rfl
   |some x=>
    simp only;split
    ·rename_i hx;rw[jQ,if_neg (by rintro⟨e,_⟩;subst e;rw[hi]at hj;cases hj;omega)]
    rfl
 exact key _ K
def azi(ok:Pi->Bool)(rd:Int->Nat)(ids:Pi):(Xc false ids (Jg ok rd ids)).filter (fun id=>decide (rd id=0))=Xc false (ids.filter fun id=>decide (rd id=0)) (Jg ok rd (ids.filter fun id=>decide (rd id=0))):=by
 obtain⟨S,hS⟩:∃S,(ids.filter fun id=>decide (rd id=0))=S:=⟨_,rfl⟩;have bJ:∀(L:Pi),Jg ok rd L=Ja ok rd L 2 (Ja ok rd L 1 (g0 ok rd L [])):=fun L=>by rw[Jg,R4]
 have two:∀(L:Pi),(Xc false L (Jg ok rd L)).filter (fun id=>decide (rd id=0))=(Xc false L (g0 ok rd L [])).filter (fun id=>decide (rd id=0)):=fun L=>by
  rw[bJ];obtain⟨a1,a2⟩:=tf ok rd L 1 zE (g0 ok rd L []);obtain⟨b1,b2⟩:=tf ok rd L 2 zE (Ja ok rd L 1 (g0 ok rd L []));have hg:=aak ok rd L [];refine BD rd L _ _ zE hg fun j id hj aL=>?_;rw[b1 j id hj aL,a1 j id hj aL]
 rw[two ids,kW,hS]
 have hSf:∀id∈S,rd id=0:=fun id h=>by
  rw[<- hS]at h;simpa using(zzcq.1 h).2
 have bT:∀(L:Pi)(K:List Bool),∀x∈Xc false L K,x∈L:=by
  intro L;induction L with
  |nil=>intro K x hx;simp[Xc]at hx
  |cons y L ih=>
   intro K x hx;cases K with
   |nil=>simp[Xc]at hx
   |cons k K=>
    simp only[Xc]at hx;split at hx
    ·rcases zzao.1 hx with rfl|hx
     ·simp
     exact zzdg _ (ih K x hx)
    exact zzdg _ (ih K x hx)
 have aL:∀K:List Bool,(Xc false S K).filter (fun id=>decide (rd id=0))=Xc false S K:=fun K=>zzga.2 fun x hx=>by simp[hSf x (bT S K x hx)]
 have:=two S;rw[aL,aL]at this;exact this.symm
section
variable (P:Int->Prop) (fr low:Int)
def OkA(t:Int):Prop:=∀x,t<=x->x<t+fr->P x
structure RfI (c run last:Int):Prop where
 no:∀t,low<=t->t+fr<=c->¬OkA P fr t
 st:(run= -1/\last= -1/\∀x,low<=x->x<c->¬P x)\/(low<=run/\run<last/\last<=c/\(∀x,run<=x->x<last->P x)/\(run=low\/¬P (run-1))/\∀x,last<=x->x<c->¬P x)
end
def nlB(a b:List Sp):Bool:=a.all fun x=>b.all fun y=>!(decide (x.1=y.1)&&decide (y.2<x.2))
def jS(w:Bool):∀(ids:Pi)(K:List Bool),(Xc w ids K).Sublist ids
 |[],K=>by cases K<;>simp[Xc]
 |id::r,[]=>by simp[Xc]
 |id::r,k::ks=>by
  rw[Xc];split
  ·exact(jS w r ks).cons_cons id
  exact(jS w r ks).cons id
def HH:∀{ids:Pi}{K:List Bool},K.length=ids.length->(∀j,j<ids.length->K.getD j false=true)->Xc true ids K=ids/\Xc false ids K=[]
 |[],K,_,_=>by cases K<;>exact⟨rfl,rfl⟩
 |id::r,[],h,_=>by simp at h
 |id::r,k::ks,h,hk=>by
  have h0:=hk 0 zd;simp at h0;subst h0
  obtain⟨h1,h2⟩:=HH (ids:=r) (K:=ks) (Nm h) fun j hj=>by
   have:=hk (j+1) (Nm hj);simpa using this
  simp[Xc,h1,h2]
def LV{ok:Pi->Bool}(hm:aai ok)(h0:ok []=true)(rd:Int->Nat)(ids:Pi)(eX:∀id∈ids,rd id<=2)(h:ok ids=true):Xc true ids (Jg ok rd ids)=ids/\Xc false ids (Jg ok rd ids)=[]:=by
 obtain⟨h1,h2,h3⟩:=choose_spec hm h0 rd ids eX;refine HH h1 fun j hj=>?_;rcases h3 j _ (zzac hj)with h4|h4
 ·exact h4
 rw[hm _ _ (jS true ids _) h]at h4;cases h4
def ans(n:Int):Prop:= -9223372036854775808<=n/\n<=9223372036854775807
structure Ca where
 p:Pl
 ids:Pi
 wh:Int
 at_:Int
 past:List Ad
structure PlK (p:Pl):Prop where
 cls:p.cls.length<=1000
 sh:p.sh.length<=1000
 aT:p.aT.length<=1000
 ens:p.ens.length<=1000
 bks:p.bks.length<=1000
 als:∀e∈p.ens,e.al.length<=1000
 ln: -9223372036854775808<=p.ln/\p.ln<=9223372036854775807
 ea:∀e∈p.ens,-9223372036854775808<=e.ea/\e.ea<=9223372036854775807
 la:∀e∈p.ens,-9223372036854775808<=e.la/\e.la<=9223372036854775807
 fr:∀e∈p.ens,-9223372036854775808<=e.fr/\e.fr<=2000
def PlK.spn{p:Pl}(h:PlK p):(Yx p).length<=1000:=by
 have:=pW p.aT [] [];have:=h.aT;simp only[Yx];simp at*;omega
def HI:∀(l:List Ad)(us:List (Int×Int))(n:Int),0<=n->pV n us->pV (n+l.length) (Of l us)
 |[],us,n,_,h=>by simpa[Of]using h
 |a::r,us,n,hn,h=>by
  rw[Of]
  have h1:pV (n+1) (if rG a=true then Vu us a.it else us):=by
   split
   ·exact h.note hn a.it
   exact fun k v hk=>by have:=h k v hk;omega
  have h2:=HI r _ (n+1) zE h1;have:n+((a::r).length:Int)=n+1+(r.length:Int):=by simp;omega
  rw[this];exact h2
def HJ(p:Pl):∀(l:List Ad)(en:List (Int×Int)),tU en->tU (Og p l en)
 |[],en,h=>by simpa[Og]using h
 |a::r,en,h=>by
  rw[Og];refine HJ p r _ ?_;cases hc:rG a with
  |false=>simpa[hc]using h
  |true=>
   simp only[if_true];refine h.note a.it _ ?_;simp[rG]at hc;omega
def Hw(l:Pi):AV:=if l=[]then .sl .nil []else .sl .ro (l.map Qy)
def gM(p:Pl)(at_:Int)(past:List Ad):Bd:=⟨p,at_,Of past [],Og p past [],[],[],[]⟩
def anB(p:Pl)(at_:Int)(past:List Ad):Bn (gM p at_ past):=⟨fun _ _ h=>(by cases h),fun _ _ h=>(by cases h),fun _ _ h=>(by cases h)⟩
def R5(p:Pl)(id:Int):Nat:=match Zo id p.ens with
 |none=>2
 |some e=>if e.bo≠0 then 0 else match Xk e.it p.aT with
  |none=>2
  |some x=>if x.ki=1\/x.ki=4 then 1 else 2
def Kh(p:Pl)(at_:Int)(past:List Ad)(ids:Pi):List Bool:=Jg (og (gM p at_ past)) (R5 p) ids
def RP(p:Pl)(at_:Int)(past:List Ad)(ids:Pi):AV:=
 .aS [Ww ((Ud p at_ past (Xc true ids (Kh p at_ past ids))).getD []),Hw (Xc false ids (Kh p at_ past ids))]
theorem uO(p:Pl)(at_:Int)(past:List Ad)(ids:Pi):og (gM p at_ past) ids=(Ud p at_ past ids).isSome:=rfl
def aam(p:Pl)(id:Int):R5 p id<=2:=by
 unfold R5;cases Zo id p.ens with
 |none=>exact zzaa _
 |some e=>
  simp only;split
  ·omega
  cases Xk e.it p.aT with
  |none=>exact zzaa _
  |some x=>simp only;split<;>omega
def LW(p:Pl)(at_:Int)(past:List Ad)(ids:Pi):(Kh p at_ past ids).length=ids.length/\(Ud p at_ past (Xc true ids (Kh p at_ past ids))).isSome=true/\
  ∀(j:Nat)(id:Int),ids[j]?=some id->(Kh p at_ past ids).getD j false=true\/(Ud p at_ past (Xc true ids ((Kh p at_ past ids).set j true))).isSome=false:=
 choose_spec (HF _) (OP _) (R5 p) ids fun id _=>aam p id
def R6(p:Pl)(at_:Int)(past:List Ad)(ids:Pi)(h:(Ud p at_ past ids).isSome=true):Xc true ids (Kh p at_ past ids)=ids/\Xc false ids (Kh p at_ past ids)=[]:=
 LV (HF _) (OP _) (R5 p) ids (fun id _=>aam p id) h
def aan(past:List Ad):pV (past.length:Int) (Of past []):=by
 have h:=HI past [] 0 zE (fun k v h=>by cases h);rwa [Int.zero_add]at h
def aao(p:Pl)(past:List Ad):tU (Og p past []):=HJ p past [] (fun k v h=>by cases h)
def alD(p:Pl)(id:Int):Int:=match Bi id p.ens 0 with
 |none=> -1
 |some k=>(k:Int)
def BE{w:Bool}:∀{ids:Pi}{K:List Bool}{i:Nat}{id:Int}{k:Bool},ids[i]?=some id->K[i]?=some k->Xc w (ids.take (i+1)) (K.take (i+1))=Xc w (ids.take i) (K.take i)++if(k==w)=true then[id]else[]
 |[],_,_,_,_,h,_=>by simp at h
 |_::_,[],_,_,_,_,h=>by simp at h
 |x::r,y::ks,0,id,k,h1,h2=>by
  simp at h1 h2;subst h1;subst h2;simp[Xc]
 |x::r,y::ks,i+1,id,k,h1,h2=>by
  have ih:=BE (w:=w) (ids:=r) (K:=ks) (i:=i) (Nm h1) (Nm h2);rw[zzcy,zzcy,zzcy,zzcy,Xc,Xc,ih];split<;>simp
def aap(p:Pl)(id:Int):(∃(n k:Nat)(e:En),Zo id p.ens=some e/\p.ens[k]?=some e/\Xg [id] (bI iA (Dq p)) 0=some (n,I k))\/(Zo id p.ens=none/\Xg [id] (bI iA (Dq p)) 0=none):=by
 have key:∀(l:List En)(i:Nat),Bi id l i=none->Zo id l=none:=by
  intro l;induction l with
  |nil=>intro i _;rfl
  |cons x r ih=>
   intro i h;rw[Bi]at h;split at h
   ·cases h
   rename_i hn;rw[Zo,if_neg hn];exact ih _ h
 rcases Xx iA id (Dq p) 0 with⟨p1,p2,_⟩|⟨u,n,p1,p2,_⟩
 ·rw[uF]at p1;cases hx:Bi id p.ens 0 with
  |none=>exact .inr ⟨key _ _ hx,p2⟩
  |some k=>rw[hx]at p1;cases p1
 rw[uF]at p1;cases hx:Bi id p.ens 0 with
 |none=>rw[hx]at p1;cases p1
 |some k=>
  rw[hx]at p1;cases p1;obtain⟨_,e,h2,h3,h4⟩:=rH hx;rw[zzef]at h2;exact .inl ⟨_,k,e,h4,h2,p2⟩
def af0(pre post:X2)(ls:P2)(b:Bd)(id:Int)(Y:YT)(K:UV)(hK:∀ex,K (I (R5 b.p id:Nat)) (aO pre b (post++ex) ls)):
  aF Tryz.prog aD Y 169 [.ptr (pre.length+9) 0,I id] (aO pre b post ls) K:=by
 refine Xn acU (fun _ _ _=>.junk) zd ?_;unfold R5 at hK;rcases aap b.p id with⟨n,k,e,he,hk,hp⟩|⟨he,hp⟩
 ·rw[he]at hK;simp only at hK;have qu:=(zza.1 hk).1;have zn:(k:Int)<(b.p.ens.length:Int):=zE
  have xE:=Qdf hk;by_cases b1:e.bo=0
  ·rw[if_neg (by simp[b1])]at hK;rcases Qdc b.p e.it with⟨ni,y,hy,hi⟩|⟨hy,hi⟩
   ·rw[hy]at hK;simp only at hK;by_cases c1:y.ki=1
    ·rw[if_pos (.inl c1)]at hK;simp[va,aO,bk,Qn,Qc,hp,qu,zn,xE,Qd,b1];refine Jb ?_;simp[vb,aO,bk,Qn,Qc,Qd,hi,rI,Ql,c1];simpa[aO,bk,Qn,Qc,Ql,Qd,b1,c1]using hK [Qd e,Ql y]
    by_cases c2:y.ki=4
    ·rw[if_pos (.inr c2)]at hK;simp[va,aO,bk,Qn,Qc,hp,qu,zn,xE,Qd,b1];refine Jb ?_;simp[vb,aO,bk,Qn,Qc,Qd,hi,rI,Ql,c1,c2];simpa[aO,bk,Qn,Qc,Ql,Qd,b1,c1,c2]using hK [Qd e,Ql y]
    rw[if_neg (by rintro(h|h);exact c1 h;exact c2 h)]at hK;simp[va,aO,bk,Qn,Qc,hp,qu,zn,xE,Qd,b1];refine Jb ?_;simp[vb,aO,bk,Qn,Qc,Qd,hi,rI,Ql,c1,c2];simpa[aO,bk,Qn,Qc,Ql,Qd,b1,c1,c2]using hK [Qd e,Ql y]
   rw[hy]at hK;simp only at hK;simp[va,aO,bk,Qn,Qc,hp,qu,zn,xE,Qd,b1];refine Jb ?_;simp[vb,aO,bk,Qn,Qc,Qd,hi];simpa[aO,bk,Qn,Qc,Qd,b1]using hK [Qd e,[I 0,I 0,I 0,I 0,I 0]]
  rw[if_pos b1]at hK;simp[va,vb,aO,bk,Qn,Qc,hp,qu,zn,xE,Qd,b1];simpa[aO,bk,Qn,Qc,Qd]using hK [Qd e]
 rw[he]at hK;simp only at hK;simp[va,vb,aO,bk,Qn,Qc,hp];simpa[aO,bk,Qn,Qc]using hK []
def rV(n:Nat)(S:Pi):Rt:=if S=[]then .nil else .own n 1
def nS(S:Pi):P2:=if S=[]then[]else[S.length]
def auD(ids:Pi)(K:List Bool)(w:Bool)(m0:AM)(f:Nat->AV)(m:AM):Prop:=
 ∃(i:Nat),f 10=I i/\i<=ids.length/\f 5=.sl (rV m0.lens.length (Xc w (ids.take i) (K.take i))) ((Xc w (ids.take i) (K.take i)).map Qy)/\m={m0 with lens:=m0.lens++nS (Xc w (ids.take i) (K.take i))}
def R7(ids:Pi)(K:List Bool)(w:Bool)(hi:ids.length<=1000)(hk:K.length=ids.length)(m:AM)(ia ib kb:Nat)(h1:Qf m.boxes ia=[.sl .ro (ids.map Qy)])(h2:Qf m.boxes ib=[.bs kb 0 ids.length 1])(h3:Qf m.boxes kb=K.map .bool)
  (g1:ia<m.boxes.length)(g2:ib<m.boxes.length)(g3:kb<m.boxes.length)(Y:YT)(Q:UV)(hQ:Q (.sl (rV m.lens.length (Xc w ids K)) ((Xc w ids K).map Qy)) {m with lens:=m.lens++nS (Xc w ids K)}):
  aF Tryz.prog aD Y 168 [.bool w,.ptr ia 0,.ptr ib 0] m Q:=by
 refine Xn acT (fun _ _ _=>.junk) zd ?_;simp[TM,h1,g1];refine Qk u9 (auD ids K w m) (fun f _=>ids.length-(numOf (f 10)).toNat) ?_ ?_
 ·exact⟨0,zd,zE,by simp[Xc,rV],by simp[Xc,nS]⟩
 rintro f m' ⟨i,lE,lu,h5,rfl⟩;rcases zzab i ids.length with ah|bu
 ·obtain⟨id,hx⟩:=aX ah;obtain⟨k,hy⟩:∃x,K[i]?=some x:=⟨_,zzac zE⟩;have ai:Qf (ids.map Qy) i=Qy id:=Qv (by simp[hx]);have bP:nth ((K.map AV.bool).drop i) 0=.bool k:=al9 (by simp[hy]);have wH:min 1 (K.length-i)=1:=zE
  have anC:i<K.length:=zE
  have aa:(i:Int)<(ids.length:Int):=zE
  have hw:=bO i zE;have bD:=BE (w:=w) hx hy
  have fQ:(Xc w (ids.take i) (K.take i)).length<=1000:=by
   have:=(jS w (ids.take i) (K.take i)).length_le;simp at this;omega
  obtain⟨S,hS⟩:∃S,Xc w (ids.take i) (K.take i)=S:=⟨_,rfl⟩;rw[hS]at h5 bD fQ |-
  cases hc:(k==w)with
  |false=>
   rw[hc]at bD;have bD:Xc w (ids.take (i+1)) (K.take (i+1))=S:=by rw[bD];simp
   simp[lE,h5,ah,aa,anC,ai,Qy,u9,hw,hc,h2,h3,g2,g3,bP,wH,show 1<=K.length-i by omega];refine⟨aP,⟨i+1,zd,zE,by rw[bD];simp[h5,Qy],by rw[bD]⟩,zE⟩
  |true=>
   rw[hc]at bD;have bD:Xc w (ids.take (i+1)) (K.take (i+1))=S++[id]:=by rw[bD];simp
   by_cases hSe:S=[]
   ·subst hSe;simp only[rV,nS,if_true,zzce,zzau]at h5 |-
    simp[lE,h5,ah,aa,anC,ai,Qy,u9,hw,hc,h2,h3,g2,g3,bP,wH,show 1<=K.length-i by omega];refine⟨aP,⟨i+1,zd,zE,by rw[bD];simp[Qy,rV],by rw[bD];simp[nS]⟩,zE⟩
   simp only[rV,nS,if_neg hSe]at h5 |-
   have cI:(m.lens++[S.length]).set m.lens.length (S.length+1)=m.lens++[S.length+1]:=by rw[List.set_append,if_neg zE];simp
   simp[lE,h5,ah,aa,anC,ai,Qy,u9,hw,hc,h2,h3,g2,g3,bP,wH,show 1<=K.length-i by omega];refine⟨⟨?_,zE⟩,aP,⟨i+1,zd,zE,by rw[bD];simp[Qy,rV],by rw[bD];simp[nS]⟩,zE⟩
   ·rintro row (⟨a,_,rfl⟩|rfl)<;>rfl
 have bT:¬(i:Int)<(ids.length:Int):=zE
 rw[zzai zE,zzai zE]at h5 |-
 simp[lE,h5,bT,zzbj.2 bu,u9,ahB];exact hQ
def stF(ok:Pi->Bool)(rd:Int->Nat)(ids:Pi)(r:Nat):Nat->Nat->List Bool->List Bool
 |0,_,K=>K
 |n+1,i,K=>stF ok rd ids r n (i+1) (Jm ok rd ids r K i)
def R8(ok:Pi->Bool)(rd:Int->Nat)(ids:Pi)(r:Nat)(K:List Bool):Ja ok rd ids r K=stF ok rd ids r ids.length 0 K:=by
 have:∀(n i:Nat)(K:List Bool),(List.range' i n).foldl (Jm ok rd ids r) K=stF ok rd ids r n i K:=by
  intro n;induction n with
  |zero=>intro i K;rfl
  |succ n ih=>intro i K;rw[zzez,zzcu,ih];rfl
 unfold Ja;rw[zzed];exact this _ _ _
def aaq{ok:Pi->Bool}{rd:Int->Nat}{ids:Pi}{r:Nat}{K:List Bool}{i:Nat}{id:Int}(h:ids[i]?=some id):Jm ok rd ids r K i=if rd id=r then K.set i (ok (Xc true ids (K.set i true)))else K:=by
 unfold Jm;rw[h]
def chF(ok:Pi->Bool)(rd:Int->Nat)(ids:Pi):Nat->Nat->List Bool->List Bool
 |0,_,K=>K
 |n+1,r,K=>chF ok rd ids n (r+1) (Ja ok rd ids r K)
def ym(p:Pl)(ids:Pi):X2:=[Qc p,[.sl .ro (ids.map Qy)]]
def dw(E:X2)(n:Nat)(K:List Bool)(ex:X2):X2:=E++(K.map AV.bool::[.bs (E.length+12) 0 n 1]::ex)
def yV(p:Pl)(ids:Pi)(b:Bd)(E:X2)(K:List Bool)(ex:X2)(ls:P2):AM:=aO (ym p ids) b (dw E ids.length K ex) ls
def lK(b:Bd)(rv:List (Int×(Rt×List Sp)))(li:List (Int×Int))(pm:List ((Int×Int)×List Sp)):Bd:={b with rv:=rv,li:=li,pm:=pm}
def auE(p:Pl)(ids:Pi)(b:Bd)(E:X2)(T:List Bool)(f:Nat->AV)(m:AM):Prop:=
 ∃(r:Nat)(K:List Bool)(rv:List (Int×(Rt×List Sp)))(li:List (Int×Int))(pm:List ((Int×Int)×List Sp))(ex:X2)(ls:P2),f 36=I r/\r<=3/\K.length=ids.length/\chF (og b) (R5 p) ids (3-r) r K=T/\Bn (lK b rv li pm)/\m=yV p ids (lK b rv li pm) E K ex ls
def auF(p:Pl)(ids:Pi)(b:Bd)(E:X2)(r:Nat)(T:List Bool)(f:Nat->AV)(m:AM):Prop:=
 ∃(i:Nat)(K:List Bool)(rv:List (Int×(Rt×List Sp)))(li:List (Int×Int))(pm:List ((Int×Int)×List Sp))(ex:X2)(ls:P2),f 41=I i/\i<=ids.length/\K.length=ids.length/\stF (og b) (R5 p) ids r (ids.length-i) i K=T/\Bn (lK b rv li pm)/\m=yV p ids (lK b rv li pm) E K ex ls
def azj(p:Pl)(ids:Pi)(b:Bd)(E:X2)(K:List Bool)(ex:X2)(ls:P2)(S:Pi)(v:AV)(m:AM):Prop:=
 ∃(a:AV)(rv:List (Int×(Rt×List Sp)))(li:List (Int×Int))(pm:List ((Int×Int)×List Sp))(jL:X2)(exl:P2),v=.aS [a,.bool (og b S)]/\Bn (lK b rv li pm)/\m=yV p ids (lK b rv li pm) E K (ex++jL) (ls++exl)
def jT:X1:=fun d f _=>if f=999999 then(if d=34 then .aM 0 []else .junk)else .gd false .junk
def aar{p:Pl}{ids:Pi}(hi:ids.length<=1000)(b:Bd)(E:X2)(K:List Bool)(hk:K.length=ids.length)(ex:X2)(ls:P2)(w:Bool)(Y:YT)(Q:UV)
  (hQ:Q (.sl (rV ls.length (Xc w ids K)) ((Xc w ids K).map Qy)) (yV p ids b E K ex (ls++nS (Xc w ids K)))):
  aF Tryz.prog aD Y 168 [.bool w,.ptr 1 0,.ptr (E.length+13) 0] (yV p ids b E K ex ls) Q:=by
 refine R7 ids K w hi hk (yV p ids b E K ex ls) 1 (E.length+13) (E.length+12) ?_ ?_ ?_ ?_ ?_ ?_ Y Q hQ;all_goals simp[yV,aO,bk,ym,dw]
 all_goals omega
def qS(a:AV):∀n:Nat,bH n [a]=List.replicate n a
 |0=>rfl
 |n+1=>by rw[bH,qS a n];rfl
def aas{p:Pl}(h:PlK p){at_:Int}(ha:ans at_){past:List Ad}(hp:past.length<=2500)(pre post:X2)(ls:P2)(rv:List (Int×(Rt×List Sp)))(li:List (Int×Int))(pm:List ((Int×Int)×List Sp))(hB:Bn (lK (gM p at_ past) rv li pm))
  (S:Pi)(hS:S.length<=1000)(rt0:Rt)(Y:YT)(K:UV)
  (
   hK:∀a rv li pm ex exl,Bn (lK (gM p at_ past) rv li pm)->((Ud p at_ past S=none/\a=.sl .nil [])\/∃l rt,Ud p at_ past S=some l/\Dt 2 ls.length (ls++exl) rt l/\a=.sl rt (l.map Qe))->
   K (.aS [a,.bool (og (gM p at_ past) S)]) (aO pre (lK (gM p at_ past) rv li pm) (post++ex) (ls++exl))):
  aF Tryz.prog aD Y 85 [.ptr (pre.length+9) 0,.sl rt0 (S.map Qy)] (aO pre (lK (gM p at_ past) rv li pm) post ls) K:=by
 have FX:=h.spn;obtain⟨l1,l2,l3,l4,l5,l6,l7,l8,l9,l10⟩:=h;have hU:=aan past;have hE:=aao p past;refine Qeh pre post ls (lK (gM p at_ past) rv li pm) S rt0 past.length zE zE (show p.cls.length<=1000000 by omega) (show p.sh.length<=1000000000 by omega) (show p.aT.length<=1000000000 by omega) (show p.ens.length<=1000000000 by omega) (show(Yx p).length<=1000000000 by omega) l7.2 (fun e he=>(l8 e he).2) ha.2 hU hE hB Y K (fun h0 rv li pm jL exl hB=>?_) (fun l h1 rv li pm jL exl US hB hO2=>?_)
 ·have h0:Ud p at_ past S=none:=h0;have:=hK (.sl .nil []) rv li pm jL exl hB (.inl ⟨h0,rfl⟩);rw[uO,h0]at this;exact this
 have h1:Ud p at_ past S=some l:=h1;have:=hK (.sl US (l.map Qe)) rv li pm jL exl hB (.inr ⟨l,US,h1,hO2,rfl⟩);rw[uO,h1]at this;exact this
def DD(w:Bool)(ids:Pi)(K:List Bool):(Xc w ids K).length<=ids.length:=(jS w ids K).length_le
def ZW{p:Pl}(h:PlK p){at_:Int}(ha:ans at_){past:List Ad}(hp:past.length<=2500){ids:Pi}(hi:ids.length<=1000):
  Pure Tryz.prog aD 111 [.agg (Qc p),.sl .ro (ids.map Qy),I at_,.sl .ro (past.map Vj)] (RP p at_ past ids):=by
 have Fl:=h;obtain⟨l1,l2,l3,l4,l5,l6,l7,l8,l9,l10⟩:=h;refine Qm ab6 jT zd ?_;simp[MS,Qc,jT];have k41:=fun K'=>xC (ym p ids) [] p at_ past .ro zE zE zE Y0 K';simp only[ym,Qc]at k41;refine k41 _ fun ex=>?_;clear k41;simp[jT,aO,bk,Qn,Qc];refine aas Fl ha hp (ym p ids) ex [] [] [] [] (anB p at_ past) ids hi .ro Y0 _ (fun a rv li pm jL exl hB hr=>?_);obtain⟨h0,rfl⟩|⟨l,rt,h1,hO,rfl⟩:=hr
 ·have bY:og (gM p at_ past) ids=false:=by rw[uO,h0];rfl
  rw[bY];obtain⟨E,hE⟩:∃E,ex++jL=E:=⟨_,rfl⟩;rw[hE];simp[jT,aO,bk,Qn,ym,Qc,lK,gM];refine⟨zE,?_⟩;refine Qk BU (auE p ids (gM p at_ past) E (Kh p at_ past ids)) (fun f _=>(3-numOf (f 36)).toNat) ?_ ?_
  ·exact⟨0,List.replicate ids.length false,rv,li,pm,[],exl,zd,zE,zd,rfl,hB,by simp[yV,aO,bk,Qn,ym,dw,Qc,lK,gM,qS]⟩
  clear hB;rintro f m ⟨r,K,rv,li,pm,Du,ls,h36,Hs,hK,hT,hB,rfl⟩;rcases zzab r 3 with rlt|rge
  ·have azk:(r:Int)<3:=zE
   have ry:=bO r zE;obtain⟨n,hn⟩:∃n,3-r=n+1:=⟨2-r,zE⟩;rw[hn,chF]at hT;obtain⟨T,hTr⟩:∃T,Ja (og (gM p at_ past)) (R5 p) ids r K=T:=⟨_,rfl⟩;rw[hTr]at hT;rw[R8]at hTr;simp[h36,rlt,azk,BU,yV,aO,bk,ym,dw,lK,gM];refine Qk I4 (auF p ids (gM p at_ past) E r T) (fun f _=>ids.length-(numOf (f 41)).toNat) ?_ ?_
   ·exact⟨0,K,rv,li,pm,Du,ls,zd,zE,hK,Nm hTr,hB,by simp[yV,aO,bk,ym,dw,lK,gM]⟩
   clear hTr hK hB;rintro g m ⟨i,K,rv,li,pm,Du,ls,g41,lu,hK,hTi,hB,rfl⟩;rcases zzab i ids.length with ah|bu
   ·obtain⟨id,hx⟩:=aX ah;have ai:Qf (ids.map Qy) i=Qy id:=Qv (by simp[hx]);have aa:(i:Int)<(ids.length:Int):=zE
    have hw:=bO i zE;obtain⟨n2,eL⟩:∃n2,ids.length-i=n2+1:=⟨ids.length-i-1,zE⟩;have hn3:ids.length-(i+1)=n2:=zE
    rw[eL,stF,aaq hx]at hTi;simp[g41,ah,aa,ai,Qy,I4,yV,aO,bk,ym,dw,lK,gM,jT];refine af0 (ym p ids) (dw E ids.length K Du) ls (lK (gM p at_ past) rv li pm) id Y0 _ (fun exr=>?_);have hpb:(lK (gM p at_ past) rv li pm).p=p:=rfl;rw[hpb];by_cases eX:R5 p id=r
    ·rw[if_pos eX]at hTi;have anD:((R5 p id:Nat):Int)=(r:Int):=zE
     have hms:(K.map AV.bool).set i (.bool true)=(K.set i true).map AV.bool:=by rw[zzfk]
     simp[anD,aO,bk,ym,dw,lK,gM,jT];refine⟨ah,zE,?_⟩;rw[hms];obtain⟨S,hS⟩:∃S,Xc true ids (K.set i true)=S:=⟨_,rfl⟩;have hSl:S.length<=1000:=by have:=DD true ids (K.set i true);rw[hS]at this;omega
     have hK2:(K.set i true).length=ids.length:=by simpa using hK
     rw[hS]at hTi;obtain⟨ok,auG⟩:∃ok,og (gM p at_ past) S=ok:=⟨_,rfl⟩;rw[auG]at hTi
     refine WT rfl [(.sl (rV ls.length S) (S.map Qy),yV p ids (lK (gM p at_ past) rv li pm) E (K.set i true) (Du++exr) (ls++nS S))] (azj p ids (gM p at_ past) E (K.set i true) (Du++exr) (ls++nS S) S)
      ⟨(.aS [.sl .nil [],.bool (og (gM p at_ past) S)],yV p ids (lK (gM p at_ past) rv li pm) E (K.set i true) ((Du++exr)++[]) ((ls++nS S)++[])),.sl .nil [],rv,li,pm,[],[],rfl,hB,rfl⟩ (fun v m' hv=>?_)
     obtain⟨a,rv2,sX,On,Ro,anE,rfl,yR,rfl⟩:=hv;rw[auG];simp[yV,aO,bk,ym,dw,lK,gM,jT,hw];rw[hms];have aAb:(K.map AV.bool).set i (.bool ok)=(K.set i ok).map AV.bool:=by rw[zzfk]
     refine⟨?_,?_,ah,zE,aP,⟨i+1,K.set i ok,rv2,sX,On,(Du++exr)++Ro,ls++nS S++anE,zd,zE,Nm hK,by rw[hn3];exact hTi,yR,by simp[yV,aO,bk,ym,dw,lK,gM]⟩,by simp[g41];omega⟩
     ·refine aar (p:=p) hi (lK (gM p at_ past) rv li pm) E (K.set i true) hK2 (Du++exr) ls true Y0 _ ?_;rw[hS];exact⟨rfl,rfl⟩
     refine aas Fl ha hp (ym p ids) (dw E ids.length (K.set i true) (Du++exr)) (ls++nS S) rv li pm hB S hSl _ Y0 _ (fun a rv li pm ex exl hB _=>⟨a,rv,li,pm,ex,exl,rfl,hB,by simp[yV,dw];rfl⟩)
    rw[if_neg eX]at hTi;have anD:¬((R5 p id:Nat):Int)=(r:Int):=zE
    simp[anD,aO,bk,ym,dw,lK,gM,jT,hw];refine⟨aP,⟨i+1,K,rv,li,pm,Du++exr,ls,zd,zE,hK,by rw[hn3];exact hTi,hB,by simp[yV,aO,bk,ym,dw,lK,gM]⟩,zE⟩
   have bT:¬(i:Int)<(ids.length:Int):=zE
   have hz:ids.length-i=0:=zE
   rw[hz,stF]at hTi;subst hTi;simp[g41,bT,zzbj.2 bu,I4,BU,h36,yV,aO,bk,ym,dw,lK,gM,ry];refine⟨aP,⟨r+1,K,rv,li,pm,Du,ls,zd,zE,hK,by rw[show 3-(r+1)=n by omega];exact hT,hB,by simp[yV,aO,bk,ym,dw,lK,gM]⟩,zE⟩
  have rin:¬(r:Int)<3:=zE
  obtain rfl:r=3:=zE
  have hT:K=Kh p at_ past ids:=hT;subst hT;obtain⟨ka,kb,kc⟩:=LW p at_ past ids;obtain⟨L,hL⟩:=zzcd.1 kb;simp[h36,BU,yV,aO,bk,ym,dw,lK,gM,jT];refine aar (p:=p) hi (lK (gM p at_ past) rv li pm) E (Kh p at_ past ids) ka Du ls true Y0 _ ?_;obtain⟨S,hS⟩:∃S,Xc true ids (Kh p at_ past ids)=S:=⟨_,rfl⟩;have hSl:S.length<=1000:=by have:=DD true ids (Kh p at_ past ids);rw[hS]at this;omega
  have hr:RP p at_ past ids=.aS [Ww L,Hw (Xc false ids (Kh p at_ past ids))]:=by rw[RP,hL];rfl
  rw[hr];rw[hS]at hL |-
  simp[yV,aO,bk,ym,dw,lK,gM,jT];refine aas Fl ha hp (ym p ids) (dw E ids.length (Kh p at_ past ids) Du) (ls++nS S) rv li pm hB S hSl _ Y0 _ (fun a rv li pm Ro anE hB hv=>?_);obtain⟨h0,_⟩|⟨l,rt,h1,hO,rfl⟩:=hv
  ·rw[hL]at h0;cases h0
  rw[hL]at h1;cases h1;simp[yV,aO,bk,ym,dw,lK,gM,jT];refine aar (p:=p) hi (lK (gM p at_ past) rv li pm) E (Kh p at_ past ids) ka (Du++Ro) (ls++(nS S++anE)) false Y0 _ ?_;obtain⟨D,hD⟩:∃D,Xc false ids (Kh p at_ past ids)=D:=⟨_,rfl⟩;rw[hD];by_cases hDe:D=[]
  ·subst hDe;obtain⟨rfl,rfl⟩|⟨k2,rfl,_,_,aK⟩:=hO
   ·simp[uW,Ww,Hw,rV]
   simp[uW,Ww,Hw,rV,aK]
  obtain⟨rfl,rfl⟩|⟨k2,rfl,_,_,aK⟩:=hO
  ·simp[uW,Ww,Hw,rV,hDe]
  simp[uW,Ww,Hw,rV,hDe,aK]
 have bY:og (gM p at_ past) ids=true:=by rw[uO,h1];rfl
 obtain⟨cZ,dM⟩:=R6 p at_ past ids (by rw[h1];rfl);have hr:RP p at_ past ids=.aS [Ww l,.sl .nil []]:=by rw[RP,cZ,dM,h1];rfl
 rw[bY,hr];obtain⟨rfl,rfl⟩|⟨k2,rfl,_,_,aK⟩:=hO
 ·simp[uW,Ww]
 simp[uW,Ww,aK]
