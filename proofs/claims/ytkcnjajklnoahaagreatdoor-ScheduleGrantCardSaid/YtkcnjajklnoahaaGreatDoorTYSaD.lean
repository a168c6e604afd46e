import Derived.Test.YtkcnjajklnoahaaGreatDoorTYMT
set_option linter.unusedVariables false
set_option linter.unusedSimpArgs false
namespace Go.Proofs.YtkcnjajklnoahaaGreatDoor
open Go Go.Abs
theorem earL_least {at_ n t:Int} (hn:1<=n) (ht:at_<=t):∀ {l:List Sp},VS l->(∀ x,t<=x->x < t+n->Xm l x)->∃ s,earL at_ n l=some s/\s<=t
 | [],_,h=>by
  have:=h t (Int.le_refl _) (by omega)
  simp at this
 | a::r,hv,h=>by
  have ha:=hv.1 a (by simp)
  have hp:=List.pairwise_cons.1 hv.2
  have hr:VS r:=⟨fun s hs=>hv.1 s (by simp [hs]),hp.2⟩
  rw [earL]
  by_cases c:max a.1 at_ < a.2/\n<=a.2 - max a.1 at_
  ·rw [if_pos c]
   refine ⟨_,rfl,?_⟩
   have h0:=h t (Int.le_refl _) (by omega)
   rw [Xe] at h0
   rcases h0 with h0 | ⟨s,hs,h1,h2⟩
   ·omega
   ·have:=hp.1 s hs
    omega
  ·rw [if_neg c]
   have hnot:∀ x,t<=x->x < t+n->¬ (a.1<=x/\x < a.2):=by
    intro x hx1 hx2 hx
    have h2:¬ Xm (a::r) a.2:=by
     rw [Xe]
     rintro (h | ⟨s,hs,h1,_⟩)
     ·omega
     ·have:=hp.1 s hs
      omega
    have h3:t+n<=a.2:=by
     rcases Int.lt_or_le a.2 (t+n) with h' | h'
     ·exact absurd (h a.2 (by omega) h') h2
     ·exact h'
    have h4:a.1<=t:=by
     rcases Int.lt_or_le t a.1 with h' | h'
     ·have h5:=h (a.1 - 1) (by omega) (by omega)
      rw [Xe] at h5
      rcases h5 with h5 | ⟨s,hs,h6,_⟩
      ·omega
      ·have:=hp.1 s hs
       omega
     ·exact h'
    exact c ⟨by omega,by omega⟩
   refine earL_least hn ht hr fun x h1 h2=>?_
   have h3:=h x h1 h2
   rw [Xe] at h3
   exact h3.resolve_left (hnot x h1 h2)
theorem earS_least {p:Pl} {it k at_ n t:Int} (hn:1<=n/\n<=1000000) (ht:at_<=t) (hk:k*1000000<=t/\t+n<=(k+2)*1000000) (h:∀ x,t<=x->x < t+n->Ue p it 0 x):∃ s,earS (Zc p it k) at_ n=some s/\s<=t:=by
 rw [earS,if_neg (by omega)]
 refine earL_least hn.1 ht (Va _).1 fun x h1 h2=>?_
 rw [(Va _).2,Qbc]
 exact ⟨by omega,by omega,h x h1 h2⟩
theorem earS_in {p:Pl} {it k at_ n s:Int} (hn:1<=n) (h:earS (Zc p it k) at_ n=some s):s+n<=(k+2)*1000000:=by
 rw [earS,if_neg (by omega)] at h
 obtain ⟨a,ha,h1,h2,h3⟩:=earL_ok h
 have:Xm (Xj (Zc p it k)) (s+n - 1):=⟨a,ha,by omega,by omega⟩
 rw [(Va _).2,Qbc] at this
 omega
theorem stP_least {p:Pl} {e:En} {last from_ n t:Int} (he:1<=e.fr/\e.fr<=1000000) (h1:from_<=t) (h2:t<=last) (h3:n*1000000<=t) (h:∀ x,t<=x->x < t+e.fr->Ue p e.it 0 x):∃ s,stP p e last from_ n=some s/\s<=t:=by
 rw [stP,if_pos (by omega)]
 cases hs:earS (Zc p e.it n) from_ e.fr with
 | none =>
  simp only
  refine stP_least he h1 h2 ?_ h
  rcases Int.lt_or_le t ((n+1)*1000000) with h' | h'
  ·obtain ⟨s,hs',_⟩:=earS_least (p:=p) (it:=e.it) (k:=n) he h1 ⟨h3,by omega⟩ h
   rw [hs] at hs';cases hs'
  ·exact h'
 | some s =>
  simp only
  have hin:=earS_in he.1 hs
  have hst:s<=t:=by
   rcases Int.lt_or_le ((n+2)*1000000) (t+e.fr) with h' | h'
   ·omega
   ·obtain ⟨s',hs',hle⟩:=earS_least (p:=p) (it:=e.it) (k:=n) he h1 ⟨h3,h'⟩ h
    rw [hs] at hs';cases hs';exact hle
  rw [if_neg (by omega)]
  exact ⟨s,rfl,hst⟩
termination_by (last - n*1000000+1000000).toNat
decreasing_by omega
theorem Qcf {p:Pl} {e:En} {from_ t:Int} (he:1<=e.fr/\e.fr<=1000000) (h1:from_<=t) (h0:0<=t) (h2:t<=e.la/\t+e.fr<=p.ln/\t<=100000000) (h:∀ x,t<=x->x < t+e.fr->Ue p e.it 0 x):∃ s,Xr p e from_=some s/\s<=t:=by
 rw [Xr,if_neg (by omega)]
 refine stP_least he (by omega) (by simp only [Vj];omega) ?_ h
 have hm:0<=max from_ 0:=by omega
 rw [Int.tdiv_eq_ediv_of_nonneg hm]
 omega
def LeU (us' us:List (Int×Int)):Prop:=∀ k,(af k us').getD 0<=(af k us).getD 0
def LeE (en' en:List (Int×Int)):Prop:=∀ k v',af k en'=some v'->∃ v,af k en=some v/\v'<=v
theorem LeE.refl (en:List (Int×Int)):LeE en en:=fun k v h=>⟨v,h,Int.le_refl _⟩
theorem LeU.note {us' us:List (Int×Int)} (h:LeU us' us) (it:Int):LeU (Zw us' it) (Zw us it):=fun k=>by
 rw [Zw,Zw,Zr,Zr]
 have:=h it
 split
 ·simp;omega
 ·exact h k
theorem LeU.skip {us' us:List (Int×Int)} (h:LeU us' us) (it:Int):LeU us' (Zw us it):=fun k=>by
 rw [Zw,Zr]
 split
 ·rename_i e
  have:=h it
  rw [e];simp;omega
 ·exact h k
theorem LeE.note {p p':Pl} {en' en:List (Int×Int)} (h:LeE en' en) (it:Int) {e' e:Int} (he:e'<=e) (h0:0<=e') (hp:Qy it p'.its=Qy it p.its):LeE (Za p' en' it e') (Za p en it e):=fun k v' hk=>by
 unfold Za at hk |-
 rw [hp] at hk
 cases hf:Qy it p.its with
 | none=>rw [hf] at hk;exact h k v' hk
 | some x =>
  rw [hf] at hk
  simp only [Zr] at hk |-
  split at hk
  ·rename_i hkx
   cases hk
   refine ⟨_,by rw [if_pos hkx],?_⟩
   cases h1:af x.sp en' with
   | none =>
    cases h2:af x.sp en with
    | none=>simp;omega
    | some v=>simp;omega
   | some v1 =>
    obtain ⟨v,hv,hle⟩:=h _ _ h1
    rw [hv];simp;omega
  ·rename_i hkx
   obtain ⟨v,hv,hle⟩:=h k v' hk
   exact ⟨v,by rw [if_neg hkx];exact hv,hle⟩
theorem LeE.skip {p:Pl} {en' en:List (Int×Int)} (h:LeE en' en) (it e:Int):LeE en' (Za p en it e):=fun k v' hk=>by
 obtain ⟨v,hv,hle⟩:=h k v' hk
 unfold Za
 cases hf:Qy it p.its with
 | none=>exact ⟨v,hv,hle⟩
 | some x =>
  simp only [Zr]
  split
  ·rename_i hkx
   subst hkx
   exact ⟨_,rfl,by rw [hv];simp;omega⟩
  ·exact ⟨v,hv,hle⟩
theorem fromL_mono {en' en:List (Int×Int)} (h:LeE en' en):∀ (l:List Sp) {f' f:Int},f'<=f->Zb en' l f'<=Zb en l f
 | [],_,_,hf=>hf
 | r::l,f',f,hf=>by
  rw [Zb,Zb]
  refine fromL_mono h l ?_
  cases h1:af r.1 en' with
  | none =>
   cases h2:af r.1 en with
   | none=>exact hf
   | some v=>simp only;omega
  | some v1 =>
   obtain ⟨v,hv,hle⟩:=h _ _ h1
   rw [hv];simp only;omega
structure More (p' p:Pl):Prop where
 its:p'.its=p.its
 ens:p'.ens=p.ens
 ln:p'.ln=p.ln
 runs:∀ it,Zo p' it=Zo p it
 riv:∀ it,Vp p' it=Vp p it
 perm:∀ it x,Ue p it 0 x->Ue p' it 0 x
theorem More.refl (p:Pl):More p p:=⟨rfl,rfl,rfl,fun _=>rfl,fun _=>rfl,fun _ _ h=>h⟩
inductive SubLe:List Sp->List Sp->Prop
 | nil (l:List Sp):SubLe [] l
 | skip {l' l:List Sp} (s:Sp):SubLe l' l->SubLe l' (s::l)
 | cons {l' l:List Sp} (id s' s:Int):s'<=s->SubLe l' l->SubLe ((id,s')::l') ((id,s)::l)
theorem earG_mono {p' p:Pl} (hm:More p' p) {ids' ids:List Int} (hsub:ids'.Sublist ids):∀ {us' us en' en:List (Int×Int)} {free' free last' last:Int} {l:List Sp},LeU us' us->LeE en' en->free'<=free->last'<=last->Zt p ids us en free last=some l ->
  ∃ l',Zt p' ids' us' en' free' last'=some l'/\SubLe l' l:=by
 induction hsub with
 | slnil =>
  intro us' us en' en free' free last' last l _ _ _ _ h
  exact ⟨[],rfl,.nil _⟩
 | @cons ids' ids id _ ih =>
  intro us' us en' en free' free last' last l hu he hf hla h
  rw [Zt] at h
  cases hk:Vy id p.ens 0 with
  | none=>rw [hk] at h;cases h
  | some k =>
   rw [hk] at h
   simp only at h
   split at h
   ·cases h
   ·rename_i hkl
    cases hx:p.ens[k]? with
    | none=>rw [hx] at h;cases h
    | some e =>
     rw [hx] at h
     simp only at h
     split at h
     ·cases h
     ·cases hs:Xr p e (Zb en (Vp p e.it) (max e.ea free)) with
      | none=>rw [hs] at h;cases h
      | some s =>
       rw [hs] at h
       simp only at h
       cases hg:Zt p ids (Zw us e.it) (Za p en e.it (s+e.fr)) (s+e.fr) k with
       | none=>rw [hg] at h;cases h
       | some r =>
        rw [hg] at h
        cases h
        obtain ⟨a1,a2,_⟩:=Uk hs
        have hfl:=fromL_le en (Vp p e.it) (max e.ea free)
        obtain ⟨l',h1,h2⟩:=ih (hu.skip e.it) (he.skip e.it (s+e.fr)) (free':=free') (by omega) (last':=last') (by omega) hg
        exact ⟨l',h1,.skip _ h2⟩
 | @cons_cons ids' ids id _ ih =>
  intro us' us en' en free' free last' last l hu he hf hla h
  rw [Zt] at h
  rw [Zt,hm.ens]
  cases hk:Vy id p.ens 0 with
  | none=>rw [hk] at h;cases h
  | some k =>
   rw [hk] at h
   simp only at h |-
   split at h
   ·cases h
   ·rename_i hkl
    rw [if_neg (by omega)]
    cases hx:p.ens[k]? with
    | none=>rw [hx] at h;cases h
    | some e =>
     rw [hx] at h
     simp only at h |-
     split at h
     ·cases h
     ·rename_i hr
      have hue:=hu e.it
      rw [hm.runs,hm.riv,if_neg (by intro hh;exact hr ⟨hh.1,by omega⟩)]
      cases hs:Xr p e (Zb en (Vp p e.it) (max e.ea free)) with
      | none=>rw [hs] at h;cases h
      | some s =>
       rw [hs] at h
       simp only at h
       cases hg:Zt p ids (Zw us e.it) (Za p en e.it (s+e.fr)) (s+e.fr) k with
       | none=>rw [hg] at h;cases h
       | some r =>
        rw [hg] at h
        cases h
        obtain ⟨a1,a2,a3,a4,a5,a6,a7⟩:=Uk hs
        have hfm:=fromL_mono he (Vp p e.it) (show max e.ea free'<=max e.ea free by omega)
        obtain ⟨s',hs',hle⟩:=Qcf (p:=p') (from_:=Zb en' (Vp p e.it) (max e.ea free')) a1 (by omega) a3 ⟨a4,by rw [hm.ln];exact a5,a6⟩ (fun x h1 h2=>hm.perm _ _ (a7 x h1 h2))
        have hb':=Uk hs'
        rw [hs']
        simp only
        obtain ⟨l',h1,h2⟩:=ih (hu.note e.it) (he.note e.it (e':=s'+e.fr) (e:=s+e.fr) (by omega) (by omega) (by rw [hm.its])) (free':=s'+e.fr) (by omega) (last':=(k:Int)) (Int.le_refl _) hg
        rw [h1]
        exact ⟨_,rfl,.cons id s' s hle h2⟩
open Go Go.Abs
def Mono (ok:List Int->Bool):Prop:=∀ a b:List Int,a.Sublist b->ok b=true->ok a=true
theorem okE_mono (b:Bd):Mono (okE b):=fun a c hs h=>by
 unfold okE at h |-
 obtain ⟨l,hl⟩:=Option.isSome_iff_exists.1 h
 obtain ⟨l',h1,_⟩:=earG_mono (More.refl b.p) hs (us':=b.us) (en':=b.en) (free':=b.at_) (last' := -1) (fun _=>Int.le_refl _) (LeE.refl _) (Int.le_refl _) (Int.le_refl _) hl
 rw [h1];rfl
theorem okE_nil (b:Bd):okE b []=true:=rfl
theorem without_sub {c:List Int} {i j:Nat} (hj:j < i) (hi:i < c.length):((c.take i++c.drop (i+1)).take j++(c.take i++c.drop (i+1)).drop (j+1)).Sublist (c.take j++c.drop (j+1)):=by
 have h1:(c.take i++c.drop (i+1)).take j=c.take j:=by
  rw [List.take_append_of_le_length (by simp;omega),List.take_take,Nat.min_eq_left (by omega)]
 have h2:(c.take i++c.drop (i+1)).drop (j+1)=(c.take i).drop (j+1)++c.drop (i+1):=by
  rw [List.drop_append_of_le_length (by simp;omega)]
 have h3:c.drop (j+1)=(c.take i).drop (j+1)++c.drop i:=by
  conv=>lhs;rw [<- List.take_append_drop i c]
  rw [List.drop_append_of_le_length (by simp;omega)]
 rw [h1,h2,h3]
 refine List.Sublist.append (List.Sublist.refl _) (List.Sublist.append (List.Sublist.refl _) ?_)
 rw [<- List.drop_drop]
 exact List.drop_sublist 1 _
theorem conG_spec {ok:List Int->Bool} (hm:Mono ok):∀ (c:List Int) (i:Nat),ok c=false->(∀ j,j < i->j < c.length->ok (c.take j++c.drop (j+1))=true) ->
  ok (conG ok c i)=false/\(conG ok c i).Sublist c/\∀ j,j < (conG ok c i).length->ok ((conG ok c i).take j++(conG ok c i).drop (j+1))=true:=by
 intro c i
 induction c,i using conG.induct ok with
 | case1 c i h hok ih =>
  intro h1 h2
  rw [conG,dif_pos h,if_pos hok]
  refine ih h1 fun j hj hjl=>?_
  rcases Nat.lt_or_ge j i with h' | h'
  ·exact h2 j h' hjl
  ·obtain rfl:j=i:=by omega
   exact hok
 | case2 c i h hok ih =>
  intro h1 h2
  rw [conG,dif_pos h,if_neg hok]
  obtain ⟨g1,g2,g3⟩:=ih (by simpa using hok) fun j hj hjl=>hm _ _ (without_sub hj h) (h2 j hj (by omega))
  refine ⟨g1,g2.trans ?_,g3⟩
  conv=>rhs;rw [<- List.take_append_drop i c]
  refine List.Sublist.append (List.Sublist.refl _) ?_
  rw [<- List.drop_drop]
  exact List.drop_sublist 1 _
 | case3 c i h =>
  intro h1 h2
  rw [conG,dif_neg h]
  exact ⟨h1,List.Sublist.refl _,fun j hj=>h2 j (by omega) hj⟩
theorem Qag (b:Bd) (ids:List Int):(okE b ids=true->Yf b ids=[])/\(okE b ids=false->okE b (Yf b ids)=false/\Yf b ids≠[]/\(Yf b ids).Sublist ids/\∀ j,j < (Yf b ids).length->okE b ((Yf b ids).take j++(Yf b ids).drop (j+1))=true):=by
 refine ⟨fun h=>by rw [Yf,if_pos h],fun h=>?_⟩
 rw [Yf,if_neg (by rw [h];simp)]
 obtain ⟨g1,g2,g3⟩:=conG_spec (okE_mono b) ids 0 h fun j hj=>by omega
 refine ⟨g1,fun hn=>?_,g2,g3⟩
 rw [hn,okE_nil] at g1
 cases g1
open Go Go.Abs
def Xa (w:Bool):List Int->List Bool->List Int
 | id::r,k::ks=>if (k==w)=true then id::Xa w r ks else Xa w r ks
 | _,_=>[]
def Ux (ok:List Int->Bool) (rd:Int->Nat) (ids:List Int) (r:Nat) (K:List Bool) (i:Nat):List Bool:=match ids[i]? with
 | some id=>if rd id=r then K.set i (ok (Xa true ids (K.set i true))) else K
 | none=>K
def Yw (ok:List Int->Bool) (rd:Int->Nat) (ids:List Int) (r:Nat) (K:List Bool):List Bool:=(List.range ids.length).foldl (Ux ok rd ids r) K
def Uq (ok:List Int->Bool) (rd:Int->Nat) (ids:List Int):List Bool:=Yw ok rd ids 2 (Yw ok rd ids 1 (Yw ok rd ids 0 (List.replicate ids.length false)))
def LeK (K K':List Bool):Prop:=∀ j,K.getD j false=true->K'.getD j false=true
theorem LeK.refl (K:List Bool):LeK K K:=fun _ h=>h
theorem LeK.trans {K K' K'':List Bool} (h:LeK K K') (k:LeK K' K''):LeK K K'':=fun j hj=>k j (h j hj)
theorem getD_set (K:List Bool) (i j:Nat) (b:Bool):(K.set i b).getD j false=if i=j/\i < K.length then b else K.getD j false:=by
 simp only [List.getD_eq_getElem?_getD,List.getElem?_set]
 by_cases h:i=j
 ·subst h
  by_cases h2:i < K.length
  ·simp [h2]
  ·have:K[i]? = none:=List.getElem?_eq_none (by omega)
   simp [h2]
 ·simp [h]
theorem LeK.set {K K':List Bool} (h:LeK K K') (hl:K.length=K'.length) (i:Nat):LeK (K.set i true) (K'.set i true):=fun j hj=>by
 rw [getD_set] at hj |-
 split at hj
 ·rename_i hc
  rw [if_pos ⟨hc.1,by omega⟩]
 ·rename_i hc
  rw [if_neg (by rw [<- hl];exact hc)]
  exact h j hj
theorem LeK.set_self (K:List Bool) (i:Nat):LeK K (K.set i true):=fun j hj=>by
 rw [getD_set]
 split
 ·rfl
 ·exact hj
theorem selB_mono:∀ (ids:List Int) {K K':List Bool},K.length=K'.length->LeK K K'->(Xa true ids K).Sublist (Xa true ids K')
 | [],_,_,_,_=>by simp [Xa]
 | id::r,[],[],_,_=>by simp [Xa]
 | id::r,[],_::_,h,_=>by simp at h
 | id::r,_::_,[],h,_=>by simp at h
 | id::r,k::ks,k'::ks',hl,h=>by
  have ih:=selB_mono r (K:=ks) (K':=ks') (by simpa using hl) (fun j hj=>by simpa using h (j+1) (by simpa using hj))
  have h0:=h 0
  simp at h0
  cases k with
  | false =>
   cases k' with
   | false=>simpa [Xa] using ih
   | true=>simpa [Xa] using ih.cons id
  | true =>
   rw [h0 rfl]
   simpa [Xa] using ih.cons_cons id
theorem stepK_len (ok:List Int->Bool) (rd:Int->Nat) (ids:List Int) (r:Nat) (K:List Bool) (i:Nat):(Ux ok rd ids r K i).length=K.length:=by
 unfold Ux
 split
 ·split<;>simp
 ·rfl
structure ChI (ok:List Int->Bool) (rd:Int->Nat) (ids:List Int) (r i:Nat) (K:List Bool):Prop where
 len:K.length=ids.length
 kok:ok (Xa true ids K)=true
 todo:∀ (j:Nat) (id:Int),ids[j]? = some id->(r < rd id\/rd id=r/\i<=j)->K.getD j false=false
 done:∀ (j:Nat) (id:Int),ids[j]? = some id->(rd id < r\/rd id=r/\j < i)->K.getD j false=true\/ok (Xa true ids (K.set j true))=false
theorem ChI.step {ok:List Int->Bool} (hm:Mono ok) {rd:Int->Nat} {ids:List Int} {r i:Nat} {K:List Bool} (h:ChI ok rd ids r i K) (hi:i < ids.length):ChI ok rd ids r (i+1) (Ux ok rd ids r K i)/\LeK K (Ux ok rd ids r K i):=by
 obtain ⟨id,hid⟩:=getS hi
 unfold Ux
 rw [hid]
 simp only
 by_cases hr:rd id=r
 ·rw [if_pos hr]
  have hf:=h.todo i id hid (.inr ⟨hr,Nat.le_refl _⟩)
  have hset0:K.set i false=K:=by
   apply List.ext_getElem (by simp)
   intro n h1 h2
   rw [List.getElem_set]
   split
   ·rename_i e
    subst e
    rw [List.getD_eq_getElem?_getD,List.getElem?_eq_getElem h2] at hf
    exact hf.symm
   ·rfl
  cases hok:ok (Xa true ids (K.set i true)) with
  | false =>
   rw [hset0]
   refine ⟨⟨h.len,h.kok,fun j x hj hc=>h.todo j x hj (by omega),fun j x hj hc=>?_⟩,LeK.refl K⟩
   rcases Nat.lt_or_ge j i with hlt | hge
   ·exact h.done j x hj (by omega)
   ·rcases hc with hc | hc
    ·exact h.done j x hj (.inl hc)
    ·obtain rfl:j=i:=by omega
     exact .inr hok
  | true =>
   have hle:=LeK.set_self K i
   refine ⟨⟨by simp [h.len],hok,fun j x hj hc=>?_,fun j x hj hc=>?_⟩,hle⟩
   ·rw [getD_set,if_neg (by rintro ⟨e,_⟩;subst e;rw [hid] at hj;cases hj;omega)]
    exact h.todo j x hj (by omega)
   ·rcases Nat.decEq j i with hne | rfl
    ·have hd:=h.done j x hj (by omega)
     rcases hd with hd | hd
     ·exact .inl (hle j hd)
     ·right
      have hs:=selB_mono ids (K:=K.set j true) (K':=(K.set i true).set j true) (by simp) (hle.set (by simp) j)
      cases hb:ok (Xa true ids ((K.set i true).set j true)) with
      | false=>rfl
      | true=>rw [hm _ _ hs hb] at hd;cases hd
    ·left
     rw [getD_set,if_pos ⟨rfl,by rw [h.len];exact hi⟩]
 ·rw [if_neg hr]
  refine ⟨⟨h.len,h.kok,fun j x hj hc=>h.todo j x hj (by omega),fun j x hj hc=>h.done j x hj ?_⟩,LeK.refl K⟩
  rcases hc with hc | hc
  ·exact .inl hc
  ·have:j≠i:=by rintro rfl;rw [hid] at hj;cases hj;exact hr hc.1
   exact .inr ⟨hc.1,by omega⟩
theorem ChI.round {ok:List Int->Bool} (hm:Mono ok) {rd:Int->Nat} {ids:List Int} {r:Nat} {K:List Bool} (h:ChI ok rd ids r 0 K):ChI ok rd ids (r+1) 0 (Yw ok rd ids r K)/\LeK K (Yw ok rd ids r K):=by
 have key:∀ n,n<=ids.length->ChI ok rd ids r n ((List.range n).foldl (Ux ok rd ids r) K)/\LeK K ((List.range n).foldl (Ux ok rd ids r) K):=by
  intro n
  induction n with
  | zero=>intro _;exact ⟨h,LeK.refl K⟩
  | succ n ih =>
   intro hn
   obtain ⟨h1,h2⟩:=ih (by omega)
   obtain ⟨g1,g2⟩:=h1.step hm (by omega)
   rw [List.range_succ,List.foldl_append]
   exact ⟨g1,h2.trans g2⟩
 obtain ⟨h1,h2⟩:=key ids.length (Nat.le_refl _)
 refine ⟨⟨h1.len,h1.kok,fun j x hj hc=>h1.todo j x hj (by omega),fun j x hj hc=>h1.done j x hj ?_⟩,h2⟩
 have:=(List.getElem?_eq_some_iff.1 hj).1
 omega
theorem selB_false (ids:List Int) (n:Nat):Xa true ids (List.replicate n false)=[]:=by
 induction ids generalizing n with
 | nil=>simp [Xa]
 | cons x r ih =>
  cases n with
  | zero=>simp [Xa]
  | succ n=>rw [List.replicate_succ,Xa];simpa using ih n
theorem choose_spec {ok:List Int->Bool} (hm:Mono ok) (h0:ok []=true) (rd:Int->Nat) (ids:List Int) (hrd:∀ id∈ids,rd id<=2) :
  (Uq ok rd ids).length=ids.length/\ok (Xa true ids (Uq ok rd ids))=true/\∀ (j:Nat) (id:Int),ids[j]? = some id->(Uq ok rd ids).getD j false=true\/ok (Xa true ids ((Uq ok rd ids).set j true))=false:=by
 have hi:ChI ok rd ids 0 0 (List.replicate ids.length false):=⟨by simp,by rw [selB_false];exact h0,fun j id hj _=>by
  rw [List.getD_eq_getElem?_getD,List.getElem?_replicate];split<;>rfl,fun j id hj hc=>by omega⟩
 have h1:=(hi.round hm).1
 have h2:=(h1.round hm).1
 have h3:=(h2.round hm).1
 refine ⟨h3.len,h3.kok,fun j id hj=>h3.done j id hj (.inl ?_)⟩
 have:=hrd id (List.mem_of_getElem? hj)
 omega
open Go Go.Abs
theorem spn_sound:∀ (l:List It) (a:List (Int×It)) (s:List (Int×Int)),(∀ o z,(o,z)∈s->∃ x,af z a=some x/\x.sp=o)->∀ o z,(o,z)∈spnG l a s->∃ x,af z (itsG l a)=some x/\x.sp=o
 | [],a,s,h=>h
 | x::r,a,s,h=>by
  intro o z hz
  rw [spnG] at hz
  rw [itsG]
  cases ha:af x.id a with
  | some v =>
   rw [ha] at hz
   exact spn_sound r a s h o z hz
  | none =>
   rw [ha] at hz
   simp only at hz |-
   refine spn_sound r _ _ ?_ o z hz
   intro o z hz
   have old:(o,z)∈s->∃ y,af z (aset x.id x a)=some y/\y.sp=o:=fun hs=>by
    obtain ⟨y,h1,h2⟩:=h o z hs
    refine ⟨y,?_,h2⟩
    rw [Zr,if_neg (by rintro rfl;rw [ha] at h1;cases h1)]
    exact h1
   split at hz
   ·rcases mem_aset hz with e | hs
    ·cases e
     exact ⟨x,by rw [Zr,if_pos rfl],rfl⟩
    ·exact old hs
   ·exact old hz
theorem spn_full:∀ (l:List It) (a:List (Int×It)) (s:List (Int×Int)),(∀ z x,af z a=some x->1<=x.sp/\x.sp<=200->∃ w,af x.sp s=some w)->∀ z x,af z (itsG l a)=some x->1<=x.sp/\x.sp<=200->∃ w,af x.sp (spnG l a s)=some w
 | [],a,s,h=>h
 | y::r,a,s,h=>by
  intro z x hz hx
  rw [spnG]
  rw [itsG] at hz
  cases ha:af y.id a with
  | some v =>
   rw [ha] at hz
   exact spn_full r a s h z x hz hx
  | none =>
   rw [ha] at hz
   simp only at hz |-
   refine spn_full r _ _ ?_ z x hz hx
   intro z x hz hx
   rw [Zr] at hz
   have key:∀ w,af x.sp s=some w->∃ w,af x.sp (if 1<=y.sp/\y.sp<=200 then aset y.sp y.id s else s)=some w:=fun w hw=>by
    split
    ·rw [Zr]
     split
     ·exact ⟨_,rfl⟩
     ·exact ⟨w,hw⟩
    ·exact ⟨w,hw⟩
   split at hz
   ·cases hz
    rw [if_pos hx,Zr,if_pos rfl]
    exact ⟨_,rfl⟩
   ·obtain ⟨w,hw⟩:=h z x hz hx
    exact key w hw
theorem spnS_sound {p:Pl} {o z:Int} (h:(o,z)∈Vn p):∃ x,Qy z p.its=some x/\x.sp=o:=by
 obtain ⟨x,h1,h2⟩:=spn_sound p.its [] [] (fun _ _ h=>by cases h) o z h
 exact ⟨x,by rw [<- itsS_af];exact h1,h2⟩
theorem spnS_full {p:Pl} {z:Int} {x:It} (h:Qy z p.its=some x) (hx:1<=x.sp/\x.sp<=200):∃ w,af x.sp (Vn p)=some w :=
 spn_full p.its [] [] (fun _ _ h=>by cases h) z x (by have:=itsS_af p z;rw [itsS] at this;rw [this];exact h) hx
theorem hitG_sp {a b:Int} {c:Cl} (h:hitG a b c=true):(1<=a/\a<=200)/\(1<=b/\b<=200):=by
 simp only [hitG,namedC,Bool.and_eq_true,Bool.or_eq_true,decide_eq_true_eq] at h
 obtain ⟨h5,hn,hv⟩:=h
 unfold Xc at hv
 simp only [Bool.and_eq_true] at hv
 have h2:=hv.2
 unfold Yi at h2
 simp [h5,wi] at h2
 omega
theorem gapC_pos {a b:Int}:∀ {l:List Cl} {g:Int},g<=0->0 < Kk a b l g->(1<=a/\a<=200)/\(1<=b/\b<=200)
 | [],g,h,h2=>by rw [Kk] at h2;omega
 | c::r,g,h,h2=>by
  rw [Kj] at h2
  split at h2
  ·rename_i hh;exact hitG_sp hh
  ·exact gapC_pos h h2
theorem gapS_pos {p:Pl} {a b:Int} (h:0 < Ze p a b):∃ x y,Qy a p.its=some x/\Qy b p.its=some y/\(1<=x.sp/\x.sp<=200)/\(1<=y.sp/\y.sp<=200):=by
 unfold Ze at h
 cases ha:Qy a p.its with
 | none=>rw [ha] at h;simp at h
 | some x =>
  cases hb:Qy b p.its with
  | none=>rw [ha,hb] at h;simp at h
  | some y =>
   rw [ha,hb] at h
   simp only at h
   split at h
   ·omega
   ·rename_i hc
    simp only [not_or] at hc
    have hv:Xq p.nu p.de=true:=by simpa using hc.2.1
    obtain ⟨v1,v2,v3,v4,v5⟩:=Vz hv
    have hg:=gapC_bd x.sp y.sp p.cls 0 (by omega)
    rcases Int.lt_or_le 0 (Kk x.sp y.sp p.cls 0) with hp | hp
    ·obtain ⟨h1,h2⟩:=gapC_pos (Int.le_refl 0) hp
     exact ⟨x,y,rfl,rfl,h1,h2⟩
    ·have h0:Kk x.sp y.sp p.cls 0=0:=by omega
     rw [h0,Yu,if_pos ⟨hv,by omega,by omega⟩] at h
     rw [Int.tdiv_eq_ediv_of_nonneg (by omega),Int.zero_mul,Int.zero_add,Int.ediv_eq_zero_of_lt (by omega) (by omega)] at h
     omega
theorem gapS_spl {p:Pl} {a c b:Int} {x y:It} (ha:Qy a p.its=some x) (hc:Qy c p.its=some y) (h:x.sp=y.sp):Ze p a b=Ze p c b:=by
 simp only [Ze,ha,hc]
 cases Qy b p.its with
 | none=>rfl
 | some z=>simp only [h]
theorem riv_iff {p:Pl} {it:Int} (P:Int->Int->Prop):(∀ r∈Vp p it,P r.1 r.2)<->∀ a x,Qy a p.its=some x->0 < Ze p a it->P x.sp (Ze p a it):=by
 constructor
 ·intro h a x hx hg
  obtain ⟨x',y,h1,h2,h3,h4⟩:=gapS_pos hg
  rw [hx] at h1
  cases h1
  obtain ⟨w,hw⟩:=spnS_full hx h3
  obtain ⟨w',hw'⟩:=spnS_full h2 h4
  obtain ⟨x2,hx2,hs2⟩:=spnS_sound (af_mem hw)
  have hge:=gapS_spl (b:=it) hx hx2 hs2.symm
  rw [hge]
  refine h (x.sp,Ze p w it) ?_
  unfold Vp
  rw [h2]
  simp only
  rw [hw']
  simp only [List.mem_filterMap]
  exact ⟨(x.sp,w),af_mem hw,by rw [if_pos (by simp only;rw [<- hge];exact hg)]⟩
 ·intro h r hr
  unfold Vp at hr
  cases hf:Qy it p.its with
  | none=>rw [hf] at hr;cases hr
  | some y =>
   rw [hf] at hr
   simp only at hr
   cases ha:af y.sp (Vn p) with
   | none=>rw [ha] at hr;cases hr
   | some _ =>
    rw [ha] at hr
    simp only [List.mem_filterMap] at hr
    obtain ⟨z,hz,hzr⟩:=hr
    split at hzr
    ·rename_i hg
     cases hzr
     obtain ⟨x,hx,hxs⟩:=spnS_sound (o:=z.1) (z:=z.2) hz
     have:=h z.2 x hx hg
     rw [hxs] at this
     exact this
    ·cases hzr
theorem fromL_le_iff {en:List (Int×Int)}:∀ {l:List Sp} {f t:Int},Zb en l f<=t<->f<=t/\∀ r∈l,∀ v,af r.1 en=some v->v+r.2<=t
 | [],f,t=>by simp [Zb]
 | r::l,f,t=>by
  rw [Zb,fromL_le_iff]
  simp only [List.mem_cons,forall_eq_or_imp]
  cases ha:af r.1 en with
  | none=>simp
  | some e =>
   simp only [Option.some.injEq,forall_eq']
   constructor
   ·rintro ⟨h1,h2⟩;exact ⟨by omega,by omega,h2⟩
   ·rintro ⟨h1,h2,h3⟩;exact ⟨by omega,h3⟩
end Go.Proofs.YtkcnjajklnoahaaGreatDoor
