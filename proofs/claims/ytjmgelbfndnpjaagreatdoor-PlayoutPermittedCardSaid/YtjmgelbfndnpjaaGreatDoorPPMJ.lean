import Derived.Test.YtjmgelbfndnpjaaGreatDoorPPMI
set_option linter.unusedVariables false
set_option linter.unusedSimpArgs false
set_option maxRecDepth 100000
set_option maxHeartbeats 64000000
namespace Go.Proofs.YtjmgelbfndnpjaaGreatDoor
open Go Go.Abs
theorem back_get:∀ (cs:List Cl) (n i:Nat) (x:List AV),n<=cs.length->(Qar cs n)[i]? = some x->∃ (k:Nat) (c:Cl),cs[k]? = some c/\k+1+i=n/\x=[I (k:Int),.agg (Qq c)]
 | cs,0,i,x,_,h=>by simp [Qar] at h
 | cs,n+1,0,x,hn,h=>by
  rw [backX_succ] at h
  simp at h
  obtain ⟨c,hc⟩:∃ c,cs[n]? = some c:=⟨_,List.getElem?_eq_getElem (by omega)⟩
  refine ⟨n,c,hc,by omega,?_⟩
  rw [<- h];simp [hc]
 | cs,n+1,i+1,x,hn,h=>by
  rw [backX_succ] at h
  obtain ⟨k,c,h1,h2,h3⟩:=back_get cs n i x (by omega) (by simpa using h)
  exact ⟨k,c,h1,by omega,h3⟩
theorem back_len (cs:List Cl) (n:Nat):(Qar cs n).length=n:=by simp [Qar]
theorem back_row {cs:List Cl} {n:Nat}:∀ x∈Qar cs n,x.length=2:=by
 intro x hx
 simp [Qar] at hx
 obtain ⟨k,_,rfl⟩:=hx
 rfl
structure StB (C:List Cl) (Bd z:List Int) (n b:Nat) (s:GS) (L:List Nat) (bx:List (List AV)):Prop where
 len:b+4 < bx.length
 g1:Qf bx (b+1)=[.bs b 0 n 1]
 g:Qf bx b=Xp (gB s)
 l1:Qf bx (b+3)=[.bs (b+2) 0 (n+1) 1]
 l:Qf bx (b+2)=Xg L
 f:Qf bx (b+4)=[.fn 149 [] [.ptr (b+3) 0]]
 bd:C≠[]->∃ bid,Qf bx 0=[.bs bid 0 n 1]/\Qf bx bid=intCells (Bd++z)/\0 < bid/\bid < b
theorem StB.app {C:List Cl} {Bd z:List Int} {n b:Nat} {s:GS} {L:List Nat} {bx:List (List AV)} (h:StB C Bd z n b s L bx) (x:List (List AV)):StB C Bd z n b s L (bx++x):=by
 have hl:=h.len
 refine ⟨by simp;omega,by rw [Qh (by omega)];exact h.g1,by rw [Qh (by omega)];exact h.g,by rw [Qh (by omega)];exact h.l1,by rw [Qh (by omega)];exact h.l,by rw [Qh (by omega)];exact h.f,fun hc=>?_⟩
 obtain ⟨bid,h1,h2,h3,h4⟩:=h.bd hc
 exact ⟨bid,by rw [Qh (by omega)];exact h1,by rw [Qh (by omega)];exact h2,h3,h4⟩
theorem StB.later {C:List Cl} {Bd z:List Int} {n b:Nat} {s:GS} {L L':List Nat} {bx bx':List (List AV)} (h:StB C Bd z n b s L bx) (hb:0 < b) (hk:Keep (·=b+2) bx bx') (hl:Qf bx' (b+2)=Xg L'):StB C Bd z n b s L' bx':=by
 have hlen:=h.len
 have k:∀ j,j < bx.length->j≠b+2->Qf bx' j=Qf bx j:=hk.2
 refine ⟨by have:=hk.1;omega,by rw [k _ (by omega) (by omega)];exact h.g1,by rw [k _ (by omega) (by omega)];exact h.g,by rw [k _ (by omega) (by omega)];exact h.l1,hl,by rw [k _ (by omega) (by omega)];exact h.f,fun hc=>?_⟩
 obtain ⟨bid,h1,h2,h3,h4⟩:=h.bd hc
 exact ⟨bid,by rw [k _ (by omega) (by omega)];exact h1,by rw [k _ (by omega) (by omega)];exact h2,h3,h4⟩
theorem StB.put {C:List Cl} {Bd z:List Int} {n b:Nat} {s:GS} {L:List Nat} {bx:List (List AV)} (h:StB C Bd z n b s L bx) (hb:0 < b) (k:Nat) (v:Bool) :
  StB C Bd z n b (s.set k (some v)) (L.set k (k+1)) ((bx.set b (Xp ((gB s).set k v))).set (b+2) (Xg (L.set k (k+1)))):=by
 have hlen:=h.len
 have e:∀ j,j≠b->j≠b+2->Qf ((bx.set b (Xp ((gB s).set k v))).set (b+2) (Xg (L.set k (k+1)))) j=Qf bx j:=fun j h1 h2=>by
  rw [Zu _ (fun h=>h2 h.symm),Zu _ (fun h=>h1 h.symm)]
 refine ⟨by simpa using hlen,by rw [e _ (by omega) (by omega)];exact h.g1,?_,by rw [e _ (by omega) (by omega)];exact h.l1,by rw [Vn _ (by simp;omega)],by rw [e _ (by omega) (by omega)];exact h.f,fun hc=>?_⟩
 ·rw [Zu _ (by omega),Vn _ (by omega),gB_set]
 ·obtain ⟨bid,h1,h2,h3,h4⟩:=h.bd hc
  exact ⟨bid,by rw [e _ (by omega) (by omega)];exact h1,by rw [e _ (by omega) (by omega)];exact h2,h3,h4⟩
theorem stC_len (Bd:List Int) (s:GS) (c:Cl):(stC Bd s c).length=s.length:=by simp [stC,stepG_len]
theorem fold_len (Bd:List Int):∀ (l:List Cl) (s:GS),(l.foldl (stC Bd) s).length=s.length
 | [],_=>rfl
 | c::l,s=>by rw [List.foldl_cons,fold_len Bd l,stC_len]
theorem fold_some (Bd:List Int):∀ (l:List Cl) (s:GS) (i:Nat) (v:Bool),(∀ c∈l,c.to∈Bd)->(∀ v,s[i]? ≠ some (some v))->(l.foldl (stC Bd) s)[i]? = some (some v)->i+1 < Bd.length+0\/i+1<=Bd.length - 1
 | [],s,i,v,_,h0,h=>absurd h (h0 v)
 | c::l,s,i,v,hc,h0,h=>by
  rw [List.foldl_cons] at h
  by_cases h1:∃ v,(stC Bd s c)[i]? = some (some v)
  ·obtain ⟨v',h2⟩:=h1
   unfold stC at h2
   rw [Ye] at h2
   cases hs:s[i]? with
   | none=>rw [hs] at h2;cases h2
   | some o =>
    rw [hs] at h2
    simp only [Option.map_some,Option.some.injEq] at h2
    split at h2
    ·rename_i h3
     have:=bsS_lt (hc c (by simp))
     exact .inl (by omega)
    ·subst h2;exact absurd hs (h0 v')
  ·exact fold_some Bd l _ i v (fun c h=>hc c (by simp [h])) (fun v hv=>h1 ⟨v,hv⟩) h
theorem decB_of (s:GS) (j:Nat) (h:decB s j=true):s[j]? ≠ some none:=by
 intro h';unfold decB at h;rw [h'] at h;cases h
theorem decB_not {s:GS} {j:Nat} (h:decB s j=false) (hj:j < s.length):s[j]? = some none:=by
 unfold decB at h
 obtain ⟨o,ho⟩:=getS hj
 rw [ho] at h |-
 cases o with
 | none=>rfl
 | some v=>cases h
theorem stepG_self (s:GS) (a q r:Nat) (v:Bool) (hq:q<=r) (h:∀ j,a<=j->j < r->decB s j=true):stepG s a q v=s:=by
 rcases Nat.le_total a q with h1 | h1
 ·rw [stepG_more s a a q v h1 (fun j h2 h3=>decB_of s j (h j h2 (by omega))),stepG_nil _ _ _ _ (Nat.le_refl _)]
 ·exact stepG_nil _ _ _ _ h1
theorem spans_mid (C:List Cl) (Bd z:List Int) (R:List Sp) (n:Nat) (hBd:Bd=bdC C) (hn:Bd.length=n) (hn9:n<=10000000) (hCl:C.length<=1000000) (hR:R=Xb (outC Bd (finC C) n)) (E:List (Nat×AV)) (B:List (List AV)) (Lm:List Nat) (st:Nat->LS) (ln:Nat) (b:Nat) (rt rt':Rt)
  (hb:0 < b) (hBl:B.length=b+4) (h7:Abs.look E 7=.sl rt (C.map Qq)) (hrt:∀ m,cvn m 6 (.sl rt (C.map Qq))=.sl rt' (C.map Qq)) (h8:Abs.look E 8=.ptr 0 0) (h11:Abs.look E 11=.ptr (b+1) 0) (h12:Abs.look E 12=.ptr (b+3) 0)
  (hg1:Qf B (b+1)=[.bs b 0 n 1]) (hg:Qf B b=Xp (List.replicate n false)) (hl1:Qf B (b+3)=[.bs (b+2) 0 (n+1) 1]) (hl:Qf B (b+2)=intCells (List.replicate (n+1) 0))
  (hbd:C≠[]->∃ bid,Qf B 0=[.bs bid 0 n 1]/\Qf B bid=intCells (Bd++z)/\0 < bid/\bid < b) :
  vc Tryz.prog gl0 (Uq Bd R) Y0 (md119 tl119x) ⟨Vd 145 E,⟨B,Lm,st,ln⟩⟩ (post Tryz.prog gl0 (Uq Bd R) rs120 (.sl .ro (R.map Qd))):=by
 simp [md119,h12,hl1]
 refine Ql w120_1 (fun f m=>∃ (i:Nat) (B':List (List AV)) (L':List Int),i<=n+1/\f 74=I i/\m=⟨B',Lm,st,ln⟩/\Keep (·=b+2) B B'/\B'.length=B.length/\Qf B' (b+2)=intCells L'/\L'.length=n+1/\∀ j:Nat,j < i->L'[j]? = some (j:Int))
  (fun f _=>n+1 - (numOf (f 74)).toNat) ?_ ?_
 ·exact ⟨0,B,List.replicate (n+1) 0,by omega,by simp,rfl,Keep.refl _ _,rfl,hl,by simp,fun j h=>by omega⟩
 ·rintro f m ⟨i,B',L',hi,h74,rfl,hkp,hBl',hl',hL',hji⟩
  have hl1':Qf B' (b+3)=[.bs (b+2) 0 (n+1) 1]:=by rw [hkp.2 _ (by omega) (by omega)];exact hl1
  rcases Nat.lt_or_ge i (n+1) with hlt | hge
  ·have hilt:(i:Int) < (n:Int)+1:=by omega
   have hw:=wrS i (by omega)
   have hset:=ic_set L' i (i:Int)
   have hlen:=Kn L'
   have hb2:b+2 < B'.length:=by omega
   simp [h74,hilt,hlt,w120_1,h12,hl1',hl',hw,hset,hlen,hL',hb2]
   refine ⟨by omega,ag ?_,⟨i+1,by omega,by simp,hkp.set (.inl rfl) _,hBl',L'.set i (i:Int),Vn _ hb2,by simpa using hL',fun j hj=>?_⟩,by omega⟩
   ·repeat (first | exact Qa _ _ | refine Qb _ rfl ?_)
   ·by_cases hji':j=i
    ·subst hji';rw [List.getElem?_set_self (by omega)]
    ·rw [List.getElem?_set_ne (fun h=>hji' h.symm)];exact hji j (by omega)
  ·obtain rfl:i=n+1:=by omega
   have hLr:L'=(List.range (n+1)).map fun (k:Nat)=>(k:Int):=by
    apply List.ext_getElem?
    intro j
    by_cases hj:j < n+1
    ·rw [hji j hj];simp [hj]
    ·rw [List.getElem?_eq_none (by omega),List.getElem?_eq_none (by simp;omega)]
   have hnat:Qf B' (b+2)=Xg (List.range (n+1)):=by rw [hl',hLr];rfl
   have hin:¬ ((n:Int)+1) < (n:Int)+1:=by omega
   have hst0:StB C Bd z n b (List.replicate n none) (List.range (n+1)) (B'++[[.fn 149 [] [.ptr (b+3) 0]]]):=by
    have k:∀ j,j < B.length->j≠b+2->Qf B' j=Qf B j:=hkp.2
    refine ⟨by simp;omega,?_,?_,?_,?_,?_,fun hc=>?_⟩
    ·rw [Qh (by omega),k _ (by omega) (by omega)];exact hg1
    ·rw [Qh (by omega),k _ (by omega) (by omega),gB_none];exact hg
    ·rw [Qh (by omega)];exact hl1'
    ·rw [Qh (by omega)];exact hnat
    ·have:b+4=B'.length:=by omega
     rw [this];simp
    ·obtain ⟨bid,h1,h2,h3,h4⟩:=hbd hc
     exact ⟨bid,by rw [Qh (by omega),k _ (by omega) (by omega)];exact h1,by rw [Qh (by omega),k _ (by omega) (by omega)];exact h2,h3,h4⟩
   have h171:=Yh (l:=[.sl rt' (C.map Qq)]) (backward_pure C) ⟨Wk.sl _ _,trivial⟩
   have hit:=backward_iter C (by omega)
   have hlast:=fun s hs hR E=>spans_last Bd z s R n hs hn9 hR E
   have hrb:∀ y,Qf (B'++[y]) (b+4)=y:=fun y=>by
    have:b+4=B'.length:=by omega
    rw [this];simp
   simp [h74,w120_1,h7,h12,hrt,hBl',hBl,hrb,Uq]
   refine ⟨h171,?_⟩
   refine Ud (xs:=Qar C C.length) (by simp) hit back_row (fun i m=>∃ (s:GS) (L:List Nat),s=(C.reverse.take i).foldl (stC Bd) (List.replicate n none)/\WF L (decB s) n/\StB C Bd z n b s L m.boxes) (fun _ _=>False) ?_ ?_ (fun _ _ _ h=>h.elim) ?_ ?_ (fun _ _ h=>h.elim)
   ·exact ⟨_,_,by simp,WF.init n _ (fun j=>by simp [decB,List.getElem?_replicate]),hst0⟩
   ·rintro i m m' ⟨s,L,h1,h2,h3⟩ ⟨⟨bx,e1⟩,_,_⟩
    exact ⟨s,L,h1,h2,by rw [e1];exact h3.app bx⟩
   ·rintro l i m x hg hr ⟨s,L,hs,hWF,hSt⟩ hx K' k1 _ _
    obtain ⟨k,c,hc,hk,rfl⟩:=back_get C C.length i x (Nat.le_refl _) hx
    rw [Vw] at hSt
    have hcm:c∈C:=List.mem_of_getElem? hc
    have hCne:C≠[]:=List.ne_nil_of_mem hcm
    have hrev:C.reverse[i]? = some c:=by
     rw [List.getElem?_reverse (by omega)];rw [show C.length - 1 - i=k by omega];exact hc
    have hsn:s.length=n:=by rw [hs,fold_len];simp
    have hs':(C.reverse.take (i+1)).foldl (stC Bd) (List.replicate n none)=stC Bd s c:=by
     rw [List.take_add_one,hrev,List.foldl_append,<- hs];rfl
    obtain ⟨bid,d1,d2,d3,d4⟩:=hSt.bd hCne
    have hcv:∀ m,(intCells (Bd++z)).map (cvn m 5)=intCells (Bd++z):=fun m=>Qae m 4 (ic_ok _)
    have hch:chunk 1 n (intCells (Bd++z))=Bd.map fun x=>[I x]:=by rw [<- hn,ic_app];exact ic_chunk Bd _
    have hcl:n<=(intCells (Bd++z)).length:=by rw [Kn];simp;omega
    have hasc:Bd.Pairwise (·<=·):=by rw [hBd];exact (bdC_asc C).imp (fun h=>Int.le_of_lt h)
    have b1:=bsearch_pure Bd c.fr (by omega) hasc
    have b2:=bsearch_pure Bd c.to (by omega) hasc
    have hto:c.to∈Bd:=by rw [hBd,bdC_mem];exact (bnd_mem hcm).2
    have he:=bsS_lt hto
    have ha:=bsS_le Bd c.fr
    have hst:stC Bd s c=stepG s (bsS Bd c.fr) (bsS Bd c.to) (decide (c.ki=1)):=rfl
    rw [hst] at hs'
    obtain ⟨a,hae⟩:∃ a,bsS Bd c.fr=a:=⟨_,rfl⟩
    obtain ⟨e,hee⟩:∃ e,bsS Bd c.to=e:=⟨_,rfl⟩
    obtain ⟨v,hv⟩:∃ v,(c.ki==1)=v:=⟨_,rfl⟩
    have hv':decide (c.ki=1)=v:=hv
    rw [hae,hee,hv'] at hs'
    rw [hae] at b1 ha
    rw [hee] at b2 he
    have hlen:=hSt.len
    have f0:∀ x,Qf (m.boxes++x) 0=[.bs bid 0 n 1]:=fun x=>by rw [Qh (by omega)];exact d1
    have fb:∀ x,Qf (m.boxes++x) bid=intCells (Bd++z):=fun x=>by rw [Qh (by omega)];exact d2
    have ff:∀ x,Qf (m.boxes++x) (b+4)=[.fn 149 [] [.ptr (b+3) 0]]:=fun x=>by rw [Qh (by omega)];exact hSt.f
    simp [hr,Xh,Qq,h8,Uq,f0,fb,ff,hcv,hch,hcl,hae,hee]
    refine ⟨b1,b2,?_⟩
    have hStA:=hSt.app [[I c.ki,I c.it,I c.fr,I c.to,I c.re,I c.n,I c.a,I c.b]]
    refine und_eff Y0 a n (b+3) (b+2) L (decB s) hWF (by omega) (by omega) _ _ _ _ (by simp;omega) (by simp;omega) (by omega) hStA.l1 hStA.l _ ?_
    intro B1 L1 r hk1 hl1 hW1 har hrn hdr hdd
    have hSt1:=hStA.later hb hk1 hl1
    have hlt1:m.boxes.length < B1.length:=by have:=hk1.1;simp at this;omega
    have hrow1:Qf B1 m.boxes.length=[I c.ki,I c.it,I c.fr,I c.to,I c.re,I c.n,I c.a,I c.b]:=by
     rw [hk1.2 _ (by simp) (by omega)];simp
    have hs0:stepG s a (min r e) v=s:=stepG_self s a _ r v (by omega) hdd
    simp
    refine Ql w120_2 (fun g m2=>∃ (k:Nat) (B2:List (List AV)) (L2:List Nat),g 21=I k/\a<=k/\k<=n/\m2=⟨B2,m.lens,upd m.st l .busy,m.ln⟩/\WF L2 (decB (stepG s a (min k e) v)) n/\decB (stepG s a (min k e) v) k=false /\
     StB C Bd z n b (stepG s a (min k e) v) L2 B2/\m.boxes.length < B2.length/\Qf B2 m.boxes.length=[I c.ki,I c.it,I c.fr,I c.to,I c.re,I c.n,I c.a,I c.b]) (fun g _=>n - (numOf (g 21)).toNat) ?_ ?_
    ·exact ⟨r,B1,L1,by simp,har,hrn,rfl,by rw [hs0];exact hW1,by rw [hs0];exact hdr,by rw [hs0];exact hSt1,hlt1,hrow1⟩
    ·rintro g m2 ⟨k,B2,L2,g21,hak,hkn,rfl,hW2,hd2,hS2,hlt2,hrow2⟩
     rcases Nat.lt_or_ge k e with hke | hke
     ·have hmin:min k e=k:=by omega
      rw [hmin] at hW2 hd2 hS2
      have hs2l:(stepG s a k v).length=n:=by rw [stepG_len,hsn]
      have hkn':k < n:=by omega
      have hs2k:=decB_not hd2 (by omega)
      have hsk:s[k]? = some none:=by
       rw [Ye] at hs2k
       cases hq:s[k]? with
       | none=>rw [hq] at hs2k;cases hs2k
       | some o=>rw [hq] at hs2k;simpa using hs2k
      have hsucc:=stepG_succ s a k v hak hsk
      obtain ⟨hd99903,hd99903'⟩:=decB_set (stepG s a k v) k v (by omega)
      have hW3:=WF.dec hW2 hkn' hd99903 hd99903'
      have hS3:=hS2.put hb k v
      have hkelt:(k:Int) < (e:Int):=by omega
      have hknlt:(k:Int) < (n:Int):=by omega
      have hknlt1:(k:Int) < (n:Int)+1:=by omega
      have hkn1:k < n+1:=by omega
      have hwk:IntKind.i64.wrap ((k:Int)+1)=(k:Int)+1:=by rw [Qe]<;>omega
      have hbs:=bc_set (gB (stepG s a k v)) k v
      have hns:(Xg L2).set k (I ((k:Int)+1))=Xg (L2.set k (k+1)):=by have:=nc_set L2 k (k+1);simpa using this
      have hbl:=bc_len (gB (stepG s a k v))
      have hgl:(gB (stepG s a k v)).length=n:=by simp [gB,hs2l]
      have hnl:=nc_len L2
      have hL2:=hW2.1
      have hlen2:=hS2.len
      have q1:∀ X,Qf (B2.set b X) (b+3)=[.bs (b+2) 0 (n+1) 1]:=fun X=>by rw [Zu _ (by omega)];exact hS2.l1
      have q2:∀ X,Qf (B2.set b X) (b+2)=Xg L2:=fun X=>by rw [Zu _ (by omega)];exact hS2.l
      have q3:∀ X Z,Qf ((B2.set b X).set (b+2) Z) (b+4)=[.fn 149 [] [.ptr (b+3) 0]]:=fun X Z=>by rw [Zu _ (by omega),Zu _ (by omega)];exact hS2.f
      have hb1:b < B2.length:=by omega
      have hb2:b+2 < B2.length:=by omega
      simp [g21,hkelt,hke,w120_2,h11,h12,hS2.g1,hS2.g,hrow2,hv,hknlt,hkn',hknlt1,hkn1,hwk,hbs,hns,hbl,hgl,hnl,hL2,q1,q2,q3,hb1,hb2,Uq]
      have hl3:=hS3.len
      have hrow3:Qf ((B2.set b (Xp ((gB (stepG s a k v)).set k v))).set (b+2) (Xg (L2.set k (k+1)))) m.boxes.length=[I c.ki,I c.it,I c.fr,I c.to,I c.re,I c.n,I c.a,I c.b]:=by
       rw [Zu _ (by omega),Zu _ (by omega)];exact hrow2
      have hlt3:m.boxes.length < ((B2.set b (Xp ((gB (stepG s a k v)).set k v))).set (b+2) (Xg (L2.set k (k+1)))).length:=by simpa using hlt2
      refine ⟨by omega,by omega,und_eff Y0 k n (b+3) (b+2) _ _ hW3 hkn (by omega) _ _ _ _ (by omega) (by omega) (by omega) hS3.l1 hS3.l _ ?_⟩
      intro B4 L4 r4 hk4 hl4 hW4 hkr4 hrn4 hdr4 hdd4
      have hS4:=hS3.later hb hk4 hl4
      have hlt4:m.boxes.length < B4.length:=by have:=hk4.1;omega
      have hrow4:Qf B4 m.boxes.length=[I c.ki,I c.it,I c.fr,I c.to,I c.re,I c.n,I c.a,I c.b]:=by
       rw [hk4.2 _ hlt3 (by omega)];exact hrow3
      have hr4:k+1<=r4:=by
       rcases Nat.eq_or_lt_of_le hkr4 with h | h
       ·subst h;rw [hd99903] at hdr4;cases hdr4
       ·exact h
      have hfin:stepG s a (min r4 e) v=(stepG s a k v).set k (some v):=by
       rw [<- hsucc]
       refine stepG_more s a (k+1) (min r4 e) v (by omega) (fun j hj1 hj2=>?_)
       have h1:=decB_of _ j (hdd4 j (by omega) (by omega))
       rw [List.getElem?_set_ne (by omega),Ye] at h1
       intro h2
       rw [h2] at h1
       simp at h1
       omega
      simp
      refine ⟨ag ?_,⟨r4,rfl,by omega,hrn4,L4,by rw [hfin];exact hW4,by rw [hfin];exact hdr4,by rw [hfin];exact hS4,hlt4,hrow4⟩,by omega⟩
      repeat (first | exact Qa _ _ | refine Qb _ rfl ?_)
     ·have hmin:min k e=e:=by omega
      rw [hmin] at hW2 hd2 hS2
      have hken:¬ (k:Int) < (e:Int):=by omega
      simp [g21,hken,Nat.not_lt.2 hke,w120_2]
      exact k1 _ ⟨stepG s a e v,L2,hs'.symm,hW2,hS2⟩
   ·rintro m ⟨s,L,hs,hWF,hSt⟩
    rw [back_len] at hs
    rw [List.take_of_length_le (by simp)] at hs
    have hsf:s=finC C:=by rw [hs];unfold finC;rw [<- hBd,hn]
    rw [<- hsf] at hR
    have hsn:s.length=n:=by rw [hs,fold_len];simp
    refine spans_last Bd z s R n hsn hn9 hR _ m.boxes m.lens m.st m.ln b (b+1) Bd ?_ ?_ hSt.g1 hSt.g ?_
    ·simp [h8]
    ·simp [h11]
    ·intro i hi
     have hCne:C≠[]:=by
      rintro rfl
      rw [hs] at hi
      simp [List.getElem?_replicate] at hi
     obtain ⟨bid,d1,d2,_,_⟩:=hSt.bd hCne
     refine ⟨bid,d1,d2,?_,hn⟩
     rw [hs] at hi
     have:=fold_some Bd C.reverse _ i true (fun c hc=>by rw [hBd,bdC_mem];exact (bnd_mem (List.mem_reverse.1 hc)).2) (fun v=>by simp [List.getElem?_replicate]) hi
     omega
end Go.Proofs.YtjmgelbfndnpjaaGreatDoor
namespace Go.Proofs.YtjmgelbfndnpjaaGreatDoor
open Go Go.Abs
section
variable (cs:List Cl) (item region:Int)
def RtIs (C:List Cl) (rt:Rt) (Lm:List Nat):Prop:=(C=[]/\rt=.nil/\Lm=[])\/(C≠[]/\rt=.own 0 8/\Lm=[C.length])
end
theorem set_same {B:List (List AV)} {i:Nat} {v:List AV} (h:Qf B i=v) (hi:i < B.length):B.set i v=B:=by
 apply List.ext_getElem?
 intro j
 by_cases hj:j=i
 ·subst hj;rw [List.getElem?_set_self hi,rowN_get hi,h]
 ·rw [List.getElem?_set_ne (fun e=>hj e.symm)]
theorem spans_pure (cs:List Cl) (item region:Int) (hl:cs.length<=1000000):Pure Tryz.prog gl0 120 [.sl .ro (cs.map Qq),I item,I region] (.sl .ro ((Wj cs item region).map Qd)):=by
 have hR:Wj cs item region=Xb (outC (bdC (Uv cs item region)) (finC (Uv cs item region)) (bdC (Uv cs item region)).length):=rfl
 have hCl:(Uv cs item region).length<=cs.length:=List.length_filter_le _ _
 obtain ⟨CC,hCC⟩:∃ CC,Uv cs item region=CC:=⟨_,rfl⟩
 rw [hCC] at hR hCl
 generalize Wj cs item region=R at hR
 refine Qn code120 (Uq (bdC CC) R) (by simp) ?_
 rw [sc120_eq]
 simp [hd120]
 refine Ql w120_0 (fun f m=>∃ (i:Nat) (C:List Cl) (rt:Rt) (Lm:List Nat) (B:List (List AV)),i<=cs.length/\f 27=I i/\f 7=.sl rt (C.map Qq)/\m=⟨B,Lm,fun _=>.gone,0⟩/\C++Uv (cs.drop i) item region=CC /\
   C.length<=i/\0 < B.length/\RtIs C rt Lm/\BdIs B C) (fun f _=>cs.length - (numOf (f 27)).toNat) ?_ ?_
 ·exact ⟨0,[],.nil,[],[[.sl .nil []]],by omega,by simp,by simp,rfl,by simpa using hCC,by simp,by simp,.inl ⟨rfl,rfl,rfl⟩,.inl ⟨rfl,rfl⟩⟩
 ·rintro f m ⟨i,C,rt,Lm,B,hi,h27,h7,rfl,hC,hCi,hB0,hrt,hbd⟩
  rcases Nat.lt_or_ge i cs.length with hlt | hge
  ·obtain ⟨c,hc⟩:=getS hlt
   have hrow:Qf (cs.map Qq) i=Qq c:=Qv (by simp [hc])
   have hilt:(i:Int) < (cs.length:Int):=by omega
   have hw:=wrS i (by omega)
   have hd:cs.drop i=c::cs.drop (i+1):=by rw [List.drop_eq_getElem_cons hlt,(List.getElem?_eq_some_iff.1 hc).2]
   have hcp:=concerns_pure c item region
   have hvp:=Kk c
   rw [hd] at hC
   have skip:cntB item region c=false->C++Uv (cs.drop (i+1)) item region=CC:=by
    intro hb;rw [<- hC];simp [Uv,hb]
   have take:cntB item region c=true->(C++[c])++Uv (cs.drop (i+1)) item region=CC:=by
    intro hb;rw [<- hC];simp [Uv,hb]
   have hra:∀ x,Qf (B++x) 0=Qf B 0:=fun x=>Qh hB0
   by_cases hk:c.ki=1\/c.ki=2
   ·cases e1:concB c item region with
    | false =>
     have hs:=skip (by simp [cntB,e1])
     rw [e1] at hcp
     rcases hk with hk | hk
     ·have hck:(⟨1,c.it,c.fr,c.to,c.re,c.n,c.a,c.b⟩:Cl)=c:=by cases c;simp at hk;subst hk;rfl
      have hcp':Pure Tryz.prog gl0 146 [.agg [I 1,I c.it,I c.fr,I c.to,I c.re,I c.n,I c.a,I c.b],I item,I region] (.bool false):=by simpa [Qq,hk] using hcp
      simp [h27,h7,hlt,hilt,hrow,Qq,hk,hck,e1,w120_0,hw,Uq]
      refine ⟨hcp',ag ?_,⟨i+1,by omega,by simp,C,rt,⟨rfl,rfl⟩,Lm,_,⟨rfl,rfl⟩,hs,by omega,by simp,hrt,hbd.app hB0 _⟩,by omega⟩
      repeat (first | exact Qa _ _ | refine Qb _ rfl ?_)
     ·have hck:(⟨2,c.it,c.fr,c.to,c.re,c.n,c.a,c.b⟩:Cl)=c:=by cases c;simp at hk;subst hk;rfl
      have hcp':Pure Tryz.prog gl0 146 [.agg [I 2,I c.it,I c.fr,I c.to,I c.re,I c.n,I c.a,I c.b],I item,I region] (.bool false):=by simpa [Qq,hk] using hcp
      simp [h27,h7,hlt,hilt,hrow,Qq,hk,hck,e1,w120_0,hw,Uq]
      refine ⟨hcp',ag ?_,⟨i+1,by omega,by simp,C,rt,⟨rfl,rfl⟩,Lm,_,⟨rfl,rfl⟩,hs,by omega,by simp,hrt,hbd.app hB0 _⟩,by omega⟩
      repeat (first | exact Qa _ _ | refine Qb _ rfl ?_)
    | true =>
     rw [e1] at hcp
     cases e2:Xt c with
     | false =>
      have hs:=skip (by simp [cntB,e2])
      rw [e2] at hvp
      rcases hk with hk | hk
      ·have hck:(⟨1,c.it,c.fr,c.to,c.re,c.n,c.a,c.b⟩:Cl)=c:=by cases c;simp at hk;subst hk;rfl
       have hcp':Pure Tryz.prog gl0 146 [.agg [I 1,I c.it,I c.fr,I c.to,I c.re,I c.n,I c.a,I c.b],I item,I region] (.bool true):=by simpa [Qq,hk] using hcp
       have hvp':Pure Tryz.prog gl0 48 [.agg [I 1,I c.it,I c.fr,I c.to,I c.re,I c.n,I c.a,I c.b]] (.bool false):=by simpa [Qq,hk] using hvp
       simp [h27,h7,hlt,hilt,hrow,Qq,hk,hck,e1,e2,w120_0,hw,Uq]
       refine ⟨hcp',hvp',ag ?_,⟨i+1,by omega,by simp,C,rt,⟨rfl,rfl⟩,Lm,_,⟨rfl,rfl⟩,hs,by omega,by simp,hrt,hbd.app hB0 _⟩,by omega⟩
       repeat (first | exact Qa _ _ | refine Qb _ rfl ?_)
      ·have hck:(⟨2,c.it,c.fr,c.to,c.re,c.n,c.a,c.b⟩:Cl)=c:=by cases c;simp at hk;subst hk;rfl
       have hcp':Pure Tryz.prog gl0 146 [.agg [I 2,I c.it,I c.fr,I c.to,I c.re,I c.n,I c.a,I c.b],I item,I region] (.bool true):=by simpa [Qq,hk] using hcp
       have hvp':Pure Tryz.prog gl0 48 [.agg [I 2,I c.it,I c.fr,I c.to,I c.re,I c.n,I c.a,I c.b]] (.bool false):=by simpa [Qq,hk] using hvp
       simp [h27,h7,hlt,hilt,hrow,Qq,hk,hck,e1,e2,w120_0,hw,Uq]
       refine ⟨hcp',hvp',ag ?_,⟨i+1,by omega,by simp,C,rt,⟨rfl,rfl⟩,Lm,_,⟨rfl,rfl⟩,hs,by omega,by simp,hrt,hbd.app hB0 _⟩,by omega⟩
       repeat (first | exact Qa _ _ | refine Qb _ rfl ?_)
     | true =>
      have ht:=take (by simp [cntB,e1,e2,hk])
      rw [e2] at hvp
      rcases hk with hk | hk
      ·have hck:(⟨1,c.it,c.fr,c.to,c.re,c.n,c.a,c.b⟩:Cl)=c:=by cases c;simp at hk;subst hk;rfl
       have hcp':Pure Tryz.prog gl0 146 [.agg [I 1,I c.it,I c.fr,I c.to,I c.re,I c.n,I c.a,I c.b],I item,I region] (.bool true):=by simpa [Qq,hk] using hcp
       have hvp':Pure Tryz.prog gl0 48 [.agg [I 1,I c.it,I c.fr,I c.to,I c.re,I c.n,I c.a,I c.b]] (.bool true):=by simpa [Qq,hk] using hvp
       rcases hrt with ⟨rfl,rfl,rfl⟩ | ⟨hne,rfl,rfl⟩
       ·rcases hbd with ⟨_,hb0⟩ | ⟨hx,_⟩
        ·have hra0:∀ x,Qf (B++x) 0=[.sl .nil []]:=fun x=>by rw [Qh hB0];exact hb0
         have hsa:∀ x y,(B++x).set 0 y=B.set 0 y++x:=fun x y=>Vq y hB0
         simp [h27,h7,hlt,hilt,hrow,Qq,hk,hck,e1,e2,w120_0,hw,hra0,hsa,hB0,Uq]
         refine ⟨hcp',hvp',ag ?_,⟨i+1,by omega,by simp,[c],.own 0 8,⟨rfl,by simp [Qq,hk]⟩,[1],_,⟨rfl,rfl⟩,ht,by simp,by simp,.inr ⟨by simp,rfl,rfl⟩,.inr ⟨by simp,B.length+1,?_,by omega,by simp,?_⟩⟩,by omega⟩
         ·repeat (first | exact Qa _ _ | refine Qb _ rfl ?_)
         ·rw [Qh (by simpa using hB0),Vn _ hB0];rfl
         ·have:=Zn (B.set 0 [AV.bs (B.length+1) 0 2 1]) [[I 1,I c.it,I c.fr,I c.to,I c.re,I c.n,I c.a,I c.b],[AV.int IntKind.i64 c.fr,AV.int IntKind.i64 c.to]] 1
          rw [List.length_set] at this
          rw [this];rfl
        ·exact absurd rfl hx
       ·rcases hbd with ⟨hx,_⟩ | ⟨_,bid,hb0,hb1,hb2,hb3⟩
        ·exact absurd hx hne
        ·have hra0:∀ x,Qf (B++x) 0=[.bs bid 0 (bnd C).length 1]:=fun x=>by rw [Qh hB0];exact hb0
         have hrab:∀ x,Qf (B++x) bid=intCells (bnd C):=fun x=>by rw [Qh hb2];exact hb3
         have hsa:∀ x y,(B++x).set 0 y=B.set 0 y++x:=fun x y=>Vq y hB0
         have hsb:∀ x y,(B++x).set bid y=B.set bid y++x:=fun x y=>Vq y hb2
         have hbl:=bnd_len C
         have hil:=Kn (bnd C)
         have hrs:∀ x,Qf (B.set bid []++x) 0=[.bs bid 0 (bnd C).length 1]:=fun x=>by rw [Qh (by simpa using hB0),Zu _ hb1,hb0]
         have hss:∀ x y,(B.set bid []++x).set 0 y=(B.set bid []).set 0 y++x:=fun x y=>Vq y (by simpa using hB0)
         have htk:(intCells (bnd C)).take (bnd C).length=intCells (bnd C):=List.take_of_length_le (by rw [hil];exact Nat.le_refl _)
         have hnb:intCells (bnd C)≠[]:=by
          intro h;have:=congrArg List.length h;rw [hil,hbl] at this;exact hne (List.length_eq_zero_iff.1 (by simp at this;omega))
         simp [h27,h7,hlt,hilt,hrow,Qq,hk,hck,e1,e2,w120_0,hw,hra0,hrab,hsa,hsb,hrs,hss,htk,hnb,hB0,hb2,hil,Uq]
         refine ⟨hcp',hvp',⟨?_,by omega⟩,⟨by omega,by omega⟩,ag ?_,⟨i+1,by omega,by simp,C++[c],.own 0 8,⟨rfl,by simp [Qq,hk]⟩,[C.length+1],_,⟨rfl,rfl⟩,ht,by simp;omega,by simp,.inr ⟨by simp,rfl,by simp⟩,.inr ⟨by simp,B.length+1,?_,by omega,by simp,?_⟩⟩,by omega⟩
         ·rintro row (⟨a,_,rfl⟩ | rfl)<;>rfl
         ·repeat (first | exact Qa _ _ | refine Qb _ rfl ?_)
         ·rw [Qh (by simpa using hB0),Vn _ (by simpa using hB0),bnd_app];simp [bnd]
         ·have:=Zn ((B.set bid []).set 0 [AV.bs (B.length+1) 0 ((bnd C).length+2) 1]) [[I 1,I c.it,I c.fr,I c.to,I c.re,I c.n,I c.a,I c.b],intCells (bnd C)++[AV.int IntKind.i64 c.fr,AV.int IntKind.i64 c.to]] 1
          rw [List.length_set,List.length_set] at this
          rw [this,bnd_app,ic_app];rfl
      ·have hck:(⟨2,c.it,c.fr,c.to,c.re,c.n,c.a,c.b⟩:Cl)=c:=by cases c;simp at hk;subst hk;rfl
       have hcp':Pure Tryz.prog gl0 146 [.agg [I 2,I c.it,I c.fr,I c.to,I c.re,I c.n,I c.a,I c.b],I item,I region] (.bool true):=by simpa [Qq,hk] using hcp
       have hvp':Pure Tryz.prog gl0 48 [.agg [I 2,I c.it,I c.fr,I c.to,I c.re,I c.n,I c.a,I c.b]] (.bool true):=by simpa [Qq,hk] using hvp
       rcases hrt with ⟨rfl,rfl,rfl⟩ | ⟨hne,rfl,rfl⟩
       ·rcases hbd with ⟨_,hb0⟩ | ⟨hx,_⟩
        ·have hra0:∀ x,Qf (B++x) 0=[.sl .nil []]:=fun x=>by rw [Qh hB0];exact hb0
         have hsa:∀ x y,(B++x).set 0 y=B.set 0 y++x:=fun x y=>Vq y hB0
         simp [h27,h7,hlt,hilt,hrow,Qq,hk,hck,e1,e2,w120_0,hw,hra0,hsa,hB0,Uq]
         refine ⟨hcp',hvp',ag ?_,⟨i+1,by omega,by simp,[c],.own 0 8,⟨rfl,by simp [Qq,hk]⟩,[1],_,⟨rfl,rfl⟩,ht,by simp,by simp,.inr ⟨by simp,rfl,rfl⟩,.inr ⟨by simp,B.length+1,?_,by omega,by simp,?_⟩⟩,by omega⟩
         ·repeat (first | exact Qa _ _ | refine Qb _ rfl ?_)
         ·rw [Qh (by simpa using hB0),Vn _ hB0];rfl
         ·have:=Zn (B.set 0 [AV.bs (B.length+1) 0 2 1]) [[I 2,I c.it,I c.fr,I c.to,I c.re,I c.n,I c.a,I c.b],[AV.int IntKind.i64 c.fr,AV.int IntKind.i64 c.to]] 1
          rw [List.length_set] at this
          rw [this];rfl
        ·exact absurd rfl hx
       ·rcases hbd with ⟨hx,_⟩ | ⟨_,bid,hb0,hb1,hb2,hb3⟩
        ·exact absurd hx hne
        ·have hra0:∀ x,Qf (B++x) 0=[.bs bid 0 (bnd C).length 1]:=fun x=>by rw [Qh hB0];exact hb0
         have hrab:∀ x,Qf (B++x) bid=intCells (bnd C):=fun x=>by rw [Qh hb2];exact hb3
         have hsa:∀ x y,(B++x).set 0 y=B.set 0 y++x:=fun x y=>Vq y hB0
         have hsb:∀ x y,(B++x).set bid y=B.set bid y++x:=fun x y=>Vq y hb2
         have hbl:=bnd_len C
         have hil:=Kn (bnd C)
         have hrs:∀ x,Qf (B.set bid []++x) 0=[.bs bid 0 (bnd C).length 1]:=fun x=>by rw [Qh (by simpa using hB0),Zu _ hb1,hb0]
         have hss:∀ x y,(B.set bid []++x).set 0 y=(B.set bid []).set 0 y++x:=fun x y=>Vq y (by simpa using hB0)
         have htk:(intCells (bnd C)).take (bnd C).length=intCells (bnd C):=List.take_of_length_le (by rw [hil];exact Nat.le_refl _)
         have hnb:intCells (bnd C)≠[]:=by
          intro h;have:=congrArg List.length h;rw [hil,hbl] at this;exact hne (List.length_eq_zero_iff.1 (by simp at this;omega))
         simp [h27,h7,hlt,hilt,hrow,Qq,hk,hck,e1,e2,w120_0,hw,hra0,hrab,hsa,hsb,hrs,hss,htk,hnb,hB0,hb2,hil,Uq]
         refine ⟨hcp',hvp',⟨?_,by omega⟩,⟨by omega,by omega⟩,ag ?_,⟨i+1,by omega,by simp,C++[c],.own 0 8,⟨rfl,by simp [Qq,hk]⟩,[C.length+1],_,⟨rfl,rfl⟩,ht,by simp;omega,by simp,.inr ⟨by simp,rfl,by simp⟩,.inr ⟨by simp,B.length+1,?_,by omega,by simp,?_⟩⟩,by omega⟩
         ·rintro row (⟨a,_,rfl⟩ | rfl)<;>rfl
         ·repeat (first | exact Qa _ _ | refine Qb _ rfl ?_)
         ·rw [Qh (by simpa using hB0),Vn _ (by simpa using hB0),bnd_app];simp [bnd]
         ·have:=Zn ((B.set bid []).set 0 [AV.bs (B.length+1) 0 ((bnd C).length+2) 1]) [[I 2,I c.it,I c.fr,I c.to,I c.re,I c.n,I c.a,I c.b],intCells (bnd C)++[AV.int IntKind.i64 c.fr,AV.int IntKind.i64 c.to]] 1
          rw [List.length_set,List.length_set] at this
          rw [this,bnd_app,ic_app];rfl
   ·have h1:¬ c.ki=1:=fun h=>hk (.inl h)
    have h2:¬ c.ki=2:=fun h=>hk (.inr h)
    have hs:=skip (by simp [cntB,h1,h2])
    simp [h27,h7,hlt,hilt,hrow,Qq,h1,h2,w120_0,hw,Uq]
    refine ⟨ag ?_,⟨i+1,by omega,by simp,C,rt,⟨rfl,rfl⟩,Lm,_,⟨rfl,rfl⟩,hs,by omega,by simp,hrt,hbd.app hB0 _⟩,by omega⟩
    repeat (first | exact Qa _ _ | refine Qb _ rfl ?_)
  ·obtain rfl:i=cs.length:=by omega
   have hCe:C=CC:=by rw [<- hC];simp [Uv]
   subst hCe
   have w11:IntKind.i64.wrap 1=1:=by rw [Qe]<;>omega
   rcases hrt with ⟨rfl,rfl,rfl⟩ | ⟨hne,rfl,rfl⟩
   ·rcases hbd with ⟨_,hb0⟩ | ⟨h,_⟩
    ·have hbd0:bdC []=[]:=by simp [bdC,bnd,dd]
     simp [h27,h7,w120_0,hb0,Uq]
     refine sortInt_none _ _ _ _ ?_
     simp [hb0,Uq]
     refine compact_none _ _ _ ?_
     have hB00:=set_same hb0 hB0
     have hra:∀ x,Qf (B++x) 0=[.sl .nil []]:=fun x=>by rw [Qh hB0,hb0]
     simp [hb0,hB00,hB0,hra,Uq,w11,fills]
     refine spans_mid [] (bdC []) [] R 0 rfl (by rw [hbd0];rfl) (by omega) (by simp) (by rw [hR,hbd0];rfl) _ _ _ _ _ B.length .nil .nil hB0 (by simp) ?_ (fun _=>rfl) ?_ ?_ ?_ ?_ ?_ ?_ ?_ (fun h=>absurd rfl h)
     all_goals simp [Xp,intCells]
    ·exact absurd rfl h
   ·rcases hbd with ⟨h,_⟩ | ⟨_,bid,hb0,hb1,hb2,hb3⟩
    ·exact absurd h hne
    ·simp [h27,h7,w120_0,hb0,Uq]
     have hbl:=bnd_len C
     have hnb:intCells (bnd C)≠[]:=by
      intro h;have:=congrArg List.length h;rw [Kn,hbl] at this;exact hne (List.length_eq_zero_iff.1 (by simp at this;omega))
     refine sortInt_eff _ (bnd C) (by rw [hbl];omega) _ bid [] ?_ (by simpa using hnb) _ ?_
     ·show B[bid]? = _
      rw [rowN_get hb2,hb3,List.append_nil]
     obtain ⟨l,hl2⟩:∃ l,(bnd C).mergeSort (fun x y=>decide (x<=y))=l:=⟨_,rfl⟩
     have hll:(bnd C).length=l.length:=by rw [<- hl2,List.length_mergeSort]
     have hdl:dd l=bdC C:=by rw [<- hl2];rfl
     have hb0':∀ X,Qf (B.set bid X) 0=[.bs bid 0 (bnd C).length 1]:=fun X=>by rw [Zu _ hb1];exact hb0
     have hlne:l≠[]:=by
      intro h;have:=congrArg List.length h;rw [<- hll,hbl] at this;exact hne (List.length_eq_zero_iff.1 (by simp at this;omega))
     simp [AM.wr,hl2,hb0',hll,Uq]
     refine compact_eff _ l (by rw [<- hll,hbl];omega) _ _ _ _ bid (by simpa using hb2) hlne (Vn _ hb2) _ ?_
     intro B2 z hk2 hB2 hz
     rw [hdl] at hB2 hz |-
     have hB20:0 < B2.length:=by have:=hk2.1;simp at this;omega
     have hr20:Qf B2 0=[.bs bid 0 l.length 1]:=by rw [hk2.2 0 (by simpa using hB0) (fun h=>hb1 h.symm),hb0',hll]
     have hbl2:bid < B2.length:=by have:=hk2.1;simp at this;omega
     obtain ⟨B3,hB3⟩:∃ B3,B2.set 0 [.bs bid 0 (bdC C).length 1]=B3:=⟨_,rfl⟩
     have hB3l:B3.length=B2.length:=by rw [<- hB3];simp
     have hr30:Qf B3 0=[.bs bid 0 (bdC C).length 1]:=by rw [<- hB3];exact Vn _ hB20
     have hr3b:Qf B3 bid=intCells (bdC C++z):=by rw [<- hB3,Zu _ (fun h=>hb1 h.symm)];exact hB2
     have hra3:∀ x,Qf (B3++x) 0=[.bs bid 0 (bdC C).length 1]:=fun x=>by rw [Qh (by omega)];exact hr30
     have hB30:0 < B3.length:=by omega
     have hbdl:=bdC_len C
     have hwn:IntKind.i64.wrap (((bdC C).length:Int)+1)=((bdC C).length:Int)+1:=by rw [Qe]<;>omega
     have htn:(((bdC C).length:Int)+1).toNat=(bdC C).length+1:=by omega
     have hnn:(0:Int)<=((bdC C).length:Int)+1:=by omega
     have hf1:=bc_fills (bdC C).length
     have hf2:=ic_fills ((bdC C).length+1)
     simp [hr20,hB20,hB3,hr30,hra3,hwn,htn,hnn,hf1,hf2,hB3l.symm,hB30,Uq]
     refine ⟨⟨by omega,by omega⟩,⟨by omega,by omega⟩,?_⟩
     refine spans_mid C (bdC C) z R (bdC C).length rfl rfl (by omega) (by omega) hR _ _ _ _ _ B3.length (.own 0 8) .ro (by omega) (by simp) ?_ (fun _=>rfl) ?_ ?_ ?_ ?_ ?_ ?_ ?_ (fun _=>⟨bid,by rw [Qh (by omega)];exact hr30,by rw [Qh (by omega)];exact hr3b,by omega,by omega⟩)
     all_goals simp
end Go.Proofs.YtjmgelbfndnpjaaGreatDoor
