import Derived.Test.YtnopaopphmjnmaaGreatDoorMEMI
set_option linter.all false
set_option maxRecDepth 100000
set_option maxHeartbeats 64000000
namespace Go.Proofs.YtnopaopphmjnmaaGreatDoor
open Go Go.Abs
def w8:∀(cs:List Cl)(n i:Nat)(x:List AV),n<=cs.length->(Rb cs n)[i]?=some x->∃(k:Nat)(c:Cl),cs[k]?=some c/\k+1+i=n/\x=[I (k:Int),.agg (Qg c)]
 |cs,0,i,x,_,h=>by simp[Rb]at h
 |cs,n+1,0,x,hn,h=>by
  rw[nM]at h;simp at h;obtain⟨c,hc⟩:∃c,cs[n]?=some c:=⟨_,zzad (by omega)⟩;refine⟨n,c,hc,by omega,?_⟩;rw[<- h];simp[hc]
 |cs,n+1,i+1,x,hn,h=>by
  rw[nM]at h;obtain⟨k,c,h1,h2,h3⟩:=w8 cs n i x (by omega) (by simpa using h);exact⟨k,c,h1,by omega,h3⟩
def FO(cs:List Cl)(n:Nat):(Rb cs n).length=n:=by simp[Rb]
def FP{cs:List Cl}{n:Nat}:∀x∈Rb cs n,x.length=2:=by
 intro x hx;simp[Rb]at hx;obtain⟨k,_,rfl⟩:=hx;rfl
structure Tf (C:List Cl) (Bd z:List Int) (n b:Nat) (s:GS) (L:List Nat) (bx:List (List AV)):Prop where
 len:b+4<bx.length
 g1:Qh bx (b+1)=[.bs b 0 n 1]
 g:Qh bx b=Zi (gB s)
 l1:Qh bx (b+3)=[.bs (b+2) 0 (n+1) 1]
 l:Qh bx (b+2)=Xo L
 f:Qh bx (b+4)=[.fn 256 [] [.ptr (b+3) 0]]
 bd:C≠[]->∃aQ,Qh bx 0=[.bs aQ 0 n 1]/\Qh bx aQ=aj (Bd++z)/\0<aQ/\aQ<b
def Tf.app{C:List Cl}{Bd z:List Int}{n b:Nat}{s:GS}{L:List Nat}{bx:List (List AV)}(h:Tf C Bd z n b s L bx)(x:List (List AV)):Tf C Bd z n b s L (bx++x):=by
 have hl:=h.len;refine⟨by simp;omega,by rw[Ql (by omega)];exact h.g1,by rw[Ql (by omega)];exact h.g,by rw[Ql (by omega)];exact h.l1,by rw[Ql (by omega)];exact h.l,by rw[Ql (by omega)];exact h.f,fun hc=>?_⟩;obtain⟨aQ,h1,h2,h3,h4⟩:=h.bd hc;exact⟨aQ,by rw[Ql (by omega)];exact h1,by rw[Ql (by omega)];exact h2,h3,h4⟩
def Tf.later{C:List Cl}{Bd z:List Int}{n b:Nat}{s:GS}{L L':List Nat}{bx bx':List (List AV)}(h:Tf C Bd z n b s L bx)(hb:0<b)(hk:bh (·=b+2) bx bx')(hl:Qh bx' (b+2)=Xo L'):Tf C Bd z n b s L' bx':=by
 have aH:=h.len;have k:∀j,j<bx.length->j≠b+2->Qh bx' j=Qh bx j:=hk.2;refine⟨by have:=hk.1;omega,by rw[k _ (by omega) (by omega)];exact h.g1,by rw[k _ (by omega) (by omega)];exact h.g,by rw[k _ (by omega) (by omega)];exact h.l1,hl,by rw[k _ (by omega) (by omega)];exact h.f,fun hc=>?_⟩;obtain⟨aQ,h1,h2,h3,h4⟩:=h.bd hc;exact⟨aQ,by rw[k _ (by omega) (by omega)];exact h1,by rw[k _ (by omega) (by omega)];exact h2,h3,h4⟩
def Tf.put{C:List Cl}{Bd z:List Int}{n b:Nat}{s:GS}{L:List Nat}{bx:List (List AV)}(h:Tf C Bd z n b s L bx)(hb:0<b)(k:Nat)(v:Bool):
  Tf C Bd z n b (s.set k (some v)) (L.set k (k+1)) ((bx.set b (Zi ((gB s).set k v))).set (b+2) (Xo (L.set k (k+1)))):=by
 have aH:=h.len
 have e:∀j,j≠b->j≠b+2->Qh ((bx.set b (Zi ((gB s).set k v))).set (b+2) (Xo (L.set k (k+1)))) j=Qh bx j:=fun j h1 h2=>by
  rw[Zy _ (fun h=>h2 h.symm),Zy _ (fun h=>h1 h.symm)]
 refine⟨by simpa using aH,by rw[e _ (by omega) (by omega)];exact h.g1,?_,by rw[e _ (by omega) (by omega)];exact h.l1,by rw[Vr _ (by simp;omega)],by rw[e _ (by omega) (by omega)];exact h.f,fun hc=>?_⟩
 ·rw[Zy _ (by omega),Vr _ (by omega),amC]
 obtain⟨aQ,h1,h2,h3,h4⟩:=h.bd hc;exact⟨aQ,by rw[e _ (by omega) (by omega)];exact h1,by rw[e _ (by omega) (by omega)];exact h2,h3,h4⟩
def ae4(Bd:List Int)(s:GS)(c:Cl):(Rf Bd s c).length=s.length:=by simp[Rf,ri]
def w9(Bd:List Int):∀(l:List Cl)(s:GS),(l.foldl (Rf Bd) s).length=s.length
 |[],_=>rfl
 |c::l,s=>by rw[zzd,w9 Bd l,ae4]
def A0(Bd:List Int):∀(l:List Cl)(s:GS)(i:Nat)(v:Bool),(∀c∈l,c.to∈Bd)->(∀v,s[i]?≠some (some v))->(l.foldl (Rf Bd) s)[i]?=some (some v)->i+1<Bd.length+0\/i+1<=Bd.length-1
 |[],s,i,v,_,h0,h=>absurd h (h0 v)
 |c::l,s,i,v,hc,h0,h=>by
  rw[zzd]at h;by_cases h1:∃v,(Rf Bd s c)[i]?=some (some v)
  ·obtain⟨v',h2⟩:=h1;unfold Rf at h2;rw[Jd]at h2;cases hs:s[i]? with
   |none=>rw[hs]at h2;cases h2
   |some o=>
    rw[hs]at h2;simp only[zzcs,Option.some.injEq]at h2;split at h2
    ·rename_i h3;have:=KZ (hc c (by simp));exact .inl (by omega)
    subst h2;exact absurd hs (h0 v')
  exact A0 Bd l _ i v (fun c h=>hc c (by simp[h])) (fun v hv=>h1 ⟨v,hv⟩) h
def Ot(s:GS)(j:Nat)(h:nO s j=true):s[j]?≠some none:=by
 intro h';unfold nO at h;rw[h']at h;cases h
def X5{s:GS}{j:Nat}(h:nO s j=false)(hj:j<s.length):s[j]?=some none:=by
 unfold nO at h;obtain⟨o,ho⟩:=aR hj;rw[ho]at h |-
 cases o with
 |none=>rfl
 |some v=>cases h
def K0(s:GS)(a q r:Nat)(v:Bool)(hq:q<=r)(h:∀j,a<=j->j<r->nO s j=true):stepG s a q v=s:=by
 rcases zzho a q with h1|h1
 ·rw[wX s a a q v h1 (fun j h2 h3=>Ot s j (h j h2 (by omega))),AZ _ _ _ _ (zzab _)]
 exact AZ _ _ _ _ h1
def A1(C:List Cl)(Bd z:List Int)(R:List Sp)(n:Nat)(hBd:Bd=dH C)(hn:Bd.length=n)(hn9:n<=10000000)(hCl:C.length<=1000000)(hR:R=Xm (nN Bd (wW C) n))(E:List (Nat×AV))(B:List (List AV))(Lm:List Nat)(st:Nat->LS)(ln:Nat)(b:Nat)(rt fk:Rt)
  (hb:0<b)(hBl:B.length=b+4)(h7:Abs.look E 7=.sl rt (C.map Qg))(aS:∀m,bF m 6 (.sl rt (C.map Qg))=.sl fk (C.map Qg))(h8:Abs.look E 8=.ptr 0 0)(pq:Abs.look E 11=.ptr (b+1) 0)(qy:Abs.look E 12=.ptr (b+3) 0)
  (hg1:Qh B (b+1)=[.bs b 0 n 1])(hg:Qh B b=Zi (List.replicate n false))(ew:Qh B (b+3)=[.bs (b+2) 0 (n+1) 1])(hl:Qh B (b+2)=aj (List.replicate (n+1) 0))
  (sF:C≠[]->∃aQ,Qh B 0=[.bs aQ 0 n 1]/\Qh B aQ=aj (Bd++z)/\0<aQ/\aQ<b):
  vc Tryz.prog az (We Bd R) Y0 (X2 C1) ⟨Ze 145 E,⟨B,Lm,st,ln⟩⟩ (post Tryz.prog az (We Bd R) EE (.sl .ro (R.map Qe))):=by
 simp[X2,qy,ew]
 refine Qj JP (fun f m=>∃(i:Nat)(B':List (List AV))(L':List Int),i<=n+1/\f 74=I i/\m=⟨B',Lm,st,ln⟩/\bh (·=b+2) B B'/\B'.length=B.length/\Qh B' (b+2)=aj L'/\L'.length=n+1/\∀j:Nat,j<i->L'[j]?=some (j:Int))
  (fun f _=>n+1-(numOf (f 74)).toNat) ?_ ?_
 ·exact⟨0,B,List.replicate (n+1) 0,by omega,by simp,rfl,bh.refl _ _,rfl,hl,by simp,fun j h=>by omega⟩
 rintro f m ⟨i,B',L',hi,h74,rfl,fN,hBl',eF,tX,Au⟩;have FQ:Qh B' (b+3)=[.bs (b+2) 0 (n+1) 1]:=by rw[fN.2 _ (by omega) (by omega)];exact ew
 rcases zzaa i (n+1)with ai|bu
 ·have aa:(i:Int)<(n:Int)+1:=by omega
  have hw:=bK i (by omega);have bU:=KT L' i (i:Int);have aH:=Uk L';have mP:b+2<B'.length:=by omega
  simp[h74,aa,ai,JP,qy,FQ,eF,hw,bU,aH,tX,mP];refine⟨by omega,aO,⟨i+1,by omega,by simp,fN.set (.inl rfl) _,hBl',L'.set i (i:Int),Vr _ mP,by simpa using tX,fun j hj=>?_⟩,by omega⟩
  ·by_cases hji':j=i
   ·subst hji';rw[zzaz (by omega)]
   rw[zzbe (fun h=>hji' h.symm)];exact Au j (by omega)
 obtain rfl:i=n+1:=by omega
 have hLr:L'=(List.range (n+1)).map fun(k:Nat)=>(k:Int):=by
  apply zzck;intro j;by_cases hj:j<n+1
  ·rw[Au j hj];simp[hj]
  rw[zzau (by omega),zzau (by simp;omega)]
 have aws:Qh B' (b+2)=Xo (List.range (n+1)):=by rw[eF,hLr];rfl
 have bJ:¬((n:Int)+1)<(n:Int)+1:=by omega
 have awt:Tf C Bd z n b (List.replicate n none) (List.range (n+1)) (B'++[[.fn 256 [] [.ptr (b+3) 0]]]):=by
  have k:∀j,j<B.length->j≠b+2->Qh B' j=Qh B j:=fN.2;refine⟨by simp;omega,?_,?_,?_,?_,?_,fun hc=>?_⟩
  ·rw[Ql (by omega),k _ (by omega) (by omega)];exact hg1
  ·rw[Ql (by omega),k _ (by omega) (by omega),ae2];exact hg
  ·rw[Ql (by omega)];exact FQ
  ·rw[Ql (by omega)];exact aws
  ·have:b+4=B'.length:=by omega
   rw[this];simp
  obtain⟨aQ,h1,h2,h3,h4⟩:=sF hc;exact⟨aQ,by rw[Ql (by omega),k _ (by omega) (by omega)];exact h1,by rw[Ql (by omega),k _ (by omega) (by omega)];exact h2,h3,h4⟩
 have amF:=Zu (l:=[.sl fk (C.map Qg)]) (mN C) ⟨Wk.sl _ _,trivial⟩;have cI:=mO C (by omega);have eO:=fun s hs hR E=>wZ Bd z s R n hs hn9 hR E
 have nP:∀y,Qh (B'++[y]) (b+4)=y:=fun y=>by
  have:b+4=B'.length:=by omega
  rw[this];simp
 simp[h74,JP,h7,qy,aS,hBl',hBl,nP,We];refine⟨amF,?_⟩;refine jI (xs:=Rb C C.length) (by simp) cI FP (fun i m=>∃(s:GS)(L:List Nat),s=(C.reverse.take i).foldl (Rf Bd) (List.replicate n none)/\WF L (nO s) n/\Tf C Bd z n b s L m.boxes) (fun _ _=>False) ?_ ?_ (fun _ _ _ h=>h.elim) ?_ ?_ (fun _ _ h=>h.elim)
 ·exact⟨_,_,by simp,WF.init n _ (fun j=>by simp[nO,zzcn]),awt⟩
 ·rintro i m m' ⟨s,L,h1,h2,h3⟩ ⟨⟨bx,e1⟩,_,_⟩;exact⟨s,L,h1,h2,by rw[e1];exact h3.app bx⟩
 ·rintro l i m x hg hr ⟨s,L,hs,hWF,hSt⟩ hx K' k1 _ _;obtain⟨k,c,hc,hk,rfl⟩:=w8 C C.length i x (zzab _) hx;rw[Ui]at hSt;have hcm:c∈C:=zzac hc;have amG:C≠[]:=List.ne_nil_of_mem hcm
  have awu:C.reverse[i]?=some c:=by
   rw[List.getElem?_reverse (by omega)];rw[show C.length-1-i=k by omega];exact hc
  have mQ:s.length=n:=by rw[hs,w9];simp
  have iM:(C.reverse.take (i+1)).foldl (Rf Bd) (List.replicate n none)=Rf Bd s c:=by
   rw[zzas,awu,zzgi,<- hs];rfl
  obtain⟨aQ,d1,d2,d3,d4⟩:=hSt.bd amG;have fO:∀m,(aj (Bd++z)).map (bF m 5)=aj (Bd++z):=fun m=>Zm m 4 (XQ _);have lX:aV 1 n (aj (Bd++z))=Bd.map fun x=>[I x]:=by rw[<- hn,nL];exact wU Bd _
  have qt:n<=(aj (Bd++z)).length:=by rw[Uk];simp;omega
  have nQ:Bd.Pairwise (·<=·):=by rw[hBd];exact(On C).imp (fun h=>Int.le_of_lt h)
  have b1:=o8 Bd c.fr (by omega) nQ;have b2:=o8 Bd c.to (by omega) nQ;have hto:c.to∈Bd:=by rw[hBd,uF];exact(pn hcm).2
  have he:=KZ hto;have ha:=amD Bd c.fr;have cm:Rf Bd s c=stepG s (rf Bd c.fr) (rf Bd c.to) (decide (c.ki=1)):=rfl;rw[cm]at iM;obtain⟨a,hae⟩:∃a,rf Bd c.fr=a:=⟨_,rfl⟩;obtain⟨e,hee⟩:∃e,rf Bd c.to=e:=⟨_,rfl⟩;obtain⟨v,hv⟩:∃v,(c.ki==1)=v:=⟨_,rfl⟩;have CB:decide (c.ki=1)=v:=hv;rw[hae,hee,CB]at iM;rw[hae]at b1 ha;rw[hee]at b2 he;have aH:=hSt.len;have f0:∀x,Qh (m.boxes++x) 0=[.bs aQ 0 n 1]:=fun x=>by rw[Ql (by omega)];exact d1
  have fb:∀x,Qh (m.boxes++x) aQ=aj (Bd++z):=fun x=>by rw[Ql (by omega)];exact d2
  have ff:∀x,Qh (m.boxes++x) (b+4)=[.fn 256 [] [.ptr (b+3) 0]]:=fun x=>by rw[Ql (by omega)];exact hSt.f
  simp[hr,Zl,Qg,h8,We,f0,fb,ff,fO,lX,qt,hae,hee];refine⟨b1,b2,?_⟩;have amH:=hSt.app [[I c.ki,I c.it,I c.fr,I c.to,I c.re,I c.n,I c.a,I c.b]];refine Om Y0 a n (b+3) (b+2) L (nO s) hWF (by omega) (by omega) _ _ _ _ (by simp;omega) (by simp;omega) (by omega) amH.l1 amH.l _ ?_;intro B1 L1 r cQ ew Rg har uG ei Of;have awv:=amH.later hb cQ ew;have X6:m.boxes.length<B1.length:=by have:=cQ.1;simp at this;omega
  have ar6:Qh B1 m.boxes.length=[I c.ki,I c.it,I c.fr,I c.to,I c.re,I c.n,I c.a,I c.b]:=by
   rw[cQ.2 _ (by simp) (by omega)];simp
  have N3:stepG s a (min r e) v=s:=K0 s a _ r v (by omega) Of;simp
  refine Qj JQ (fun g m2=>∃(k:Nat)(B2:List (List AV))(L2:List Nat),g 21=I k/\a<=k/\k<=n/\m2=⟨B2,m.lens,qw m.st l .busy,m.ln⟩/\WF L2 (nO (stepG s a (min k e) v)) n/\nO (stepG s a (min k e) v) k=false/\
   Tf C Bd z n b (stepG s a (min k e) v) L2 B2/\m.boxes.length<B2.length/\Qh B2 m.boxes.length=[I c.ki,I c.it,I c.fr,I c.to,I c.re,I c.n,I c.a,I c.b]) (fun g _=>n-(numOf (g 21)).toNat) ?_ ?_
  ·exact⟨r,B1,L1,by simp,har,uG,rfl,by rw[N3];exact Rg,by rw[N3];exact ei,by rw[N3];exact awv,X6,ar6⟩
  rintro g m2 ⟨k,B2,L2,g21,hak,D9,rfl,FR,hd2,xb,amI,hrow2⟩;rcases zzaa k e with hke|hke
  ·have xd:min k e=k:=by omega
   rw[xd]at FR hd2 xb;have aww:(stepG s a k v).length=n:=by rw[ri,mQ]
   have ar7:k<n:=by omega
   have X7:=X5 hd2 (by omega)
   have hsk:s[k]?=some none:=by
    rw[Jd]at X7;cases hq:s[k]? with
    |none=>rw[hq]at X7;cases X7
    |some o=>rw[hq]at X7;simpa using X7
   have dM:=KY s a k v hak hsk;obtain⟨Ou,X8⟩:=X1 (stepG s a k v) k v (by omega);have hW3:=WF.dec FR ar7 Ou X8;have hS3:=xb.put hb k v;have ar8:(k:Int)<(e:Int):=by omega
   have ar9:(k:Int)<(n:Int):=by omega
   have amJ:(k:Int)<(n:Int)+1:=by omega
   have awx:k<n+1:=by omega
   have XV:IntKind.i64.wrap ((k:Int)+1)=(k:Int)+1:=by rw[Qk]<;>omega
   have iC:=amB (gB (stepG s a k v)) k v;have hns:(Xo L2).set k (I ((k:Int)+1))=Xo (L2.set k (k+1)):=by have:=XY L2 k (k+1);simpa using this
   have iL:=amz (gB (stepG s a k v));have lT:(gB (stepG s a k v)).length=n:=by simp[gB,aww]
   have hnl:=XX L2;have hL2:=FR.1;have dD:=xb.len;have q1:∀X,Qh (B2.set b X) (b+3)=[.bs (b+2) 0 (n+1) 1]:=fun X=>by rw[Zy _ (by omega)];exact xb.l1
   have q2:∀X,Qh (B2.set b X) (b+2)=Xo L2:=fun X=>by rw[Zy _ (by omega)];exact xb.l
   have q3:∀X Z,Qh ((B2.set b X).set (b+2) Z) (b+4)=[.fn 256 [] [.ptr (b+3) 0]]:=fun X Z=>by rw[Zy _ (by omega),Zy _ (by omega)];exact xb.f
   have mJ:b<B2.length:=by omega
   have mP:b+2<B2.length:=by omega
   simp[g21,ar8,hke,JQ,pq,qy,xb.g1,xb.g,hrow2,hv,ar9,ar7,amJ,awx,XV,iC,hns,iL,lT,hnl,hL2,q1,q2,q3,mJ,mP,We];have hl3:=hS3.len
   have asa:Qh ((B2.set b (Zi ((gB (stepG s a k v)).set k v))).set (b+2) (Xo (L2.set k (k+1)))) m.boxes.length=[I c.ki,I c.it,I c.fr,I c.to,I c.re,I c.n,I c.a,I c.b]:=by
    rw[Zy _ (by omega),Zy _ (by omega)];exact hrow2
   have awy:m.boxes.length<((B2.set b (Zi ((gB (stepG s a k v)).set k v))).set (b+2) (Xo (L2.set k (k+1)))).length:=by simpa using amI
   refine⟨by omega,by omega,Om Y0 k n (b+3) (b+2) _ _ hW3 D9 (by omega) _ _ _ _ (by omega) (by omega) (by omega) hS3.l1 hS3.l _ ?_⟩;intro B4 L4 r4 Ov hl4 hW4 awz awA amK awB;have hS4:=hS3.later hb Ov hl4;have awC:m.boxes.length<B4.length:=by have:=Ov.1;omega
   have asb:Qh B4 m.boxes.length=[I c.ki,I c.it,I c.fr,I c.to,I c.re,I c.n,I c.a,I c.b]:=by
    rw[Ov.2 _ awy (by omega)];exact asa
   have hr4:k+1<=r4:=by
    rcases Nat.eq_or_lt_of_le awz with h|h
    ·subst h;rw[Ou]at amK;cases amK
    exact h
   have xe:stepG s a (min r4 e) v=(stepG s a k v).set k (some v):=by
    rw[<- dM];refine wX s a (k+1) (min r4 e) v (by omega) (fun j dU qo=>?_);have h1:=Ot _ j (awB j (by omega) (by omega));rw[zzbe (by omega),Jd]at h1;intro h2;rw[h2]at h1;simp at h1;omega
   simp;refine⟨aO,⟨r4,rfl,by omega,awA,L4,by rw[xe];exact hW4,by rw[xe];exact amK,by rw[xe];exact hS4,awC,asb⟩,by omega⟩
  have xd:min k e=e:=by omega
  rw[xd]at FR hd2 xb;have awD:¬(k:Int)<(e:Int):=by omega
  simp[g21,awD,zzbl.2 hke,JQ];exact k1 _ ⟨stepG s a e v,L2,iM.symm,FR,xb⟩
 rintro m ⟨s,L,hs,hWF,hSt⟩;rw[FO]at hs;rw[zzap (by simp)]at hs;have hsf:s=wW C:=by rw[hs];unfold wW;rw[<- hBd,hn]
 rw[<- hsf]at hR;have mQ:s.length=n:=by rw[hs,w9];simp
 refine wZ Bd z s R n mQ hn9 hR _ m.boxes m.lens m.st m.ln b (b+1) Bd ?_ ?_ hSt.g1 hSt.g ?_
 ·simp[h8]
 ·simp[pq]
 intro i hi
 have amG:C≠[]:=by
  rintro rfl;rw[hs]at hi;simp[zzcn]at hi
 obtain⟨aQ,d1,d2,_,_⟩:=hSt.bd amG;refine⟨aQ,d1,d2,?_,hn⟩;rw[hs]at hi;have:=A0 Bd C.reverse _ i true (fun c hc=>by rw[hBd,uF];exact(pn (zzfm.1 hc)).2) (fun v=>by simp[zzcn]) hi;omega
section
variable (cs:List Cl) (item region:Int)
def awE(C:List Cl)(rt:Rt)(Lm:List Nat):Prop:=(C=[]/\rt=.nil/\Lm=[])\/(C≠[]/\rt=.own 0 8/\Lm=[C.length])
end
def X9{B:List (List AV)}{i:Nat}{v:List AV}(h:Qh B i=v)(hi:i<B.length):B.set i v=B:=by
 apply zzck;intro j;by_cases hj:j=i
 ·subst hj;rw[zzaz hi,Ug hi,h]
 rw[zzbe (fun e=>hj e.symm)]
def K1(cs:List Cl)(item region:Int)(hl:cs.length<=1000000):Pure Tryz.prog az 187 [.sl .ro (cs.map Qg),I item,I region] (.sl .ro ((Qct cs item region).map Qe)):=by
 have hR:Qct cs item region=Xm (nN (dH (Wl cs item region)) (wW (Wl cs item region)) (dH (Wl cs item region)).length):=rfl;have hCl:(Wl cs item region).length<=cs.length:=zzbr _ _;obtain⟨CC,hCC⟩:∃CC,Wl cs item region=CC:=⟨_,rfl⟩;rw[hCC]at hR hCl;generalize Qct cs item region=R at hR;refine Qn ac5 (We (dH CC) R) (by simp) ?_;rw[X3];simp[ajU]
 refine Qj dY (fun f m=>∃(i:Nat)(C:List Cl)(rt:Rt)(Lm:List Nat)(B:List (List AV)),i<=cs.length/\f 27=I i/\f 7=.sl rt (C.map Qg)/\m=⟨B,Lm,fun _=>.gone,0⟩/\C++Wl (cs.drop i) item region=CC/\
   C.length<=i/\0<B.length/\awE C rt Lm/\ae3 B C) (fun f _=>cs.length-(numOf (f 27)).toNat) ?_ ?_
 ·exact⟨0,[],.nil,[],[[.sl .nil []]],by omega,by simp,by simp,rfl,by simpa using hCC,by simp,by simp,.inl ⟨rfl,rfl,rfl⟩,.inl ⟨rfl,rfl⟩⟩
 rintro f m ⟨i,C,rt,Lm,B,hi,h27,h7,rfl,hC,hCi,eG,aS,sF⟩;rcases zzaa i cs.length with ai|bu
 ·obtain⟨c,hc⟩:=aR ai;have ah:Qh (cs.map Qg) i=Qg c:=Qs (by simp[hc]);have aa:(i:Int)<(cs.length:Int):=by omega
  have hw:=bK i (by omega);have hd:cs.drop i=c::cs.drop (i+1):=by rw[zzaf ai,(zza.1 hc).2]
  have hcp:=mR c item region;have Ys:=Ky c;rw[hd]at hC
  have skip:FN item region c=false->C++Wl (cs.drop (i+1)) item region=CC:=by
   intro hb;rw[<- hC];simp[Wl,hb]
  have take:FN item region c=true->(C++[c])++Wl (cs.drop (i+1)) item region=CC:=by
   intro hb;rw[<- hC];simp[Wl,hb]
  have fq:∀x,Qh (B++x) 0=Qh B 0:=fun x=>Ql eG;by_cases hk:c.ki=1\/c.ki=2
  ·cases e1:gW c item region with
   |false=>
    have hs:=skip (by simp[FN,e1]);rw[e1]at hcp;obtain hk|hk:=hk
    ·have gL:(⟨1,c.it,c.fr,c.to,c.re,c.n,c.a,c.b⟩:Cl)=c:=by cases c;simp at hk;subst hk;rfl
     have rq:Pure Tryz.prog az 255 [.agg [I 1,I c.it,I c.fr,I c.to,I c.re,I c.n,I c.a,I c.b],I item,I region] (.bool false):=by simpa[Qg,hk]using hcp
     simp[h27,h7,ai,aa,ah,Qg,hk,gL,e1,dY,hw,We];refine⟨rq,aO,⟨i+1,by omega,by simp,C,rt,⟨rfl,rfl⟩,Lm,_,⟨rfl,rfl⟩,hs,by omega,by simp,aS,sF.app eG _⟩,by omega⟩
    have gL:(⟨2,c.it,c.fr,c.to,c.re,c.n,c.a,c.b⟩:Cl)=c:=by cases c;simp at hk;subst hk;rfl
    have rq:Pure Tryz.prog az 255 [.agg [I 2,I c.it,I c.fr,I c.to,I c.re,I c.n,I c.a,I c.b],I item,I region] (.bool false):=by simpa[Qg,hk]using hcp
    simp[h27,h7,ai,aa,ah,Qg,hk,gL,e1,dY,hw,We];refine⟨rq,aO,⟨i+1,by omega,by simp,C,rt,⟨rfl,rfl⟩,Lm,_,⟨rfl,rfl⟩,hs,by omega,by simp,aS,sF.app eG _⟩,by omega⟩
   |true=>
    rw[e1]at hcp;cases e2:Xl c with
    |false=>
     have hs:=skip (by simp[FN,e2]);rw[e2]at Ys;obtain hk|hk:=hk
     ·have gL:(⟨1,c.it,c.fr,c.to,c.re,c.n,c.a,c.b⟩:Cl)=c:=by cases c;simp at hk;subst hk;rfl
      have rq:Pure Tryz.prog az 255 [.agg [I 1,I c.it,I c.fr,I c.to,I c.re,I c.n,I c.a,I c.b],I item,I region] (.bool true):=by simpa[Qg,hk]using hcp
      have nR:Pure Tryz.prog az 83 [.agg [I 1,I c.it,I c.fr,I c.to,I c.re,I c.n,I c.a,I c.b]] (.bool false):=by simpa[Qg,hk]using Ys
      simp[h27,h7,ai,aa,ah,Qg,hk,gL,e1,e2,dY,hw,We];refine⟨rq,nR,aO,⟨i+1,by omega,by simp,C,rt,⟨rfl,rfl⟩,Lm,_,⟨rfl,rfl⟩,hs,by omega,by simp,aS,sF.app eG _⟩,by omega⟩
     have gL:(⟨2,c.it,c.fr,c.to,c.re,c.n,c.a,c.b⟩:Cl)=c:=by cases c;simp at hk;subst hk;rfl
     have rq:Pure Tryz.prog az 255 [.agg [I 2,I c.it,I c.fr,I c.to,I c.re,I c.n,I c.a,I c.b],I item,I region] (.bool true):=by simpa[Qg,hk]using hcp
     have nR:Pure Tryz.prog az 83 [.agg [I 2,I c.it,I c.fr,I c.to,I c.re,I c.n,I c.a,I c.b]] (.bool false):=by simpa[Qg,hk]using Ys
     simp[h27,h7,ai,aa,ah,Qg,hk,gL,e1,e2,dY,hw,We];refine⟨rq,nR,aO,⟨i+1,by omega,by simp,C,rt,⟨rfl,rfl⟩,Lm,_,⟨rfl,rfl⟩,hs,by omega,by simp,aS,sF.app eG _⟩,by omega⟩
    |true=>
     have ht:=take (by simp[FN,e1,e2,hk]);rw[e2]at Ys;obtain hk|hk:=hk
     ·have gL:(⟨1,c.it,c.fr,c.to,c.re,c.n,c.a,c.b⟩:Cl)=c:=by cases c;simp at hk;subst hk;rfl
      have rq:Pure Tryz.prog az 255 [.agg [I 1,I c.it,I c.fr,I c.to,I c.re,I c.n,I c.a,I c.b],I item,I region] (.bool true):=by simpa[Qg,hk]using hcp
      have nR:Pure Tryz.prog az 83 [.agg [I 1,I c.it,I c.fr,I c.to,I c.re,I c.n,I c.a,I c.b]] (.bool true):=by simpa[Qg,hk]using Ys
      obtain⟨rfl,rfl,rfl⟩|⟨aK,rfl,rfl⟩:=aS
      ·obtain⟨_,dV⟩|⟨hx,_⟩:=sF
       ·have K2:∀x,Qh (B++x) 0=[.sl .nil []]:=fun x=>by rw[Ql eG];exact dV
        have mg:∀x y,(B++x).set 0 y=B.set 0 y++x:=fun x y=>Yn y eG;simp[h27,h7,ai,aa,ah,Qg,hk,gL,e1,e2,dY,hw,K2,mg,eG,We];refine⟨rq,nR,aO,⟨i+1,by omega,by simp,[c],.own 0 8,⟨rfl,by simp[Qg,hk]⟩,[1],_,⟨rfl,rfl⟩,ht,by simp,by simp,.inr ⟨by simp,rfl,rfl⟩,.inr ⟨by simp,B.length+1,?_,by omega,by simp,?_⟩⟩,by omega⟩
        ·rw[Ql (by simpa using eG),Vr _ eG];rfl
        have:=Vk (B.set 0 [AV.bs (B.length+1) 0 2 1]) [[I 1,I c.it,I c.fr,I c.to,I c.re,I c.n,I c.a,I c.b],[AV.int IntKind.i64 c.fr,AV.int IntKind.i64 c.to]] 1;rw[zzca]at this;rw[this];rfl
       exact absurd rfl hx
      obtain⟨hx,_⟩|⟨_,aQ,dV,mJ,mP,hb3⟩:=sF
      ·exact absurd hx aK
      have K2:∀x,Qh (B++x) 0=[.bs aQ 0 (fc C).length 1]:=fun x=>by rw[Ql eG];exact dV
      have amL:∀x,Qh (B++x) aQ=aj (fc C):=fun x=>by rw[Ql mP];exact hb3
      have mg:∀x y,(B++x).set 0 y=B.set 0 y++x:=fun x y=>Yn y eG;have Tg:∀x y,(B++x).set aQ y=B.set aQ y++x:=fun x y=>Yn y mP;have iL:=pe C;have gr:=Uk (fc C);have sG:∀x,Qh (B.set aQ []++x) 0=[.bs aQ 0 (fc C).length 1]:=fun x=>by rw[Ql (by simpa using eG),Zy _ mJ,dV]
      have hss:∀x y,(B.set aQ []++x).set 0 y=(B.set aQ []).set 0 y++x:=fun x y=>Yn y (by simpa using eG);have bB:(aj (fc C)).take (fc C).length=aj (fc C):=zzap (by rw[gr];exact zzab _)
      have XA:aj (fc C)≠[]:=by
       intro h;have:=congrArg List.length h;rw[gr,iL]at this;exact aK (zzcc.1 (by simp at this;omega))
      simp[h27,h7,ai,aa,ah,Qg,hk,gL,e1,e2,dY,hw,K2,amL,mg,Tg,sG,hss,bB,XA,eG,mP,gr,We];refine⟨rq,nR,⟨?_,by omega⟩,⟨by omega,by omega⟩,aO,⟨i+1,by omega,by simp,C++[c],.own 0 8,⟨rfl,by simp[Qg,hk]⟩,[C.length+1],_,⟨rfl,rfl⟩,ht,by simp;omega,by simp,.inr ⟨by simp,rfl,by simp⟩,.inr ⟨by simp,B.length+1,?_,by omega,by simp,?_⟩⟩,by omega⟩
      ·rintro row (⟨a,_,rfl⟩|rfl)<;>rfl
      ·rw[Ql (by simpa using eG),Vr _ (by simpa using eG),o9];simp[fc]
      have:=Vk ((B.set aQ []).set 0 [AV.bs (B.length+1) 0 ((fc C).length+2) 1]) [[I 1,I c.it,I c.fr,I c.to,I c.re,I c.n,I c.a,I c.b],aj (fc C)++[AV.int IntKind.i64 c.fr,AV.int IntKind.i64 c.to]] 1;rw[zzca,zzca]at this;rw[this,o9,nL];rfl
     have gL:(⟨2,c.it,c.fr,c.to,c.re,c.n,c.a,c.b⟩:Cl)=c:=by cases c;simp at hk;subst hk;rfl
     have rq:Pure Tryz.prog az 255 [.agg [I 2,I c.it,I c.fr,I c.to,I c.re,I c.n,I c.a,I c.b],I item,I region] (.bool true):=by simpa[Qg,hk]using hcp
     have nR:Pure Tryz.prog az 83 [.agg [I 2,I c.it,I c.fr,I c.to,I c.re,I c.n,I c.a,I c.b]] (.bool true):=by simpa[Qg,hk]using Ys
     obtain⟨rfl,rfl,rfl⟩|⟨aK,rfl,rfl⟩:=aS
     ·obtain⟨_,dV⟩|⟨hx,_⟩:=sF
      ·have K2:∀x,Qh (B++x) 0=[.sl .nil []]:=fun x=>by rw[Ql eG];exact dV
       have mg:∀x y,(B++x).set 0 y=B.set 0 y++x:=fun x y=>Yn y eG;simp[h27,h7,ai,aa,ah,Qg,hk,gL,e1,e2,dY,hw,K2,mg,eG,We];refine⟨rq,nR,aO,⟨i+1,by omega,by simp,[c],.own 0 8,⟨rfl,by simp[Qg,hk]⟩,[1],_,⟨rfl,rfl⟩,ht,by simp,by simp,.inr ⟨by simp,rfl,rfl⟩,.inr ⟨by simp,B.length+1,?_,by omega,by simp,?_⟩⟩,by omega⟩
       ·rw[Ql (by simpa using eG),Vr _ eG];rfl
       have:=Vk (B.set 0 [AV.bs (B.length+1) 0 2 1]) [[I 2,I c.it,I c.fr,I c.to,I c.re,I c.n,I c.a,I c.b],[AV.int IntKind.i64 c.fr,AV.int IntKind.i64 c.to]] 1;rw[zzca]at this;rw[this];rfl
      exact absurd rfl hx
     obtain⟨hx,_⟩|⟨_,aQ,dV,mJ,mP,hb3⟩:=sF
     ·exact absurd hx aK
     have K2:∀x,Qh (B++x) 0=[.bs aQ 0 (fc C).length 1]:=fun x=>by rw[Ql eG];exact dV
     have amL:∀x,Qh (B++x) aQ=aj (fc C):=fun x=>by rw[Ql mP];exact hb3
     have mg:∀x y,(B++x).set 0 y=B.set 0 y++x:=fun x y=>Yn y eG;have Tg:∀x y,(B++x).set aQ y=B.set aQ y++x:=fun x y=>Yn y mP;have iL:=pe C;have gr:=Uk (fc C);have sG:∀x,Qh (B.set aQ []++x) 0=[.bs aQ 0 (fc C).length 1]:=fun x=>by rw[Ql (by simpa using eG),Zy _ mJ,dV]
     have hss:∀x y,(B.set aQ []++x).set 0 y=(B.set aQ []).set 0 y++x:=fun x y=>Yn y (by simpa using eG);have bB:(aj (fc C)).take (fc C).length=aj (fc C):=zzap (by rw[gr];exact zzab _)
     have XA:aj (fc C)≠[]:=by
      intro h;have:=congrArg List.length h;rw[gr,iL]at this;exact aK (zzcc.1 (by simp at this;omega))
     simp[h27,h7,ai,aa,ah,Qg,hk,gL,e1,e2,dY,hw,K2,amL,mg,Tg,sG,hss,bB,XA,eG,mP,gr,We];refine⟨rq,nR,⟨?_,by omega⟩,⟨by omega,by omega⟩,aO,⟨i+1,by omega,by simp,C++[c],.own 0 8,⟨rfl,by simp[Qg,hk]⟩,[C.length+1],_,⟨rfl,rfl⟩,ht,by simp;omega,by simp,.inr ⟨by simp,rfl,by simp⟩,.inr ⟨by simp,B.length+1,?_,by omega,by simp,?_⟩⟩,by omega⟩
     ·rintro row (⟨a,_,rfl⟩|rfl)<;>rfl
     ·rw[Ql (by simpa using eG),Vr _ (by simpa using eG),o9];simp[fc]
     have:=Vk ((B.set aQ []).set 0 [AV.bs (B.length+1) 0 ((fc C).length+2) 1]) [[I 2,I c.it,I c.fr,I c.to,I c.re,I c.n,I c.a,I c.b],aj (fc C)++[AV.int IntKind.i64 c.fr,AV.int IntKind.i64 c.to]] 1;rw[zzca,zzca]at this;rw[this,o9,nL];rfl
  have h1:¬c.ki=1:=fun h=>hk (.inl h);have h2:¬c.ki=2:=fun h=>hk (.inr h);have hs:=skip (by simp[FN,h1,h2]);simp[h27,h7,ai,aa,ah,Qg,h1,h2,dY,hw,We];refine⟨aO,⟨i+1,by omega,by simp,C,rt,⟨rfl,rfl⟩,Lm,_,⟨rfl,rfl⟩,hs,by omega,by simp,aS,sF.app eG _⟩,by omega⟩
 obtain rfl:i=cs.length:=by omega
 have hCe:C=CC:=by rw[<- hC];simp[Wl]
 subst hCe;have w11:IntKind.i64.wrap 1=1:=by rw[Qk]<;>omega
 obtain⟨rfl,rfl,rfl⟩|⟨aK,rfl,rfl⟩:=aS
 ·obtain⟨_,dV⟩|⟨h,_⟩:=sF
  ·have asd:dH []=[]:=by simp[dH,fc,dd]
   simp[h27,h7,dY,dV,We];refine pz _ _ _ _ ?_;simp[dV,We];refine C0 _ _ _ ?_;have awF:=X9 dV eG;have fq:∀x,Qh (B++x) 0=[.sl .nil []]:=fun x=>by rw[Ql eG,dV]
   simp[dV,awF,eG,fq,We,w11,bG];refine A1 [] (dH []) [] R 0 rfl (by rw[asd];rfl) (by omega) (by simp) (by rw[hR,asd];rfl) _ _ _ _ _ B.length .nil .nil eG (by simp) ?_ (fun _=>rfl) ?_ ?_ ?_ ?_ ?_ ?_ ?_ (fun h=>absurd rfl h);all_goals simp[Zi,aj]
  exact absurd rfl h
 obtain⟨h,_⟩|⟨_,aQ,dV,mJ,mP,hb3⟩:=sF
 ·exact absurd h aK
 simp[h27,h7,dY,dV,We];have iL:=pe C
 have XA:aj (fc C)≠[]:=by
  intro h;have:=congrArg List.length h;rw[Uk,iL]at this;exact aK (zzcc.1 (by simp at this;omega))
 refine sH _ (fc C) (by rw[iL];omega) _ aQ [] ?_ (by simpa using XA) _ ?_
 ·show B[aQ]?=_;rw[Ug mP,hb3,zzat]
 obtain⟨l,AW⟩:∃l,(fc C).mergeSort (fun x y=>decide (x<=y))=l:=⟨_,rfl⟩;have zF:(fc C).length=l.length:=by rw[<- AW,zzes]
 have hdl:dd l=dH C:=by rw[<- AW];rfl
 have ae5:∀X,Qh (B.set aQ X) 0=[.bs aQ 0 (fc C).length 1]:=fun X=>by rw[Zy _ mJ];exact dV
 have awG:l≠[]:=by
  intro h;have:=congrArg List.length h;rw[<- zF,iL]at this;exact aK (zzcc.1 (by simp at this;omega))
 simp[AM.wr,AW,ae5,zF,We];refine sE _ l (by rw[<- zF,iL];omega) _ _ _ _ aQ (by simpa using mP) awG (Vr _ mP) _ ?_;intro B2 z cV oB hz;rw[hdl]at oB hz |-
 have ase:0<B2.length:=by have:=cV.1;simp at this;omega
 have awH:Qh B2 0=[.bs aQ 0 l.length 1]:=by rw[cV.2 0 (by simpa using eG) (fun h=>mJ h.symm),ae5,zF]
 have ayh:aQ<B2.length:=by have:=cV.1;simp at this;omega
 obtain⟨B3,YA⟩:∃B3,B2.set 0 [.bs aQ 0 (dH C).length 1]=B3:=⟨_,rfl⟩;have awI:B3.length=B2.length:=by rw[<- YA];simp
 have amM:Qh B3 0=[.bs aQ 0 (dH C).length 1]:=by rw[<- YA];exact Vr _ ase
 have awJ:Qh B3 aQ=aj (dH C++z):=by rw[<- YA,Zy _ (fun h=>mJ h.symm)];exact oB
 have awK:∀x,Qh (B3++x) 0=[.bs aQ 0 (dH C).length 1]:=fun x=>by rw[Ql (by omega)];exact amM
 have awL:0<B3.length:=by omega
 have ayi:=Oo C;have Th:IntKind.i64.wrap (((dH C).length:Int)+1)=((dH C).length:Int)+1:=by rw[Qk]<;>omega
 have htn:(((dH C).length:Int)+1).toNat=(dH C).length+1:=by omega
 have AB:(0:Int)<=((dH C).length:Int)+1:=by omega
 have hf1:=X0 (dH C).length;have hf2:=FI ((dH C).length+1);simp[awH,ase,YA,amM,awK,Th,htn,AB,hf1,hf2,awI.symm,awL,We];refine⟨⟨by omega,by omega⟩,⟨by omega,by omega⟩,?_⟩;refine A1 C (dH C) z R (dH C).length rfl rfl (by omega) (by omega) hR _ _ _ _ _ B3.length (.own 0 8) .ro (by omega) (by simp) ?_ (fun _=>rfl) ?_ ?_ ?_ ?_ ?_ ?_ ?_ (fun _=>⟨aQ,by rw[Ql (by omega)];exact amM,by rw[Ql (by omega)];exact awJ,by omega,by omega⟩);all_goals simp
end Go.Proofs.YtnopaopphmjnmaaGreatDoor
