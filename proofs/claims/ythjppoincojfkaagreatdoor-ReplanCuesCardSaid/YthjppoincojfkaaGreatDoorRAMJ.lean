import Derived.Test.YthjppoincojfkaaGreatDoorRAMI
set_option linter.all false
set_option maxRecDepth 100000
set_option maxHeartbeats 64000000
namespace Go.Proofs.YthjppoincojfkaaGreatDoor
open Go Go.Abs
def xk:∀(cs:List Cl)(n i:Nat)(x:P2),n<=cs.length->(P7 cs n)[i]?=some x->∃(k:Nat)(c:Cl),cs[k]?=some c/\k+1+i=n/\x=[I (k:Int),.agg (Qg c)]
 |cs,0,i,x,_,h=>by simp[P7]at h
 |cs,n+1,0,x,hn,h=>by
  rw[nF]at h;simp at h;obtain⟨c,hc⟩:∃c,cs[n]?=some c:=⟨_,zzaf zE⟩;refine⟨n,c,hc,zE,?_⟩;rw[<- h];simp[hc]
 |cs,n+1,i+1,x,hn,h=>by
  rw[nF]at h;obtain⟨k,c,h1,h2,h3⟩:=xk cs n i x zE (Nm h);exact⟨k,c,h1,zE,h3⟩
def FQ(cs:List Cl)(n:Nat):(P7 cs n).length=n:=by simp[P7]
def FR{cs:List Cl}{n:Nat}:∀x∈P7 cs n,x.length=2:=by
 intro x hx;simp[P7]at hx;obtain⟨k,_,rfl⟩:=hx;rfl
structure Si (C:List Cl) (Bd z:Pi) (n b:Nat) (s:GS) (L:Pa) (bx:T5):Prop where
 len:b+4<bx.length
 g1:Qj bx (b+1)=[.bs b 0 n 1]
 g:Qj bx b=Zi (gB s)
 l1:Qj bx (b+3)=[.bs (b+2) 0 (n+1) 1]
 l:Qj bx (b+2)=Xr L
 f:Qj bx (b+4)=[.fn 192 [] [.ptr (b+3) 0]]
 bd:C≠[]->∃cH,Qj bx 0=[.bs cH 0 n 1]/\Qj bx cH=aj (Bd++z)/\0<cH/\cH<b
def Si.app{C:List Cl}{Bd z:Pi}{n b:Nat}{s:GS}{L:Pa}{bx:T5}(h:Si C Bd z n b s L bx)(x:T5):Si C Bd z n b s L (bx++x):=by
 have hl:=h.len;refine⟨by simp;omega,by rw[Qn zE];exact h.g1,by rw[Qn zE];exact h.g,by rw[Qn zE];exact h.l1,by rw[Qn zE];exact h.l,by rw[Qn zE];exact h.f,fun hc=>?_⟩;obtain⟨cH,h1,h2,h3,h4⟩:=h.bd hc;exact⟨cH,by rw[Qn zE];exact h1,by rw[Qn zE];exact h2,h3,h4⟩
def Si.later{C:List Cl}{Bd z:Pi}{n b:Nat}{s:GS}{L L':Pa}{bx bx':T5}(h:Si C Bd z n b s L bx)(hb:0<b)(hk:bB (·=b+2) bx bx')(hl:Qj bx' (b+2)=Xr L'):Si C Bd z n b s L' bx':=by
 have aH:=h.len;have k:∀j,j<bx.length->j≠b+2->Qj bx' j=Qj bx j:=hk.2;refine⟨by have:=hk.1;omega,by rw[k _ zE zE];exact h.g1,by rw[k _ zE zE];exact h.g,by rw[k _ zE zE];exact h.l1,hl,by rw[k _ zE zE];exact h.f,fun hc=>?_⟩;obtain⟨cH,h1,h2,h3,h4⟩:=h.bd hc;exact⟨cH,by rw[k _ zE zE];exact h1,by rw[k _ zE zE];exact h2,h3,h4⟩
def Si.put{C:List Cl}{Bd z:Pi}{n b:Nat}{s:GS}{L:Pa}{bx:T5}(h:Si C Bd z n b s L bx)(hb:0<b)(k:Nat)(v:Bool):
  Si C Bd z n b (s.set k (some v)) (L.set k (k+1)) ((bx.set b (Zi ((gB s).set k v))).set (b+2) (Xr (L.set k (k+1)))):=by
 have aH:=h.len
 have e:∀j,j≠b->j≠b+2->Qj ((bx.set b (Zi ((gB s).set k v))).set (b+2) (Xr (L.set k (k+1)))) j=Qj bx j:=fun j h1 h2=>by
  rw[Yc _ (fun h=>h2 h.symm),Yc _ (fun h=>h1 h.symm)]
 refine⟨Nm aH,by rw[e _ zE zE];exact h.g1,?_,by rw[e _ zE zE];exact h.l1,by rw[Yi _ (by simp;omega)],by rw[e _ zE zE];exact h.f,fun hc=>?_⟩
 ·rw[Yc _ zE,Yi _ zE,alS]
 obtain⟨cH,h1,h2,h3,h4⟩:=h.bd hc;exact⟨cH,by rw[e _ zE zE];exact h1,by rw[e _ zE zE];exact h2,h3,h4⟩
def aed(Bd:Pi)(s:GS)(c:Cl):(P8 Bd s c).length=s.length:=by simp[P8,rf]
def xm(Bd:Pi):∀(l:List Cl)(s:GS),(l.foldl (P8 Bd) s).length=s.length
 |[],_=>rfl
 |c::l,s=>by rw[zzcy,xm Bd l,aed]
def A2(Bd:Pi):∀(l:List Cl)(s:GS)(i:Nat)(v:Bool),(∀c∈l,c.to∈Bd)->(∀v,s[i]?≠some (some v))->(l.foldl (P8 Bd) s)[i]?=some (some v)->i+1<Bd.length+0\/i+1<=Bd.length-1
 |[],s,i,v,_,h0,h=>absurd h (h0 v)
 |c::l,s,i,v,hc,h0,h=>by
  rw[zzcy]at h;by_cases h1:∃v,(P8 Bd s c)[i]?=some (some v)
  ·obtain⟨v',h2⟩:=h1;unfold P8 at h2;rw[Ux]at h2;cases hs:s[i]? with
   |none=>rw[hs]at h2;cases h2
   |some o=>
    rw[hs]at h2;simp only[zzcs,Option.some.injEq]at h2;split at h2
    ·rename_i h3;have:=KB (hc c zd);exact .inl zE
    subst h2;exact absurd hs (h0 v')
  exact A2 Bd l _ i v (fun c h=>hc c (by simp[h])) (fun v hv=>h1 ⟨v,hv⟩) h
def NS(s:GS)(j:Nat)(h:nH s j=true):s[j]?≠some none:=by
 intro h';unfold nH at h;rw[h']at h;cases h
def XE{s:GS}{j:Nat}(h:nH s j=false)(hj:j<s.length):s[j]?=some none:=by
 unfold nH at h;obtain⟨o,ho⟩:=aV hj;rw[ho]at h |-
 cases o with
 |none=>rfl
 |some v=>cases h
def KC(s:GS)(a q r:Nat)(v:Bool)(hq:q<=r)(h:∀j,a<=j->j<r->nH s j=true):stepG s a q v=s:=by
 rcases zzhj a q with h1|h1
 ·rw[xe s a a q v h1 (fun j h2 h3=>NS s j (h j h2 zE)),A1 _ _ _ _ (zzab _)]
 exact A1 _ _ _ _ h1
def A3(C:List Cl)(Bd z:Pi)(R:List Sp)(n:Nat)(hBd:Bd=dJ C)(hn:Bd.length=n)(hn9:n<=10000000)(hCl:C.length<=1000000)(hR:R=Xl (nG Bd (xd C) n))(E:QQ)(B:T5)(Lm:Pa)(st:Nat->LS)(ln:Nat)(b:Nat)(rt za:Rt)
  (hb:0<b)(vN:B.length=b+4)(h7:Abs.look E 7=.sl rt (C.map Qg))(aX:∀m,bz m 6 (.sl rt (C.map Qg))=.sl za (C.map Qg))(h8:Abs.look E 8=.ptr 0 0)(pE:Abs.look E 11=.ptr (b+1) 0)(qv:Abs.look E 12=.ptr (b+3) 0)
  (hg1:Qj B (b+1)=[.bs b 0 n 1])(hg:Qj B b=Zi (List.replicate n false))(gO:Qj B (b+3)=[.bs (b+2) 0 (n+1) 1])(hl:Qj B (b+2)=aj (List.replicate (n+1) 0))
  (ef:C≠[]->∃cH,Qj B 0=[.bs cH 0 n 1]/\Qj B cH=aj (Bd++z)/\0<cH/\cH<b):
  vc Tryz.prog aD (Wh Bd R) Y0 (XA C4) ⟨Vy 145 E,⟨B,Lm,st,ln⟩⟩ (post Tryz.prog aD (Wh Bd R) Es (.sl .ro (R.map Qe))):=by
 simp[XA,qv,gO]
 refine Qk IY (fun f m=>∃(i:Nat)(B':T5)(L':Pi),i<=n+1/\f 74=I i/\m=⟨B',Lm,st,ln⟩/\bB (·=b+2) B B'/\B'.length=B.length/\Qj B' (b+2)=aj L'/\L'.length=n+1/\∀j:Nat,j<i->L'[j]?=some (j:Int))
  (fun f _=>n+1-(numOf (f 74)).toNat) ?_ ?_
 ·exact⟨0,B,List.replicate (n+1) 0,zE,zd,rfl,bB.refl _ _,rfl,hl,zd,fun j h=>zE⟩
 rintro f m ⟨i,B',L',hi,h74,rfl,nE,FN,eZ,tV,Av⟩;have asb:Qj B' (b+3)=[.bs (b+2) 0 (n+1) 1]:=by rw[nE.2 _ zE zE];exact gO
 rcases zzaa i (n+1)with ai|bn
 ·have aa:(i:Int)<(n:Int)+1:=zE
  have hw:=bO i zE;have bS:=J8 L' i (i:Int);have aH:=Ui L';have fV:b+2<B'.length:=zE
  simp[h74,aa,ai,IY,qv,asb,eZ,hw,bS,aH,tV,fV];refine⟨zE,aQ,⟨i+1,zE,zd,nE.set (.inl rfl) _,FN,L'.set i (i:Int),Yi _ fV,Nm tV,fun j hj=>?_⟩,zE⟩
  ·by_cases hji':j=i
   ·subst hji';rw[zzbf zE]
   rw[zzbn (fun h=>hji' h.symm)];exact Av j zE
 obtain rfl:i=n+1:=zE
 have hLr:L'=(List.range (n+1)).map fun(k:Nat)=>(k:Int):=by
  apply zzda;intro j;by_cases hj:j<n+1
  ·rw[Av j hj];simp[hj]
  rw[zzat zE,zzat (by simp;omega)]
 have awN:Qj B' (b+2)=Xr (List.range (n+1)):=by rw[eZ,hLr];rfl
 have bQ:¬((n:Int)+1)<(n:Int)+1:=zE
 have awO:Si C Bd z n b (List.replicate n none) (List.range (n+1)) (B'++[[.fn 192 [] [.ptr (b+3) 0]]]):=by
  have k:∀j,j<B.length->j≠b+2->Qj B' j=Qj B j:=nE.2;refine⟨by simp;omega,?_,?_,?_,?_,?_,fun hc=>?_⟩
  ·rw[Qn zE,k _ zE zE];exact hg1
  ·rw[Qn zE,k _ zE zE,aeb];exact hg
  ·rw[Qn zE];exact asb
  ·rw[Qn zE];exact awN
  ·have:b+4=B'.length:=zE
   rw[this];simp
  obtain⟨cH,h1,h2,h3,h4⟩:=ef hc;exact⟨cH,by rw[Qn zE,k _ zE zE];exact h1,by rw[Qn zE,k _ zE zE];exact h2,h3,h4⟩
 have alV:=Xp (l:=[.sl za (C.map Qg)]) (mj C) ⟨Wk.sl _ _,trivial⟩;have cU:=mq C zE;have sB:=fun s hs hR E=>xh Bd z s R n hs hn9 hR E
 have A4:∀y,Qj (B'++[y]) (b+4)=y:=fun y=>by
  have:b+4=B'.length:=zE
  rw[this];simp
 simp[h74,IY,h7,qv,aX,FN,vN,A4,Wh];refine⟨alV,?_⟩;refine jk (xs:=P7 C C.length) zd cU FR (fun i m=>∃(s:GS)(L:Pa),s=(C.reverse.take i).foldl (P8 Bd) (List.replicate n none)/\WF L (nH s) n/\Si C Bd z n b s L m.boxes) (fun _ _=>False) ?_ ?_ (fun _ _ _ h=>h.elim) ?_ ?_ (fun _ _ h=>h.elim)
 ·exact⟨_,_,zd,WF.init n _ (fun j=>by simp[nH,zzcl]),awO⟩
 ·rintro i m m' ⟨s,L,h1,h2,h3⟩ ⟨⟨bx,e1⟩,_,_⟩;exact⟨s,L,h1,h2,by rw[e1];exact h3.app bx⟩
 ·rintro l i m x hg hr ⟨s,L,hs,hWF,hSt⟩ hx K' k1 _ _;obtain⟨k,c,hc,hk,rfl⟩:=xk C C.length i x (zzab _) hx;rw[Jm]at hSt;have hcm:c∈C:=zzae hc;have alW:C≠[]:=List.ne_nil_of_mem hcm
  have awP:C.reverse[i]?=some c:=by
   rw[List.getElem?_reverse zE];rw[show C.length-1-i=k by omega];exact hc
  have FT:s.length=n:=by rw[hs,xm];simp
  have dK:(C.reverse.take (i+1)).foldl (P8 Bd) (List.replicate n none)=P8 Bd s c:=by
   rw[zzax,awP,zzgh,<- hs];rfl
  obtain⟨cH,d1,d2,d3,d4⟩:=hSt.bd alW;have gF:∀m,(aj (Bd++z)).map (bz m 5)=aj (Bd++z):=fun m=>Ve m 4 (WW _);have fE:aY 1 n (aj (Bd++z))=Bd.map fun x=>[I x]:=by rw[<- hn,nD];exact w9 Bd _
  have qu:n<=(aj (Bd++z)).length:=by rw[Ui];simp;omega
  have nI:Bd.Pairwise (·<=·):=by rw[hBd];exact(NQ C).imp (fun h=>Int.le_of_lt h)
  have b1:=pe Bd c.fr zE nI;have b2:=pe Bd c.to zE nI;have hto:c.to∈Bd:=by rw[hBd,uI];exact(pz hcm).2
  have he:=KB hto;have ha:=alT Bd c.fr;have bZ:P8 Bd s c=stepG s (qZ Bd c.fr) (qZ Bd c.to) (decide (c.ki=1)):=rfl;rw[bZ]at dK;obtain⟨a,hae⟩:∃a,qZ Bd c.fr=a:=⟨_,rfl⟩;obtain⟨e,hee⟩:∃e,qZ Bd c.to=e:=⟨_,rfl⟩;obtain⟨v,hv⟩:∃v,(c.ki==1)=v:=⟨_,rfl⟩;have ER:decide (c.ki=1)=v:=hv;rw[hae,hee,ER]at dK;rw[hae]at b1 ha;rw[hee]at b2 he;have aH:=hSt.len;have f0:∀x,Qj (m.boxes++x) 0=[.bs cH 0 n 1]:=fun x=>by rw[Qn zE];exact d1
  have fb:∀x,Qj (m.boxes++x) cH=aj (Bd++z):=fun x=>by rw[Qn zE];exact d2
  have ff:∀x,Qj (m.boxes++x) (b+4)=[.fn 192 [] [.ptr (b+3) 0]]:=fun x=>by rw[Qn zE];exact hSt.f
  simp[hr,Zr,Qg,h8,Wh,f0,fb,ff,gF,fE,qu,hae,hee];refine⟨b1,b2,?_⟩;have alX:=hSt.app [[I c.ki,I c.it,I c.fr,I c.to,I c.re,I c.n,I c.a,I c.b]];refine NP Y0 a n (b+3) (b+2) L (nH s) hWF zE zE _ _ _ _ (by simp;omega) (by simp;omega) zE alX.l1 alX.l _ ?_;intro B1 L1 r dD gO P9 har hrn fu CI;have awQ:=alX.later hb dD gO;have awR:m.boxes.length<B1.length:=by have:=dD.1;simp at this;omega
  have asc:Qj B1 m.boxes.length=[I c.ki,I c.it,I c.fr,I c.to,I c.re,I c.n,I c.a,I c.b]:=by
   rw[dD.2 _ zd zE];simp
  have Nn:stepG s a (min r e) v=s:=KC s a _ r v zE CI;simp
  refine Qk IZ (fun g m2=>∃(k:Nat)(B2:T5)(L2:Pa),g 21=I k/\a<=k/\k<=n/\m2=⟨B2,m.lens,uC m.st l .busy,m.ln⟩/\WF L2 (nH (stepG s a (min k e) v)) n/\nH (stepG s a (min k e) v) k=false/\
   Si C Bd z n b (stepG s a (min k e) v) L2 B2/\m.boxes.length<B2.length/\Qj B2 m.boxes.length=[I c.ki,I c.it,I c.fr,I c.to,I c.re,I c.n,I c.a,I c.b]) (fun g _=>n-(numOf (g 21)).toNat) ?_ ?_
  ·exact⟨r,B1,L1,zd,har,hrn,rfl,by rw[Nn];exact P9,by rw[Nn];exact fu,by rw[Nn];exact awQ,awR,asc⟩
  rintro g m2 ⟨k,B2,L2,g21,hak,D8,rfl,QA,W8,A5,hlt2,hrow2⟩;rcases zzaa k e with hke|hke
  ·have xq:min k e=k:=zE
   rw[xq]at QA W8 A5;have awS:(stepG s a k v).length=n:=by rw[rf,FT]
   have asd:k<n:=zE
   have XF:=XE W8 zE
   have hsk:s[k]?=some none:=by
    rw[Ux]at XF;cases hq:s[k]? with
    |none=>rw[hq]at XF;cases XF
    |some o=>rw[hq]at XF;simpa using XF
   have dO:=KA s a k v hak hsk;obtain⟨sL,C5⟩:=W9 (stepG s a k v) k v zE;have hW3:=WF.dec QA asd sL C5;have hS3:=A5.put hb k v;have ase:(k:Int)<(e:Int):=zE
   have asf:(k:Int)<(n:Int):=zE
   have alY:(k:Int)<(n:Int)+1:=zE
   have awT:k<n+1:=zE
   have P5:IntKind.i64.wrap ((k:Int)+1)=(k:Int)+1:=by rw[Ql]<;>omega
   have jH:=alR (gB (stepG s a k v)) k v;have R9:(Xr L2).set k (I ((k:Int)+1))=Xr (L2.set k (k+1)):=by have:=W5 L2 k (k+1);simpa using this
   have eR:=alP (gB (stepG s a k v));have gr:(gB (stepG s a k v)).length=n:=by simp[gB,awS]
   have hnl:=W4 L2;have hL2:=QA.1;have eD:=A5.len;have q1:∀X,Qj (B2.set b X) (b+3)=[.bs (b+2) 0 (n+1) 1]:=fun X=>by rw[Yc _ zE];exact A5.l1
   have q2:∀X,Qj (B2.set b X) (b+2)=Xr L2:=fun X=>by rw[Yc _ zE];exact A5.l
   have q3:∀X Z,Qj ((B2.set b X).set (b+2) Z) (b+4)=[.fn 192 [] [.ptr (b+3) 0]]:=fun X Z=>by rw[Yc _ zE,Yc _ zE];exact A5.f
   have dz:b<B2.length:=zE
   have fV:b+2<B2.length:=zE
   simp[g21,ase,hke,IZ,pE,qv,A5.g1,A5.g,hrow2,hv,asf,asd,alY,awT,P5,jH,R9,eR,gr,hnl,hL2,q1,q2,q3,dz,fV,Wh];have hl3:=hS3.len
   have ash:Qj ((B2.set b (Zi ((gB (stepG s a k v)).set k v))).set (b+2) (Xr (L2.set k (k+1)))) m.boxes.length=[I c.ki,I c.it,I c.fr,I c.to,I c.re,I c.n,I c.a,I c.b]:=by
    rw[Yc _ zE,Yc _ zE];exact hrow2
   have awU:m.boxes.length<((B2.set b (Zi ((gB (stepG s a k v)).set k v))).set (b+2) (Xr (L2.set k (k+1)))).length:=by simpa using hlt2
   refine⟨zE,zE,NP Y0 k n (b+3) (b+2) _ _ hW3 D8 zE _ _ _ _ zE zE zE hS3.l1 hS3.l _ ?_⟩;intro B4 L4 r4 NT hl4 hW4 awV awW alZ awX;have hS4:=hS3.later hb NT hl4;have awY:m.boxes.length<B4.length:=by have:=NT.1;omega
   have asi:Qj B4 m.boxes.length=[I c.ki,I c.it,I c.fr,I c.to,I c.re,I c.n,I c.a,I c.b]:=by
    rw[NT.2 _ awU zE];exact ash
   have hr4:k+1<=r4:=by
    rcases Nat.eq_or_lt_of_le awV with h|h
    ·subst h;rw[sL]at alZ;cases alZ
    exact h
   have FU:stepG s a (min r4 e) v=(stepG s a k v).set k (some v):=by
    rw[<- dO];refine xe s a (k+1) (min r4 e) v zE (fun j dW ou=>?_);have h1:=NS _ j (awX j zE zE);rw[zzbn zE,Ux]at h1;intro h2;rw[h2]at h1;simp at h1;omega
   simp;refine⟨aQ,⟨r4,rfl,zE,awW,L4,by rw[FU];exact hW4,by rw[FU];exact alZ,by rw[FU];exact hS4,awY,asi⟩,zE⟩
  have xq:min k e=e:=zE
  rw[xq]at QA W8 A5;have awZ:¬(k:Int)<(e:Int):=zE
  simp[g21,awZ,zzbk.2 hke,IZ];exact k1 _ ⟨stepG s a e v,L2,dK.symm,QA,A5⟩
 rintro m ⟨s,L,hs,hWF,hSt⟩;rw[FQ]at hs;rw[zzau zd]at hs;have hsf:s=xd C:=by rw[hs];unfold xd;rw[<- hBd,hn]
 rw[<- hsf]at hR;have FT:s.length=n:=by rw[hs,xm];simp
 refine xh Bd z s R n FT hn9 hR _ m.boxes m.lens m.st m.ln b (b+1) Bd ?_ ?_ hSt.g1 hSt.g ?_
 ·simp[h8]
 ·simp[pE]
 intro i hi
 have alW:C≠[]:=by
  rintro rfl;rw[hs]at hi;simp[zzcl]at hi
 obtain⟨cH,d1,d2,_,_⟩:=hSt.bd alW;refine⟨cH,d1,d2,?_,hn⟩;rw[hs]at hi;have:=A2 Bd C.reverse _ i true (fun c hc=>by rw[hBd,uI];exact(pz (zzfh.1 hc)).2) (fun v=>by simp[zzcl]) hi;omega
section
variable (cs:List Cl) (item region:Int)
def aw0(C:List Cl)(rt:Rt)(Lm:Pa):Prop:=(C=[]/\rt=.nil/\Lm=[])\/(C≠[]/\rt=.own 0 8/\Lm=[C.length])
end
def XG{B:T5}{i:Nat}{v:P2}(h:Qj B i=v)(hi:i<B.length):B.set i v=B:=by
 apply zzda;intro j;by_cases hj:j=i
 ·subst hj;rw[zzbf hi,Jj hi,h]
 rw[zzbn (fun e=>hj e.symm)]
def KD(cs:List Cl)(item region:Int)(hl:cs.length<=1000000):Pure Tryz.prog aD 136 [.sl .ro (cs.map Qg),I item,I region] (.sl .ro ((Qcq cs item region).map Qe)):=by
 have hR:Qcq cs item region=Xl (nG (dJ (Wm cs item region)) (xd (Wm cs item region)) (dJ (Wm cs item region)).length):=rfl;have hCl:(Wm cs item region).length<=cs.length:=zzca _ _;obtain⟨CC,hCC⟩:∃CC,Wm cs item region=CC:=⟨_,rfl⟩;rw[hCC]at hR hCl;generalize Qcq cs item region=R at hR;refine Qo ab0 (Wh (dJ CC) R) zd ?_;rw[XB];simp[aiH]
 refine Qk dV (fun f m=>∃(i:Nat)(C:List Cl)(rt:Rt)(Lm:Pa)(B:T5),i<=cs.length/\f 27=I i/\f 7=.sl rt (C.map Qg)/\m=⟨B,Lm,fun _=>.gone,0⟩/\C++Wm (cs.drop i) item region=CC/\
   C.length<=i/\0<B.length/\aw0 C rt Lm/\aec B C) (fun f _=>cs.length-(numOf (f 27)).toNat) ?_ ?_
 ·exact⟨0,[],.nil,[],[[.sl .nil []]],zE,zd,zd,rfl,Nm hCC,zd,zd,.inl ⟨rfl,rfl,rfl⟩,.inl ⟨rfl,rfl⟩⟩
 rintro f m ⟨i,C,rt,Lm,B,hi,h27,h7,rfl,hC,hCi,gG,aX,ef⟩;rcases zzaa i cs.length with ai|bn
 ·obtain⟨c,hc⟩:=aV ai;have ah:Qj (cs.map Qg) i=Qg c:=Qu (by simp[hc]);have aa:(i:Int)<(cs.length:Int):=zE
  have hw:=bO i zE;have hd:cs.drop i=c::cs.drop (i+1):=by rw[zzag ai,(zza.1 hc).2]
  have hcp:=mw c item region;have QB:=Ky c;rw[hd]at hC
  have skip:FO item region c=false->C++Wm (cs.drop (i+1)) item region=CC:=by
   intro hb;rw[<- hC];simp[Wm,hb]
  have take:FO item region c=true->(C++[c])++Wm (cs.drop (i+1)) item region=CC:=by
   intro hb;rw[<- hC];simp[Wm,hb]
  have ic:∀x,Qj (B++x) 0=Qj B 0:=fun x=>Qn gG;by_cases hk:c.ki=1\/c.ki=2
  ·cases e1:gR c item region with
   |false=>
    have hs:=skip (by simp[FO,e1]);rw[e1]at hcp;obtain hk|hk:=hk
    ·have eC:(⟨1,c.it,c.fr,c.to,c.re,c.n,c.a,c.b⟩:Cl)=c:=by cases c;simp at hk;subst hk;rfl
     have rj:Pure Tryz.prog aD 191 [.agg [I 1,I c.it,I c.fr,I c.to,I c.re,I c.n,I c.a,I c.b],I item,I region] (.bool false):=by simpa[Qg,hk]using hcp
     simp[h27,h7,ai,aa,ah,Qg,hk,eC,e1,dV,hw,Wh];refine⟨rj,aQ,⟨i+1,zE,zd,C,rt,⟨rfl,rfl⟩,Lm,_,⟨rfl,rfl⟩,hs,zE,zd,aX,ef.app gG _⟩,zE⟩
    have eC:(⟨2,c.it,c.fr,c.to,c.re,c.n,c.a,c.b⟩:Cl)=c:=by cases c;simp at hk;subst hk;rfl
    have rj:Pure Tryz.prog aD 191 [.agg [I 2,I c.it,I c.fr,I c.to,I c.re,I c.n,I c.a,I c.b],I item,I region] (.bool false):=by simpa[Qg,hk]using hcp
    simp[h27,h7,ai,aa,ah,Qg,hk,eC,e1,dV,hw,Wh];refine⟨rj,aQ,⟨i+1,zE,zd,C,rt,⟨rfl,rfl⟩,Lm,_,⟨rfl,rfl⟩,hs,zE,zd,aX,ef.app gG _⟩,zE⟩
   |true=>
    rw[e1]at hcp;cases e2:Zd c with
    |false=>
     have hs:=skip (by simp[FO,e2]);rw[e2]at QB;obtain hk|hk:=hk
     ·have eC:(⟨1,c.it,c.fr,c.to,c.re,c.n,c.a,c.b⟩:Cl)=c:=by cases c;simp at hk;subst hk;rfl
      have rj:Pure Tryz.prog aD 191 [.agg [I 1,I c.it,I c.fr,I c.to,I c.re,I c.n,I c.a,I c.b],I item,I region] (.bool true):=by simpa[Qg,hk]using hcp
      have nJ:Pure Tryz.prog aD 48 [.agg [I 1,I c.it,I c.fr,I c.to,I c.re,I c.n,I c.a,I c.b]] (.bool false):=by simpa[Qg,hk]using QB
      simp[h27,h7,ai,aa,ah,Qg,hk,eC,e1,e2,dV,hw,Wh];refine⟨rj,nJ,aQ,⟨i+1,zE,zd,C,rt,⟨rfl,rfl⟩,Lm,_,⟨rfl,rfl⟩,hs,zE,zd,aX,ef.app gG _⟩,zE⟩
     have eC:(⟨2,c.it,c.fr,c.to,c.re,c.n,c.a,c.b⟩:Cl)=c:=by cases c;simp at hk;subst hk;rfl
     have rj:Pure Tryz.prog aD 191 [.agg [I 2,I c.it,I c.fr,I c.to,I c.re,I c.n,I c.a,I c.b],I item,I region] (.bool true):=by simpa[Qg,hk]using hcp
     have nJ:Pure Tryz.prog aD 48 [.agg [I 2,I c.it,I c.fr,I c.to,I c.re,I c.n,I c.a,I c.b]] (.bool false):=by simpa[Qg,hk]using QB
     simp[h27,h7,ai,aa,ah,Qg,hk,eC,e1,e2,dV,hw,Wh];refine⟨rj,nJ,aQ,⟨i+1,zE,zd,C,rt,⟨rfl,rfl⟩,Lm,_,⟨rfl,rfl⟩,hs,zE,zd,aX,ef.app gG _⟩,zE⟩
    |true=>
     have ht:=take (by simp[FO,e1,e2,hk]);rw[e2]at QB;obtain hk|hk:=hk
     ·have eC:(⟨1,c.it,c.fr,c.to,c.re,c.n,c.a,c.b⟩:Cl)=c:=by cases c;simp at hk;subst hk;rfl
      have rj:Pure Tryz.prog aD 191 [.agg [I 1,I c.it,I c.fr,I c.to,I c.re,I c.n,I c.a,I c.b],I item,I region] (.bool true):=by simpa[Qg,hk]using hcp
      have nJ:Pure Tryz.prog aD 48 [.agg [I 1,I c.it,I c.fr,I c.to,I c.re,I c.n,I c.a,I c.b]] (.bool true):=by simpa[Qg,hk]using QB
      obtain⟨rfl,rfl,rfl⟩|⟨aO,rfl,rfl⟩:=aX
      ·obtain⟨_,dY⟩|⟨hx,_⟩:=ef
       ·have KE:∀x,Qj (B++x) 0=[.sl .nil []]:=fun x=>by rw[Qn gG];exact dY
        have lK:∀x y,(B++x).set 0 y=B.set 0 y++x:=fun x y=>Ym y gG;simp[h27,h7,ai,aa,ah,Qg,hk,eC,e1,e2,dV,hw,KE,lK,gG,Wh];refine⟨rj,nJ,aQ,⟨i+1,zE,zd,[c],.own 0 8,⟨rfl,by simp[Qg,hk]⟩,[1],_,⟨rfl,rfl⟩,ht,zd,zd,.inr ⟨zd,rfl,rfl⟩,.inr ⟨zd,B.length+1,?_,zE,zd,?_⟩⟩,zE⟩
        ·rw[Qn (Nm gG),Yi _ gG];rfl
        have:=Vq (B.set 0 [AV.bs (B.length+1) 0 2 1]) [[I 1,I c.it,I c.fr,I c.to,I c.re,I c.n,I c.a,I c.b],[AV.int IntKind.i64 c.fr,AV.int IntKind.i64 c.to]] 1;rw[zzcf]at this;rw[this];rfl
       exact absurd rfl hx
      obtain⟨hx,_⟩|⟨_,cH,dY,dz,fV,hb3⟩:=ef
      ·exact absurd hx aO
      have KE:∀x,Qj (B++x) 0=[.bs cH 0 (eM C).length 1]:=fun x=>by rw[Qn gG];exact dY
      have al0:∀x,Qj (B++x) cH=aj (eM C):=fun x=>by rw[Qn fV];exact hb3
      have lK:∀x y,(B++x).set 0 y=B.set 0 y++x:=fun x y=>Ym y gG;have hsb:∀x y,(B++x).set cH y=B.set cH y++x:=fun x y=>Ym y fV;have eR:=pq C;have jb:=Ui (eM C);have zQ:∀x,Qj (B.set cH []++x) 0=[.bs cH 0 (eM C).length 1]:=fun x=>by rw[Qn (Nm gG),Yc _ dz,dY]
      have hss:∀x y,(B.set cH []++x).set 0 y=(B.set cH []).set 0 y++x:=fun x y=>Ym y (Nm gG);have bA:(aj (eM C)).take (eM C).length=aj (eM C):=zzau (by rw[jb];exact zzab _)
      have Ng:aj (eM C)≠[]:=by
       intro h;have:=congrArg List.length h;rw[jb,eR]at this;exact aO (zzbz.1 (by simp at this;omega))
      simp[h27,h7,ai,aa,ah,Qg,hk,eC,e1,e2,dV,hw,KE,al0,lK,hsb,zQ,hss,bA,Ng,gG,fV,jb,Wh];refine⟨rj,nJ,⟨?_,zE⟩,⟨zE,zE⟩,aQ,⟨i+1,zE,zd,C++[c],.own 0 8,⟨rfl,by simp[Qg,hk]⟩,[C.length+1],_,⟨rfl,rfl⟩,ht,by simp;omega,zd,.inr ⟨zd,rfl,zd⟩,.inr ⟨zd,B.length+1,?_,zE,zd,?_⟩⟩,zE⟩
      ·rintro row (⟨a,_,rfl⟩|rfl)<;>rfl
      ·rw[Qn (Nm gG),Yi _ (Nm gG),pn];simp[eM]
      have:=Vq ((B.set cH []).set 0 [AV.bs (B.length+1) 0 ((eM C).length+2) 1]) [[I 1,I c.it,I c.fr,I c.to,I c.re,I c.n,I c.a,I c.b],aj (eM C)++[AV.int IntKind.i64 c.fr,AV.int IntKind.i64 c.to]] 1;rw[zzcf,zzcf]at this;rw[this,pn,nD];rfl
     have eC:(⟨2,c.it,c.fr,c.to,c.re,c.n,c.a,c.b⟩:Cl)=c:=by cases c;simp at hk;subst hk;rfl
     have rj:Pure Tryz.prog aD 191 [.agg [I 2,I c.it,I c.fr,I c.to,I c.re,I c.n,I c.a,I c.b],I item,I region] (.bool true):=by simpa[Qg,hk]using hcp
     have nJ:Pure Tryz.prog aD 48 [.agg [I 2,I c.it,I c.fr,I c.to,I c.re,I c.n,I c.a,I c.b]] (.bool true):=by simpa[Qg,hk]using QB
     obtain⟨rfl,rfl,rfl⟩|⟨aO,rfl,rfl⟩:=aX
     ·obtain⟨_,dY⟩|⟨hx,_⟩:=ef
      ·have KE:∀x,Qj (B++x) 0=[.sl .nil []]:=fun x=>by rw[Qn gG];exact dY
       have lK:∀x y,(B++x).set 0 y=B.set 0 y++x:=fun x y=>Ym y gG;simp[h27,h7,ai,aa,ah,Qg,hk,eC,e1,e2,dV,hw,KE,lK,gG,Wh];refine⟨rj,nJ,aQ,⟨i+1,zE,zd,[c],.own 0 8,⟨rfl,by simp[Qg,hk]⟩,[1],_,⟨rfl,rfl⟩,ht,zd,zd,.inr ⟨zd,rfl,rfl⟩,.inr ⟨zd,B.length+1,?_,zE,zd,?_⟩⟩,zE⟩
       ·rw[Qn (Nm gG),Yi _ gG];rfl
       have:=Vq (B.set 0 [AV.bs (B.length+1) 0 2 1]) [[I 2,I c.it,I c.fr,I c.to,I c.re,I c.n,I c.a,I c.b],[AV.int IntKind.i64 c.fr,AV.int IntKind.i64 c.to]] 1;rw[zzcf]at this;rw[this];rfl
      exact absurd rfl hx
     obtain⟨hx,_⟩|⟨_,cH,dY,dz,fV,hb3⟩:=ef
     ·exact absurd hx aO
     have KE:∀x,Qj (B++x) 0=[.bs cH 0 (eM C).length 1]:=fun x=>by rw[Qn gG];exact dY
     have al0:∀x,Qj (B++x) cH=aj (eM C):=fun x=>by rw[Qn fV];exact hb3
     have lK:∀x y,(B++x).set 0 y=B.set 0 y++x:=fun x y=>Ym y gG;have hsb:∀x y,(B++x).set cH y=B.set cH y++x:=fun x y=>Ym y fV;have eR:=pq C;have jb:=Ui (eM C);have zQ:∀x,Qj (B.set cH []++x) 0=[.bs cH 0 (eM C).length 1]:=fun x=>by rw[Qn (Nm gG),Yc _ dz,dY]
     have hss:∀x y,(B.set cH []++x).set 0 y=(B.set cH []).set 0 y++x:=fun x y=>Ym y (Nm gG);have bA:(aj (eM C)).take (eM C).length=aj (eM C):=zzau (by rw[jb];exact zzab _)
     have Ng:aj (eM C)≠[]:=by
      intro h;have:=congrArg List.length h;rw[jb,eR]at this;exact aO (zzbz.1 (by simp at this;omega))
     simp[h27,h7,ai,aa,ah,Qg,hk,eC,e1,e2,dV,hw,KE,al0,lK,hsb,zQ,hss,bA,Ng,gG,fV,jb,Wh];refine⟨rj,nJ,⟨?_,zE⟩,⟨zE,zE⟩,aQ,⟨i+1,zE,zd,C++[c],.own 0 8,⟨rfl,by simp[Qg,hk]⟩,[C.length+1],_,⟨rfl,rfl⟩,ht,by simp;omega,zd,.inr ⟨zd,rfl,zd⟩,.inr ⟨zd,B.length+1,?_,zE,zd,?_⟩⟩,zE⟩
     ·rintro row (⟨a,_,rfl⟩|rfl)<;>rfl
     ·rw[Qn (Nm gG),Yi _ (Nm gG),pn];simp[eM]
     have:=Vq ((B.set cH []).set 0 [AV.bs (B.length+1) 0 ((eM C).length+2) 1]) [[I 2,I c.it,I c.fr,I c.to,I c.re,I c.n,I c.a,I c.b],aj (eM C)++[AV.int IntKind.i64 c.fr,AV.int IntKind.i64 c.to]] 1;rw[zzcf,zzcf]at this;rw[this,pn,nD];rfl
  have h1:¬c.ki=1:=fun h=>hk (.inl h);have h2:¬c.ki=2:=fun h=>hk (.inr h);have hs:=skip (by simp[FO,h1,h2]);simp[h27,h7,ai,aa,ah,Qg,h1,h2,dV,hw,Wh];refine⟨aQ,⟨i+1,zE,zd,C,rt,⟨rfl,rfl⟩,Lm,_,⟨rfl,rfl⟩,hs,zE,zd,aX,ef.app gG _⟩,zE⟩
 obtain rfl:i=cs.length:=zE
 have hCe:C=CC:=by rw[<- hC];simp[Wm]
 subst hCe;have w11:IntKind.i64.wrap 1=1:=by rw[Ql]<;>omega
 obtain⟨rfl,rfl,rfl⟩|⟨aO,rfl,rfl⟩:=aX
 ·obtain⟨_,dY⟩|⟨h,_⟩:=ef
  ·have asj:dJ []=[]:=by simp[dJ,eM,dd]
   simp[h27,h7,dV,dY,Wh];refine pF _ _ _ _ ?_;simp[dY,Wh];refine C3 _ _ _ ?_;have aw1:=XG dY gG;have ic:∀x,Qj (B++x) 0=[.sl .nil []]:=fun x=>by rw[Qn gG,dY]
   simp[dY,aw1,gG,ic,Wh,w11,bF];refine A3 [] (dJ []) [] R 0 rfl (by rw[asj];rfl) zE zd (by rw[hR,asj];rfl) _ _ _ _ _ B.length .nil .nil gG zd ?_ (fun _=>rfl) ?_ ?_ ?_ ?_ ?_ ?_ ?_ (fun h=>absurd rfl h);all_goals simp[Zi,aj]
  exact absurd rfl h
 obtain⟨h,_⟩|⟨_,cH,dY,dz,fV,hb3⟩:=ef
 ·exact absurd h aO
 simp[h27,h7,dV,dY,Wh];have eR:=pq C
 have Ng:aj (eM C)≠[]:=by
  intro h;have:=congrArg List.length h;rw[Ui,eR]at this;exact aO (zzbz.1 (by simp at this;omega))
 refine sM _ (eM C) (by rw[eR];omega) _ cH [] ?_ (Nm Ng) _ ?_
 ·show B[cH]?=_;rw[Jj fV,hb3,zzar]
 obtain⟨l,CP⟩:∃l,(eM C).mergeSort (fun x y=>decide (x<=y))=l:=⟨_,rfl⟩;have Ea:(eM C).length=l.length:=by rw[<- CP,zzer]
 have hdl:dd l=dJ C:=by rw[<- CP];rfl
 have KF:∀X,Qj (B.set cH X) 0=[.bs cH 0 (eM C).length 1]:=fun X=>by rw[Yc _ dz];exact dY
 have aw2:l≠[]:=by
  intro h;have:=congrArg List.length h;rw[<- Ea,eR]at this;exact aO (zzbz.1 (by simp at this;omega))
 simp[AM.wr,CP,KF,Ea,Wh];refine sK _ l (by rw[<- Ea,eR];omega) _ _ _ _ cH (Nm fV) aw2 (Yi _ fV) _ ?_;intro B2 z ee A6 hz;rw[hdl]at A6 hz |-
 have asl:0<B2.length:=by have:=ee.1;simp at this;omega
 have aw3:Qj B2 0=[.bs cH 0 l.length 1]:=by rw[ee.2 0 (Nm gG) (fun h=>dz h.symm),KF,Ea]
 have ayK:cH<B2.length:=by have:=ee.1;simp at this;omega
 obtain⟨B3,Sj⟩:∃B3,B2.set 0 [.bs cH 0 (dJ C).length 1]=B3:=⟨_,rfl⟩;have aw4:B3.length=B2.length:=by rw[<- Sj];simp
 have al1:Qj B3 0=[.bs cH 0 (dJ C).length 1]:=by rw[<- Sj];exact Yi _ asl
 have aw5:Qj B3 cH=aj (dJ C++z):=by rw[<- Sj,Yc _ (fun h=>dz h.symm)];exact A6
 have aw6:∀x,Qj (B3++x) 0=[.bs cH 0 (dJ C).length 1]:=fun x=>by rw[Qn zE];exact al1
 have aw7:0<B3.length:=zE
 have ayL:=NR C;have hwn:IntKind.i64.wrap (((dJ C).length:Int)+1)=((dJ C).length:Int)+1:=by rw[Ql]<;>omega
 have htn:(((dJ C).length:Int)+1).toNat=(dJ C).length+1:=zE
 have AB:(0:Int)<=((dJ C).length:Int)+1:=zE
 have hf1:=W7 (dJ C).length;have hf2:=FI ((dJ C).length+1);simp[aw3,asl,Sj,al1,aw6,hwn,htn,AB,hf1,hf2,aw4.symm,aw7,Wh];refine⟨⟨zE,zE⟩,⟨zE,zE⟩,?_⟩;refine A3 C (dJ C) z R (dJ C).length rfl rfl zE zE hR _ _ _ _ _ B3.length (.own 0 8) .ro zE zd ?_ (fun _=>rfl) ?_ ?_ ?_ ?_ ?_ ?_ ?_ (fun _=>⟨cH,by rw[Qn zE];exact al1,by rw[Qn zE];exact aw5,zE,zE⟩);all_goals simp
