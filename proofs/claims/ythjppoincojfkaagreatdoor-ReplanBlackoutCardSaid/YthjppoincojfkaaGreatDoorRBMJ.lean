import Derived.Test.YthjppoincojfkaaGreatDoorRBMI
set_option linter.all false
set_option maxRecDepth 100000
set_option maxHeartbeats 64000000
namespace Go.Proofs.YthjppoincojfkaaGreatDoor
open Go Go.Abs
def wY:∀(cs:List Cl)(n i:Nat)(x:P2),n<=cs.length->(P8 cs n)[i]?=some x->∃(k:Nat)(c:Cl),cs[k]?=some c/\k+1+i=n/\x=[I (k:Int),.agg (Qi c)]
 |cs,0,i,x,_,h=>by simp[P8]at h
 |cs,n+1,0,x,hn,h=>by
  rw[nC]at h;simp at h;obtain⟨c,hc⟩:∃c,cs[n]?=some c:=⟨_,zzaf zE⟩;refine⟨n,c,hc,zE,?_⟩;rw[<- h];simp[hc]
 |cs,n+1,i+1,x,hn,h=>by
  rw[nC]at h;obtain⟨k,c,h1,h2,h3⟩:=wY cs n i x zE (Nm h);exact⟨k,c,h1,zE,h3⟩
def FJ(cs:List Cl)(n:Nat):(P8 cs n).length=n:=by simp[P8]
def FK{cs:List Cl}{n:Nat}:∀x∈P8 cs n,x.length=2:=by
 intro x hx;simp[P8]at hx;obtain⟨k,_,rfl⟩:=hx;rfl
structure Si (C:List Cl) (Bd z:Pi) (n b:Nat) (s:GS) (L:Pa) (bx:T5):Prop where
 len:b+4<bx.length
 g1:Qj bx (b+1)=[.bs b 0 n 1]
 g:Qj bx b=Zh (gB s)
 l1:Qj bx (b+3)=[.bs (b+2) 0 (n+1) 1]
 l:Qj bx (b+2)=Xq L
 f:Qj bx (b+4)=[.fn 192 [] [.ptr (b+3) 0]]
 bd:C≠[]->∃cG,Qj bx 0=[.bs cG 0 n 1]/\Qj bx cG=aj (Bd++z)/\0<cG/\cG<b
def Si.app{C:List Cl}{Bd z:Pi}{n b:Nat}{s:GS}{L:Pa}{bx:T5}(h:Si C Bd z n b s L bx)(x:T5):Si C Bd z n b s L (bx++x):=by
 have hl:=h.len;refine⟨by simp;omega,by rw[Qn zE];exact h.g1,by rw[Qn zE];exact h.g,by rw[Qn zE];exact h.l1,by rw[Qn zE];exact h.l,by rw[Qn zE];exact h.f,fun hc=>?_⟩;obtain⟨cG,h1,h2,h3,h4⟩:=h.bd hc;exact⟨cG,by rw[Qn zE];exact h1,by rw[Qn zE];exact h2,h3,h4⟩
def Si.later{C:List Cl}{Bd z:Pi}{n b:Nat}{s:GS}{L L':Pa}{bx bx':T5}(h:Si C Bd z n b s L bx)(hb:0<b)(hk:bB (·=b+2) bx bx')(hl:Qj bx' (b+2)=Xq L'):Si C Bd z n b s L' bx':=by
 have aH:=h.len;have k:∀j,j<bx.length->j≠b+2->Qj bx' j=Qj bx j:=hk.2;refine⟨by have:=hk.1;omega,by rw[k _ zE zE];exact h.g1,by rw[k _ zE zE];exact h.g,by rw[k _ zE zE];exact h.l1,hl,by rw[k _ zE zE];exact h.f,fun hc=>?_⟩;obtain⟨cG,h1,h2,h3,h4⟩:=h.bd hc;exact⟨cG,by rw[k _ zE zE];exact h1,by rw[k _ zE zE];exact h2,h3,h4⟩
def Si.put{C:List Cl}{Bd z:Pi}{n b:Nat}{s:GS}{L:Pa}{bx:T5}(h:Si C Bd z n b s L bx)(hb:0<b)(k:Nat)(v:Bool):
  Si C Bd z n b (s.set k (some v)) (L.set k (k+1)) ((bx.set b (Zh ((gB s).set k v))).set (b+2) (Xq (L.set k (k+1)))):=by
 have aH:=h.len
 have e:∀j,j≠b->j≠b+2->Qj ((bx.set b (Zh ((gB s).set k v))).set (b+2) (Xq (L.set k (k+1)))) j=Qj bx j:=fun j h1 h2=>by
  rw[Vz _ (fun h=>h2 h.symm),Vz _ (fun h=>h1 h.symm)]
 refine⟨Nm aH,by rw[e _ zE zE];exact h.g1,?_,by rw[e _ zE zE];exact h.l1,by rw[Yg _ (by simp;omega)],by rw[e _ zE zE];exact h.f,fun hc=>?_⟩
 ·rw[Vz _ zE,Yg _ zE,alR]
 obtain⟨cG,h1,h2,h3,h4⟩:=h.bd hc;exact⟨cG,by rw[e _ zE zE];exact h1,by rw[e _ zE zE];exact h2,h3,h4⟩
def aeh(Bd:Pi)(s:GS)(c:Cl):(QA Bd s c).length=s.length:=by simp[QA,qT]
def wZ(Bd:Pi):∀(l:List Cl)(s:GS),(l.foldl (QA Bd) s).length=s.length
 |[],_=>rfl
 |c::l,s=>by rw[zzcx,wZ Bd l,aeh]
def AY(Bd:Pi):∀(l:List Cl)(s:GS)(i:Nat)(v:Bool),(∀c∈l,c.to∈Bd)->(∀v,s[i]?≠some (some v))->(l.foldl (QA Bd) s)[i]?=some (some v)->i+1<Bd.length+0\/i+1<=Bd.length-1
 |[],s,i,v,_,h0,h=>absurd h (h0 v)
 |c::l,s,i,v,hc,h0,h=>by
  rw[zzcx]at h;by_cases h1:∃v,(QA Bd s c)[i]?=some (some v)
  ·obtain⟨v',h2⟩:=h1;unfold QA at h2;rw[Uv]at h2;cases hs:s[i]? with
   |none=>rw[hs]at h2;cases h2
   |some o=>
    rw[hs]at h2;simp only[zzcs,Option.some.injEq]at h2;split at h2
    ·rename_i h3;have:=J9 (hc c zd);exact .inl zE
    subst h2;exact absurd hs (h0 v')
  exact AY Bd l _ i v (fun c h=>hc c (by simp[h])) (fun v hv=>h1 ⟨v,hv⟩) h
def NT(s:GS)(j:Nat)(h:nE s j=true):s[j]?≠some none:=by
 intro h';unfold nE at h;rw[h']at h;cases h
def XE{s:GS}{j:Nat}(h:nE s j=false)(hj:j<s.length):s[j]?=some none:=by
 unfold nE at h;obtain⟨o,ho⟩:=aV hj;rw[ho]at h |-
 cases o with
 |none=>rfl
 |some v=>cases h
def Kf(s:GS)(a q r:Nat)(v:Bool)(hq:q<=r)(h:∀j,a<=j->j<r->nE s j=true):stepG s a q v=s:=by
 rcases zzhk a q with h1|h1
 ·rw[wV s a a q v h1 (fun j h2 h3=>NT s j (h j h2 zE)),AX _ _ _ _ (zzab _)]
 exact AX _ _ _ _ h1
def AZ(C:List Cl)(Bd z:Pi)(R:List Sp)(n:Nat)(hBd:Bd=dJ C)(hn:Bd.length=n)(hn9:n<=10000000)(hCl:C.length<=1000000)(hR:R=Xm (nD Bd (wU C) n))(E:QQ)(B:T5)(Lm:Pa)(st:Nat->LS)(ln:Nat)(b:Nat)(rt yZ:Rt)
  (hb:0<b)(vD:B.length=b+4)(h7:Abs.look E 7=.sl rt (C.map Qi))(aX:∀m,bz m 6 (.sl rt (C.map Qi))=.sl yZ (C.map Qi))(h8:Abs.look E 8=.ptr 0 0)(pq:Abs.look E 11=.ptr (b+1) 0)(ql:Abs.look E 12=.ptr (b+3) 0)
  (hg1:Qj B (b+1)=[.bs b 0 n 1])(hg:Qj B b=Zh (List.replicate n false))(gM:Qj B (b+3)=[.bs (b+2) 0 (n+1) 1])(hl:Qj B (b+2)=aj (List.replicate (n+1) 0))
  (ei:C≠[]->∃cG,Qj B 0=[.bs cG 0 n 1]/\Qj B cG=aj (Bd++z)/\0<cG/\cG<b):
  vc Tryz.prog aD (Wh Bd R) Y0 (XB C1) ⟨Vw 145 E,⟨B,Lm,st,ln⟩⟩ (post Tryz.prog aD (Wh Bd R) Ej (.sl .ro (R.map Qf))):=by
 simp[XB,ql,gM]
 refine Qk IT (fun f m=>∃(i:Nat)(B':T5)(L':Pi),i<=n+1/\f 74=I i/\m=⟨B',Lm,st,ln⟩/\bB (·=b+2) B B'/\B'.length=B.length/\Qj B' (b+2)=aj L'/\L'.length=n+1/\∀j:Nat,j<i->L'[j]?=some (j:Int))
  (fun f _=>n+1-(numOf (f 74)).toNat) ?_ ?_
 ·exact⟨0,B,List.replicate (n+1) 0,zE,zd,rfl,bB.refl _ _,rfl,hl,zd,fun j h=>zE⟩
 rintro f m ⟨i,B',L',hi,h74,rfl,nB,FH,eY,tP,Ar⟩;have asl:Qj B' (b+3)=[.bs (b+2) 0 (n+1) 1]:=by rw[nB.2 _ zE zE];exact gM
 rcases zzaa i (n+1)with ai|bn
 ·have aa:(i:Int)<(n:Int)+1:=zE
  have hw:=bO i zE;have bR:=J3 L' i (i:Int);have aH:=Uf L';have fT:b+2<B'.length:=zE
  simp[h74,aa,ai,IT,ql,asl,eY,hw,bR,aH,tP,fT];refine⟨zE,aQ,⟨i+1,zE,zd,nB.set (.inl rfl) _,FH,L'.set i (i:Int),Yg _ fT,Nm tP,fun j hj=>?_⟩,zE⟩
  ·by_cases hji':j=i
   ·subst hji';rw[zzbf zE]
   rw[zzbn (fun h=>hji' h.symm)];exact Ar j zE
 obtain rfl:i=n+1:=zE
 have hLr:L'=(List.range (n+1)).map fun(k:Nat)=>(k:Int):=by
  apply zzcz;intro j;by_cases hj:j<n+1
  ·rw[Ar j hj];simp[hj]
  rw[zzar zE,zzar (by simp;omega)]
 have awS:Qj B' (b+2)=Xq (List.range (n+1)):=by rw[eY,hLr];rfl
 have bP:¬((n:Int)+1)<(n:Int)+1:=zE
 have awT:Si C Bd z n b (List.replicate n none) (List.range (n+1)) (B'++[[.fn 192 [] [.ptr (b+3) 0]]]):=by
  have k:∀j,j<B.length->j≠b+2->Qj B' j=Qj B j:=nB.2;refine⟨by simp;omega,?_,?_,?_,?_,?_,fun hc=>?_⟩
  ·rw[Qn zE,k _ zE zE];exact hg1
  ·rw[Qn zE,k _ zE zE,aef];exact hg
  ·rw[Qn zE];exact asl
  ·rw[Qn zE];exact awS
  ·have:b+4=B'.length:=zE
   rw[this];simp
  obtain⟨cG,h1,h2,h3,h4⟩:=ei hc;exact⟨cG,by rw[Qn zE,k _ zE zE];exact h1,by rw[Qn zE,k _ zE zE];exact h2,h3,h4⟩
 have alU:=Xw (l:=[.sl yZ (C.map Qi)]) (mj C) ⟨Wk.sl _ _,trivial⟩;have cT:=mq C zE;have sr:=fun s hs hR E=>wX Bd z s R n hs hn9 hR E
 have A0:∀y,Qj (B'++[y]) (b+4)=y:=fun y=>by
  have:b+4=B'.length:=zE
  rw[this];simp
 simp[h74,IT,h7,ql,aX,FH,vD,A0,Wh];refine⟨alU,?_⟩;refine ji (xs:=P8 C C.length) zd cT FK (fun i m=>∃(s:GS)(L:Pa),s=(C.reverse.take i).foldl (QA Bd) (List.replicate n none)/\WF L (nE s) n/\Si C Bd z n b s L m.boxes) (fun _ _=>False) ?_ ?_ (fun _ _ _ h=>h.elim) ?_ ?_ (fun _ _ h=>h.elim)
 ·exact⟨_,_,zd,WF.init n _ (fun j=>by simp[nE,zzcl]),awT⟩
 ·rintro i m m' ⟨s,L,h1,h2,h3⟩ ⟨⟨bx,e1⟩,_,_⟩;exact⟨s,L,h1,h2,by rw[e1];exact h3.app bx⟩
 ·rintro l i m x hg hr ⟨s,L,hs,hWF,hSt⟩ hx K' k1 _ _;obtain⟨k,c,hc,hk,rfl⟩:=wY C C.length i x (zzab _) hx;rw[Jm]at hSt;have hcm:c∈C:=zzad hc;have alV:C≠[]:=List.ne_nil_of_mem hcm
  have awU:C.reverse[i]?=some c:=by
   rw[List.getElem?_reverse zE];rw[show C.length-1-i=k by omega];exact hc
  have FL:s.length=n:=by rw[hs,wZ];simp
  have dK:(C.reverse.take (i+1)).foldl (QA Bd) (List.replicate n none)=QA Bd s c:=by
   rw[zzax,awU,zzgj,<- hs];rfl
  obtain⟨cG,d1,d2,d3,d4⟩:=hSt.bd alV;have gE:∀m,(aj (Bd++z)).map (bz m 5)=aj (Bd++z):=fun m=>Va m 4 (WX _);have ic:aY 1 n (aj (Bd++z))=Bd.map fun x=>[I x]:=by rw[<- hn,nA];exact wQ Bd _
  have qj:n<=(aj (Bd++z)).length:=by rw[Uf];simp;omega
  have nF:Bd.Pairwise (·<=·):=by rw[hBd];exact(NR C).imp (fun h=>Int.le_of_lt h)
  have b1:=o8 Bd c.fr zE nF;have b2:=o8 Bd c.to zE nF;have hto:c.to∈Bd:=by rw[hBd,uC];exact(pn hcm).2
  have he:=J9 hto;have ha:=alS Bd c.fr;have bY:QA Bd s c=stepG s (qS Bd c.fr) (qS Bd c.to) (decide (c.ki=1)):=rfl;rw[bY]at dK;obtain⟨a,hae⟩:∃a,qS Bd c.fr=a:=⟨_,rfl⟩;obtain⟨e,hee⟩:∃e,qS Bd c.to=e:=⟨_,rfl⟩;obtain⟨v,hv⟩:∃v,(c.ki==1)=v:=⟨_,rfl⟩;have EJ:decide (c.ki=1)=v:=hv;rw[hae,hee,EJ]at dK;rw[hae]at b1 ha;rw[hee]at b2 he;have aH:=hSt.len;have f0:∀x,Qj (m.boxes++x) 0=[.bs cG 0 n 1]:=fun x=>by rw[Qn zE];exact d1
  have fb:∀x,Qj (m.boxes++x) cG=aj (Bd++z):=fun x=>by rw[Qn zE];exact d2
  have ff:∀x,Qj (m.boxes++x) (b+4)=[.fn 192 [] [.ptr (b+3) 0]]:=fun x=>by rw[Qn zE];exact hSt.f
  simp[hr,Zp,Qi,h8,Wh,f0,fb,ff,gE,ic,qj,hae,hee];refine⟨b1,b2,?_⟩;have alW:=hSt.app [[I c.ki,I c.it,I c.fr,I c.to,I c.re,I c.n,I c.a,I c.b]];refine NQ Y0 a n (b+3) (b+2) L (nE s) hWF zE zE _ _ _ _ (by simp;omega) (by simp;omega) zE alW.l1 alW.l _ ?_;intro B1 L1 r dB gM QB har hrn fk CD;have awV:=alW.later hb dB gM;have awW:m.boxes.length<B1.length:=by have:=dB.1;simp at this;omega
  have asm:Qj B1 m.boxes.length=[I c.ki,I c.it,I c.fr,I c.to,I c.re,I c.n,I c.a,I c.b]:=by
   rw[dB.2 _ zd zE];simp
  have Nl:stepG s a (min r e) v=s:=Kf s a _ r v zE CD;simp
  refine Qk IU (fun g m2=>∃(k:Nat)(B2:T5)(L2:Pa),g 21=I k/\a<=k/\k<=n/\m2=⟨B2,m.lens,uw m.st l .busy,m.ln⟩/\WF L2 (nE (stepG s a (min k e) v)) n/\nE (stepG s a (min k e) v) k=false/\
   Si C Bd z n b (stepG s a (min k e) v) L2 B2/\m.boxes.length<B2.length/\Qj B2 m.boxes.length=[I c.ki,I c.it,I c.fr,I c.to,I c.re,I c.n,I c.a,I c.b]) (fun g _=>n-(numOf (g 21)).toNat) ?_ ?_
  ·exact⟨r,B1,L1,zd,har,hrn,rfl,by rw[Nl];exact QB,by rw[Nl];exact fk,by rw[Nl];exact awV,awW,asm⟩
  rintro g m2 ⟨k,B2,L2,g21,hak,D2,rfl,QC,hd2,A1,hlt2,hrow2⟩;rcases zzaa k e with hke|hke
  ·have w8:min k e=k:=zE
   rw[w8]at QC hd2 A1;have awX:(stepG s a k v).length=n:=by rw[qT,FL]
   have asn:k<n:=zE
   have XF:=XE hd2 zE
   have hsk:s[k]?=some none:=by
    rw[Uv]at XF;cases hq:s[k]? with
    |none=>rw[hq]at XF;cases XF
    |some o=>rw[hq]at XF;simpa using XF
   have dO:=J8 s a k v hak hsk;obtain⟨sE,C2⟩:=XA (stepG s a k v) k v zE;have hW3:=WF.dec QC asn sE C2;have hS3:=A1.put hb k v;have aso:(k:Int)<(e:Int):=zE
   have asp:(k:Int)<(n:Int):=zE
   have alX:(k:Int)<(n:Int)+1:=zE
   have awY:k<n+1:=zE
   have W4:IntKind.i64.wrap ((k:Int)+1)=(k:Int)+1:=by rw[Ql]<;>omega
   have jx:=alQ (gB (stepG s a k v)) k v;have R9:(Xq L2).set k (I ((k:Int)+1))=Xq (L2.set k (k+1)):=by have:=W7 L2 k (k+1);simpa using this
   have ek:=alO (gB (stepG s a k v));have lE:(gB (stepG s a k v)).length=n:=by simp[gB,awX]
   have hnl:=W6 L2;have hL2:=QC.1;have eE:=A1.len;have q1:∀X,Qj (B2.set b X) (b+3)=[.bs (b+2) 0 (n+1) 1]:=fun X=>by rw[Vz _ zE];exact A1.l1
   have q2:∀X,Qj (B2.set b X) (b+2)=Xq L2:=fun X=>by rw[Vz _ zE];exact A1.l
   have q3:∀X Z,Qj ((B2.set b X).set (b+2) Z) (b+4)=[.fn 192 [] [.ptr (b+3) 0]]:=fun X Z=>by rw[Vz _ zE,Vz _ zE];exact A1.f
   have dy:b<B2.length:=zE
   have fT:b+2<B2.length:=zE
   simp[g21,aso,hke,IU,pq,ql,A1.g1,A1.g,hrow2,hv,asp,asn,alX,awY,W4,jx,R9,ek,lE,hnl,hL2,q1,q2,q3,dy,fT,Wh];have hl3:=hS3.len
   have asq:Qj ((B2.set b (Zh ((gB (stepG s a k v)).set k v))).set (b+2) (Xq (L2.set k (k+1)))) m.boxes.length=[I c.ki,I c.it,I c.fr,I c.to,I c.re,I c.n,I c.a,I c.b]:=by
    rw[Vz _ zE,Vz _ zE];exact hrow2
   have XG:m.boxes.length<((B2.set b (Zh ((gB (stepG s a k v)).set k v))).set (b+2) (Xq (L2.set k (k+1)))).length:=by simpa using hlt2
   refine⟨zE,zE,NQ Y0 k n (b+3) (b+2) _ _ hW3 D2 zE _ _ _ _ zE zE zE hS3.l1 hS3.l _ ?_⟩;intro B4 L4 r4 NU hl4 hW4 awZ aw0 alY aw1;have hS4:=hS3.later hb NU hl4;have aw2:m.boxes.length<B4.length:=by have:=NU.1;omega
   have asr:Qj B4 m.boxes.length=[I c.ki,I c.it,I c.fr,I c.to,I c.re,I c.n,I c.a,I c.b]:=by
    rw[NU.2 _ XG zE];exact asq
   have hr4:k+1<=r4:=by
    rcases Nat.eq_or_lt_of_le awZ with h|h
    ·subst h;rw[sE]at alY;cases alY
    exact h
   have FM:stepG s a (min r4 e) v=(stepG s a k v).set k (some v):=by
    rw[<- dO];refine wV s a (k+1) (min r4 e) v zE (fun j dX om=>?_);have h1:=NT _ j (aw1 j zE zE);rw[zzbn zE,Uv]at h1;intro h2;rw[h2]at h1;simp at h1;omega
   simp;refine⟨aQ,⟨r4,rfl,zE,aw0,L4,by rw[FM];exact hW4,by rw[FM];exact alY,by rw[FM];exact hS4,aw2,asr⟩,zE⟩
  have w8:min k e=e:=zE
  rw[w8]at QC hd2 A1;have aw3:¬(k:Int)<(e:Int):=zE
  simp[g21,aw3,zzbk.2 hke,IU];exact k1 _ ⟨stepG s a e v,L2,dK.symm,QC,A1⟩
 rintro m ⟨s,L,hs,hWF,hSt⟩;rw[FJ]at hs;rw[zzas zd]at hs;have hsf:s=wU C:=by rw[hs];unfold wU;rw[<- hBd,hn]
 rw[<- hsf]at hR;have FL:s.length=n:=by rw[hs,wZ];simp
 refine wX Bd z s R n FL hn9 hR _ m.boxes m.lens m.st m.ln b (b+1) Bd ?_ ?_ hSt.g1 hSt.g ?_
 ·simp[h8]
 ·simp[pq]
 intro i hi
 have alV:C≠[]:=by
  rintro rfl;rw[hs]at hi;simp[zzcl]at hi
 obtain⟨cG,d1,d2,_,_⟩:=hSt.bd alV;refine⟨cG,d1,d2,?_,hn⟩;rw[hs]at hi;have:=AY Bd C.reverse _ i true (fun c hc=>by rw[hBd,uC];exact(pn (zzf.1 hc)).2) (fun v=>by simp[zzcl]) hi;omega
section
variable (cs:List Cl) (item region:Int)
def aw4(C:List Cl)(rt:Rt)(Lm:Pa):Prop:=(C=[]/\rt=.nil/\Lm=[])\/(C≠[]/\rt=.own 0 8/\Lm=[C.length])
end
def XH{B:T5}{i:Nat}{v:P2}(h:Qj B i=v)(hi:i<B.length):B.set i v=B:=by
 apply zzcz;intro j;by_cases hj:j=i
 ·subst hj;rw[zzbf hi,Jh hi,h]
 rw[zzbn (fun e=>hj e.symm)]
def Ks(cs:List Cl)(item region:Int)(hl:cs.length<=1000000):Pure Tryz.prog aD 136 [.sl .ro (cs.map Qi),I item,I region] (.sl .ro ((Qcq cs item region).map Qf)):=by
 have hR:Qcq cs item region=Xm (nD (dJ (Jl cs item region)) (wU (Jl cs item region)) (dJ (Jl cs item region)).length):=rfl;have hCl:(Jl cs item region).length<=cs.length:=zzcb _ _;obtain⟨CC,hCC⟩:∃CC,Jl cs item region=CC:=⟨_,rfl⟩;rw[hCC]at hR hCl;generalize Qcq cs item region=R at hR;refine Qp ab4 (Wh (dJ CC) R) zd ?_;rw[XC];simp[aiL]
 refine Qk dW (fun f m=>∃(i:Nat)(C:List Cl)(rt:Rt)(Lm:Pa)(B:T5),i<=cs.length/\f 27=I i/\f 7=.sl rt (C.map Qi)/\m=⟨B,Lm,fun _=>.gone,0⟩/\C++Jl (cs.drop i) item region=CC/\
   C.length<=i/\0<B.length/\aw4 C rt Lm/\aeg B C) (fun f _=>cs.length-(numOf (f 27)).toNat) ?_ ?_
 ·exact⟨0,[],.nil,[],[[.sl .nil []]],zE,zd,zd,rfl,Nm hCC,zd,zd,.inl ⟨rfl,rfl,rfl⟩,.inl ⟨rfl,rfl⟩⟩
 rintro f m ⟨i,C,rt,Lm,B,hi,h27,h7,rfl,hC,hCi,gF,aX,ei⟩;rcases zzaa i cs.length with ai|bn
 ·obtain⟨c,hc⟩:=aV ai;have ah:Qj (cs.map Qi) i=Qi c:=Qu (by simp[hc]);have aa:(i:Int)<(cs.length:Int):=zE
  have hw:=bO i zE;have hd:cs.drop i=c::cs.drop (i+1):=by rw[zzah ai,(zza.1 hc).2]
  have hcp:=mw c item region;have XI:=Kz c;rw[hd]at hC
  have skip:tQ item region c=false->C++Jl (cs.drop (i+1)) item region=CC:=by
   intro hb;rw[<- hC];simp[Jl,hb]
  have take:tQ item region c=true->(C++[c])++Jl (cs.drop (i+1)) item region=CC:=by
   intro hb;rw[<- hC];simp[Jl,hb]
  have gY:∀x,Qj (B++x) 0=Qj B 0:=fun x=>Qn gF;by_cases hk:c.ki=1\/c.ki=2
  ·cases e1:P9 c item region with
   |false=>
    have hs:=skip (by simp[tQ,e1]);rw[e1]at hcp;obtain hk|hk:=hk
    ·have gz:(⟨1,c.it,c.fr,c.to,c.re,c.n,c.a,c.b⟩:Cl)=c:=by cases c;simp at hk;subst hk;rfl
     have qV:Pure Tryz.prog aD 191 [.agg [I 1,I c.it,I c.fr,I c.to,I c.re,I c.n,I c.a,I c.b],I item,I region] (.bool false):=by simpa[Qi,hk]using hcp
     simp[h27,h7,ai,aa,ah,Qi,hk,gz,e1,dW,hw,Wh];refine⟨qV,aQ,⟨i+1,zE,zd,C,rt,⟨rfl,rfl⟩,Lm,_,⟨rfl,rfl⟩,hs,zE,zd,aX,ei.app gF _⟩,zE⟩
    have gz:(⟨2,c.it,c.fr,c.to,c.re,c.n,c.a,c.b⟩:Cl)=c:=by cases c;simp at hk;subst hk;rfl
    have qV:Pure Tryz.prog aD 191 [.agg [I 2,I c.it,I c.fr,I c.to,I c.re,I c.n,I c.a,I c.b],I item,I region] (.bool false):=by simpa[Qi,hk]using hcp
    simp[h27,h7,ai,aa,ah,Qi,hk,gz,e1,dW,hw,Wh];refine⟨qV,aQ,⟨i+1,zE,zd,C,rt,⟨rfl,rfl⟩,Lm,_,⟨rfl,rfl⟩,hs,zE,zd,aX,ei.app gF _⟩,zE⟩
   |true=>
    rw[e1]at hcp;cases e2:Xu c with
    |false=>
     have hs:=skip (by simp[tQ,e2]);rw[e2]at XI;obtain hk|hk:=hk
     ·have gz:(⟨1,c.it,c.fr,c.to,c.re,c.n,c.a,c.b⟩:Cl)=c:=by cases c;simp at hk;subst hk;rfl
      have qV:Pure Tryz.prog aD 191 [.agg [I 1,I c.it,I c.fr,I c.to,I c.re,I c.n,I c.a,I c.b],I item,I region] (.bool true):=by simpa[Qi,hk]using hcp
      have nG:Pure Tryz.prog aD 48 [.agg [I 1,I c.it,I c.fr,I c.to,I c.re,I c.n,I c.a,I c.b]] (.bool false):=by simpa[Qi,hk]using XI
      simp[h27,h7,ai,aa,ah,Qi,hk,gz,e1,e2,dW,hw,Wh];refine⟨qV,nG,aQ,⟨i+1,zE,zd,C,rt,⟨rfl,rfl⟩,Lm,_,⟨rfl,rfl⟩,hs,zE,zd,aX,ei.app gF _⟩,zE⟩
     have gz:(⟨2,c.it,c.fr,c.to,c.re,c.n,c.a,c.b⟩:Cl)=c:=by cases c;simp at hk;subst hk;rfl
     have qV:Pure Tryz.prog aD 191 [.agg [I 2,I c.it,I c.fr,I c.to,I c.re,I c.n,I c.a,I c.b],I item,I region] (.bool true):=by simpa[Qi,hk]using hcp
     have nG:Pure Tryz.prog aD 48 [.agg [I 2,I c.it,I c.fr,I c.to,I c.re,I c.n,I c.a,I c.b]] (.bool false):=by simpa[Qi,hk]using XI
     simp[h27,h7,ai,aa,ah,Qi,hk,gz,e1,e2,dW,hw,Wh];refine⟨qV,nG,aQ,⟨i+1,zE,zd,C,rt,⟨rfl,rfl⟩,Lm,_,⟨rfl,rfl⟩,hs,zE,zd,aX,ei.app gF _⟩,zE⟩
    |true=>
     have ht:=take (by simp[tQ,e1,e2,hk]);rw[e2]at XI;obtain hk|hk:=hk
     ·have gz:(⟨1,c.it,c.fr,c.to,c.re,c.n,c.a,c.b⟩:Cl)=c:=by cases c;simp at hk;subst hk;rfl
      have qV:Pure Tryz.prog aD 191 [.agg [I 1,I c.it,I c.fr,I c.to,I c.re,I c.n,I c.a,I c.b],I item,I region] (.bool true):=by simpa[Qi,hk]using hcp
      have nG:Pure Tryz.prog aD 48 [.agg [I 1,I c.it,I c.fr,I c.to,I c.re,I c.n,I c.a,I c.b]] (.bool true):=by simpa[Qi,hk]using XI
      obtain⟨rfl,rfl,rfl⟩|⟨aN,rfl,rfl⟩:=aX
      ·obtain⟨_,dZ⟩|⟨hx,_⟩:=ei
       ·have Kx:∀x,Qj (B++x) 0=[.sl .nil []]:=fun x=>by rw[Qn gF];exact dZ
        have lM:∀x y,(B++x).set 0 y=B.set 0 y++x:=fun x y=>Yk y gF;simp[h27,h7,ai,aa,ah,Qi,hk,gz,e1,e2,dW,hw,Kx,lM,gF,Wh];refine⟨qV,nG,aQ,⟨i+1,zE,zd,[c],.own 0 8,⟨rfl,by simp[Qi,hk]⟩,[1],_,⟨rfl,rfl⟩,ht,zd,zd,.inr ⟨zd,rfl,rfl⟩,.inr ⟨zd,B.length+1,?_,zE,zd,?_⟩⟩,zE⟩
        ·rw[Qn (Nm gF),Yg _ gF];rfl
        have:=Vn (B.set 0 [AV.bs (B.length+1) 0 2 1]) [[I 1,I c.it,I c.fr,I c.to,I c.re,I c.n,I c.a,I c.b],[AV.int IntKind.i64 c.fr,AV.int IntKind.i64 c.to]] 1;rw[zzcg]at this;rw[this];rfl
       exact absurd rfl hx
      obtain⟨hx,_⟩|⟨_,cG,dZ,dy,fT,hb3⟩:=ei
      ·exact absurd hx aN
      have Kx:∀x,Qj (B++x) 0=[.bs cG 0 (eN C).length 1]:=fun x=>by rw[Qn gF];exact dZ
      have alZ:∀x,Qj (B++x) cG=aj (eN C):=fun x=>by rw[Qn fT];exact hb3
      have lM:∀x y,(B++x).set 0 y=B.set 0 y++x:=fun x y=>Yk y gF;have hsb:∀x y,(B++x).set cG y=B.set cG y++x:=fun x y=>Yk y fT;have ek:=pe C;have iZ:=Uf (eN C);have zI:∀x,Qj (B.set cG []++x) 0=[.bs cG 0 (eN C).length 1]:=fun x=>by rw[Qn (Nm gF),Vz _ dy,dZ]
      have hss:∀x y,(B.set cG []++x).set 0 y=(B.set cG []).set 0 y++x:=fun x y=>Yk y (Nm gF);have bA:(aj (eN C)).take (eN C).length=aj (eN C):=zzas (by rw[iZ];exact zzab _)
      have Nf:aj (eN C)≠[]:=by
       intro h;have:=congrArg List.length h;rw[iZ,ek]at this;exact aN (zzc.1 (by simp at this;omega))
      simp[h27,h7,ai,aa,ah,Qi,hk,gz,e1,e2,dW,hw,Kx,alZ,lM,hsb,zI,hss,bA,Nf,gF,fT,iZ,Wh];refine⟨qV,nG,⟨?_,zE⟩,⟨zE,zE⟩,aQ,⟨i+1,zE,zd,C++[c],.own 0 8,⟨rfl,by simp[Qi,hk]⟩,[C.length+1],_,⟨rfl,rfl⟩,ht,by simp;omega,zd,.inr ⟨zd,rfl,zd⟩,.inr ⟨zd,B.length+1,?_,zE,zd,?_⟩⟩,zE⟩
      ·rintro row (⟨a,_,rfl⟩|rfl)<;>rfl
      ·rw[Qn (Nm gF),Yg _ (Nm gF),o9];simp[eN]
      have:=Vn ((B.set cG []).set 0 [AV.bs (B.length+1) 0 ((eN C).length+2) 1]) [[I 1,I c.it,I c.fr,I c.to,I c.re,I c.n,I c.a,I c.b],aj (eN C)++[AV.int IntKind.i64 c.fr,AV.int IntKind.i64 c.to]] 1;rw[zzcg,zzcg]at this;rw[this,o9,nA];rfl
     have gz:(⟨2,c.it,c.fr,c.to,c.re,c.n,c.a,c.b⟩:Cl)=c:=by cases c;simp at hk;subst hk;rfl
     have qV:Pure Tryz.prog aD 191 [.agg [I 2,I c.it,I c.fr,I c.to,I c.re,I c.n,I c.a,I c.b],I item,I region] (.bool true):=by simpa[Qi,hk]using hcp
     have nG:Pure Tryz.prog aD 48 [.agg [I 2,I c.it,I c.fr,I c.to,I c.re,I c.n,I c.a,I c.b]] (.bool true):=by simpa[Qi,hk]using XI
     obtain⟨rfl,rfl,rfl⟩|⟨aN,rfl,rfl⟩:=aX
     ·obtain⟨_,dZ⟩|⟨hx,_⟩:=ei
      ·have Kx:∀x,Qj (B++x) 0=[.sl .nil []]:=fun x=>by rw[Qn gF];exact dZ
       have lM:∀x y,(B++x).set 0 y=B.set 0 y++x:=fun x y=>Yk y gF;simp[h27,h7,ai,aa,ah,Qi,hk,gz,e1,e2,dW,hw,Kx,lM,gF,Wh];refine⟨qV,nG,aQ,⟨i+1,zE,zd,[c],.own 0 8,⟨rfl,by simp[Qi,hk]⟩,[1],_,⟨rfl,rfl⟩,ht,zd,zd,.inr ⟨zd,rfl,rfl⟩,.inr ⟨zd,B.length+1,?_,zE,zd,?_⟩⟩,zE⟩
       ·rw[Qn (Nm gF),Yg _ gF];rfl
       have:=Vn (B.set 0 [AV.bs (B.length+1) 0 2 1]) [[I 2,I c.it,I c.fr,I c.to,I c.re,I c.n,I c.a,I c.b],[AV.int IntKind.i64 c.fr,AV.int IntKind.i64 c.to]] 1;rw[zzcg]at this;rw[this];rfl
      exact absurd rfl hx
     obtain⟨hx,_⟩|⟨_,cG,dZ,dy,fT,hb3⟩:=ei
     ·exact absurd hx aN
     have Kx:∀x,Qj (B++x) 0=[.bs cG 0 (eN C).length 1]:=fun x=>by rw[Qn gF];exact dZ
     have alZ:∀x,Qj (B++x) cG=aj (eN C):=fun x=>by rw[Qn fT];exact hb3
     have lM:∀x y,(B++x).set 0 y=B.set 0 y++x:=fun x y=>Yk y gF;have hsb:∀x y,(B++x).set cG y=B.set cG y++x:=fun x y=>Yk y fT;have ek:=pe C;have iZ:=Uf (eN C);have zI:∀x,Qj (B.set cG []++x) 0=[.bs cG 0 (eN C).length 1]:=fun x=>by rw[Qn (Nm gF),Vz _ dy,dZ]
     have hss:∀x y,(B.set cG []++x).set 0 y=(B.set cG []).set 0 y++x:=fun x y=>Yk y (Nm gF);have bA:(aj (eN C)).take (eN C).length=aj (eN C):=zzas (by rw[iZ];exact zzab _)
     have Nf:aj (eN C)≠[]:=by
      intro h;have:=congrArg List.length h;rw[iZ,ek]at this;exact aN (zzc.1 (by simp at this;omega))
     simp[h27,h7,ai,aa,ah,Qi,hk,gz,e1,e2,dW,hw,Kx,alZ,lM,hsb,zI,hss,bA,Nf,gF,fT,iZ,Wh];refine⟨qV,nG,⟨?_,zE⟩,⟨zE,zE⟩,aQ,⟨i+1,zE,zd,C++[c],.own 0 8,⟨rfl,by simp[Qi,hk]⟩,[C.length+1],_,⟨rfl,rfl⟩,ht,by simp;omega,zd,.inr ⟨zd,rfl,zd⟩,.inr ⟨zd,B.length+1,?_,zE,zd,?_⟩⟩,zE⟩
     ·rintro row (⟨a,_,rfl⟩|rfl)<;>rfl
     ·rw[Qn (Nm gF),Yg _ (Nm gF),o9];simp[eN]
     have:=Vn ((B.set cG []).set 0 [AV.bs (B.length+1) 0 ((eN C).length+2) 1]) [[I 2,I c.it,I c.fr,I c.to,I c.re,I c.n,I c.a,I c.b],aj (eN C)++[AV.int IntKind.i64 c.fr,AV.int IntKind.i64 c.to]] 1;rw[zzcg,zzcg]at this;rw[this,o9,nA];rfl
  have h1:¬c.ki=1:=fun h=>hk (.inl h);have h2:¬c.ki=2:=fun h=>hk (.inr h);have hs:=skip (by simp[tQ,h1,h2]);simp[h27,h7,ai,aa,ah,Qi,h1,h2,dW,hw,Wh];refine⟨aQ,⟨i+1,zE,zd,C,rt,⟨rfl,rfl⟩,Lm,_,⟨rfl,rfl⟩,hs,zE,zd,aX,ei.app gF _⟩,zE⟩
 obtain rfl:i=cs.length:=zE
 have hCe:C=CC:=by rw[<- hC];simp[Jl]
 subst hCe;have w11:IntKind.i64.wrap 1=1:=by rw[Ql]<;>omega
 obtain⟨rfl,rfl,rfl⟩|⟨aN,rfl,rfl⟩:=aX
 ·obtain⟨_,dZ⟩|⟨h,_⟩:=ei
  ·have ass:dJ []=[]:=by simp[dJ,eN,dd]
   simp[h27,h7,dW,dZ,Wh];refine pz _ _ _ _ ?_;simp[dZ,Wh];refine C0 _ _ _ ?_;have aw5:=XH dZ gF;have gY:∀x,Qj (B++x) 0=[.sl .nil []]:=fun x=>by rw[Qn gF,dZ]
   simp[dZ,aw5,gF,gY,Wh,w11,bE];refine AZ [] (dJ []) [] R 0 rfl (by rw[ass];rfl) zE zd (by rw[hR,ass];rfl) _ _ _ _ _ B.length .nil .nil gF zd ?_ (fun _=>rfl) ?_ ?_ ?_ ?_ ?_ ?_ ?_ (fun h=>absurd rfl h);all_goals simp[Zh,aj]
  exact absurd rfl h
 obtain⟨h,_⟩|⟨_,cG,dZ,dy,fT,hb3⟩:=ei
 ·exact absurd h aN
 simp[h27,h7,dW,dZ,Wh];have ek:=pe C
 have Nf:aj (eN C)≠[]:=by
  intro h;have:=congrArg List.length h;rw[Uf,ek]at this;exact aN (zzc.1 (by simp at this;omega))
 refine sF _ (eN C) (by rw[ek];omega) _ cG [] ?_ (Nm Nf) _ ?_
 ·show B[cG]?=_;rw[Jh fT,hb3,zzat]
 obtain⟨l,CK⟩:∃l,(eN C).mergeSort (fun x y=>decide (x<=y))=l:=⟨_,rfl⟩;have D4:(eN C).length=l.length:=by rw[<- CK,zzev]
 have hdl:dd l=dJ C:=by rw[<- CK];rfl
 have KA:∀X,Qj (B.set cG X) 0=[.bs cG 0 (eN C).length 1]:=fun X=>by rw[Vz _ dy];exact dZ
 have aw6:l≠[]:=by
  intro h;have:=congrArg List.length h;rw[<- D4,ek]at this;exact aN (zzc.1 (by simp at this;omega))
 simp[AM.wr,CK,KA,D4,Wh];refine sD _ l (by rw[<- D4,ek];omega) _ _ _ _ cG (Nm fT) aw6 (Yg _ fT) _ ?_;intro B2 z ef A2 hz;rw[hdl]at A2 hz |-
 have ast:0<B2.length:=by have:=ef.1;simp at this;omega
 have aw7:Qj B2 0=[.bs cG 0 l.length 1]:=by rw[ef.2 0 (Nm gF) (fun h=>dy h.symm),KA,D4]
 have ayN:cG<B2.length:=by have:=ef.1;simp at this;omega
 obtain⟨B3,Sj⟩:∃B3,B2.set 0 [.bs cG 0 (dJ C).length 1]=B3:=⟨_,rfl⟩;have aw8:B3.length=B2.length:=by rw[<- Sj];simp
 have al0:Qj B3 0=[.bs cG 0 (dJ C).length 1]:=by rw[<- Sj];exact Yg _ ast
 have aw9:Qj B3 cG=aj (dJ C++z):=by rw[<- Sj,Vz _ (fun h=>dy h.symm)];exact A2
 have axa:∀x,Qj (B3++x) 0=[.bs cG 0 (dJ C).length 1]:=fun x=>by rw[Qn zE];exact al0
 have axb:0<B3.length:=zE
 have ayO:=NS C;have hwn:IntKind.i64.wrap (((dJ C).length:Int)+1)=((dJ C).length:Int)+1:=by rw[Ql]<;>omega
 have htn:(((dJ C).length:Int)+1).toNat=(dJ C).length+1:=zE
 have Ay:(0:Int)<=((dJ C).length:Int)+1:=zE
 have hf1:=W9 (dJ C).length;have hf2:=FC ((dJ C).length+1);simp[aw7,ast,Sj,al0,axa,hwn,htn,Ay,hf1,hf2,aw8.symm,axb,Wh];refine⟨⟨zE,zE⟩,⟨zE,zE⟩,?_⟩;refine AZ C (dJ C) z R (dJ C).length rfl rfl zE zE hR _ _ _ _ _ B3.length (.own 0 8) .ro zE zd ?_ (fun _=>rfl) ?_ ?_ ?_ ?_ ?_ ?_ ?_ (fun _=>⟨cG,by rw[Qn zE];exact al0,by rw[Qn zE];exact aw9,zE,zE⟩);all_goals simp
