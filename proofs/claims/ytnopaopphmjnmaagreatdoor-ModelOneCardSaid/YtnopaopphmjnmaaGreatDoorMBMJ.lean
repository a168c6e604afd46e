import Derived.Test.YtnopaopphmjnmaaGreatDoorMBMI
set_option linter.all false
set_option maxRecDepth 100000
set_option maxHeartbeats 64000000
namespace Go.Proofs.YtnopaopphmjnmaaGreatDoor
open Go Go.Abs
def we:∀(cs:List Cl)(n i:Nat)(x:List AV),n<=cs.length->(QG cs n)[i]?=some x->∃(k:Nat)(c:Cl),cs[k]?=some c/\k+1+i=n/\x=[I (k:Int),.agg (Qg c)]
 |cs,0,i,x,_,h=>by simp[QG]at h
 |cs,n+1,0,x,hn,h=>by
  rw[nq]at h;simp at h;obtain⟨c,hc⟩:∃c,cs[n]?=some c:=⟨_,zzad (by omega)⟩;refine⟨n,c,hc,by omega,?_⟩;rw[<- h];simp[hc]
 |cs,n+1,i+1,x,hn,h=>by
  rw[nq]at h;obtain⟨k,c,h1,h2,h3⟩:=we cs n i x (by omega) (by simpa using h);exact⟨k,c,h1,by omega,h3⟩
def Fw(cs:List Cl)(n:Nat):(QG cs n).length=n:=by simp[QG]
def Fx{cs:List Cl}{n:Nat}:∀x∈QG cs n,x.length=2:=by
 intro x hx;simp[QG]at hx;obtain⟨k,_,rfl⟩:=hx;rfl
structure SU (C:List Cl) (Bd z:List Int) (n b:Nat) (s:GS) (L:List Nat) (bx:List (List AV)):Prop where
 len:b+4<bx.length
 g1:Qh bx (b+1)=[.bs b 0 n 1]
 g:Qh bx b=Zh (gB s)
 l1:Qh bx (b+3)=[.bs (b+2) 0 (n+1) 1]
 l:Qh bx (b+2)=Xo L
 f:Qh bx (b+4)=[.fn 256 [] [.ptr (b+3) 0]]
 bd:C≠[]->∃aQ,Qh bx 0=[.bs aQ 0 n 1]/\Qh bx aQ=aj (Bd++z)/\0<aQ/\aQ<b
def SU.app{C:List Cl}{Bd z:List Int}{n b:Nat}{s:GS}{L:List Nat}{bx:List (List AV)}(h:SU C Bd z n b s L bx)(x:List (List AV)):SU C Bd z n b s L (bx++x):=by
 have hl:=h.len;refine⟨by simp;omega,by rw[Ql (by omega)];exact h.g1,by rw[Ql (by omega)];exact h.g,by rw[Ql (by omega)];exact h.l1,by rw[Ql (by omega)];exact h.l,by rw[Ql (by omega)];exact h.f,fun hc=>?_⟩;obtain⟨aQ,h1,h2,h3,h4⟩:=h.bd hc;exact⟨aQ,by rw[Ql (by omega)];exact h1,by rw[Ql (by omega)];exact h2,h3,h4⟩
def SU.later{C:List Cl}{Bd z:List Int}{n b:Nat}{s:GS}{L L':List Nat}{bx bx':List (List AV)}(h:SU C Bd z n b s L bx)(hb:0<b)(hk:aZ (·=b+2) bx bx')(hl:Qh bx' (b+2)=Xo L'):SU C Bd z n b s L' bx':=by
 have aH:=h.len;have k:∀j,j<bx.length->j≠b+2->Qh bx' j=Qh bx j:=hk.2;refine⟨by have:=hk.1;omega,by rw[k _ (by omega) (by omega)];exact h.g1,by rw[k _ (by omega) (by omega)];exact h.g,by rw[k _ (by omega) (by omega)];exact h.l1,hl,by rw[k _ (by omega) (by omega)];exact h.f,fun hc=>?_⟩;obtain⟨aQ,h1,h2,h3,h4⟩:=h.bd hc;exact⟨aQ,by rw[k _ (by omega) (by omega)];exact h1,by rw[k _ (by omega) (by omega)];exact h2,h3,h4⟩
def SU.put{C:List Cl}{Bd z:List Int}{n b:Nat}{s:GS}{L:List Nat}{bx:List (List AV)}(h:SU C Bd z n b s L bx)(hb:0<b)(k:Nat)(v:Bool):
  SU C Bd z n b (s.set k (some v)) (L.set k (k+1)) ((bx.set b (Zh ((gB s).set k v))).set (b+2) (Xo (L.set k (k+1)))):=by
 have aH:=h.len
 have e:∀j,j≠b->j≠b+2->Qh ((bx.set b (Zh ((gB s).set k v))).set (b+2) (Xo (L.set k (k+1)))) j=Qh bx j:=fun j h1 h2=>by
  rw[Zv _ (fun h=>h2 h.symm),Zv _ (fun h=>h1 h.symm)]
 refine⟨by simpa using aH,by rw[e _ (by omega) (by omega)];exact h.g1,?_,by rw[e _ (by omega) (by omega)];exact h.l1,by rw[Vp _ (by simp;omega)],by rw[e _ (by omega) (by omega)];exact h.f,fun hc=>?_⟩
 ·rw[Zv _ (by omega),Vp _ (by omega),al7]
 obtain⟨aQ,h1,h2,h3,h4⟩:=h.bd hc;exact⟨aQ,by rw[e _ (by omega) (by omega)];exact h1,by rw[e _ (by omega) (by omega)];exact h2,h3,h4⟩
def aeI(Bd:List Int)(s:GS)(c:Cl):(QH Bd s c).length=s.length:=by simp[QH,qL]
def wg(Bd:List Int):∀(l:List Cl)(s:GS),(l.foldl (QH Bd) s).length=s.length
 |[],_=>rfl
 |c::l,s=>by rw[zzcw,wg Bd l,aeI]
def AE(Bd:List Int):∀(l:List Cl)(s:GS)(i:Nat)(v:Bool),(∀c∈l,c.to∈Bd)->(∀v,s[i]?≠some (some v))->(l.foldl (QH Bd) s)[i]?=some (some v)->i+1<Bd.length+0\/i+1<=Bd.length-1
 |[],s,i,v,_,h0,h=>absurd h (h0 v)
 |c::l,s,i,v,hc,h0,h=>by
  rw[zzcw]at h;by_cases h1:∃v,(QH Bd s c)[i]?=some (some v)
  ·obtain⟨v',h2⟩:=h1;unfold QH at h2;rw[Uv]at h2;cases hs:s[i]? with
   |none=>rw[hs]at h2;cases h2
   |some o=>
    rw[hs]at h2;simp only[zzcr,Option.some.injEq]at h2;split at h2
    ·rename_i h3;have:=KB (hc c (by simp));exact .inl (by omega)
    subst h2;exact absurd hs (h0 v')
  exact AE Bd l _ i v (fun c h=>hc c (by simp[h])) (fun v hv=>h1 ⟨v,hv⟩) h
def NU(s:GS)(j:Nat)(h:nt s j=true):s[j]?≠some none:=by
 intro h';unfold nt at h;rw[h']at h;cases h
def XK{s:GS}{j:Nat}(h:nt s j=false)(hj:j<s.length):s[j]?=some none:=by
 unfold nt at h;obtain⟨o,ho⟩:=aR hj;rw[ho]at h |-
 cases o with
 |none=>rfl
 |some v=>cases h
def KC(s:GS)(a q r:Nat)(v:Bool)(hq:q<=r)(h:∀j,a<=j->j<r->nt s j=true):stepG s a q v=s:=by
 rcases zzhm a q with h1|h1
 ·rw[vZ s a a q v h1 (fun j h2 h3=>NU s j (h j h2 (by omega))),AD _ _ _ _ (zzab _)]
 exact AD _ _ _ _ h1
def AF(C:List Cl)(Bd z:List Int)(R:List Sp)(n:Nat)(hBd:Bd=dA C)(hn:Bd.length=n)(hn9:n<=10000000)(hCl:C.length<=1000000)(hR:R=Xl (nr Bd (vY C) n))(E:List (Nat×AV))(B:List (List AV))(Lm:List Nat)(st:Nat->LS)(ln:Nat)(b:Nat)(rt eT:Rt)
  (hb:0<b)(hBl:B.length=b+4)(h7:Abs.look E 7=.sl rt (C.map Qg))(aT:∀m,bF m 6 (.sl rt (C.map Qg))=.sl eT (C.map Qg))(h8:Abs.look E 8=.ptr 0 0)(qN:Abs.look E 11=.ptr (b+1) 0)(qO:Abs.look E 12=.ptr (b+3) 0)
  (hg1:Qh B (b+1)=[.bs b 0 n 1])(hg:Qh B b=Zh (List.replicate n false))(dZ:Qh B (b+3)=[.bs (b+2) 0 (n+1) 1])(hl:Qh B (b+2)=aj (List.replicate (n+1) 0))
  (sd:C≠[]->∃aQ,Qh B 0=[.bs aQ 0 n 1]/\Qh B aQ=aj (Bd++z)/\0<aQ/\aQ<b):
  vc Tryz.prog az (yM Bd R) Y0 (XH Cz) ⟨Zi 145 E,⟨B,Lm,st,ln⟩⟩ (post Tryz.prog az (yM Bd R) Ej (.sl .ro (R.map Qe))):=by
 simp[XH,qO,dZ]
 refine Qj I5 (fun f m=>∃(i:Nat)(B':List (List AV))(L':List Int),i<=n+1/\f 74=I i/\m=⟨B',Lm,st,ln⟩/\aZ (·=b+2) B B'/\B'.length=B.length/\Qh B' (b+2)=aj L'/\L'.length=n+1/\∀j:Nat,j<i->L'[j]?=some (j:Int))
  (fun f _=>n+1-(numOf (f 74)).toNat) ?_ ?_
 ·exact⟨0,B,List.replicate (n+1) 0,by omega,by simp,rfl,aZ.refl _ _,rfl,hl,by simp,fun j h=>by omega⟩
 rintro f m ⟨i,B',L',hi,h74,rfl,fq,hBl',ew,tg,z6⟩;have Fy:Qh B' (b+3)=[.bs (b+2) 0 (n+1) 1]:=by rw[fq.2 _ (by omega) (by omega)];exact dZ
 rcases zzaa i (n+1)with ai|bB
 ·have ah:(i:Int)<(n:Int)+1:=by omega
  have hw:=bJ i (by omega);have bZ:=J9 L' i (i:Int);have aH:=Ud L';have lK:b+2<B'.length:=by omega
  simp[h74,ah,I5,qO,Fy,ew,hw,bZ,aH,tg,lK];refine⟨by omega,aN,⟨i+1,by omega,by simp,fq.set (.inl rfl) _,hBl',L'.set i (i:Int),Vp _ lK,by simpa using tg,fun j hj=>?_⟩,by omega⟩
  ·by_cases hji':j=i
   ·subst hji';rw[zzaz (by omega)]
   rw[zzbd (fun h=>hji' h.symm)];exact z6 j (by omega)
 obtain rfl:i=n+1:=by omega
 have hLr:L'=(List.range (n+1)).map fun(k:Nat)=>(k:Int):=by
  apply zzci;intro j;by_cases hj:j<n+1
  ·rw[z6 j hj];simp[hj]
  rw[zzax (by omega),zzax (by simp;omega)]
 have avH:Qh B' (b+2)=Xo (List.range (n+1)):=by rw[ew,hLr];rfl
 have bI:¬((n:Int)+1)<(n:Int)+1:=by omega
 have avI:SU C Bd z n b (List.replicate n none) (List.range (n+1)) (B'++[[.fn 256 [] [.ptr (b+3) 0]]]):=by
  have k:∀j,j<B.length->j≠b+2->Qh B' j=Qh B j:=fq.2;refine⟨by simp;omega,?_,?_,?_,?_,?_,fun hc=>?_⟩
  ·rw[Ql (by omega),k _ (by omega) (by omega)];exact hg1
  ·rw[Ql (by omega),k _ (by omega) (by omega),aeG];exact hg
  ·rw[Ql (by omega)];exact Fy
  ·rw[Ql (by omega)];exact avH
  ·have:b+4=B'.length:=by omega
   rw[this];simp
  obtain⟨aQ,h1,h2,h3,h4⟩:=sd hc;exact⟨aQ,by rw[Ql (by omega),k _ (by omega) (by omega)];exact h1,by rw[Ql (by omega),k _ (by omega) (by omega)];exact h2,h3,h4⟩
 have ama:=Zk (l:=[.sl eT (C.map Qg)]) (mh C) ⟨Wk.sl _ _,trivial⟩;have cH:=mj C (by omega);have rY:=fun s hs hR E=>v8 Bd z s R n hs hn9 hR E
 have tV:∀y,Qh (B'++[y]) (b+4)=y:=fun y=>by
  have:b+4=B'.length:=by omega
  rw[this];simp
 simp[h74,I5,h7,qO,aT,hBl',hBl,tV,yM];refine⟨ama,?_⟩;refine jc (xs:=QG C C.length) (by simp) cH Fx (fun i m=>∃(s:GS)(L:List Nat),s=(C.reverse.take i).foldl (QH Bd) (List.replicate n none)/\WF L (nt s) n/\SU C Bd z n b s L m.boxes) (fun _ _=>False) ?_ ?_ (fun _ _ _ h=>h.elim) ?_ ?_ (fun _ _ h=>h.elim)
 ·exact⟨_,_,by simp,WF.init n _ (fun j=>by simp[nt,zzcl]),avI⟩
 ·rintro i m m' ⟨s,L,h1,h2,h3⟩ ⟨⟨bx,e1⟩,_,_⟩;exact⟨s,L,h1,h2,by rw[e1];exact h3.app bx⟩
 ·rintro l i m x hg hr ⟨s,L,hs,hWF,hSt⟩ hx K' k1 _ _;obtain⟨k,c,hc,hk,rfl⟩:=we C C.length i x (zzab _) hx;rw[Ub]at hSt;have hcm:c∈C:=zzac hc;have amb:C≠[]:=List.ne_nil_of_mem hcm
  have avJ:C.reverse[i]?=some c:=by
   rw[List.getElem?_reverse (by omega)];rw[show C.length-1-i=k by omega];exact hc
  have mq:s.length=n:=by rw[hs,wg];simp
  have iz:(C.reverse.take (i+1)).foldl (QH Bd) (List.replicate n none)=QH Bd s c:=by
   rw[zzar,avJ,zzgg,<- hs];rfl
  obtain⟨aQ,d1,d2,d3,d4⟩:=hSt.bd amb;have fu:∀m,(aj (Bd++z)).map (bF m 5)=aj (Bd++z):=fun m=>Zl m 4 (W5 _);have lF:aU 1 n (aj (Bd++z))=Bd.map fun x=>[I x]:=by rw[<- hn,nk];exact vX Bd _
  have p6:n<=(aj (Bd++z)).length:=by rw[Ud];simp;omega
  have nx:Bd.Pairwise (·<=·):=by rw[hBd];exact(NS C).imp (fun h=>Int.le_of_lt h)
  have b1:=oJ Bd c.fr (by omega) nx;have b2:=oJ Bd c.to (by omega) nx;have hto:c.to∈Bd:=by rw[hBd,tU];exact(oN hcm).2
  have he:=KB hto;have ha:=al8 Bd c.fr;have bU:QH Bd s c=stepG s (qK Bd c.fr) (qK Bd c.to) (decide (c.ki=1)):=rfl;rw[bU]at iz;obtain⟨a,hae⟩:∃a,qK Bd c.fr=a:=⟨_,rfl⟩;obtain⟨e,hee⟩:∃e,qK Bd c.to=e:=⟨_,rfl⟩;obtain⟨v,hv⟩:∃v,(c.ki==1)=v:=⟨_,rfl⟩;have EI:decide (c.ki=1)=v:=hv;rw[hae,hee,EI]at iz;rw[hae]at b1 ha;rw[hee]at b2 he;have aH:=hSt.len;have f0:∀x,Qh (m.boxes++x) 0=[.bs aQ 0 n 1]:=fun x=>by rw[Ql (by omega)];exact d1
  have fb:∀x,Qh (m.boxes++x) aQ=aj (Bd++z):=fun x=>by rw[Ql (by omega)];exact d2
  have ff:∀x,Qh (m.boxes++x) (b+4)=[.fn 256 [] [.ptr (b+3) 0]]:=fun x=>by rw[Ql (by omega)];exact hSt.f
  simp[hr,Zj,Qg,h8,yM,f0,fb,ff,fu,lF,p6,hae,hee];refine⟨b1,b2,?_⟩;have amc:=hSt.app [[I c.ki,I c.it,I c.fr,I c.to,I c.re,I c.n,I c.a,I c.b]];refine NR Y0 a n (b+3) (b+2) L (nt s) hWF (by omega) (by omega) _ _ _ _ (by simp;omega) (by simp;omega) (by omega) amc.l1 amc.l _ ?_;intro B1 L1 r cV dZ QI har oO dX SR;have avK:=amc.later hb cV dZ;have XL:m.boxes.length<B1.length:=by have:=cV.1;simp at this;omega
  have art:Qh B1 m.boxes.length=[I c.ki,I c.it,I c.fr,I c.to,I c.re,I c.n,I c.a,I c.b]:=by
   rw[cV.2 _ (by simp) (by omega)];simp
  have Ny:stepG s a (min r e) v=s:=KC s a _ r v (by omega) SR;simp
  refine Qj I6 (fun g m2=>∃(k:Nat)(B2:List (List AV))(L2:List Nat),g 21=I k/\a<=k/\k<=n/\m2=⟨B2,m.lens,p8 m.st l .busy,m.ln⟩/\WF L2 (nt (stepG s a (min k e) v)) n/\nt (stepG s a (min k e) v) k=false/\
   SU C Bd z n b (stepG s a (min k e) v) L2 B2/\m.boxes.length<B2.length/\Qh B2 m.boxes.length=[I c.ki,I c.it,I c.fr,I c.to,I c.re,I c.n,I c.a,I c.b]) (fun g _=>n-(numOf (g 21)).toNat) ?_ ?_
  ·exact⟨r,B1,L1,by simp,har,oO,rfl,by rw[Ny];exact QI,by rw[Ny];exact dX,by rw[Ny];exact avK,XL,art⟩
  rintro g m2 ⟨k,B2,L2,g21,hak,DM,rfl,Fz,hd2,wj,amd,FA⟩;rcases zzaa k e with hke|hke
  ·have FB:min k e=k:=by omega
   rw[FB]at Fz hd2 wj;have avL:(stepG s a k v).length=n:=by rw[qL,mq]
   have avM:k<n:=by omega
   have XM:=XK hd2 (by omega)
   have hsk:s[k]?=some none:=by
    rw[Uv]at XM;cases hq:s[k]? with
    |none=>rw[hq]at XM;cases XM
    |some o=>rw[hq]at XM;simpa using XM
   have dJ:=KA s a k v hak hsk;obtain⟨NV,XN⟩:=XG (stepG s a k v) k v (by omega);have hW3:=WF.dec Fz avM NV XN;have hS3:=wj.put hb k v;have aru:(k:Int)<(e:Int):=by omega
   have arw:(k:Int)<(n:Int):=by omega
   have ame:(k:Int)<(n:Int)+1:=by omega
   have axy:k<n+1:=by omega
   have XA:IntKind.i64.wrap ((k:Int)+1)=(k:Int)+1:=by rw[Qi]<;>omega
   have ic:=al6 (gB (stepG s a k v)) k v;have hns:(Xo L2).set k (I ((k:Int)+1))=Xo (L2.set k (k+1)):=by have:=XD L2 k (k+1);simpa using this
   have iT:=al4 (gB (stepG s a k v));have iQ:(gB (stepG s a k v)).length=n:=by simp[gB,avL]
   have hnl:=XC L2;have hL2:=Fz.1;have fI:=wj.len;have q1:∀X,Qh (B2.set b X) (b+3)=[.bs (b+2) 0 (n+1) 1]:=fun X=>by rw[Zv _ (by omega)];exact wj.l1
   have q2:∀X,Qh (B2.set b X) (b+2)=Xo L2:=fun X=>by rw[Zv _ (by omega)];exact wj.l
   have q3:∀X Z,Qh ((B2.set b X).set (b+2) Z) (b+4)=[.fn 256 [] [.ptr (b+3) 0]]:=fun X Z=>by rw[Zv _ (by omega),Zv _ (by omega)];exact wj.f
   have jb:b<B2.length:=by omega
   have lK:b+2<B2.length:=by omega
   simp[g21,aru,I6,qN,qO,wj.g1,wj.g,FA,hv,arw,ame,XA,ic,hns,iT,iQ,hnl,hL2,q1,q2,q3,jb,lK,yM];have hl3:=hS3.len
   have arx:Qh ((B2.set b (Zh ((gB (stepG s a k v)).set k v))).set (b+2) (Xo (L2.set k (k+1)))) m.boxes.length=[I c.ki,I c.it,I c.fr,I c.to,I c.re,I c.n,I c.a,I c.b]:=by
    rw[Zv _ (by omega),Zv _ (by omega)];exact FA
   have avN:m.boxes.length<((B2.set b (Zh ((gB (stepG s a k v)).set k v))).set (b+2) (Xo (L2.set k (k+1)))).length:=by simpa using amd
   refine⟨by omega,by omega,NR Y0 k n (b+3) (b+2) _ _ hW3 DM (by omega) _ _ _ _ (by omega) (by omega) (by omega) hS3.l1 hS3.l _ ?_⟩;intro B4 L4 r4 NW hl4 hW4 avO avP amf avQ;have hS4:=hS3.later hb NW hl4;have avR:m.boxes.length<B4.length:=by have:=NW.1;omega
   have ary:Qh B4 m.boxes.length=[I c.ki,I c.it,I c.fr,I c.to,I c.re,I c.n,I c.a,I c.b]:=by
    rw[NW.2 _ avN (by omega)];exact arx
   have hr4:k+1<=r4:=by
    rcases Nat.eq_or_lt_of_le avO with h|h
    ·subst h;rw[NV]at amf;cases amf
    exact h
   have wm:stepG s a (min r4 e) v=(stepG s a k v).set k (some v):=by
    rw[<- dJ];refine vZ s a (k+1) (min r4 e) v (by omega) (fun j ek pY=>?_);have h1:=NU _ j (avQ j (by omega) (by omega));rw[zzbd (by omega),Uv]at h1;intro h2;rw[h2]at h1;simp at h1;omega
   simp;refine⟨aN,⟨r4,rfl,by omega,avP,L4,by rw[wm];exact hW4,by rw[wm];exact amf,by rw[wm];exact hS4,avR,ary⟩,by omega⟩
  have FB:min k e=e:=by omega
  rw[FB]at Fz hd2 wj;have avS:¬(k:Int)<(e:Int):=by omega
  simp[g21,avS,I6];exact k1 _ ⟨stepG s a e v,L2,iz.symm,Fz,wj⟩
 rintro m ⟨s,L,hs,hWF,hSt⟩;rw[Fw]at hs;rw[zzam (by simp)]at hs;have hsf:s=vY C:=by rw[hs];unfold vY;rw[<- hBd,hn]
 rw[<- hsf]at hR;have mq:s.length=n:=by rw[hs,wg];simp
 refine v8 Bd z s R n mq hn9 hR _ m.boxes m.lens m.st m.ln b (b+1) Bd ?_ ?_ hSt.g1 hSt.g ?_
 ·simp[h8]
 ·simp[qN]
 intro i hi
 have amb:C≠[]:=by
  rintro rfl;rw[hs]at hi;simp[zzcl]at hi
 obtain⟨aQ,d1,d2,_,_⟩:=hSt.bd amb;refine⟨aQ,d1,d2,?_,hn⟩;rw[hs]at hi;have:=AE Bd C.reverse _ i true (fun c hc=>by rw[hBd,tU];exact(oN (zzfk.1 hc)).2) (fun v=>by simp[zzcl]) hi;omega
section
variable (cs:List Cl) (item region:Int)
def avT(C:List Cl)(rt:Rt)(Lm:List Nat):Prop:=(C=[]/\rt=.nil/\Lm=[])\/(C≠[]/\rt=.own 0 8/\Lm=[C.length])
end
def XO{B:List (List AV)}{i:Nat}{v:List AV}(h:Qh B i=v)(hi:i<B.length):B.set i v=B:=by
 apply zzci;intro j;by_cases hj:j=i
 ·subst hj;rw[zzaz hi,Yz hi,h]
 rw[zzbd (fun e=>hj e.symm)]
def KD(cs:List Cl)(item region:Int)(hl:cs.length<=1000000):Pure Tryz.prog az 187 [.sl .ro (cs.map Qg),I item,I region] (.sl .ro ((Qcc cs item region).map Qe)):=by
 have hR:Qcc cs item region=Xl (nr (dA (Ky cs item region)) (vY (Ky cs item region)) (dA (Ky cs item region)).length):=rfl;have hCl:(Ky cs item region).length<=cs.length:=zzbn _ _;obtain⟨CC,hCC⟩:∃CC,Ky cs item region=CC:=⟨_,rfl⟩;rw[hCC]at hR hCl;generalize Qcc cs item region=R at hR;refine Qn acH (yM (dA CC) R) (by simp) ?_;rw[XI];simp[aju]
 refine Qj dQ (fun f m=>∃(i:Nat)(C:List Cl)(rt:Rt)(Lm:List Nat)(B:List (List AV)),i<=cs.length/\f 27=I i/\f 7=.sl rt (C.map Qg)/\m=⟨B,Lm,fun _=>.gone,0⟩/\C++Ky (cs.drop i) item region=CC/\
   C.length<=i/\0<B.length/\avT C rt Lm/\aeH B C) (fun f _=>cs.length-(numOf (f 27)).toNat) ?_ ?_
 ·exact⟨0,[],.nil,[],[[.sl .nil []]],by omega,by simp,by simp,rfl,by simpa using hCC,by simp,by simp,.inl ⟨rfl,rfl,rfl⟩,.inl ⟨rfl,rfl⟩⟩
 rintro f m ⟨i,C,rt,Lm,B,hi,h27,h7,rfl,hC,hCi,ji,aT,sd⟩;rcases zzaa i cs.length with ai|bB
 ·obtain⟨c,hc⟩:=aR ai;have aa:Qh (cs.map Qg) i=Qg c:=Qs (by simp[hc]);have ah:(i:Int)<(cs.length:Int):=by omega
  have hw:=bJ i (by omega);have hd:cs.drop i=c::cs.drop (i+1):=by rw[zzaf ai,(zza.1 hc).2]
  have hcp:=mw c item region;have XP:=Ko c;rw[hd]at hC
  have skip:Fu item region c=false->C++Ky (cs.drop (i+1)) item region=CC:=by
   intro hb;rw[<- hC];simp[Ky,hb]
  have take:Fu item region c=true->(C++[c])++Ky (cs.drop (i+1)) item region=CC:=by
   intro hb;rw[<- hC];simp[Ky,hb]
  have lD:∀x,Qh (B++x) 0=Qh B 0:=fun x=>Ql ji;by_cases hk:c.ki=1\/c.ki=2
  ·cases e1:gL c item region with
   |false=>
    have hs:=skip (by simp[Fu,e1]);rw[e1]at hcp;obtain hk|hk:=hk
    ·have ko:(⟨1,c.it,c.fr,c.to,c.re,c.n,c.a,c.b⟩:Cl)=c:=by cases c;simp at hk;subst hk;rfl
     have qP:Pure Tryz.prog az 255 [.agg [I 1,I c.it,I c.fr,I c.to,I c.re,I c.n,I c.a,I c.b],I item,I region] (.bool false):=by simpa[Qg,hk]using hcp
     simp[h27,h7,ah,aa,Qg,hk,ko,e1,dQ,hw,yM];refine⟨qP,aN,⟨i+1,by omega,by simp,C,rt,⟨rfl,rfl⟩,Lm,_,⟨rfl,rfl⟩,hs,by omega,by simp,aT,sd.app ji _⟩,by omega⟩
    have ko:(⟨2,c.it,c.fr,c.to,c.re,c.n,c.a,c.b⟩:Cl)=c:=by cases c;simp at hk;subst hk;rfl
    have qP:Pure Tryz.prog az 255 [.agg [I 2,I c.it,I c.fr,I c.to,I c.re,I c.n,I c.a,I c.b],I item,I region] (.bool false):=by simpa[Qg,hk]using hcp
    simp[h27,h7,ah,aa,Qg,hk,ko,e1,dQ,hw,yM];refine⟨qP,aN,⟨i+1,by omega,by simp,C,rt,⟨rfl,rfl⟩,Lm,_,⟨rfl,rfl⟩,hs,by omega,by simp,aT,sd.app ji _⟩,by omega⟩
   |true=>
    rw[e1]at hcp;cases e2:Xj c with
    |false=>
     have hs:=skip (by simp[Fu,e2]);rw[e2]at XP;obtain hk|hk:=hk
     ·have ko:(⟨1,c.it,c.fr,c.to,c.re,c.n,c.a,c.b⟩:Cl)=c:=by cases c;simp at hk;subst hk;rfl
      have qP:Pure Tryz.prog az 255 [.agg [I 1,I c.it,I c.fr,I c.to,I c.re,I c.n,I c.a,I c.b],I item,I region] (.bool true):=by simpa[Qg,hk]using hcp
      have ny:Pure Tryz.prog az 83 [.agg [I 1,I c.it,I c.fr,I c.to,I c.re,I c.n,I c.a,I c.b]] (.bool false):=by simpa[Qg,hk]using XP
      simp[h27,h7,ah,aa,Qg,hk,ko,e1,e2,dQ,hw,yM];refine⟨qP,ny,aN,⟨i+1,by omega,by simp,C,rt,⟨rfl,rfl⟩,Lm,_,⟨rfl,rfl⟩,hs,by omega,by simp,aT,sd.app ji _⟩,by omega⟩
     have ko:(⟨2,c.it,c.fr,c.to,c.re,c.n,c.a,c.b⟩:Cl)=c:=by cases c;simp at hk;subst hk;rfl
     have qP:Pure Tryz.prog az 255 [.agg [I 2,I c.it,I c.fr,I c.to,I c.re,I c.n,I c.a,I c.b],I item,I region] (.bool true):=by simpa[Qg,hk]using hcp
     have ny:Pure Tryz.prog az 83 [.agg [I 2,I c.it,I c.fr,I c.to,I c.re,I c.n,I c.a,I c.b]] (.bool false):=by simpa[Qg,hk]using XP
     simp[h27,h7,ah,aa,Qg,hk,ko,e1,e2,dQ,hw,yM];refine⟨qP,ny,aN,⟨i+1,by omega,by simp,C,rt,⟨rfl,rfl⟩,Lm,_,⟨rfl,rfl⟩,hs,by omega,by simp,aT,sd.app ji _⟩,by omega⟩
    |true=>
     have ht:=take (by simp[Fu,e1,e2,hk]);rw[e2]at XP;obtain hk|hk:=hk
     ·have ko:(⟨1,c.it,c.fr,c.to,c.re,c.n,c.a,c.b⟩:Cl)=c:=by cases c;simp at hk;subst hk;rfl
      have qP:Pure Tryz.prog az 255 [.agg [I 1,I c.it,I c.fr,I c.to,I c.re,I c.n,I c.a,I c.b],I item,I region] (.bool true):=by simpa[Qg,hk]using hcp
      have ny:Pure Tryz.prog az 83 [.agg [I 1,I c.it,I c.fr,I c.to,I c.re,I c.n,I c.a,I c.b]] (.bool true):=by simpa[Qg,hk]using XP
      obtain⟨rfl,rfl,rfl⟩|⟨aJ,rfl,rfl⟩:=aT
      ·obtain⟨_,dO⟩|⟨hx,_⟩:=sd
       ·have KE:∀x,Qh (B++x) 0=[.sl .nil []]:=fun x=>by rw[Ql ji];exact dO
        have qb:∀x y,(B++x).set 0 y=B.set 0 y++x:=fun x y=>Yf y ji;simp[h27,h7,ah,aa,Qg,hk,ko,e1,e2,dQ,hw,KE,qb,yM];refine⟨qP,ny,aN,⟨i+1,by omega,by simp,[c],.own 0 8,⟨rfl,by simp[Qg,hk]⟩,[1],_,⟨rfl,rfl⟩,ht,by simp,by simp,.inr ⟨by simp,rfl,rfl⟩,.inr ⟨by simp,B.length+1,?_,by omega,by simp,?_⟩⟩,by omega⟩
        ·rw[Ql (by simpa using ji),Vp _ ji];rfl
        have:=Vk (B.set 0 [AV.bs (B.length+1) 0 2 1]) [[I 1,I c.it,I c.fr,I c.to,I c.re,I c.n,I c.a,I c.b],[AV.int IntKind.i64 c.fr,AV.int IntKind.i64 c.to]] 1;rw[zzcg]at this;rw[this];rfl
       exact absurd rfl hx
      obtain⟨hx,_⟩|⟨_,aQ,dO,jb,lK,hb3⟩:=sd
      ·exact absurd hx aJ
      have KE:∀x,Qh (B++x) 0=[.bs aQ 0 (eP C).length 1]:=fun x=>by rw[Ql ji];exact dO
      have amg:∀x,Qh (B++x) aQ=aj (eP C):=fun x=>by rw[Ql lK];exact hb3
      have qb:∀x y,(B++x).set 0 y=B.set 0 y++x:=fun x y=>Yf y ji;have SV:∀x y,(B++x).set aQ y=B.set aQ y++x:=fun x y=>Yf y lK;have iT:=oM C;have fR:=Ud (eP C);have yN:∀x,Qh (B.set aQ []++x) 0=[.bs aQ 0 (eP C).length 1]:=fun x=>by rw[Ql (by simpa using ji),Zv _ jb,dO]
      have hss:∀x y,(B.set aQ []++x).set 0 y=(B.set aQ []).set 0 y++x:=fun x y=>Yf y (by simpa using ji);have bz:(aj (eP C)).take (eP C).length=aj (eP C):=zzam (by rw[fR];exact zzab _)
      have hnb:aj (eP C)≠[]:=by
       intro h;have:=congrArg List.length h;rw[fR,iT]at this;exact aJ (zzca.1 (by simp at this;omega))
      simp[h27,h7,ah,aa,Qg,hk,ko,e1,e2,dQ,hw,KE,amg,SV,yN,hss,bz,hnb,fR,yM];refine⟨qP,ny,⟨?_,by omega⟩,⟨by omega,by omega⟩,aN,⟨i+1,by omega,by simp,C++[c],.own 0 8,⟨rfl,by simp[Qg,hk]⟩,[C.length+1],_,⟨rfl,rfl⟩,ht,by simp;omega,by simp,.inr ⟨by simp,rfl,by simp⟩,.inr ⟨by simp,B.length+1,?_,by omega,by simp,?_⟩⟩,by omega⟩
      ·rintro row (⟨a,_,rfl⟩|rfl)<;>rfl
      ·rw[Ql (by simpa using ji),Vp _ (by simpa using ji),oK];simp[eP]
      have:=Vk ((B.set aQ []).set 0 [AV.bs (B.length+1) 0 ((eP C).length+2) 1]) [[I 1,I c.it,I c.fr,I c.to,I c.re,I c.n,I c.a,I c.b],aj (eP C)++[AV.int IntKind.i64 c.fr,AV.int IntKind.i64 c.to]] 1;rw[zzcg,zzcg]at this;rw[this,oK,nk];rfl
     have ko:(⟨2,c.it,c.fr,c.to,c.re,c.n,c.a,c.b⟩:Cl)=c:=by cases c;simp at hk;subst hk;rfl
     have qP:Pure Tryz.prog az 255 [.agg [I 2,I c.it,I c.fr,I c.to,I c.re,I c.n,I c.a,I c.b],I item,I region] (.bool true):=by simpa[Qg,hk]using hcp
     have ny:Pure Tryz.prog az 83 [.agg [I 2,I c.it,I c.fr,I c.to,I c.re,I c.n,I c.a,I c.b]] (.bool true):=by simpa[Qg,hk]using XP
     obtain⟨rfl,rfl,rfl⟩|⟨aJ,rfl,rfl⟩:=aT
     ·obtain⟨_,dO⟩|⟨hx,_⟩:=sd
      ·have KE:∀x,Qh (B++x) 0=[.sl .nil []]:=fun x=>by rw[Ql ji];exact dO
       have qb:∀x y,(B++x).set 0 y=B.set 0 y++x:=fun x y=>Yf y ji;simp[h27,h7,ah,aa,Qg,hk,ko,e1,e2,dQ,hw,KE,qb,yM];refine⟨qP,ny,aN,⟨i+1,by omega,by simp,[c],.own 0 8,⟨rfl,by simp[Qg,hk]⟩,[1],_,⟨rfl,rfl⟩,ht,by simp,by simp,.inr ⟨by simp,rfl,rfl⟩,.inr ⟨by simp,B.length+1,?_,by omega,by simp,?_⟩⟩,by omega⟩
       ·rw[Ql (by simpa using ji),Vp _ ji];rfl
       have:=Vk (B.set 0 [AV.bs (B.length+1) 0 2 1]) [[I 2,I c.it,I c.fr,I c.to,I c.re,I c.n,I c.a,I c.b],[AV.int IntKind.i64 c.fr,AV.int IntKind.i64 c.to]] 1;rw[zzcg]at this;rw[this];rfl
      exact absurd rfl hx
     obtain⟨hx,_⟩|⟨_,aQ,dO,jb,lK,hb3⟩:=sd
     ·exact absurd hx aJ
     have KE:∀x,Qh (B++x) 0=[.bs aQ 0 (eP C).length 1]:=fun x=>by rw[Ql ji];exact dO
     have amg:∀x,Qh (B++x) aQ=aj (eP C):=fun x=>by rw[Ql lK];exact hb3
     have qb:∀x y,(B++x).set 0 y=B.set 0 y++x:=fun x y=>Yf y ji;have SV:∀x y,(B++x).set aQ y=B.set aQ y++x:=fun x y=>Yf y lK;have iT:=oM C;have fR:=Ud (eP C);have yN:∀x,Qh (B.set aQ []++x) 0=[.bs aQ 0 (eP C).length 1]:=fun x=>by rw[Ql (by simpa using ji),Zv _ jb,dO]
     have hss:∀x y,(B.set aQ []++x).set 0 y=(B.set aQ []).set 0 y++x:=fun x y=>Yf y (by simpa using ji);have bz:(aj (eP C)).take (eP C).length=aj (eP C):=zzam (by rw[fR];exact zzab _)
     have hnb:aj (eP C)≠[]:=by
      intro h;have:=congrArg List.length h;rw[fR,iT]at this;exact aJ (zzca.1 (by simp at this;omega))
     simp[h27,h7,ah,aa,Qg,hk,ko,e1,e2,dQ,hw,KE,amg,SV,yN,hss,bz,hnb,fR,yM];refine⟨qP,ny,⟨?_,by omega⟩,⟨by omega,by omega⟩,aN,⟨i+1,by omega,by simp,C++[c],.own 0 8,⟨rfl,by simp[Qg,hk]⟩,[C.length+1],_,⟨rfl,rfl⟩,ht,by simp;omega,by simp,.inr ⟨by simp,rfl,by simp⟩,.inr ⟨by simp,B.length+1,?_,by omega,by simp,?_⟩⟩,by omega⟩
     ·rintro row (⟨a,_,rfl⟩|rfl)<;>rfl
     ·rw[Ql (by simpa using ji),Vp _ (by simpa using ji),oK];simp[eP]
     have:=Vk ((B.set aQ []).set 0 [AV.bs (B.length+1) 0 ((eP C).length+2) 1]) [[I 2,I c.it,I c.fr,I c.to,I c.re,I c.n,I c.a,I c.b],aj (eP C)++[AV.int IntKind.i64 c.fr,AV.int IntKind.i64 c.to]] 1;rw[zzcg,zzcg]at this;rw[this,oK,nk];rfl
  have h1:¬c.ki=1:=fun h=>hk (.inl h);have h2:¬c.ki=2:=fun h=>hk (.inr h);have hs:=skip (by simp[Fu,h1,h2]);simp[h27,h7,ah,aa,Qg,h1,h2,dQ,hw,yM];refine⟨aN,⟨i+1,by omega,by simp,C,rt,⟨rfl,rfl⟩,Lm,_,⟨rfl,rfl⟩,hs,by omega,by simp,aT,sd.app ji _⟩,by omega⟩
 obtain rfl:i=cs.length:=by omega
 have hCe:C=CC:=by rw[<- hC];simp[Ky]
 subst hCe;have w11:IntKind.i64.wrap 1=1:=by rw[Qi]<;>omega
 obtain⟨rfl,rfl,rfl⟩|⟨aJ,rfl,rfl⟩:=aT
 ·obtain⟨_,dO⟩|⟨h,_⟩:=sd
  ·have arz:dA []=[]:=by simp[dA,eP,dd]
   simp[h27,h7,dQ,dO,yM];refine oP _ _ _ _ ?_;simp[dO];refine Cy _ _ _ ?_;have avU:=XO dO ji;have lD:∀x,Qh (B++x) 0=[.sl .nil []]:=fun x=>by rw[Ql ji,dO]
   simp[dO,avU,ji,lD,w11,bG];refine AF [] (dA []) [] R 0 rfl (by rw[arz];rfl) (by omega) (by simp) (by rw[hR,arz];rfl) _ _ _ _ _ B.length .nil .nil ji (by simp) ?_ (fun _=>rfl) ?_ ?_ ?_ ?_ ?_ ?_ ?_ (fun h=>absurd rfl h);all_goals simp[Zh,aj]
  exact absurd rfl h
 obtain⟨h,_⟩|⟨_,aQ,dO,jb,lK,hb3⟩:=sd
 ·exact absurd h aJ
 simp[h27,h7,dQ,dO,yM];have iT:=oM C
 have hnb:aj (eP C)≠[]:=by
  intro h;have:=congrArg List.length h;rw[Ud,iT]at this;exact aJ (zzca.1 (by simp at this;omega))
 refine se _ (eP C) (by rw[iT];omega) _ aQ [] ?_ (by simpa using hnb) _ ?_
 ·show B[aQ]?=_;rw[Yz lK,hb3,zzat]
 obtain⟨l,Az⟩:∃l,(eP C).mergeSort (fun x y=>decide (x<=y))=l:=⟨_,rfl⟩;have y9:(eP C).length=l.length:=by rw[<- Az,zzem]
 have hdl:dd l=dA C:=by rw[<- Az];rfl
 have aeJ:∀X,Qh (B.set aQ X) 0=[.bs aQ 0 (eP C).length 1]:=fun X=>by rw[Zv _ jb];exact dO
 have avV:l≠[]:=by
  intro h;have:=congrArg List.length h;rw[<- y9,iT]at this;exact aJ (zzca.1 (by simp at this;omega))
 simp[AM.wr,Az,aeJ,y9];refine r9 _ l (by rw[<- y9,iT];omega) _ _ _ _ aQ (by simpa using lK) avV (Vp _ lK) _ ?_;intro B2 z di th hz;rw[hdl]at th hz |-
 have avW:0<B2.length:=by have:=di.1;simp at this;omega
 have avX:Qh B2 0=[.bs aQ 0 l.length 1]:=by rw[di.2 0 (by simpa using ji) (fun h=>jb h.symm),aeJ,y9]
 have axz:aQ<B2.length:=by have:=di.1;simp at this;omega
 obtain⟨B3,KF⟩:∃B3,B2.set 0 [.bs aQ 0 (dA C).length 1]=B3:=⟨_,rfl⟩;have avY:B3.length=B2.length:=by rw[<- KF];simp
 have amh:Qh B3 0=[.bs aQ 0 (dA C).length 1]:=by rw[<- KF];exact Vp _ avW
 have avZ:Qh B3 aQ=aj (dA C++z):=by rw[<- KF,Zv _ (fun h=>jb h.symm)];exact th
 have av0:∀x,Qh (B3++x) 0=[.bs aQ 0 (dA C).length 1]:=fun x=>by rw[Ql (by omega)];exact amh
 have av1:0<B3.length:=by omega
 have axA:=NT C;have KG:IntKind.i64.wrap (((dA C).length:Int)+1)=((dA C).length:Int)+1:=by rw[Qi]<;>omega
 have htn:(((dA C).length:Int)+1).toNat=(dA C).length+1:=by omega
 have Ae:(0:Int)<=((dA C).length:Int)+1:=by omega
 have hf1:=XF (dA C).length;have hf2:=Fm ((dA C).length+1);simp[avX,KF,amh,av0,KG,htn,Ae,hf1,hf2,avY.symm,av1];refine⟨⟨by omega,by omega⟩,⟨by omega,by omega⟩,?_⟩;refine AF C (dA C) z R (dA C).length rfl rfl (by omega) (by omega) hR _ _ _ _ _ B3.length (.own 0 8) .ro (by omega) (by simp) ?_ (fun _=>rfl) ?_ ?_ ?_ ?_ ?_ ?_ ?_ (fun _=>⟨aQ,by rw[Ql (by omega)];exact amh,by rw[Ql (by omega)];exact avZ,by omega,by omega⟩);all_goals simp
end Go.Proofs.YtnopaopphmjnmaaGreatDoor
