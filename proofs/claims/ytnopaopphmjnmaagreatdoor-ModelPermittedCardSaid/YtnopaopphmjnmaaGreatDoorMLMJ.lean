import Derived.Test.YtnopaopphmjnmaaGreatDoorMLMI
set_option linter.all false
set_option maxRecDepth 100000
set_option maxHeartbeats 64000000
namespace Go.Proofs.YtnopaopphmjnmaaGreatDoor
open Go Go.Abs
def wW:∀(cs:List Cl)(n i:Nat)(x:List AV),n<=cs.length->(Q5 cs n)[i]?=some x->∃(k:Nat)(c:Cl),cs[k]?=some c/\k+1+i=n/\x=[I (k:Int),.agg (Qg c)]
 |cs,0,i,x,_,h=>by simp[Q5]at h
 |cs,n+1,0,x,hn,h=>by
  rw[nH]at h;simp at h;obtain⟨c,hc⟩:∃c,cs[n]?=some c:=⟨_,zzac (by omega)⟩;refine⟨n,c,hc,by omega,?_⟩;rw[<- h];simp[hc]
 |cs,n+1,i+1,x,hn,h=>by
  rw[nH]at h;obtain⟨k,c,h1,h2,h3⟩:=wW cs n i x (by omega) (by simpa using h);exact⟨k,c,h1,by omega,h3⟩
def FG(cs:List Cl)(n:Nat):(Q5 cs n).length=n:=by simp[Q5]
def FH{cs:List Cl}{n:Nat}:∀x∈Q5 cs n,x.length=2:=by
 intro x hx;simp[Q5]at hx;obtain⟨k,_,rfl⟩:=hx;rfl
structure Tk (C:List Cl) (Bd z:List Int) (n b:Nat) (s:GS) (L:List Nat) (bx:List (List AV)):Prop where
 len:b+4<bx.length
 g1:Qh bx (b+1)=[.bs b 0 n 1]
 g:Qh bx b=Zi (gB s)
 l1:Qh bx (b+3)=[.bs (b+2) 0 (n+1) 1]
 l:Qh bx (b+2)=Xp L
 f:Qh bx (b+4)=[.fn 256 [] [.ptr (b+3) 0]]
 bd:C≠[]->∃aQ,Qh bx 0=[.bs aQ 0 n 1]/\Qh bx aQ=aj (Bd++z)/\0<aQ/\aQ<b
def Tk.app{C:List Cl}{Bd z:List Int}{n b:Nat}{s:GS}{L:List Nat}{bx:List (List AV)}(h:Tk C Bd z n b s L bx)(x:List (List AV)):Tk C Bd z n b s L (bx++x):=by
 have hl:=h.len;refine⟨by simp;omega,by rw[Ql (by omega)];exact h.g1,by rw[Ql (by omega)];exact h.g,by rw[Ql (by omega)];exact h.l1,by rw[Ql (by omega)];exact h.l,by rw[Ql (by omega)];exact h.f,fun hc=>?_⟩;obtain⟨aQ,h1,h2,h3,h4⟩:=h.bd hc;exact⟨aQ,by rw[Ql (by omega)];exact h1,by rw[Ql (by omega)];exact h2,h3,h4⟩
def Tk.later{C:List Cl}{Bd z:List Int}{n b:Nat}{s:GS}{L L':List Nat}{bx bx':List (List AV)}(h:Tk C Bd z n b s L bx)(hb:0<b)(hk:bn (·=b+2) bx bx')(hl:Qh bx' (b+2)=Xp L'):Tk C Bd z n b s L' bx':=by
 have aH:=h.len;have k:∀j,j<bx.length->j≠b+2->Qh bx' j=Qh bx j:=hk.2;refine⟨by have:=hk.1;omega,by rw[k _ (by omega) (by omega)];exact h.g1,by rw[k _ (by omega) (by omega)];exact h.g,by rw[k _ (by omega) (by omega)];exact h.l1,hl,by rw[k _ (by omega) (by omega)];exact h.f,fun hc=>?_⟩;obtain⟨aQ,h1,h2,h3,h4⟩:=h.bd hc;exact⟨aQ,by rw[k _ (by omega) (by omega)];exact h1,by rw[k _ (by omega) (by omega)];exact h2,h3,h4⟩
def Tk.put{C:List Cl}{Bd z:List Int}{n b:Nat}{s:GS}{L:List Nat}{bx:List (List AV)}(h:Tk C Bd z n b s L bx)(hb:0<b)(k:Nat)(v:Bool):
  Tk C Bd z n b (s.set k (some v)) (L.set k (k+1)) ((bx.set b (Zi ((gB s).set k v))).set (b+2) (Xp (L.set k (k+1)))):=by
 have aH:=h.len
 have e:∀j,j≠b->j≠b+2->Qh ((bx.set b (Zi ((gB s).set k v))).set (b+2) (Xp (L.set k (k+1)))) j=Qh bx j:=fun j h1 h2=>by
  rw[Zy _ (fun h=>h2 h.symm),Zy _ (fun h=>h1 h.symm)]
 refine⟨by simpa using aH,by rw[e _ (by omega) (by omega)];exact h.g1,?_,by rw[e _ (by omega) (by omega)];exact h.l1,by rw[Vp _ (by simp;omega)],by rw[e _ (by omega) (by omega)];exact h.f,fun hc=>?_⟩
 ·rw[Zy _ (by omega),Vp _ (by omega),amz]
 obtain⟨aQ,h1,h2,h3,h4⟩:=h.bd hc;exact⟨aQ,by rw[e _ (by omega) (by omega)];exact h1,by rw[e _ (by omega) (by omega)];exact h2,h3,h4⟩
def ae2(Bd:List Int)(s:GS)(c:Cl):(Q6 Bd s c).length=s.length:=by simp[Q6,qY]
def wX(Bd:List Int):∀(l:List Cl)(s:GS),(l.foldl (Q6 Bd) s).length=s.length
 |[],_=>rfl
 |c::l,s=>by rw[zzcz,wX Bd l,ae2]
def AY(Bd:List Int):∀(l:List Cl)(s:GS)(i:Nat)(v:Bool),(∀c∈l,c.to∈Bd)->(∀v,s[i]?≠some (some v))->(l.foldl (Q6 Bd) s)[i]?=some (some v)->i+1<Bd.length+0\/i+1<=Bd.length-1
 |[],s,i,v,_,h0,h=>absurd h (h0 v)
 |c::l,s,i,v,hc,h0,h=>by
  rw[zzcz]at h;by_cases h1:∃v,(Q6 Bd s c)[i]?=some (some v)
  ·obtain⟨v',h2⟩:=h1;unfold Q6 at h2;rw[Uw]at h2;cases hs:s[i]? with
   |none=>rw[hs]at h2;cases h2
   |some o=>
    rw[hs]at h2;simp only[zzcv,Option.some.injEq]at h2;split at h2
    ·rename_i h3;have:=KM (hc c (by simp));exact .inl (by omega)
    subst h2;exact absurd hs (h0 v')
  exact AY Bd l _ i v (fun c h=>hc c (by simp[h])) (fun v hv=>h1 ⟨v,hv⟩) h
def Oe(s:GS)(j:Nat)(h:nJ s j=true):s[j]?≠some none:=by
 intro h';unfold nJ at h;rw[h']at h;cases h
def X6{s:GS}{j:Nat}(h:nJ s j=false)(hj:j<s.length):s[j]?=some none:=by
 unfold nJ at h;obtain⟨o,ho⟩:=aS hj;rw[ho]at h |-
 cases o with
 |none=>rfl
 |some v=>cases h
def KN(s:GS)(a q r:Nat)(v:Bool)(hq:q<=r)(h:∀j,a<=j->j<r->nJ s j=true):stepG s a q v=s:=by
 rcases zzhs a q with h1|h1
 ·rw[wR s a a q v h1 (fun j h2 h3=>Oe s j (h j h2 (by omega))),AX _ _ _ _ (zzab _)]
 exact AX _ _ _ _ h1
def AZ(C:List Cl)(Bd z:List Int)(R:List Sp)(n:Nat)(hBd:Bd=dB C)(hn:Bd.length=n)(hn9:n<=10000000)(hCl:C.length<=1000000)(hR:R=Xl (nI Bd (wQ C) n))(E:List (Nat×AV))(B:List (List AV))(Lm:List Nat)(st:Nat->LS)(ln:Nat)(b:Nat)(rt eY:Rt)
  (hb:0<b)(hBl:B.length=b+4)(h7:Abs.look E 7=.sl rt (C.map Qg))(aR:∀m,bF m 6 (.sl rt (C.map Qg))=.sl eY (C.map Qg))(h8:Abs.look E 8=.ptr 0 0)(kY:Abs.look E 11=.ptr (b+1) 0)(qt:Abs.look E 12=.ptr (b+3) 0)
  (hg1:Qh B (b+1)=[.bs b 0 n 1])(hg:Qh B b=Zi (List.replicate n false))(dZ:Qh B (b+3)=[.bs (b+2) 0 (n+1) 1])(hl:Qh B (b+2)=aj (List.replicate (n+1) 0))
  (sE:C≠[]->∃aQ,Qh B 0=[.bs aQ 0 n 1]/\Qh B aQ=aj (Bd++z)/\0<aQ/\aQ<b):
  vc Tryz.prog az (Kv Bd R) Y0 (X2 CZ) ⟨Zf 145 E,⟨B,Lm,st,ln⟩⟩ (post Tryz.prog az (Kv Bd R) EA (.sl .ro (R.map Qe))):=by
 simp[X2,qt,dZ]
 refine Qi JH (fun f m=>∃(i:Nat)(B':List (List AV))(L':List Int),i<=n+1/\f 74=I i/\m=⟨B',Lm,st,ln⟩/\bn (·=b+2) B B'/\B'.length=B.length/\Qh B' (b+2)=aj L'/\L'.length=n+1/\∀j:Nat,j<i->L'[j]?=some (j:Int))
  (fun f _=>n+1-(numOf (f 74)).toNat) ?_ ?_
 ·exact⟨0,B,List.replicate (n+1) 0,by omega,by simp,rfl,bn.refl _ _,rfl,hl,by simp,fun j h=>by omega⟩
 rintro f m ⟨i,B',L',hi,h74,rfl,fG,hBl',ey,tN,Ar⟩;have FI:Qh B' (b+3)=[.bs (b+2) 0 (n+1) 1]:=by rw[fG.2 _ (by omega) (by omega)];exact dZ
 rcases zzaa i (n+1)with ai|bu
 ·have aa:(i:Int)<(n:Int)+1:=by omega
  have hw:=bJ i (by omega);have bV:=KG L' i (i:Int);have aH:=Ug L';have mM:b+2<B'.length:=by omega
  simp[h74,aa,ai,JH,qt,FI,ey,hw,bV,aH,tN,mM];refine⟨by omega,aO,⟨i+1,by omega,by simp,fG.set (.inl rfl) _,hBl',L'.set i (i:Int),Vp _ mM,by simpa using tN,fun j hj=>?_⟩,by omega⟩
  ·by_cases hji':j=i
   ·subst hji';rw[zzb (by omega)]
   rw[zzbe (fun h=>hji' h.symm)];exact Ar j (by omega)
 obtain rfl:i=n+1:=by omega
 have hLr:L'=(List.range (n+1)).map fun(k:Nat)=>(k:Int):=by
  apply zzcm;intro j;by_cases hj:j<n+1
  ·rw[Ar j hj];simp[hj]
  rw[zzay (by omega),zzay (by simp;omega)]
 have awn:Qh B' (b+2)=Xp (List.range (n+1)):=by rw[ey,hLr];rfl
 have bI:¬((n:Int)+1)<(n:Int)+1:=by omega
 have awo:Tk C Bd z n b (List.replicate n none) (List.range (n+1)) (B'++[[.fn 256 [] [.ptr (b+3) 0]]]):=by
  have k:∀j,j<B.length->j≠b+2->Qh B' j=Qh B j:=fG.2;refine⟨by simp;omega,?_,?_,?_,?_,?_,fun hc=>?_⟩
  ·rw[Ql (by omega),k _ (by omega) (by omega)];exact hg1
  ·rw[Ql (by omega),k _ (by omega) (by omega),ae0];exact hg
  ·rw[Ql (by omega)];exact FI
  ·rw[Ql (by omega)];exact awn
  ·have:b+4=B'.length:=by omega
   rw[this];simp
  obtain⟨aQ,h1,h2,h3,h4⟩:=sE hc;exact⟨aQ,by rw[Ql (by omega),k _ (by omega) (by omega)];exact h1,by rw[Ql (by omega),k _ (by omega) (by omega)];exact h2,h3,h4⟩
 have amC:=Zt (l:=[.sl eY (C.map Qg)]) (mH C) ⟨Wk.sl _ _,trivial⟩;have cm:=mJ C (by omega);have sy:=fun s hs hR E=>wV Bd z s R n hs hn9 hR E
 have uy:∀y,Qh (B'++[y]) (b+4)=y:=fun y=>by
  have:b+4=B'.length:=by omega
  rw[this];simp
 simp[h74,JH,h7,qt,aR,hBl',hBl,uy,Kv];refine⟨amC,?_⟩;refine jm (xs:=Q5 C C.length) (by simp) cm FH (fun i m=>∃(s:GS)(L:List Nat),s=(C.reverse.take i).foldl (Q6 Bd) (List.replicate n none)/\WF L (nJ s) n/\Tk C Bd z n b s L m.boxes) (fun _ _=>False) ?_ ?_ (fun _ _ _ h=>h.elim) ?_ ?_ (fun _ _ h=>h.elim)
 ·exact⟨_,_,by simp,WF.init n _ (fun j=>by simp[nJ,zzcp]),awo⟩
 ·rintro i m m' ⟨s,L,h1,h2,h3⟩ ⟨⟨bx,e1⟩,_,_⟩;exact⟨s,L,h1,h2,by rw[e1];exact h3.app bx⟩
 ·rintro l i m x hg hr ⟨s,L,hs,hWF,hSt⟩ hx K' k1 _ _;obtain⟨k,c,hc,hk,rfl⟩:=wW C C.length i x (zzab _) hx;rw[Ue]at hSt;have hcm:c∈C:=zzad hc;have amD:C≠[]:=List.ne_nil_of_mem hcm
  have awp:C.reverse[i]?=some c:=by
   rw[List.getElem?_reverse (by omega)];rw[show C.length-1-i=k by omega];exact hc
  have mN:s.length=n:=by rw[hs,wX];simp
  have iH:(C.reverse.take (i+1)).foldl (Q6 Bd) (List.replicate n none)=Q6 Bd s c:=by
   rw[zzas,awp,zzgo,<- hs];rfl
  obtain⟨aQ,d1,d2,d3,d4⟩:=hSt.bd amD;have fH:∀m,(aj (Bd++z)).map (bF m 5)=aj (Bd++z):=fun m=>Zk m 4 (XS _);have lS:aV 1 n (aj (Bd++z))=Bd.map fun x=>[I x]:=by rw[<- hn,nG];exact wO Bd _
  have qo:n<=(aj (Bd++z)).length:=by rw[Ug];simp;omega
  have nK:Bd.Pairwise (·<=·):=by rw[hBd];exact(Oa C).imp (fun h=>Int.le_of_lt h)
  have b1:=o9 Bd c.fr (by omega) nK;have b2:=o9 Bd c.to (by omega) nK;have hto:c.to∈Bd:=by rw[hBd,ux];exact(pq hcm).2
  have he:=KM hto;have ha:=amA Bd c.fr;have cc:Q6 Bd s c=stepG s (qX Bd c.fr) (qX Bd c.to) (decide (c.ki=1)):=rfl;rw[cc]at iH;obtain⟨a,hae⟩:∃a,qX Bd c.fr=a:=⟨_,rfl⟩;obtain⟨e,hee⟩:∃e,qX Bd c.to=e:=⟨_,rfl⟩;obtain⟨v,hv⟩:∃v,(c.ki==1)=v:=⟨_,rfl⟩;have Cy:decide (c.ki=1)=v:=hv;rw[hae,hee,Cy]at iH;rw[hae]at b1 ha;rw[hee]at b2 he;have aH:=hSt.len;have f0:∀x,Qh (m.boxes++x) 0=[.bs aQ 0 n 1]:=fun x=>by rw[Ql (by omega)];exact d1
  have fb:∀x,Qh (m.boxes++x) aQ=aj (Bd++z):=fun x=>by rw[Ql (by omega)];exact d2
  have ff:∀x,Qh (m.boxes++x) (b+4)=[.fn 256 [] [.ptr (b+3) 0]]:=fun x=>by rw[Ql (by omega)];exact hSt.f
  simp[hr,Zj,Qg,h8,Kv,f0,fb,ff,fH,lS,qo,hae,hee];refine⟨b1,b2,?_⟩;have amE:=hSt.app [[I c.ki,I c.it,I c.fr,I c.to,I c.re,I c.n,I c.a,I c.b]];refine N9 Y0 a n (b+3) (b+2) L (nJ s) hWF (by omega) (by omega) _ _ _ _ (by simp;omega) (by simp;omega) (by omega) amE.l1 amE.l _ ?_;intro B1 L1 r cV dZ Q7 har uz dX Ti;have awq:=amE.later hb cV dZ;have X7:m.boxes.length<B1.length:=by have:=cV.1;simp at this;omega
  have arZ:Qh B1 m.boxes.length=[I c.ki,I c.it,I c.fr,I c.to,I c.re,I c.n,I c.a,I c.b]:=by
   rw[cV.2 _ (by simp) (by omega)];simp
  have NQ:stepG s a (min r e) v=s:=KN s a _ r v (by omega) Ti;simp
  refine Qi JI (fun g m2=>∃(k:Nat)(B2:List (List AV))(L2:List Nat),g 21=I k/\a<=k/\k<=n/\m2=⟨B2,m.lens,qq m.st l .busy,m.ln⟩/\WF L2 (nJ (stepG s a (min k e) v)) n/\nJ (stepG s a (min k e) v) k=false/\
   Tk C Bd z n b (stepG s a (min k e) v) L2 B2/\m.boxes.length<B2.length/\Qh B2 m.boxes.length=[I c.ki,I c.it,I c.fr,I c.to,I c.re,I c.n,I c.a,I c.b]) (fun g _=>n-(numOf (g 21)).toNat) ?_ ?_
  ·exact⟨r,B1,L1,by simp,har,uz,rfl,by rw[NQ];exact Q7,by rw[NQ];exact dX,by rw[NQ];exact awq,X7,arZ⟩
  rintro g m2 ⟨k,B2,L2,g21,hak,D5,rfl,FJ,hd2,wY,amF,hrow2⟩;rcases zzaa k e with hke|hke
  ·have wZ:min k e=k:=by omega
   rw[wZ]at FJ hd2 wY;have awr:(stepG s a k v).length=n:=by rw[qY,mN]
   have ar0:k<n:=by omega
   have X8:=X6 hd2 (by omega)
   have hsk:s[k]?=some none:=by
    rw[Uw]at X8;cases hq:s[k]? with
    |none=>rw[hq]at X8;cases X8
    |some o=>rw[hq]at X8;simpa using X8
   have dJ:=KL s a k v hak hsk;obtain⟨Of,X9⟩:=X1 (stepG s a k v) k v (by omega);have hW3:=WF.dec FJ ar0 Of X9;have hS3:=wY.put hb k v;have ar1:(k:Int)<(e:Int):=by omega
   have ar2:(k:Int)<(n:Int):=by omega
   have amG:(k:Int)<(n:Int)+1:=by omega
   have aws:k<n+1:=by omega
   have Q3:IntKind.i64.wrap ((k:Int)+1)=(k:Int)+1:=by rw[Qk]<;>omega
   have iy:=amy (gB (stepG s a k v)) k v;have hns:(Xp L2).set k (I ((k:Int)+1))=Xp (L2.set k (k+1)):=by have:=XY L2 k (k+1);simpa using this
   have ja:=amw (gB (stepG s a k v));have lM:(gB (stepG s a k v)).length=n:=by simp[gB,awr]
   have hnl:=XX L2;have hL2:=FJ.1;have eE:=wY.len;have q1:∀X,Qh (B2.set b X) (b+3)=[.bs (b+2) 0 (n+1) 1]:=fun X=>by rw[Zy _ (by omega)];exact wY.l1
   have q2:∀X,Qh (B2.set b X) (b+2)=Xp L2:=fun X=>by rw[Zy _ (by omega)];exact wY.l
   have q3:∀X Z,Qh ((B2.set b X).set (b+2) Z) (b+4)=[.fn 256 [] [.ptr (b+3) 0]]:=fun X Z=>by rw[Zy _ (by omega),Zy _ (by omega)];exact wY.f
   have mF:b<B2.length:=by omega
   have mM:b+2<B2.length:=by omega
   simp[g21,ar1,hke,JI,kY,qt,wY.g1,wY.g,hrow2,hv,ar2,ar0,amG,aws,Q3,iy,hns,ja,lM,hnl,hL2,q1,q2,q3,mF,mM,Kv];have hl3:=hS3.len
   have ar3:Qh ((B2.set b (Zi ((gB (stepG s a k v)).set k v))).set (b+2) (Xp (L2.set k (k+1)))) m.boxes.length=[I c.ki,I c.it,I c.fr,I c.to,I c.re,I c.n,I c.a,I c.b]:=by
    rw[Zy _ (by omega),Zy _ (by omega)];exact hrow2
   have awt:m.boxes.length<((B2.set b (Zi ((gB (stepG s a k v)).set k v))).set (b+2) (Xp (L2.set k (k+1)))).length:=by simpa using amF
   refine⟨by omega,by omega,N9 Y0 k n (b+3) (b+2) _ _ hW3 D5 (by omega) _ _ _ _ (by omega) (by omega) (by omega) hS3.l1 hS3.l _ ?_⟩;intro B4 L4 r4 Og hl4 hW4 awu awv amH aww;have hS4:=hS3.later hb Og hl4;have awx:m.boxes.length<B4.length:=by have:=Og.1;omega
   have ar4:Qh B4 m.boxes.length=[I c.ki,I c.it,I c.fr,I c.to,I c.re,I c.n,I c.a,I c.b]:=by
    rw[Og.2 _ awt (by omega)];exact ar3
   have hr4:k+1<=r4:=by
    rcases Nat.eq_or_lt_of_le awu with h|h
    ·subst h;rw[Of]at amH;cases amH
    exact h
   have w8:stepG s a (min r4 e) v=(stepG s a k v).set k (some v):=by
    rw[<- dJ];refine wR s a (k+1) (min r4 e) v (by omega) (fun j ek ql=>?_);have h1:=Oe _ j (aww j (by omega) (by omega));rw[zzbe (by omega),Uw]at h1;intro h2;rw[h2]at h1;simp at h1;omega
   simp;refine⟨aO,⟨r4,rfl,by omega,awv,L4,by rw[w8];exact hW4,by rw[w8];exact amH,by rw[w8];exact hS4,awx,ar4⟩,by omega⟩
  have wZ:min k e=e:=by omega
  rw[wZ]at FJ hd2 wY;have awy:¬(k:Int)<(e:Int):=by omega
  simp[g21,awy,zzbm.2 hke,JI];exact k1 _ ⟨stepG s a e v,L2,iH.symm,FJ,wY⟩
 rintro m ⟨s,L,hs,hWF,hSt⟩;rw[FG]at hs;rw[zzap (by simp)]at hs;have hsf:s=wQ C:=by rw[hs];unfold wQ;rw[<- hBd,hn]
 rw[<- hsf]at hR;have mN:s.length=n:=by rw[hs,wX];simp
 refine wV Bd z s R n mN hn9 hR _ m.boxes m.lens m.st m.ln b (b+1) Bd ?_ ?_ hSt.g1 hSt.g ?_
 ·simp[h8]
 ·simp[kY]
 intro i hi
 have amD:C≠[]:=by
  rintro rfl;rw[hs]at hi;simp[zzcp]at hi
 obtain⟨aQ,d1,d2,_,_⟩:=hSt.bd amD;refine⟨aQ,d1,d2,?_,hn⟩;rw[hs]at hi;have:=AY Bd C.reverse _ i true (fun c hc=>by rw[hBd,ux];exact(pq (zzfp.1 hc)).2) (fun v=>by simp[zzcp]) hi;omega
section
variable (cs:List Cl) (item region:Int)
def awz(C:List Cl)(rt:Rt)(Lm:List Nat):Prop:=(C=[]/\rt=.nil/\Lm=[])\/(C≠[]/\rt=.own 0 8/\Lm=[C.length])
end
def Ys{B:List (List AV)}{i:Nat}{v:List AV}(h:Qh B i=v)(hi:i<B.length):B.set i v=B:=by
 apply zzcm;intro j;by_cases hj:j=i
 ·subst hj;rw[zzb hi,Uc hi,h]
 rw[zzbe (fun e=>hj e.symm)]
def KO(cs:List Cl)(item region:Int)(hl:cs.length<=1000000):Pure Tryz.prog az 187 [.sl .ro (cs.map Qg),I item,I region] (.sl .ro ((Qcj cs item region).map Qe)):=by
 have hR:Qcj cs item region=Xl (nI (dB (We cs item region)) (wQ (We cs item region)) (dB (We cs item region)).length):=rfl;have hCl:(We cs item region).length<=cs.length:=zzbr _ _;obtain⟨CC,hCC⟩:∃CC,We cs item region=CC:=⟨_,rfl⟩;rw[hCC]at hR hCl;generalize Qcj cs item region=R at hR;refine Qn ac3 (Kv (dB CC) R) (by simp) ?_;rw[X3];simp[ajW]
 refine Qi dQ (fun f m=>∃(i:Nat)(C:List Cl)(rt:Rt)(Lm:List Nat)(B:List (List AV)),i<=cs.length/\f 27=I i/\f 7=.sl rt (C.map Qg)/\m=⟨B,Lm,fun _=>.gone,0⟩/\C++We (cs.drop i) item region=CC/\
   C.length<=i/\0<B.length/\awz C rt Lm/\ae1 B C) (fun f _=>cs.length-(numOf (f 27)).toNat) ?_ ?_
 ·exact⟨0,[],.nil,[],[[.sl .nil []]],by omega,by simp,by simp,rfl,by simpa using hCC,by simp,by simp,.inl ⟨rfl,rfl,rfl⟩,.inl ⟨rfl,rfl⟩⟩
 rintro f m ⟨i,C,rt,Lm,B,hi,h27,h7,rfl,hC,hCi,eV,aR,sE⟩;rcases zzaa i cs.length with ai|bu
 ·obtain⟨c,hc⟩:=aS ai;have ah:Qh (cs.map Qg) i=Qg c:=Qs (by simp[hc]);have aa:(i:Int)<(cs.length:Int):=by omega
  have hw:=bJ i (by omega);have hd:cs.drop i=c::cs.drop (i+1):=by rw[zzaf ai,(zza.1 hc).2]
  have hcp:=mO c item region;have YA:=Kr c;rw[hd]at hC
  have skip:FF item region c=false->C++We (cs.drop (i+1)) item region=CC:=by
   intro hb;rw[<- hC];simp[We,hb]
  have take:FF item region c=true->(C++[c])++We (cs.drop (i+1)) item region=CC:=by
   intro hb;rw[<- hC];simp[We,hb]
  have gI:∀x,Qh (B++x) 0=Qh B 0:=fun x=>Ql eV;by_cases hk:c.ki=1\/c.ki=2
  ·cases e1:gR c item region with
   |false=>
    have hs:=skip (by simp[FF,e1]);rw[e1]at hcp;obtain hk|hk:=hk
    ·have kP:(⟨1,c.it,c.fr,c.to,c.re,c.n,c.a,c.b⟩:Cl)=c:=by cases c;simp at hk;subst hk;rfl
     have rf:Pure Tryz.prog az 255 [.agg [I 1,I c.it,I c.fr,I c.to,I c.re,I c.n,I c.a,I c.b],I item,I region] (.bool false):=by simpa[Qg,hk]using hcp
     simp[h27,h7,ai,aa,ah,Qg,hk,kP,e1,dQ,hw,Kv];refine⟨rf,aO,⟨i+1,by omega,by simp,C,rt,⟨rfl,rfl⟩,Lm,_,⟨rfl,rfl⟩,hs,by omega,by simp,aR,sE.app eV _⟩,by omega⟩
    have kP:(⟨2,c.it,c.fr,c.to,c.re,c.n,c.a,c.b⟩:Cl)=c:=by cases c;simp at hk;subst hk;rfl
    have rf:Pure Tryz.prog az 255 [.agg [I 2,I c.it,I c.fr,I c.to,I c.re,I c.n,I c.a,I c.b],I item,I region] (.bool false):=by simpa[Qg,hk]using hcp
    simp[h27,h7,ai,aa,ah,Qg,hk,kP,e1,dQ,hw,Kv];refine⟨rf,aO,⟨i+1,by omega,by simp,C,rt,⟨rfl,rfl⟩,Lm,_,⟨rfl,rfl⟩,hs,by omega,by simp,aR,sE.app eV _⟩,by omega⟩
   |true=>
    rw[e1]at hcp;cases e2:Xk c with
    |false=>
     have hs:=skip (by simp[FF,e2]);rw[e2]at YA;obtain hk|hk:=hk
     ·have kP:(⟨1,c.it,c.fr,c.to,c.re,c.n,c.a,c.b⟩:Cl)=c:=by cases c;simp at hk;subst hk;rfl
      have rf:Pure Tryz.prog az 255 [.agg [I 1,I c.it,I c.fr,I c.to,I c.re,I c.n,I c.a,I c.b],I item,I region] (.bool true):=by simpa[Qg,hk]using hcp
      have nL:Pure Tryz.prog az 83 [.agg [I 1,I c.it,I c.fr,I c.to,I c.re,I c.n,I c.a,I c.b]] (.bool false):=by simpa[Qg,hk]using YA
      simp[h27,h7,ai,aa,ah,Qg,hk,kP,e1,e2,dQ,hw,Kv];refine⟨rf,nL,aO,⟨i+1,by omega,by simp,C,rt,⟨rfl,rfl⟩,Lm,_,⟨rfl,rfl⟩,hs,by omega,by simp,aR,sE.app eV _⟩,by omega⟩
     have kP:(⟨2,c.it,c.fr,c.to,c.re,c.n,c.a,c.b⟩:Cl)=c:=by cases c;simp at hk;subst hk;rfl
     have rf:Pure Tryz.prog az 255 [.agg [I 2,I c.it,I c.fr,I c.to,I c.re,I c.n,I c.a,I c.b],I item,I region] (.bool true):=by simpa[Qg,hk]using hcp
     have nL:Pure Tryz.prog az 83 [.agg [I 2,I c.it,I c.fr,I c.to,I c.re,I c.n,I c.a,I c.b]] (.bool false):=by simpa[Qg,hk]using YA
     simp[h27,h7,ai,aa,ah,Qg,hk,kP,e1,e2,dQ,hw,Kv];refine⟨rf,nL,aO,⟨i+1,by omega,by simp,C,rt,⟨rfl,rfl⟩,Lm,_,⟨rfl,rfl⟩,hs,by omega,by simp,aR,sE.app eV _⟩,by omega⟩
    |true=>
     have ht:=take (by simp[FF,e1,e2,hk]);rw[e2]at YA;obtain hk|hk:=hk
     ·have kP:(⟨1,c.it,c.fr,c.to,c.re,c.n,c.a,c.b⟩:Cl)=c:=by cases c;simp at hk;subst hk;rfl
      have rf:Pure Tryz.prog az 255 [.agg [I 1,I c.it,I c.fr,I c.to,I c.re,I c.n,I c.a,I c.b],I item,I region] (.bool true):=by simpa[Qg,hk]using hcp
      have nL:Pure Tryz.prog az 83 [.agg [I 1,I c.it,I c.fr,I c.to,I c.re,I c.n,I c.a,I c.b]] (.bool true):=by simpa[Qg,hk]using YA
      obtain⟨rfl,rfl,rfl⟩|⟨aK,rfl,rfl⟩:=aR
      ·obtain⟨_,dO⟩|⟨hx,_⟩:=sE
       ·have KP:∀x,Qh (B++x) 0=[.sl .nil []]:=fun x=>by rw[Ql eV];exact dO
        have lV:∀x y,(B++x).set 0 y=B.set 0 y++x:=fun x y=>Yk y eV;simp[h27,h7,ai,aa,ah,Qg,hk,kP,e1,e2,dQ,hw,KP,lV,eV,Kv];refine⟨rf,nL,aO,⟨i+1,by omega,by simp,[c],.own 0 8,⟨rfl,by simp[Qg,hk]⟩,[1],_,⟨rfl,rfl⟩,ht,by simp,by simp,.inr ⟨by simp,rfl,rfl⟩,.inr ⟨by simp,B.length+1,?_,by omega,by simp,?_⟩⟩,by omega⟩
        ·rw[Ql (by simpa using eV),Vp _ eV];rfl
        have:=Vj (B.set 0 [AV.bs (B.length+1) 0 2 1]) [[I 1,I c.it,I c.fr,I c.to,I c.re,I c.n,I c.a,I c.b],[AV.int IntKind.i64 c.fr,AV.int IntKind.i64 c.to]] 1;rw[zzci]at this;rw[this];rfl
       exact absurd rfl hx
      obtain⟨hx,_⟩|⟨_,aQ,dO,mF,mM,hb3⟩:=sE
      ·exact absurd hx aK
      have KP:∀x,Qh (B++x) 0=[.bs aQ 0 (eU C).length 1]:=fun x=>by rw[Ql eV];exact dO
      have amI:∀x,Qh (B++x) aQ=aj (eU C):=fun x=>by rw[Ql mM];exact hb3
      have lV:∀x y,(B++x).set 0 y=B.set 0 y++x:=fun x y=>Yk y eV;have Tl:∀x y,(B++x).set aQ y=B.set aQ y++x:=fun x y=>Yk y mM;have ja:=pn C;have eS:=Ug (eU C);have sF:∀x,Qh (B.set aQ []++x) 0=[.bs aQ 0 (eU C).length 1]:=fun x=>by rw[Ql (by simpa using eV),Zy _ mF,dO]
      have hss:∀x y,(B.set aQ []++x).set 0 y=(B.set aQ []).set 0 y++x:=fun x y=>Yk y (by simpa using eV);have bB:(aj (eU C)).take (eU C).length=aj (eU C):=zzap (by rw[eS];exact zzab _)
      have hnb:aj (eU C)≠[]:=by
       intro h;have:=congrArg List.length h;rw[eS,ja]at this;exact aK (zzcb.1 (by simp at this;omega))
      simp[h27,h7,ai,aa,ah,Qg,hk,kP,e1,e2,dQ,hw,KP,amI,lV,Tl,sF,hss,bB,hnb,eV,mM,eS,Kv];refine⟨rf,nL,⟨?_,by omega⟩,⟨by omega,by omega⟩,aO,⟨i+1,by omega,by simp,C++[c],.own 0 8,⟨rfl,by simp[Qg,hk]⟩,[C.length+1],_,⟨rfl,rfl⟩,ht,by simp;omega,by simp,.inr ⟨by simp,rfl,by simp⟩,.inr ⟨by simp,B.length+1,?_,by omega,by simp,?_⟩⟩,by omega⟩
      ·rintro row (⟨a,_,rfl⟩|rfl)<;>rfl
      ·rw[Ql (by simpa using eV),Vp _ (by simpa using eV),pe];simp[eU]
      have:=Vj ((B.set aQ []).set 0 [AV.bs (B.length+1) 0 ((eU C).length+2) 1]) [[I 1,I c.it,I c.fr,I c.to,I c.re,I c.n,I c.a,I c.b],aj (eU C)++[AV.int IntKind.i64 c.fr,AV.int IntKind.i64 c.to]] 1;rw[zzci,zzci]at this;rw[this,pe,nG];rfl
     have kP:(⟨2,c.it,c.fr,c.to,c.re,c.n,c.a,c.b⟩:Cl)=c:=by cases c;simp at hk;subst hk;rfl
     have rf:Pure Tryz.prog az 255 [.agg [I 2,I c.it,I c.fr,I c.to,I c.re,I c.n,I c.a,I c.b],I item,I region] (.bool true):=by simpa[Qg,hk]using hcp
     have nL:Pure Tryz.prog az 83 [.agg [I 2,I c.it,I c.fr,I c.to,I c.re,I c.n,I c.a,I c.b]] (.bool true):=by simpa[Qg,hk]using YA
     obtain⟨rfl,rfl,rfl⟩|⟨aK,rfl,rfl⟩:=aR
     ·obtain⟨_,dO⟩|⟨hx,_⟩:=sE
      ·have KP:∀x,Qh (B++x) 0=[.sl .nil []]:=fun x=>by rw[Ql eV];exact dO
       have lV:∀x y,(B++x).set 0 y=B.set 0 y++x:=fun x y=>Yk y eV;simp[h27,h7,ai,aa,ah,Qg,hk,kP,e1,e2,dQ,hw,KP,lV,eV,Kv];refine⟨rf,nL,aO,⟨i+1,by omega,by simp,[c],.own 0 8,⟨rfl,by simp[Qg,hk]⟩,[1],_,⟨rfl,rfl⟩,ht,by simp,by simp,.inr ⟨by simp,rfl,rfl⟩,.inr ⟨by simp,B.length+1,?_,by omega,by simp,?_⟩⟩,by omega⟩
       ·rw[Ql (by simpa using eV),Vp _ eV];rfl
       have:=Vj (B.set 0 [AV.bs (B.length+1) 0 2 1]) [[I 2,I c.it,I c.fr,I c.to,I c.re,I c.n,I c.a,I c.b],[AV.int IntKind.i64 c.fr,AV.int IntKind.i64 c.to]] 1;rw[zzci]at this;rw[this];rfl
      exact absurd rfl hx
     obtain⟨hx,_⟩|⟨_,aQ,dO,mF,mM,hb3⟩:=sE
     ·exact absurd hx aK
     have KP:∀x,Qh (B++x) 0=[.bs aQ 0 (eU C).length 1]:=fun x=>by rw[Ql eV];exact dO
     have amI:∀x,Qh (B++x) aQ=aj (eU C):=fun x=>by rw[Ql mM];exact hb3
     have lV:∀x y,(B++x).set 0 y=B.set 0 y++x:=fun x y=>Yk y eV;have Tl:∀x y,(B++x).set aQ y=B.set aQ y++x:=fun x y=>Yk y mM;have ja:=pn C;have eS:=Ug (eU C);have sF:∀x,Qh (B.set aQ []++x) 0=[.bs aQ 0 (eU C).length 1]:=fun x=>by rw[Ql (by simpa using eV),Zy _ mF,dO]
     have hss:∀x y,(B.set aQ []++x).set 0 y=(B.set aQ []).set 0 y++x:=fun x y=>Yk y (by simpa using eV);have bB:(aj (eU C)).take (eU C).length=aj (eU C):=zzap (by rw[eS];exact zzab _)
     have hnb:aj (eU C)≠[]:=by
      intro h;have:=congrArg List.length h;rw[eS,ja]at this;exact aK (zzcb.1 (by simp at this;omega))
     simp[h27,h7,ai,aa,ah,Qg,hk,kP,e1,e2,dQ,hw,KP,amI,lV,Tl,sF,hss,bB,hnb,eV,mM,eS,Kv];refine⟨rf,nL,⟨?_,by omega⟩,⟨by omega,by omega⟩,aO,⟨i+1,by omega,by simp,C++[c],.own 0 8,⟨rfl,by simp[Qg,hk]⟩,[C.length+1],_,⟨rfl,rfl⟩,ht,by simp;omega,by simp,.inr ⟨by simp,rfl,by simp⟩,.inr ⟨by simp,B.length+1,?_,by omega,by simp,?_⟩⟩,by omega⟩
     ·rintro row (⟨a,_,rfl⟩|rfl)<;>rfl
     ·rw[Ql (by simpa using eV),Vp _ (by simpa using eV),pe];simp[eU]
     have:=Vj ((B.set aQ []).set 0 [AV.bs (B.length+1) 0 ((eU C).length+2) 1]) [[I 2,I c.it,I c.fr,I c.to,I c.re,I c.n,I c.a,I c.b],aj (eU C)++[AV.int IntKind.i64 c.fr,AV.int IntKind.i64 c.to]] 1;rw[zzci,zzci]at this;rw[this,pe,nG];rfl
  have h1:¬c.ki=1:=fun h=>hk (.inl h);have h2:¬c.ki=2:=fun h=>hk (.inr h);have hs:=skip (by simp[FF,h1,h2]);simp[h27,h7,ai,aa,ah,Qg,h1,h2,dQ,hw,Kv];refine⟨aO,⟨i+1,by omega,by simp,C,rt,⟨rfl,rfl⟩,Lm,_,⟨rfl,rfl⟩,hs,by omega,by simp,aR,sE.app eV _⟩,by omega⟩
 obtain rfl:i=cs.length:=by omega
 have hCe:C=CC:=by rw[<- hC];simp[We]
 subst hCe;have w11:IntKind.i64.wrap 1=1:=by rw[Qk]<;>omega
 obtain⟨rfl,rfl,rfl⟩|⟨aK,rfl,rfl⟩:=aR
 ·obtain⟨_,dO⟩|⟨h,_⟩:=sE
  ·have ar5:dB []=[]:=by simp[dB,eU,dd]
   simp[h27,h7,dQ,dO,Kv];refine pz _ _ _ _ ?_;simp[dO,Kv];refine CY _ _ _ ?_;have awA:=Ys dO eV;have gI:∀x,Qh (B++x) 0=[.sl .nil []]:=fun x=>by rw[Ql eV,dO]
   simp[dO,awA,eV,gI,Kv,w11,bG];refine AZ [] (dB []) [] R 0 rfl (by rw[ar5];rfl) (by omega) (by simp) (by rw[hR,ar5];rfl) _ _ _ _ _ B.length .nil .nil eV (by simp) ?_ (fun _=>rfl) ?_ ?_ ?_ ?_ ?_ ?_ ?_ (fun h=>absurd rfl h);all_goals simp[Zi,aj]
  exact absurd rfl h
 obtain⟨h,_⟩|⟨_,aQ,dO,mF,mM,hb3⟩:=sE
 ·exact absurd h aK
 simp[h27,h7,dQ,dO,Kv];have ja:=pn C
 have hnb:aj (eU C)≠[]:=by
  intro h;have:=congrArg List.length h;rw[Ug,ja]at this;exact aK (zzcb.1 (by simp at this;omega))
 refine sG _ (eU C) (by rw[ja];omega) _ aQ [] ?_ (by simpa using hnb) _ ?_
 ·show B[aQ]?=_;rw[Uc mM,hb3,zzau]
 obtain⟨l,AT⟩:∃l,(eU C).mergeSort (fun x y=>decide (x<=y))=l:=⟨_,rfl⟩;have wI:(eU C).length=l.length:=by rw[<- AT,zzep]
 have hdl:dd l=dB C:=by rw[<- AT];rfl
 have ae3:∀X,Qh (B.set aQ X) 0=[.bs aQ 0 (eU C).length 1]:=fun X=>by rw[Zy _ mF];exact dO
 have awB:l≠[]:=by
  intro h;have:=congrArg List.length h;rw[<- wI,ja]at this;exact aK (zzcb.1 (by simp at this;omega))
 simp[AM.wr,AT,ae3,wI,Kv];refine sD _ l (by rw[<- wI,ja];omega) _ _ _ _ aQ (by simpa using mM) awB (Vp _ mM) _ ?_;intro B2 z dw ri hz;rw[hdl]at ri hz |-
 have ae4:0<B2.length:=by have:=dw.1;simp at this;omega
 have awC:Qh B2 0=[.bs aQ 0 l.length 1]:=by rw[dw.2 0 (by simpa using eV) (fun h=>mF h.symm),ae3,wI]
 have ayf:aQ<B2.length:=by have:=dw.1;simp at this;omega
 obtain⟨B3,YB⟩:∃B3,B2.set 0 [.bs aQ 0 (dB C).length 1]=B3:=⟨_,rfl⟩;have awD:B3.length=B2.length:=by rw[<- YB];simp
 have amJ:Qh B3 0=[.bs aQ 0 (dB C).length 1]:=by rw[<- YB];exact Vp _ ae4
 have awE:Qh B3 aQ=aj (dB C++z):=by rw[<- YB,Zy _ (fun h=>mF h.symm)];exact ri
 have awF:∀x,Qh (B3++x) 0=[.bs aQ 0 (dB C).length 1]:=fun x=>by rw[Ql (by omega)];exact amJ
 have awG:0<B3.length:=by omega
 have ayg:=Ob C;have YC:IntKind.i64.wrap (((dB C).length:Int)+1)=((dB C).length:Int)+1:=by rw[Qk]<;>omega
 have htn:(((dB C).length:Int)+1).toNat=(dB C).length+1:=by omega
 have Az:(0:Int)<=((dB C).length:Int)+1:=by omega
 have hf1:=X0 (dB C).length;have hf2:=Fz ((dB C).length+1);simp[awC,ae4,YB,amJ,awF,YC,htn,Az,hf1,hf2,awD.symm,awG,Kv];refine⟨⟨by omega,by omega⟩,⟨by omega,by omega⟩,?_⟩;refine AZ C (dB C) z R (dB C).length rfl rfl (by omega) (by omega) hR _ _ _ _ _ B3.length (.own 0 8) .ro (by omega) (by simp) ?_ (fun _=>rfl) ?_ ?_ ?_ ?_ ?_ ?_ ?_ (fun _=>⟨aQ,by rw[Ql (by omega)];exact amJ,by rw[Ql (by omega)];exact awE,by omega,by omega⟩);all_goals simp
end Go.Proofs.YtnopaopphmjnmaaGreatDoor
