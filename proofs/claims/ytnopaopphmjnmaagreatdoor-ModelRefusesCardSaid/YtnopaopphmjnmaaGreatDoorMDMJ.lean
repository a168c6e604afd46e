import Derived.Test.YtnopaopphmjnmaaGreatDoorMDMI
set_option linter.all false
set_option maxRecDepth 100000
set_option maxHeartbeats 64000000
namespace Go.Proofs.YtnopaopphmjnmaaGreatDoor
open Go Go.Abs
def wG:∀(cs:List Cl)(n i:Nat)(x:List AV),n<=cs.length->(Q7 cs n)[i]?=some x->∃(k:Nat)(c:Cl),cs[k]?=some c/\k+1+i=n/\x=[I (k:Int),.agg (Qg c)]
 |cs,0,i,x,_,h=>by simp[Q7]at h
 |cs,n+1,0,x,hn,h=>by
  rw[nB]at h;simp at h;obtain⟨c,hc⟩:∃c,cs[n]?=some c:=⟨_,zzad (by omega)⟩;refine⟨n,c,hc,by omega,?_⟩;rw[<- h];simp[hc]
 |cs,n+1,i+1,x,hn,h=>by
  rw[nB]at h;obtain⟨k,c,h1,h2,h3⟩:=wG cs n i x (by omega) (by simpa using h);exact⟨k,c,h1,by omega,h3⟩
def FH(cs:List Cl)(n:Nat):(Q7 cs n).length=n:=by simp[Q7]
def FI{cs:List Cl}{n:Nat}:∀x∈Q7 cs n,x.length=2:=by
 intro x hx;simp[Q7]at hx;obtain⟨k,_,rfl⟩:=hx;rfl
structure Tg (C:List Cl) (Bd z:List Int) (n b:Nat) (s:GS) (L:List Nat) (bx:List (List AV)):Prop where
 len:b+4<bx.length
 g1:Qh bx (b+1)=[.bs b 0 n 1]
 g:Qh bx b=Zh (gB s)
 l1:Qh bx (b+3)=[.bs (b+2) 0 (n+1) 1]
 l:Qh bx (b+2)=Xn L
 f:Qh bx (b+4)=[.fn 256 [] [.ptr (b+3) 0]]
 bd:C≠[]->∃aQ,Qh bx 0=[.bs aQ 0 n 1]/\Qh bx aQ=aj (Bd++z)/\0<aQ/\aQ<b
def Tg.app{C:List Cl}{Bd z:List Int}{n b:Nat}{s:GS}{L:List Nat}{bx:List (List AV)}(h:Tg C Bd z n b s L bx)(x:List (List AV)):Tg C Bd z n b s L (bx++x):=by
 have hl:=h.len;refine⟨by simp;omega,by rw[Ql (by omega)];exact h.g1,by rw[Ql (by omega)];exact h.g,by rw[Ql (by omega)];exact h.l1,by rw[Ql (by omega)];exact h.l,by rw[Ql (by omega)];exact h.f,fun hc=>?_⟩;obtain⟨aQ,h1,h2,h3,h4⟩:=h.bd hc;exact⟨aQ,by rw[Ql (by omega)];exact h1,by rw[Ql (by omega)];exact h2,h3,h4⟩
def Tg.later{C:List Cl}{Bd z:List Int}{n b:Nat}{s:GS}{L L':List Nat}{bx bx':List (List AV)}(h:Tg C Bd z n b s L bx)(hb:0<b)(hk:aZ (·=b+2) bx bx')(hl:Qh bx' (b+2)=Xn L'):Tg C Bd z n b s L' bx':=by
 have aI:=h.len;have k:∀j,j<bx.length->j≠b+2->Qh bx' j=Qh bx j:=hk.2;refine⟨by have:=hk.1;omega,by rw[k _ (by omega) (by omega)];exact h.g1,by rw[k _ (by omega) (by omega)];exact h.g,by rw[k _ (by omega) (by omega)];exact h.l1,hl,by rw[k _ (by omega) (by omega)];exact h.f,fun hc=>?_⟩;obtain⟨aQ,h1,h2,h3,h4⟩:=h.bd hc;exact⟨aQ,by rw[k _ (by omega) (by omega)];exact h1,by rw[k _ (by omega) (by omega)];exact h2,h3,h4⟩
def Tg.put{C:List Cl}{Bd z:List Int}{n b:Nat}{s:GS}{L:List Nat}{bx:List (List AV)}(h:Tg C Bd z n b s L bx)(hb:0<b)(k:Nat)(v:Bool):
  Tg C Bd z n b (s.set k (some v)) (L.set k (k+1)) ((bx.set b (Zh ((gB s).set k v))).set (b+2) (Xn (L.set k (k+1)))):=by
 have aI:=h.len
 have e:∀j,j≠b->j≠b+2->Qh ((bx.set b (Zh ((gB s).set k v))).set (b+2) (Xn (L.set k (k+1)))) j=Qh bx j:=fun j h1 h2=>by
  rw[Zu _ (fun h=>h2 h.symm),Zu _ (fun h=>h1 h.symm)]
 refine⟨by simpa using aI,by rw[e _ (by omega) (by omega)];exact h.g1,?_,by rw[e _ (by omega) (by omega)];exact h.l1,by rw[Vn _ (by simp;omega)],by rw[e _ (by omega) (by omega)];exact h.f,fun hc=>?_⟩
 ·rw[Zu _ (by omega),Vn _ (by omega),ani]
 obtain⟨aQ,h1,h2,h3,h4⟩:=h.bd hc;exact⟨aQ,by rw[e _ (by omega) (by omega)];exact h1,by rw[e _ (by omega) (by omega)];exact h2,h3,h4⟩
def afp(Bd:List Int)(s:GS)(c:Cl):(Q8 Bd s c).length=s.length:=by simp[Q8,qX]
def wH(Bd:List Int):∀(l:List Cl)(s:GS),(l.foldl (Q8 Bd) s).length=s.length
 |[],_=>rfl
 |c::l,s=>by rw[zzcx,wH Bd l,afp]
def AR(Bd:List Int):∀(l:List Cl)(s:GS)(i:Nat)(v:Bool),(∀c∈l,c.to∈Bd)->(∀v,s[i]?≠some (some v))->(l.foldl (Q8 Bd) s)[i]?=some (some v)->i+1<Bd.length+0\/i+1<=Bd.length-1
 |[],s,i,v,_,h0,h=>absurd h (h0 v)
 |c::l,s,i,v,hc,h0,h=>by
  rw[zzcx]at h;by_cases h1:∃v,(Q8 Bd s c)[i]?=some (some v)
  ·obtain⟨v',h2⟩:=h1;unfold Q8 at h2;rw[Uu]at h2;cases hs:s[i]? with
   |none=>rw[hs]at h2;cases h2
   |some o=>
    rw[hs]at h2;simp only[zzcs,Option.some.injEq]at h2;split at h2
    ·rename_i h3;have:=KT (hc c (by simp));exact .inl (by omega)
    subst h2;exact absurd hs (h0 v')
  exact AR Bd l _ i v (fun c h=>hc c (by simp[h])) (fun v hv=>h1 ⟨v,hv⟩) h
def Oi(s:GS)(j:Nat)(h:nD s j=true):s[j]?≠some none:=by
 intro h';unfold nD at h;rw[h']at h;cases h
def YG{s:GS}{j:Nat}(h:nD s j=false)(hj:j<s.length):s[j]?=some none:=by
 unfold nD at h;obtain⟨o,ho⟩:=aP hj;rw[ho]at h |-
 cases o with
 |none=>rfl
 |some v=>cases h
def KU(s:GS)(a q r:Nat)(v:Bool)(hq:q<=r)(h:∀j,a<=j->j<r->nD s j=true):stepG s a q v=s:=by
 rcases zzhn a q with h1|h1
 ·rw[wC s a a q v h1 (fun j h2 h3=>Oi s j (h j h2 (by omega))),AQ _ _ _ _ (zzab _)]
 exact AQ _ _ _ _ h1
def AT(C:List Cl)(Bd z:List Int)(R:List Sp)(n:Nat)(hBd:Bd=dB C)(hn:Bd.length=n)(hn9:n<=10000000)(hCl:C.length<=1000000)(hR:R=Xk (nC Bd (wB C) n))(E:List (Nat×AV))(B:List (List AV))(Lm:List Nat)(st:Nat->LS)(ln:Nat)(b:Nat)(rt fe:Rt)
  (hb:0<b)(X9:B.length=b+4)(h7:Abs.look E 7=.sl rt (C.map Qg))(aT:∀m,bF m 6 (.sl rt (C.map Qg))=.sl fe (C.map Qg))(h8:Abs.look E 8=.ptr 0 0)(iz:Abs.look E 11=.ptr (b+1) 0)(qZ:Abs.look E 12=.ptr (b+3) 0)
  (hg1:Qh B (b+1)=[.bs b 0 n 1])(hg:Qh B b=Zh (List.replicate n false))(ef:Qh B (b+3)=[.bs (b+2) 0 (n+1) 1])(hl:Qh B (b+2)=aj (List.replicate (n+1) 0))
  (sB:C≠[]->∃aQ,Qh B 0=[.bs aQ 0 n 1]/\Qh B aQ=aj (Bd++z)/\0<aQ/\aQ<b):
  vc Tryz.prog aq (yV Bd R) Y0 (YC CQ) ⟨Zb 145 E,⟨B,Lm,st,ln⟩⟩ (post Tryz.prog aq (yV Bd R) EA (.sl .ro (R.map Qe))):=by
 simp[YC,qZ,ef]
 refine Qi JJ (fun f m=>∃(i:Nat)(B':List (List AV))(L':List Int),i<=n+1/\f 74=I i/\m=⟨B',Lm,st,ln⟩/\aZ (·=b+2) B B'/\B'.length=B.length/\Qh B' (b+2)=aj L'/\L'.length=n+1/\∀j:Nat,j<i->L'[j]?=some (j:Int))
  (fun f _=>n+1-(numOf (f 74)).toNat) ?_ ?_
 ·exact⟨0,B,List.replicate (n+1) 0,by omega,by simp,rfl,aZ.refl _ _,rfl,hl,by simp,fun j h=>by omega⟩
 rintro f m ⟨i,B',L',hi,h74,rfl,eU,hBl',ez,tK,Aj⟩;have FJ:Qh B' (b+3)=[.bs (b+2) 0 (n+1) 1]:=by rw[eU.2 _ (by omega) (by omega)];exact ef
 rcases zzaa i (n+1)with ai|bw
 ·have ah:(i:Int)<(n:Int)+1:=by omega
  have hw:=bH i (by omega);have bW:=KN L' i (i:Int);have aI:=Ue L';have og:b+2<B'.length:=by omega
  simp[h74,ah,JJ,qZ,FJ,ez,hw,bW,aI,tK,og];refine⟨by omega,aN,⟨i+1,by omega,by simp,eU.set (.inl rfl) _,hBl',L'.set i (i:Int),Vn _ og,by simpa using tK,fun j hj=>?_⟩,by omega⟩
  ·by_cases hji':j=i
   ·subst hji';rw[zzaz (by omega)]
   rw[zzbe (fun h=>hji' h.symm)];exact Aj j (by omega)
 obtain rfl:i=n+1:=by omega
 have hLr:L'=(List.range (n+1)).map fun(k:Nat)=>(k:Int):=by
  apply zzcj;intro j;by_cases hj:j<n+1
  ·rw[Aj j hj];simp[hj]
  rw[zzax (by omega),zzax (by simp;omega)]
 have axm:Qh B' (b+2)=Xn (List.range (n+1)):=by rw[ez,hLr];rfl
 have bJ:¬((n:Int)+1)<(n:Int)+1:=by omega
 have axn:Tg C Bd z n b (List.replicate n none) (List.range (n+1)) (B'++[[.fn 256 [] [.ptr (b+3) 0]]]):=by
  have k:∀j,j<B.length->j≠b+2->Qh B' j=Qh B j:=eU.2;refine⟨by simp;omega,?_,?_,?_,?_,?_,fun hc=>?_⟩
  ·rw[Ql (by omega),k _ (by omega) (by omega)];exact hg1
  ·rw[Ql (by omega),k _ (by omega) (by omega),afn];exact hg
  ·rw[Ql (by omega)];exact FJ
  ·rw[Ql (by omega)];exact axm
  ·have:b+4=B'.length:=by omega
   rw[this];simp
  obtain⟨aQ,h1,h2,h3,h4⟩:=sB hc;exact⟨aQ,by rw[Ql (by omega),k _ (by omega) (by omega)];exact h1,by rw[Ql (by omega),k _ (by omega) (by omega)];exact h2,h3,h4⟩
 have anl:=Zj (l:=[.sl fe (C.map Qg)]) (mB C) ⟨Wk.sl _ _,trivial⟩;have cH:=mC C (by omega);have sv:=fun s hs hR E=>wE Bd z s R n hs hn9 hR E
 have uq:∀y,Qh (B'++[y]) (b+4)=y:=fun y=>by
  have:b+4=B'.length:=by omega
  rw[this];simp
 simp[h74,JJ,h7,qZ,aT,hBl',X9,uq,yV];refine⟨anl,?_⟩;refine jh (xs:=Q7 C C.length) (by simp) cH FI (fun i m=>∃(s:GS)(L:List Nat),s=(C.reverse.take i).foldl (Q8 Bd) (List.replicate n none)/\WF L (nD s) n/\Tg C Bd z n b s L m.boxes) (fun _ _=>False) ?_ ?_ (fun _ _ _ h=>h.elim) ?_ ?_ (fun _ _ h=>h.elim)
 ·exact⟨_,_,by simp,WF.init n _ (fun j=>by simp[nD,zzcm]),axn⟩
 ·rintro i m m' ⟨s,L,h1,h2,h3⟩ ⟨⟨bx,e1⟩,_,_⟩;exact⟨s,L,h1,h2,by rw[e1];exact h3.app bx⟩
 ·rintro l i m x hg hr ⟨s,L,hs,hWF,hSt⟩ hx K' k1 _ _;obtain⟨k,c,hc,hk,rfl⟩:=wG C C.length i x (zzab _) hx;rw[Uc]at hSt;have hcm:c∈C:=zzac hc;have anm:C≠[]:=List.ne_nil_of_mem hcm
  have axo:C.reverse[i]?=some c:=by
   rw[List.getElem?_reverse (by omega)];rw[show C.length-1-i=k by omega];exact hc
  have mD:s.length=n:=by rw[hs,wH];simp
  have iG:(C.reverse.take (i+1)).foldl (Q8 Bd) (List.replicate n none)=Q8 Bd s c:=by
   rw[zzar,axo,zzge,<- hs];rfl
  obtain⟨aQ,d1,d2,d3,d4⟩:=hSt.bd anm;have fG:∀m,(aj (Bd++z)).map (bF m 5)=aj (Bd++z):=fun m=>Zk m 4 (X2 _);have jg:aV 1 n (aj (Bd++z))=Bd.map fun x=>[I x]:=by rw[<- hn,nA];exact wA Bd _
  have qj:n<=(aj (Bd++z)).length:=by rw[Ue];simp;omega
  have nE:Bd.Pairwise (·<=·):=by rw[hBd];exact(Og C).imp (fun h=>Int.le_of_lt h)
  have b1:=oS Bd c.fr (by omega) nE;have b2:=oS Bd c.to (by omega) nE;have hto:c.to∈Bd:=by rw[hBd,uo];exact(oV hcm).2
  have he:=KT hto;have ha:=anj Bd c.fr;have cc:Q8 Bd s c=stepG s (qW Bd c.fr) (qW Bd c.to) (decide (c.ki=1)):=rfl;rw[cc]at iG;obtain⟨a,hae⟩:∃a,qW Bd c.fr=a:=⟨_,rfl⟩;obtain⟨e,hee⟩:∃e,qW Bd c.to=e:=⟨_,rfl⟩;obtain⟨v,hv⟩:∃v,(c.ki==1)=v:=⟨_,rfl⟩;have EX:decide (c.ki=1)=v:=hv;rw[hae,hee,EX]at iG;rw[hae]at b1 ha;rw[hee]at b2 he;have aI:=hSt.len;have f0:∀x,Qh (m.boxes++x) 0=[.bs aQ 0 n 1]:=fun x=>by rw[Ql (by omega)];exact d1
  have fb:∀x,Qh (m.boxes++x) aQ=aj (Bd++z):=fun x=>by rw[Ql (by omega)];exact d2
  have ff:∀x,Qh (m.boxes++x) (b+4)=[.fn 256 [] [.ptr (b+3) 0]]:=fun x=>by rw[Ql (by omega)];exact hSt.f
  simp[hr,Zi,Qg,h8,yV,f0,fb,ff,fG,jg,qj,hae,hee];refine⟨b1,b2,?_⟩;have ann:=hSt.app [[I c.ki,I c.it,I c.fr,I c.to,I c.re,I c.n,I c.a,I c.b]];refine Of Y0 a n (b+3) (b+2) L (nD s) hWF (by omega) (by omega) _ _ _ _ (by simp;omega) (by simp;omega) (by omega) ann.l1 ann.l _ ?_;intro B1 L1 r cZ ef Q9 har sC dZ Te;have axp:=ann.later hb cZ ef;have YH:m.boxes.length<B1.length:=by have:=cZ.1;simp at this;omega
  have asZ:Qh B1 m.boxes.length=[I c.ki,I c.it,I c.fr,I c.to,I c.re,I c.n,I c.a,I c.b]:=by
   rw[cZ.2 _ (by simp) (by omega)];simp
  have NW:stepG s a (min r e) v=s:=KU s a _ r v (by omega) Te;simp
  refine Qi JK (fun g m2=>∃(k:Nat)(B2:List (List AV))(L2:List Nat),g 21=I k/\a<=k/\k<=n/\m2=⟨B2,m.lens,ql m.st l .busy,m.ln⟩/\WF L2 (nD (stepG s a (min k e) v)) n/\nD (stepG s a (min k e) v) k=false/\
   Tg C Bd z n b (stepG s a (min k e) v) L2 B2/\m.boxes.length<B2.length/\Qh B2 m.boxes.length=[I c.ki,I c.it,I c.fr,I c.to,I c.re,I c.n,I c.a,I c.b]) (fun g _=>n-(numOf (g 21)).toNat) ?_ ?_
  ·exact⟨r,B1,L1,by simp,har,sC,rfl,by rw[NW];exact Q9,by rw[NW];exact dZ,by rw[NW];exact axp,YH,asZ⟩
  rintro g m2 ⟨k,B2,L2,g21,hak,D3,rfl,FK,hd2,wI,ano,wJ⟩;rcases zzaa k e with hke|hke
  ·have FL:min k e=k:=by omega
   rw[FL]at FK hd2 wI;have axq:(stepG s a k v).length=n:=by rw[qX,mD]
   have axr:k<n:=by omega
   have YI:=YG hd2 (by omega)
   have hsk:s[k]?=some none:=by
    rw[Uu]at YI;cases hq:s[k]? with
    |none=>rw[hq]at YI;cases YI
    |some o=>rw[hq]at YI;simpa using YI
   have dL:=KS s a k v hak hsk;obtain⟨Oj,YJ⟩:=YB (stepG s a k v) k v (by omega);have hW3:=WF.dec FK axr Oj YJ;have hS3:=wI.put hb k v;have as0:(k:Int)<(e:Int):=by omega
   have as1:(k:Int)<(n:Int):=by omega
   have anp:(k:Int)<(n:Int)+1:=by omega
   have azk:k<n+1:=by omega
   have Oe:IntKind.i64.wrap ((k:Int)+1)=(k:Int)+1:=by rw[Qk]<;>omega
   have iy:=anh (gB (stepG s a k v)) k v;have hns:(Xn L2).set k (I ((k:Int)+1))=Xn (L2.set k (k+1)):=by have:=X8 L2 k (k+1);simpa using this
   have iY:=anf (gB (stepG s a k v));have iV:(gB (stepG s a k v)).length=n:=by simp[gB,axq]
   have hnl:=X7 L2;have hL2:=FK.1;have fP:=wI.len;have q1:∀X,Qh (B2.set b X) (b+3)=[.bs (b+2) 0 (n+1) 1]:=fun X=>by rw[Zu _ (by omega)];exact wI.l1
   have q2:∀X,Qh (B2.set b X) (b+2)=Xn L2:=fun X=>by rw[Zu _ (by omega)];exact wI.l
   have q3:∀X Z,Qh ((B2.set b X).set (b+2) Z) (b+4)=[.fn 256 [] [.ptr (b+3) 0]]:=fun X Z=>by rw[Zu _ (by omega),Zu _ (by omega)];exact wI.f
   have mw:b<B2.length:=by omega
   have og:b+2<B2.length:=by omega
   simp[g21,as0,JK,iz,qZ,wI.g1,wI.g,wJ,hv,as1,anp,Oe,iy,hns,iY,iV,hnl,hL2,q1,q2,q3,mw,og,yV];have hl3:=hS3.len
   have as2:Qh ((B2.set b (Zh ((gB (stepG s a k v)).set k v))).set (b+2) (Xn (L2.set k (k+1)))) m.boxes.length=[I c.ki,I c.it,I c.fr,I c.to,I c.re,I c.n,I c.a,I c.b]:=by
    rw[Zu _ (by omega),Zu _ (by omega)];exact wJ
   have axt:m.boxes.length<((B2.set b (Zh ((gB (stepG s a k v)).set k v))).set (b+2) (Xn (L2.set k (k+1)))).length:=by simpa using ano
   refine⟨by omega,by omega,Of Y0 k n (b+3) (b+2) _ _ hW3 D3 (by omega) _ _ _ _ (by omega) (by omega) (by omega) hS3.l1 hS3.l _ ?_⟩;intro B4 L4 r4 Ol hl4 hW4 axu axv anq axw;have hS4:=hS3.later hb Ol hl4;have axx:m.boxes.length<B4.length:=by have:=Ol.1;omega
   have as3:Qh B4 m.boxes.length=[I c.ki,I c.it,I c.fr,I c.to,I c.re,I c.n,I c.a,I c.b]:=by
    rw[Ol.2 _ axt (by omega)];exact as2
   have hr4:k+1<=r4:=by
    rcases Nat.eq_or_lt_of_le axu with h|h
    ·subst h;rw[Oj]at anq;cases anq
    exact h
   have wK:stepG s a (min r4 e) v=(stepG s a k v).set k (some v):=by
    rw[<- dL];refine wC s a (k+1) (min r4 e) v (by omega) (fun j ew qg=>?_);have h1:=Oi _ j (axw j (by omega) (by omega));rw[zzbe (by omega),Uu]at h1;intro h2;rw[h2]at h1;simp at h1;omega
   simp;refine⟨aN,⟨r4,rfl,by omega,axv,L4,by rw[wK];exact hW4,by rw[wK];exact anq,by rw[wK];exact hS4,axx,as3⟩,by omega⟩
  have FL:min k e=e:=by omega
  rw[FL]at FK hd2 wI;have axy:¬(k:Int)<(e:Int):=by omega
  simp[g21,axy,JK];exact k1 _ ⟨stepG s a e v,L2,iG.symm,FK,wI⟩
 rintro m ⟨s,L,hs,hWF,hSt⟩;rw[FH]at hs;rw[zzam (by simp)]at hs;have hsf:s=wB C:=by rw[hs];unfold wB;rw[<- hBd,hn]
 rw[<- hsf]at hR;have mD:s.length=n:=by rw[hs,wH];simp
 refine wE Bd z s R n mD hn9 hR _ m.boxes m.lens m.st m.ln b (b+1) Bd ?_ ?_ hSt.g1 hSt.g ?_
 ·simp[h8]
 ·simp[iz]
 intro i hi
 have anm:C≠[]:=by
  rintro rfl;rw[hs]at hi;simp[zzcm]at hi
 obtain⟨aQ,d1,d2,_,_⟩:=hSt.bd anm;refine⟨aQ,d1,d2,?_,hn⟩;rw[hs]at hi;have:=AR Bd C.reverse _ i true (fun c hc=>by rw[hBd,uo];exact(oV (zzfi.1 hc)).2) (fun v=>by simp[zzcm]) hi;omega
section
variable (cs:List Cl) (item region:Int)
def axz(C:List Cl)(rt:Rt)(Lm:List Nat):Prop:=(C=[]/\rt=.nil/\Lm=[])\/(C≠[]/\rt=.own 0 8/\Lm=[C.length])
end
def YK{B:List (List AV)}{i:Nat}{v:List AV}(h:Qh B i=v)(hi:i<B.length):B.set i v=B:=by
 apply zzcj;intro j;by_cases hj:j=i
 ·subst hj;rw[zzaz hi,Yz hi,h]
 rw[zzbe (fun e=>hj e.symm)]
def KV(cs:List Cl)(item region:Int)(hl:cs.length<=1000000):Pure Tryz.prog aq 187 [.sl .ro (cs.map Qg),I item,I region] (.sl .ro ((Qcb cs item region).map Qe)):=by
 have hR:Qcb cs item region=Xk (nC (dB (Kz cs item region)) (wB (Kz cs item region)) (dB (Kz cs item region)).length):=rfl;have hCl:(Kz cs item region).length<=cs.length:=zzbs _ _;obtain⟨CC,hCC⟩:∃CC,Kz cs item region=CC:=⟨_,rfl⟩;rw[hCC]at hR hCl;generalize Qcb cs item region=R at hR;refine Qn adp (yV (dB CC) R) (by simp) ?_;rw[YD];simp[akv]
 refine Qi dV (fun f m=>∃(i:Nat)(C:List Cl)(rt:Rt)(Lm:List Nat)(B:List (List AV)),i<=cs.length/\f 27=I i/\f 7=.sl rt (C.map Qg)/\m=⟨B,Lm,fun _=>.gone,0⟩/\C++Kz (cs.drop i) item region=CC/\
   C.length<=i/\0<B.length/\axz C rt Lm/\afo B C) (fun f _=>cs.length-(numOf (f 27)).toNat) ?_ ?_
 ·exact⟨0,[],.nil,[],[[.sl .nil []]],by omega,by simp,by simp,rfl,by simpa using hCC,by simp,by simp,.inl ⟨rfl,rfl,rfl⟩,.inl ⟨rfl,rfl⟩⟩
 rintro f m ⟨i,C,rt,Lm,B,hi,h27,h7,rfl,hC,hCi,fC,aT,sB⟩;rcases zzaa i cs.length with ai|bw
 ·obtain⟨c,hc⟩:=aP ai;have aa:Qh (cs.map Qg) i=Qg c:=Qr (by simp[hc]);have ah:(i:Int)<(cs.length:Int):=by omega
  have hw:=bH i (by omega);have hd:cs.drop i=c::cs.drop (i+1):=by rw[zzaf ai,(zza.1 hc).2]
  have hcp:=mE c item region;have YL:=Ko c;rw[hd]at hC
  have skip:FG item region c=false->C++Kz (cs.drop (i+1)) item region=CC:=by
   intro hb;rw[<- hC];simp[Kz,hb]
  have take:FG item region c=true->(C++[c])++Kz (cs.drop (i+1)) item region=CC:=by
   intro hb;rw[<- hC];simp[Kz,hb]
  have lI:∀x,Qh (B++x) 0=Qh B 0:=fun x=>Ql fC;by_cases hk:c.ki=1\/c.ki=2
  ·cases e1:gP c item region with
   |false=>
    have hs:=skip (by simp[FG,e1]);rw[e1]at hcp;obtain hk|hk:=hk
    ·have kK:(⟨1,c.it,c.fr,c.to,c.re,c.n,c.a,c.b⟩:Cl)=c:=by cases c;simp at hk;subst hk;rfl
     have rf:Pure Tryz.prog aq 255 [.agg [I 1,I c.it,I c.fr,I c.to,I c.re,I c.n,I c.a,I c.b],I item,I region] (.bool false):=by simpa[Qg,hk]using hcp
     simp[h27,h7,ah,aa,Qg,hk,kK,e1,dV,hw,yV];refine⟨rf,aN,⟨i+1,by omega,by simp,C,rt,⟨rfl,rfl⟩,Lm,_,⟨rfl,rfl⟩,hs,by omega,by simp,aT,sB.app fC _⟩,by omega⟩
    have kK:(⟨2,c.it,c.fr,c.to,c.re,c.n,c.a,c.b⟩:Cl)=c:=by cases c;simp at hk;subst hk;rfl
    have rf:Pure Tryz.prog aq 255 [.agg [I 2,I c.it,I c.fr,I c.to,I c.re,I c.n,I c.a,I c.b],I item,I region] (.bool false):=by simpa[Qg,hk]using hcp
    simp[h27,h7,ah,aa,Qg,hk,kK,e1,dV,hw,yV];refine⟨rf,aN,⟨i+1,by omega,by simp,C,rt,⟨rfl,rfl⟩,Lm,_,⟨rfl,rfl⟩,hs,by omega,by simp,aT,sB.app fC _⟩,by omega⟩
   |true=>
    rw[e1]at hcp;cases e2:Xi c with
    |false=>
     have hs:=skip (by simp[FG,e2]);rw[e2]at YL;obtain hk|hk:=hk
     ·have kK:(⟨1,c.it,c.fr,c.to,c.re,c.n,c.a,c.b⟩:Cl)=c:=by cases c;simp at hk;subst hk;rfl
      have rf:Pure Tryz.prog aq 255 [.agg [I 1,I c.it,I c.fr,I c.to,I c.re,I c.n,I c.a,I c.b],I item,I region] (.bool true):=by simpa[Qg,hk]using hcp
      have nF:Pure Tryz.prog aq 83 [.agg [I 1,I c.it,I c.fr,I c.to,I c.re,I c.n,I c.a,I c.b]] (.bool false):=by simpa[Qg,hk]using YL
      simp[h27,h7,ah,aa,Qg,hk,kK,e1,e2,dV,hw,yV];refine⟨rf,nF,aN,⟨i+1,by omega,by simp,C,rt,⟨rfl,rfl⟩,Lm,_,⟨rfl,rfl⟩,hs,by omega,by simp,aT,sB.app fC _⟩,by omega⟩
     have kK:(⟨2,c.it,c.fr,c.to,c.re,c.n,c.a,c.b⟩:Cl)=c:=by cases c;simp at hk;subst hk;rfl
     have rf:Pure Tryz.prog aq 255 [.agg [I 2,I c.it,I c.fr,I c.to,I c.re,I c.n,I c.a,I c.b],I item,I region] (.bool true):=by simpa[Qg,hk]using hcp
     have nF:Pure Tryz.prog aq 83 [.agg [I 2,I c.it,I c.fr,I c.to,I c.re,I c.n,I c.a,I c.b]] (.bool false):=by simpa[Qg,hk]using YL
     simp[h27,h7,ah,aa,Qg,hk,kK,e1,e2,dV,hw,yV];refine⟨rf,nF,aN,⟨i+1,by omega,by simp,C,rt,⟨rfl,rfl⟩,Lm,_,⟨rfl,rfl⟩,hs,by omega,by simp,aT,sB.app fC _⟩,by omega⟩
    |true=>
     have ht:=take (by simp[FG,e1,e2,hk]);rw[e2]at YL;obtain hk|hk:=hk
     ·have kK:(⟨1,c.it,c.fr,c.to,c.re,c.n,c.a,c.b⟩:Cl)=c:=by cases c;simp at hk;subst hk;rfl
      have rf:Pure Tryz.prog aq 255 [.agg [I 1,I c.it,I c.fr,I c.to,I c.re,I c.n,I c.a,I c.b],I item,I region] (.bool true):=by simpa[Qg,hk]using hcp
      have nF:Pure Tryz.prog aq 83 [.agg [I 1,I c.it,I c.fr,I c.to,I c.re,I c.n,I c.a,I c.b]] (.bool true):=by simpa[Qg,hk]using YL
      obtain⟨rfl,rfl,rfl⟩|⟨aJ,rfl,rfl⟩:=aT
      ·obtain⟨_,dQ⟩|⟨hx,_⟩:=sB
       ·have KW:∀x,Qh (B++x) 0=[.sl .nil []]:=fun x=>by rw[Ql fC];exact dQ
        have qn:∀x y,(B++x).set 0 y=B.set 0 y++x:=fun x y=>Yf y fC;simp[h27,h7,ah,aa,Qg,hk,kK,e1,e2,dV,hw,KW,qn,yV];refine⟨rf,nF,aN,⟨i+1,by omega,by simp,[c],.own 0 8,⟨rfl,by simp[Qg,hk]⟩,[1],_,⟨rfl,rfl⟩,ht,by simp,by simp,.inr ⟨by simp,rfl,rfl⟩,.inr ⟨by simp,B.length+1,?_,by omega,by simp,?_⟩⟩,by omega⟩
        ·rw[Ql (by simpa using fC),Vn _ fC];rfl
        have:=Vi (B.set 0 [AV.bs (B.length+1) 0 2 1]) [[I 1,I c.it,I c.fr,I c.to,I c.re,I c.n,I c.a,I c.b],[AV.int IntKind.i64 c.fr,AV.int IntKind.i64 c.to]] 1;rw[zzcg]at this;rw[this];rfl
       exact absurd rfl hx
      obtain⟨hx,_⟩|⟨_,aQ,dQ,mw,og,hb3⟩:=sB
      ·exact absurd hx aJ
      have KW:∀x,Qh (B++x) 0=[.bs aQ 0 (eV C).length 1]:=fun x=>by rw[Ql fC];exact dQ
      have anr:∀x,Qh (B++x) aQ=aj (eV C):=fun x=>by rw[Ql og];exact hb3
      have qn:∀x y,(B++x).set 0 y=B.set 0 y++x:=fun x y=>Yf y fC;have Th:∀x y,(B++x).set aQ y=B.set aQ y++x:=fun x y=>Yf y og;have iY:=oU C;have gL:=Ue (eV C);have yW:∀x,Qh (B.set aQ []++x) 0=[.bs aQ 0 (eV C).length 1]:=fun x=>by rw[Ql (by simpa using fC),Zu _ mw,dQ]
      have hss:∀x y,(B.set aQ []++x).set 0 y=(B.set aQ []).set 0 y++x:=fun x y=>Yf y (by simpa using fC);have bA:(aj (eV C)).take (eV C).length=aj (eV C):=zzam (by rw[gL];exact zzab _)
      have hnb:aj (eV C)≠[]:=by
       intro h;have:=congrArg List.length h;rw[gL,iY]at this;exact aJ (zzc.1 (by simp at this;omega))
      simp[h27,h7,ah,aa,Qg,hk,kK,e1,e2,dV,hw,KW,anr,Th,yW,hss,bA,hnb,gL,yV];refine⟨rf,nF,⟨?_,by omega⟩,⟨by omega,by omega⟩,aN,⟨i+1,by omega,by simp,C++[c],.own 0 8,⟨rfl,by simp[Qg,hk]⟩,[C.length+1],_,⟨rfl,rfl⟩,ht,by simp;omega,by simp,.inr ⟨by simp,rfl,by simp⟩,.inr ⟨by simp,B.length+1,?_,by omega,by simp,?_⟩⟩,by omega⟩
      ·rintro row (⟨a,_,rfl⟩|rfl)<;>rfl
      ·rw[Ql (by simpa using fC),Vn _ (by simpa using fC),oT];simp[eV]
      have:=Vi ((B.set aQ []).set 0 [AV.bs (B.length+1) 0 ((eV C).length+2) 1]) [[I 1,I c.it,I c.fr,I c.to,I c.re,I c.n,I c.a,I c.b],aj (eV C)++[AV.int IntKind.i64 c.fr,AV.int IntKind.i64 c.to]] 1;rw[zzcg,zzcg]at this;rw[this,oT,nA];rfl
     have kK:(⟨2,c.it,c.fr,c.to,c.re,c.n,c.a,c.b⟩:Cl)=c:=by cases c;simp at hk;subst hk;rfl
     have rf:Pure Tryz.prog aq 255 [.agg [I 2,I c.it,I c.fr,I c.to,I c.re,I c.n,I c.a,I c.b],I item,I region] (.bool true):=by simpa[Qg,hk]using hcp
     have nF:Pure Tryz.prog aq 83 [.agg [I 2,I c.it,I c.fr,I c.to,I c.re,I c.n,I c.a,I c.b]] (.bool true):=by simpa[Qg,hk]using YL
     obtain⟨rfl,rfl,rfl⟩|⟨aJ,rfl,rfl⟩:=aT
     ·obtain⟨_,dQ⟩|⟨hx,_⟩:=sB
      ·have KW:∀x,Qh (B++x) 0=[.sl .nil []]:=fun x=>by rw[Ql fC];exact dQ
       have qn:∀x y,(B++x).set 0 y=B.set 0 y++x:=fun x y=>Yf y fC;simp[h27,h7,ah,aa,Qg,hk,kK,e1,e2,dV,hw,KW,qn,yV];refine⟨rf,nF,aN,⟨i+1,by omega,by simp,[c],.own 0 8,⟨rfl,by simp[Qg,hk]⟩,[1],_,⟨rfl,rfl⟩,ht,by simp,by simp,.inr ⟨by simp,rfl,rfl⟩,.inr ⟨by simp,B.length+1,?_,by omega,by simp,?_⟩⟩,by omega⟩
       ·rw[Ql (by simpa using fC),Vn _ fC];rfl
       have:=Vi (B.set 0 [AV.bs (B.length+1) 0 2 1]) [[I 2,I c.it,I c.fr,I c.to,I c.re,I c.n,I c.a,I c.b],[AV.int IntKind.i64 c.fr,AV.int IntKind.i64 c.to]] 1;rw[zzcg]at this;rw[this];rfl
      exact absurd rfl hx
     obtain⟨hx,_⟩|⟨_,aQ,dQ,mw,og,hb3⟩:=sB
     ·exact absurd hx aJ
     have KW:∀x,Qh (B++x) 0=[.bs aQ 0 (eV C).length 1]:=fun x=>by rw[Ql fC];exact dQ
     have anr:∀x,Qh (B++x) aQ=aj (eV C):=fun x=>by rw[Ql og];exact hb3
     have qn:∀x y,(B++x).set 0 y=B.set 0 y++x:=fun x y=>Yf y fC;have Th:∀x y,(B++x).set aQ y=B.set aQ y++x:=fun x y=>Yf y og;have iY:=oU C;have gL:=Ue (eV C);have yW:∀x,Qh (B.set aQ []++x) 0=[.bs aQ 0 (eV C).length 1]:=fun x=>by rw[Ql (by simpa using fC),Zu _ mw,dQ]
     have hss:∀x y,(B.set aQ []++x).set 0 y=(B.set aQ []).set 0 y++x:=fun x y=>Yf y (by simpa using fC);have bA:(aj (eV C)).take (eV C).length=aj (eV C):=zzam (by rw[gL];exact zzab _)
     have hnb:aj (eV C)≠[]:=by
      intro h;have:=congrArg List.length h;rw[gL,iY]at this;exact aJ (zzc.1 (by simp at this;omega))
     simp[h27,h7,ah,aa,Qg,hk,kK,e1,e2,dV,hw,KW,anr,Th,yW,hss,bA,hnb,gL,yV];refine⟨rf,nF,⟨?_,by omega⟩,⟨by omega,by omega⟩,aN,⟨i+1,by omega,by simp,C++[c],.own 0 8,⟨rfl,by simp[Qg,hk]⟩,[C.length+1],_,⟨rfl,rfl⟩,ht,by simp;omega,by simp,.inr ⟨by simp,rfl,by simp⟩,.inr ⟨by simp,B.length+1,?_,by omega,by simp,?_⟩⟩,by omega⟩
     ·rintro row (⟨a,_,rfl⟩|rfl)<;>rfl
     ·rw[Ql (by simpa using fC),Vn _ (by simpa using fC),oT];simp[eV]
     have:=Vi ((B.set aQ []).set 0 [AV.bs (B.length+1) 0 ((eV C).length+2) 1]) [[I 2,I c.it,I c.fr,I c.to,I c.re,I c.n,I c.a,I c.b],aj (eV C)++[AV.int IntKind.i64 c.fr,AV.int IntKind.i64 c.to]] 1;rw[zzcg,zzcg]at this;rw[this,oT,nA];rfl
  have h1:¬c.ki=1:=fun h=>hk (.inl h);have h2:¬c.ki=2:=fun h=>hk (.inr h);have hs:=skip (by simp[FG,h1,h2]);simp[h27,h7,ah,aa,Qg,h1,h2,dV,hw,yV];refine⟨aN,⟨i+1,by omega,by simp,C,rt,⟨rfl,rfl⟩,Lm,_,⟨rfl,rfl⟩,hs,by omega,by simp,aT,sB.app fC _⟩,by omega⟩
 obtain rfl:i=cs.length:=by omega
 have hCe:C=CC:=by rw[<- hC];simp[Kz]
 subst hCe;have w11:IntKind.i64.wrap 1=1:=by rw[Qk]<;>omega
 obtain⟨rfl,rfl,rfl⟩|⟨aJ,rfl,rfl⟩:=aT
 ·obtain⟨_,dQ⟩|⟨h,_⟩:=sB
  ·have as4:dB []=[]:=by simp[dB,eV,dd]
   simp[h27,h7,dV,dQ,yV];refine oW _ _ _ _ ?_;simp[dQ];refine CP _ _ _ ?_;have axA:=YK dQ fC;have lI:∀x,Qh (B++x) 0=[.sl .nil []]:=fun x=>by rw[Ql fC,dQ]
   simp[dQ,axA,fC,lI,w11,bG];refine AT [] (dB []) [] R 0 rfl (by rw[as4];rfl) (by omega) (by simp) (by rw[hR,as4];rfl) _ _ _ _ _ B.length .nil .nil fC (by simp) ?_ (fun _=>rfl) ?_ ?_ ?_ ?_ ?_ ?_ ?_ (fun h=>absurd rfl h);all_goals simp[Zh,aj]
  exact absurd rfl h
 obtain⟨h,_⟩|⟨_,aQ,dQ,mw,og,hb3⟩:=sB
 ·exact absurd h aJ
 simp[h27,h7,dV,dQ,yV];have iY:=oU C
 have hnb:aj (eV C)≠[]:=by
  intro h;have:=congrArg List.length h;rw[Ue,iY]at this;exact aJ (zzc.1 (by simp at this;omega))
 refine sD _ (eV C) (by rw[iY];omega) _ aQ [] ?_ (by simpa using hnb) _ ?_
 ·show B[aQ]?=_;rw[Yz og,hb3,zzat]
 obtain⟨l,AN⟩:∃l,(eV C).mergeSort (fun x y=>decide (x<=y))=l:=⟨_,rfl⟩;have zn:(eV C).length=l.length:=by rw[<- AN,zzeq]
 have hdl:dd l=dB C:=by rw[<- AN];rfl
 have afq:∀X,Qh (B.set aQ X) 0=[.bs aQ 0 (eV C).length 1]:=fun X=>by rw[Zu _ mw];exact dQ
 have axB:l≠[]:=by
  intro h;have:=congrArg List.length h;rw[<- zn,iY]at this;exact aJ (zzc.1 (by simp at this;omega))
 simp[AM.wr,AN,afq,zn];refine sA _ l (by rw[<- zn,iY];omega) _ _ _ _ aQ (by simpa using og) axB (Vn _ og) _ ?_;intro B2 z dw oZ hz;rw[hdl]at oZ hz |-
 have axC:0<B2.length:=by have:=dw.1;simp at this;omega
 have axD:Qh B2 0=[.bs aQ 0 l.length 1]:=by rw[dw.2 0 (by simpa using fC) (fun h=>mw h.symm),afq,zn]
 have azl:aQ<B2.length:=by have:=dw.1;simp at this;omega
 obtain⟨B3,YM⟩:∃B3,B2.set 0 [.bs aQ 0 (dB C).length 1]=B3:=⟨_,rfl⟩;have axE:B3.length=B2.length:=by rw[<- YM];simp
 have ans:Qh B3 0=[.bs aQ 0 (dB C).length 1]:=by rw[<- YM];exact Vn _ axC
 have axF:Qh B3 aQ=aj (dB C++z):=by rw[<- YM,Zu _ (fun h=>mw h.symm)];exact oZ
 have axG:∀x,Qh (B3++x) 0=[.bs aQ 0 (dB C).length 1]:=fun x=>by rw[Ql (by omega)];exact ans
 have axH:0<B3.length:=by omega
 have azm:=Oh C;have YN:IntKind.i64.wrap (((dB C).length:Int)+1)=((dB C).length:Int)+1:=by rw[Qk]<;>omega
 have htn:(((dB C).length:Int)+1).toNat=(dB C).length+1:=by omega
 have Ap:(0:Int)<=((dB C).length:Int)+1:=by omega
 have hf1:=YA (dB C).length;have hf2:=FA ((dB C).length+1);simp[axD,YM,ans,axG,YN,htn,Ap,hf1,hf2,axE.symm,axH];refine⟨⟨by omega,by omega⟩,⟨by omega,by omega⟩,?_⟩;refine AT C (dB C) z R (dB C).length rfl rfl (by omega) (by omega) hR _ _ _ _ _ B3.length (.own 0 8) .ro (by omega) (by simp) ?_ (fun _=>rfl) ?_ ?_ ?_ ?_ ?_ ?_ ?_ (fun _=>⟨aQ,by rw[Ql (by omega)];exact ans,by rw[Ql (by omega)];exact axF,by omega,by omega⟩);all_goals simp
end Go.Proofs.YtnopaopphmjnmaaGreatDoor
