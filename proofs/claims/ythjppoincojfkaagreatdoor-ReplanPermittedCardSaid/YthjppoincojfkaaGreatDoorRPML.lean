import Derived.Test.YthjppoincojfkaaGreatDoorRPMI
import Derived.Test.YthjppoincojfkaaGreatDoorRPMK
set_option linter.all false
set_option maxRecDepth 100000
set_option maxHeartbeats 64000000
namespace Go.Proofs.YthjppoincojfkaaGreatDoor
noncomputable section
open Go Go.Abs
def xd:∀(cs:List Cl)(n i:Nat)(x:P2),n<=cs.length->(P7 cs n)[i]?=some x->∃(k:Nat)(c:Cl),cs[k]?=some c/\k+1+i=n/\x=[I (k:Int),.agg (Qg c)]
 |cs,0,i,x,_,h=>by simp[P7]at h
 |cs,n+1,0,x,hn,h=>by
  rw[nF]at h;simp at h;obtain⟨c,hc⟩:∃c,cs[n]?=some c:=⟨_,zzaf zE⟩;refine⟨n,c,hc,zE,?_⟩;rw[<- h];simp[hc]
 |cs,n+1,i+1,x,hn,h=>by
  rw[nF]at h;obtain⟨k,c,h1,h2,h3⟩:=xd cs n i x zE (Nm h);exact⟨k,c,h1,zE,h3⟩
def FV(cs:List Cl)(n:Nat):(P7 cs n).length=n:=by simp[P7]
def FX{cs:List Cl}{n:Nat}:∀x∈P7 cs n,x.length=2:=by
 intro x hx;simp[P7]at hx;obtain⟨k,_,rfl⟩:=hx;rfl
structure St (C:List Cl) (Bd z:Pi) (n b:Nat) (s:GS) (L:Pa) (bx:T5):Prop where
 len:b+4<bx.length
 g1:Qh bx (b+1)=[.bs b 0 n 1]
 g:Qh bx b=Zi (gB s)
 l1:Qh bx (b+3)=[.bs (b+2) 0 (n+1) 1]
 l:Qh bx (b+2)=Xq L
 f:Qh bx (b+4)=[.fn 192 [] [.ptr (b+3) 0]]
 bd:C≠[]->∃cE,Qh bx 0=[.bs cE 0 n 1]/\Qh bx cE=aj (Bd++z)/\0<cE/\cE<b
def St.app{C:List Cl}{Bd z:Pi}{n b:Nat}{s:GS}{L:Pa}{bx:T5}(h:St C Bd z n b s L bx)(x:T5):St C Bd z n b s L (bx++x):=by
 have hl:=h.len;refine⟨by simp;omega,by rw[Qn zE];exact h.g1,by rw[Qn zE];exact h.g,by rw[Qn zE];exact h.l1,by rw[Qn zE];exact h.l,by rw[Qn zE];exact h.f,fun hc=>?_⟩;obtain⟨cE,h1,h2,h3,h4⟩:=h.bd hc;exact⟨cE,by rw[Qn zE];exact h1,by rw[Qn zE];exact h2,h3,h4⟩
def St.later{C:List Cl}{Bd z:Pi}{n b:Nat}{s:GS}{L L':Pa}{bx bx':T5}(h:St C Bd z n b s L bx)(hb:0<b)(hk:bB (·=b+2) bx bx')(hl:Qh bx' (b+2)=Xq L'):St C Bd z n b s L' bx':=by
 have aH:=h.len;have k:∀j,j<bx.length->j≠b+2->Qh bx' j=Qh bx j:=hk.2;refine⟨by have:=hk.1;omega,by rw[k _ zE zE];exact h.g1,by rw[k _ zE zE];exact h.g,by rw[k _ zE zE];exact h.l1,hl,by rw[k _ zE zE];exact h.f,fun hc=>?_⟩;obtain⟨cE,h1,h2,h3,h4⟩:=h.bd hc;exact⟨cE,by rw[k _ zE zE];exact h1,by rw[k _ zE zE];exact h2,h3,h4⟩
def St.put{C:List Cl}{Bd z:Pi}{n b:Nat}{s:GS}{L:Pa}{bx:T5}(h:St C Bd z n b s L bx)(hb:0<b)(k:Nat)(v:Bool):
  St C Bd z n b (s.set k (some v)) (L.set k (k+1)) ((bx.set b (Zi ((gB s).set k v))).set (b+2) (Xq (L.set k (k+1)))):=by
 have aH:=h.len
 have e:∀j,j≠b->j≠b+2->Qh ((bx.set b (Zi ((gB s).set k v))).set (b+2) (Xq (L.set k (k+1)))) j=Qh bx j:=fun j h1 h2=>by
  rw[Ya _ (fun h=>h2 h.symm),Ya _ (fun h=>h1 h.symm)]
 refine⟨Nm aH,by rw[e _ zE zE];exact h.g1,?_,by rw[e _ zE zE];exact h.l1,by rw[Yg _ (by simp;omega)],by rw[e _ zE zE];exact h.f,fun hc=>?_⟩
 ·rw[Ya _ zE,Yg _ zE,ama]
 obtain⟨cE,h1,h2,h3,h4⟩:=h.bd hc;exact⟨cE,by rw[e _ zE zE];exact h1,by rw[e _ zE zE];exact h2,h3,h4⟩
def aex(Bd:Pi)(s:GS)(c:Cl):(P8 Bd s c).length=s.length:=by simp[P8,qY]
def xe(Bd:Pi):∀(l:List Cl)(s:GS),(l.foldl (P8 Bd) s).length=s.length
 |[],_=>rfl
 |c::l,s=>by rw[zzcx,xe Bd l,aex]
def A2(Bd:Pi):∀(l:List Cl)(s:GS)(i:Nat)(v:Bool),(∀c∈l,c.to∈Bd)->(∀v,s[i]?≠some (some v))->(l.foldl (P8 Bd) s)[i]?=some (some v)->i+1<Bd.length+0\/i+1<=Bd.length-1
 |[],s,i,v,_,h0,h=>absurd h (h0 v)
 |c::l,s,i,v,hc,h0,h=>by
  rw[zzcx]at h;by_cases h1:∃v,(P8 Bd s c)[i]?=some (some v)
  ·obtain⟨v',h2⟩:=h1;unfold P8 at h2;rw[Ux]at h2;cases hs:s[i]? with
   |none=>rw[hs]at h2;cases h2
   |some o=>
    rw[hs]at h2;simp only[zzct,Option.some.injEq]at h2;split at h2
    ·rename_i h3;have:=KH (hc c zd);exact .inl zE
    subst h2;exact absurd hs (h0 v')
  exact A2 Bd l _ i v (fun c h=>hc c (by simp[h])) (fun v hv=>h1 ⟨v,hv⟩) h
def NZ(s:GS)(j:Nat)(h:nH s j=true):s[j]?≠some none:=by
 intro h';unfold nH at h;rw[h']at h;cases h
def XN{s:GS}{j:Nat}(h:nH s j=false)(hj:j<s.length):s[j]?=some none:=by
 unfold nH at h;obtain⟨o,ho⟩:=aV hj;rw[ho]at h |-
 cases o with
 |none=>rfl
 |some v=>cases h
def KL(s:GS)(a q r:Nat)(v:Bool)(hq:q<=r)(h:∀j,a<=j->j<r->nH s j=true):stepG s a q v=s:=by
 rcases zzhk a q with h1|h1
 ·rw[wQ s a a q v h1 (fun j h2 h3=>NZ s j (h j h2 zE)),AX _ _ _ _ (zzab _)]
 exact AX _ _ _ _ h1
def A3(C:List Cl)(Bd z:Pi)(R:List Sp)(n:Nat)(hBd:Bd=dG C)(hn:Bd.length=n)(hn9:n<=10000000)(hCl:C.length<=1000000)(hR:R=Xm (nG Bd (wP C) n))(E:QQ)(B:T5)(Lm:Pa)(st:Nat->LS)(ln:Nat)(b:Nat)(rt y4:Rt)
  (hb:0<b)(wO:B.length=b+4)(h7:Abs.look E 7=.sl rt (C.map Qg))(aX:∀m,bz m 6 (.sl rt (C.map Qg))=.sl y4 (C.map Qg))(h8:Abs.look E 8=.ptr 0 0)(pG:Abs.look E 11=.ptr (b+1) 0)(qw:Abs.look E 12=.ptr (b+3) 0)
  (hg1:Qh B (b+1)=[.bs b 0 n 1])(hg:Qh B b=Zi (List.replicate n false))(gJ:Qh B (b+3)=[.bs (b+2) 0 (n+1) 1])(hl:Qh B (b+2)=aj (List.replicate (n+1) 0))
  (ei:C≠[]->∃cE,Qh B 0=[.bs cE 0 n 1]/\Qh B cE=aj (Bd++z)/\0<cE/\cE<b):
  vc Tryz.prog aD (Wm Bd R) Y0 (XB C3) ⟨Vw 145 E,⟨B,Lm,st,ln⟩⟩ (post Tryz.prog aD (Wm Bd R) Et (.sl .ro (R.map Qf))):=by
 simp[XB,qw,gJ]
 refine Qi I6 (fun f m=>∃(i:Nat)(B':T5)(L':Pi),i<=n+1/\f 74=I i/\m=⟨B',Lm,st,ln⟩/\bB (·=b+2) B B'/\B'.length=B.length/\Qh B' (b+2)=aj L'/\L'.length=n+1/\∀j:Nat,j<i->L'[j]?=some (j:Int))
  (fun f _=>n+1-(numOf (f 74)).toNat) ?_ ?_
 ·exact⟨0,B,List.replicate (n+1) 0,zE,zd,rfl,bB.refl _ _,rfl,hl,zd,fun j h=>zE⟩
 rintro f m ⟨i,B',L',hi,h74,rfl,nE,FM,eV,tN,Aq⟩;have asE:Qh B' (b+3)=[.bs (b+2) 0 (n+1) 1]:=by rw[nE.2 _ zE zE];exact gJ
 rcases zzaa i (n+1)with ai|bq
 ·have aa:(i:Int)<(n:Int)+1:=zE
  have hw:=bP i zE;have bR:=KA L' i (i:Int);have aH:=Uh L';have fR:b+2<B'.length:=zE
  simp[h74,aa,ai,I6,qw,asE,eV,hw,bR,aH,tN,fR];refine⟨zE,aQ,⟨i+1,zE,zd,nE.set (.inl rfl) _,FM,L'.set i (i:Int),Yg _ fR,Nm tN,fun j hj=>?_⟩,zE⟩
  ·by_cases hji':j=i
   ·subst hji';rw[zzbg zE]
   rw[zzbn (fun h=>hji' h.symm)];exact Aq j zE
 obtain rfl:i=n+1:=zE
 have hLr:L'=(List.range (n+1)).map fun(k:Nat)=>(k:Int):=by
  apply zzcz;intro j;by_cases hj:j<n+1
  ·rw[Aq j hj];simp[hj]
  rw[zzas zE,zzas (by simp;omega)]
 have axg:Qh B' (b+2)=Xq (List.range (n+1)):=by rw[eV,hLr];rfl
 have bO:¬((n:Int)+1)<(n:Int)+1:=zE
 have axh:St C Bd z n b (List.replicate n none) (List.range (n+1)) (B'++[[.fn 192 [] [.ptr (b+3) 0]]]):=by
  have k:∀j,j<B.length->j≠b+2->Qh B' j=Qh B j:=nE.2;refine⟨by simp;omega,?_,?_,?_,?_,?_,fun hc=>?_⟩
  ·rw[Qn zE,k _ zE zE];exact hg1
  ·rw[Qn zE,k _ zE zE,aeq];exact hg
  ·rw[Qn zE];exact asE
  ·rw[Qn zE];exact axg
  ·have:b+4=B'.length:=zE
   rw[this];simp
  obtain⟨cE,h1,h2,h3,h4⟩:=ei hc;exact⟨cE,by rw[Qn zE,k _ zE zE];exact h1,by rw[Qn zE,k _ zE zE];exact h2,h3,h4⟩
 have amd:=Xz (l:=[.sl y4 (C.map Qg)]) (mz C) ⟨Wk.sl _ _,trivial⟩;have cM:=mA C zE;have sw:=fun s hs hR E=>wU Bd z s R n hs hn9 hR E
 have A0:∀y,Qh (B'++[y]) (b+4)=y:=fun y=>by
  have:b+4=B'.length:=zE
  rw[this];simp
 simp[h74,I6,h7,qw,aX,FM,wO,A0,Wm];refine⟨amd,?_⟩;refine je (xs:=P7 C C.length) zd cM FX (fun i m=>∃(s:GS)(L:Pa),s=(C.reverse.take i).foldl (P8 Bd) (List.replicate n none)/\WF L (nH s) n/\St C Bd z n b s L m.boxes) (fun _ _=>False) ?_ ?_ (fun _ _ _ h=>h.elim) ?_ ?_ (fun _ _ h=>h.elim)
 ·exact⟨_,_,zd,WF.init n _ (fun j=>by simp[nH,zzcm]),axh⟩
 ·rintro i m m' ⟨s,L,h1,h2,h3⟩ ⟨⟨bx,e1⟩,_,_⟩;exact⟨s,L,h1,h2,by rw[e1];exact h3.app bx⟩
 ·rintro l i m x hg hr ⟨s,L,hs,hWF,hSt⟩ hx K' k1 _ _;obtain⟨k,c,hc,hk,rfl⟩:=xd C C.length i x (zzab _) hx;rw[Jm]at hSt;have hcm:c∈C:=zzad hc;have ame:C≠[]:=List.ne_nil_of_mem hcm
  have axi:C.reverse[i]?=some c:=by
   rw[List.getElem?_reverse zE];rw[show C.length-1-i=k by omega];exact hc
  have FY:s.length=n:=by rw[hs,xe];simp
  have dK:(C.reverse.take (i+1)).foldl (P8 Bd) (List.replicate n none)=P8 Bd s c:=by
   rw[zzb,axi,zzgk,<- hs];rfl
  obtain⟨cE,d1,d2,d3,d4⟩:=hSt.bd ame;have gz:∀m,(aj (Bd++z)).map (bz m 5)=aj (Bd++z):=fun m=>Va m 4 (WY _);have gX:aY 1 n (aj (Bd++z))=Bd.map fun x=>[I x]:=by rw[<- hn,nD];exact wM Bd _
  have qu:n<=(aj (Bd++z)).length:=by rw[Uh];simp;omega
  have nK:Bd.Pairwise (·<=·):=by rw[hBd];exact(NW C).imp (fun h=>Int.le_of_lt h)
  have b1:=pq Bd c.fr zE nK;have b2:=pq Bd c.to zE nK;have hto:c.to∈Bd:=by rw[hBd,uz];exact(pF hcm).2
  have he:=KH hto;have ha:=amb Bd c.fr;have bY:P8 Bd s c=stepG s (qX Bd c.fr) (qX Bd c.to) (decide (c.ki=1)):=rfl;rw[bY]at dK;obtain⟨a,hae⟩:∃a,qX Bd c.fr=a:=⟨_,rfl⟩;obtain⟨e,hee⟩:∃e,qX Bd c.to=e:=⟨_,rfl⟩;obtain⟨v,hv⟩:∃v,(c.ki==1)=v:=⟨_,rfl⟩;have ER:decide (c.ki=1)=v:=hv;rw[hae,hee,ER]at dK;rw[hae]at b1 ha;rw[hee]at b2 he;have aH:=hSt.len;have f0:∀x,Qh (m.boxes++x) 0=[.bs cE 0 n 1]:=fun x=>by rw[Qn zE];exact d1
  have fb:∀x,Qh (m.boxes++x) cE=aj (Bd++z):=fun x=>by rw[Qn zE];exact d2
  have ff:∀x,Qh (m.boxes++x) (b+4)=[.fn 192 [] [.ptr (b+3) 0]]:=fun x=>by rw[Qn zE];exact hSt.f
  simp[hr,Zq,Qg,h8,Wm,f0,fb,ff,gz,gX,qu,hae,hee];refine⟨b1,b2,?_⟩;have amf:=hSt.app [[I c.ki,I c.it,I c.fr,I c.to,I c.re,I c.n,I c.a,I c.b]];refine NV Y0 a n (b+3) (b+2) L (nH s) hWF zE zE _ _ _ _ (by simp;omega) (by simp;omega) zE amf.l1 amf.l _ ?_;intro B1 L1 r dA gJ QA har hrn fc CG;have axj:=amf.later hb dA gJ;have axk:m.boxes.length<B1.length:=by have:=dA.1;simp at this;omega
  have asF:Qh B1 m.boxes.length=[I c.ki,I c.it,I c.fr,I c.to,I c.re,I c.n,I c.a,I c.b]:=by
   rw[dA.2 _ zd zE];simp
  have Nv:stepG s a (min r e) v=s:=KL s a _ r v zE CG;simp
  refine Qi I7 (fun g m2=>∃(k:Nat)(B2:T5)(L2:Pa),g 21=I k/\a<=k/\k<=n/\m2=⟨B2,m.lens,uu m.st l .busy,m.ln⟩/\WF L2 (nH (stepG s a (min k e) v)) n/\nH (stepG s a (min k e) v) k=false/\
   St C Bd z n b (stepG s a (min k e) v) L2 B2/\m.boxes.length<B2.length/\Qh B2 m.boxes.length=[I c.ki,I c.it,I c.fr,I c.to,I c.re,I c.n,I c.a,I c.b]) (fun g _=>n-(numOf (g 21)).toNat) ?_ ?_
  ·exact⟨r,B1,L1,zd,har,hrn,rfl,by rw[Nv];exact QA,by rw[Nv];exact fc,by rw[Nv];exact axj,axk,asF⟩
  rintro g m2 ⟨k,B2,L2,g21,hak,Eb,rfl,P9,hd2,AZ,hlt2,hrow2⟩;rcases zzaa k e with hke|hke
  ·have xg:min k e=k:=zE
   rw[xg]at P9 hd2 AZ;have axl:(stepG s a k v).length=n:=by rw[qY,FY]
   have asG:k<n:=zE
   have XO:=XN hd2 zE
   have hsk:s[k]?=some none:=by
    rw[Ux]at XO;cases hq:s[k]? with
    |none=>rw[hq]at XO;cases XO
    |some o=>rw[hq]at XO;simpa using XO
   have dM:=KG s a k v hak hsk;obtain⟨sG,C8⟩:=XA (stepG s a k v) k v zE;have hW3:=WF.dec P9 asG sG C8;have hS3:=AZ.put hb k v;have asH:(k:Int)<(e:Int):=zE
   have asI:(k:Int)<(n:Int):=zE
   have amg:(k:Int)<(n:Int)+1:=zE
   have axm:k<n+1:=zE
   have KD:IntKind.i64.wrap ((k:Int)+1)=(k:Int)+1:=by rw[Ql]<;>omega
   have jo:=al9 (gB (stepG s a k v)) k v;have Sk:(Xq L2).set k (I ((k:Int)+1))=Xq (L2.set k (k+1)):=by have:=W7 L2 k (k+1);simpa using this
   have fO:=al7 (gB (stepG s a k v));have lE:(gB (stepG s a k v)).length=n:=by simp[gB,axl]
   have hnl:=W6 L2;have hL2:=P9.1;have eD:=AZ.len;have q1:∀X,Qh (B2.set b X) (b+3)=[.bs (b+2) 0 (n+1) 1]:=fun X=>by rw[Ya _ zE];exact AZ.l1
   have q2:∀X,Qh (B2.set b X) (b+2)=Xq L2:=fun X=>by rw[Ya _ zE];exact AZ.l
   have q3:∀X Z,Qh ((B2.set b X).set (b+2) Z) (b+4)=[.fn 192 [] [.ptr (b+3) 0]]:=fun X Z=>by rw[Ya _ zE,Ya _ zE];exact AZ.f
   have dx:b<B2.length:=zE
   have fR:b+2<B2.length:=zE
   simp[g21,asH,hke,I7,pG,qw,AZ.g1,AZ.g,hrow2,hv,asI,asG,amg,axm,KD,jo,Sk,fO,lE,hnl,hL2,q1,q2,q3,dx,fR,Wm];have hl3:=hS3.len
   have asJ:Qh ((B2.set b (Zi ((gB (stepG s a k v)).set k v))).set (b+2) (Xq (L2.set k (k+1)))) m.boxes.length=[I c.ki,I c.it,I c.fr,I c.to,I c.re,I c.n,I c.a,I c.b]:=by
    rw[Ya _ zE,Ya _ zE];exact hrow2
   have axn:m.boxes.length<((B2.set b (Zi ((gB (stepG s a k v)).set k v))).set (b+2) (Xq (L2.set k (k+1)))).length:=by simpa using hlt2
   refine⟨zE,zE,NV Y0 k n (b+3) (b+2) _ _ hW3 Eb zE _ _ _ _ zE zE zE hS3.l1 hS3.l _ ?_⟩;intro B4 L4 r4 IC hl4 hW4 axo axp amh axq;have hS4:=hS3.later hb IC hl4;have axr:m.boxes.length<B4.length:=by have:=IC.1;omega
   have asK:Qh B4 m.boxes.length=[I c.ki,I c.it,I c.fr,I c.to,I c.re,I c.n,I c.a,I c.b]:=by
    rw[IC.2 _ axn zE];exact asJ
   have hr4:k+1<=r4:=by
    rcases Nat.eq_or_lt_of_le axo with h|h
    ·subst h;rw[sG]at amh;cases amh
    exact h
   have FZ:stepG s a (min r4 e) v=(stepG s a k v).set k (some v):=by
    rw[<- dM];refine wQ s a (k+1) (min r4 e) v zE (fun j dW ov=>?_);have h1:=NZ _ j (axq j zE zE);rw[zzbn zE,Ux]at h1;intro h2;rw[h2]at h1;simp at h1;omega
   simp;refine⟨aQ,⟨r4,rfl,zE,axp,L4,by rw[FZ];exact hW4,by rw[FZ];exact amh,by rw[FZ];exact hS4,axr,asK⟩,zE⟩
  have xg:min k e=e:=zE
  rw[xg]at P9 hd2 AZ;have axt:¬(k:Int)<(e:Int):=zE
  simp[g21,axt,zzbk.2 hke,I7];exact k1 _ ⟨stepG s a e v,L2,dK.symm,P9,AZ⟩
 rintro m ⟨s,L,hs,hWF,hSt⟩;rw[FV]at hs;rw[zzat zd]at hs;have hsf:s=wP C:=by rw[hs];unfold wP;rw[<- hBd,hn]
 rw[<- hsf]at hR;have FY:s.length=n:=by rw[hs,xe];simp
 refine wU Bd z s R n FY hn9 hR _ m.boxes m.lens m.st m.ln b (b+1) Bd ?_ ?_ hSt.g1 hSt.g ?_
 ·simp[h8]
 ·simp[pG]
 intro i hi
 have ame:C≠[]:=by
  rintro rfl;rw[hs]at hi;simp[zzcm]at hi
 obtain⟨cE,d1,d2,_,_⟩:=hSt.bd ame;refine⟨cE,d1,d2,?_,hn⟩;rw[hs]at hi;have:=A2 Bd C.reverse _ i true (fun c hc=>by rw[hBd,uz];exact(pF (zzfj.1 hc)).2) (fun v=>by simp[zzcm]) hi;omega
end
end Go.Proofs.YthjppoincojfkaaGreatDoor
namespace Go.Proofs.YthjppoincojfkaaGreatDoor
noncomputable section
open Go Go.Abs
section
variable (cs:List Cl) (item region:Int)
def axu(C:List Cl)(rt:Rt)(Lm:Pa):Prop:=(C=[]/\rt=.nil/\Lm=[])\/(C≠[]/\rt=.own 0 8/\Lm=[C.length])
end
def XP{B:T5}{i:Nat}{v:P2}(h:Qh B i=v)(hi:i<B.length):B.set i v=B:=by
 apply zzcz;intro j;by_cases hj:j=i
 ·subst hj;rw[zzbg hi,Jj hi,h]
 rw[zzbn (fun e=>hj e.symm)]
def KM(cs:List Cl)(item region:Int)(hl:cs.length<=1000000):Pure Tryz.prog aD 136 [.sl .ro (cs.map Qg),I item,I region] (.sl .ro ((Qcs cs item region).map Qf)):=by
 have hR:Qcs cs item region=Xm (nG (dG (Wq cs item region)) (wP (Wq cs item region)) (dG (Wq cs item region)).length):=rfl;have hCl:(Wq cs item region).length<=cs.length:=zzce _ _;obtain⟨CC,hCC⟩:∃CC,Wq cs item region=CC:=⟨_,rfl⟩;rw[hCC]at hR hCl;generalize Qcs cs item region=R at hR;refine Qp acm (Wm (dG CC) R) zd ?_;rw[XC];simp[ai4]
 refine Qi dV (fun f m=>∃(i:Nat)(C:List Cl)(rt:Rt)(Lm:Pa)(B:T5),i<=cs.length/\f 27=I i/\f 7=.sl rt (C.map Qg)/\m=⟨B,Lm,fun _=>.gone,0⟩/\C++Wq (cs.drop i) item region=CC/\
   C.length<=i/\0<B.length/\axu C rt Lm/\aer B C) (fun f _=>cs.length-(numOf (f 27)).toNat) ?_ ?_
 ·exact⟨0,[],.nil,[],[[.sl .nil []]],zE,zd,zd,rfl,Nm hCC,zd,zd,.inl ⟨rfl,rfl,rfl⟩,.inl ⟨rfl,rfl⟩⟩
 rintro f m ⟨i,C,rt,Lm,B,hi,h27,h7,rfl,hC,hCi,gA,aX,ei⟩;rcases zzaa i cs.length with ai|bq
 ·obtain⟨c,hc⟩:=aV ai;have ah:Qh (cs.map Qg) i=Qg c:=Qu (by simp[hc]);have aa:(i:Int)<(cs.length:Int):=zE
  have hw:=bP i zE;have hd:cs.drop i=c::cs.drop (i+1):=by rw[zzag ai,(zza.1 hc).2]
  have hcp:=mB c item region;have XQ:=Wi c;rw[hd]at hC
  have skip:FN item region c=false->C++Wq (cs.drop (i+1)) item region=CC:=by
   intro hb;rw[<- hC];simp[Wq,hb]
  have take:FN item region c=true->(C++[c])++Wq (cs.drop (i+1)) item region=CC:=by
   intro hb;rw[<- hC];simp[Wq,hb]
  have gV:∀x,Qh (B++x) 0=Qh B 0:=fun x=>Qn gA;by_cases hk:c.ki=1\/c.ki=2
  ·cases e1:gN c item region with
   |false=>
    have hs:=skip (by simp[FN,e1]);rw[e1]at hcp;obtain hk|hk:=hk
    ·have gm:(⟨1,c.it,c.fr,c.to,c.re,c.n,c.a,c.b⟩:Cl)=c:=by cases c;simp at hk;subst hk;rfl
     have rj:Pure Tryz.prog aD 191 [.agg [I 1,I c.it,I c.fr,I c.to,I c.re,I c.n,I c.a,I c.b],I item,I region] (.bool false):=by simpa[Qg,hk]using hcp
     simp[h27,h7,ai,aa,ah,Qg,hk,gm,e1,dV,hw,Wm];refine⟨rj,aQ,⟨i+1,zE,zd,C,rt,⟨rfl,rfl⟩,Lm,_,⟨rfl,rfl⟩,hs,zE,zd,aX,ei.app gA _⟩,zE⟩
    have gm:(⟨2,c.it,c.fr,c.to,c.re,c.n,c.a,c.b⟩:Cl)=c:=by cases c;simp at hk;subst hk;rfl
    have rj:Pure Tryz.prog aD 191 [.agg [I 2,I c.it,I c.fr,I c.to,I c.re,I c.n,I c.a,I c.b],I item,I region] (.bool false):=by simpa[Qg,hk]using hcp
    simp[h27,h7,ai,aa,ah,Qg,hk,gm,e1,dV,hw,Wm];refine⟨rj,aQ,⟨i+1,zE,zd,C,rt,⟨rfl,rfl⟩,Lm,_,⟨rfl,rfl⟩,hs,zE,zd,aX,ei.app gA _⟩,zE⟩
   |true=>
    rw[e1]at hcp;cases e2:Zc c with
    |false=>
     have hs:=skip (by simp[FN,e2]);rw[e2]at XQ;obtain hk|hk:=hk
     ·have gm:(⟨1,c.it,c.fr,c.to,c.re,c.n,c.a,c.b⟩:Cl)=c:=by cases c;simp at hk;subst hk;rfl
      have rj:Pure Tryz.prog aD 191 [.agg [I 1,I c.it,I c.fr,I c.to,I c.re,I c.n,I c.a,I c.b],I item,I region] (.bool true):=by simpa[Qg,hk]using hcp
      have nL:Pure Tryz.prog aD 48 [.agg [I 1,I c.it,I c.fr,I c.to,I c.re,I c.n,I c.a,I c.b]] (.bool false):=by simpa[Qg,hk]using XQ
      simp[h27,h7,ai,aa,ah,Qg,hk,gm,e1,e2,dV,hw,Wm];refine⟨rj,nL,aQ,⟨i+1,zE,zd,C,rt,⟨rfl,rfl⟩,Lm,_,⟨rfl,rfl⟩,hs,zE,zd,aX,ei.app gA _⟩,zE⟩
     have gm:(⟨2,c.it,c.fr,c.to,c.re,c.n,c.a,c.b⟩:Cl)=c:=by cases c;simp at hk;subst hk;rfl
     have rj:Pure Tryz.prog aD 191 [.agg [I 2,I c.it,I c.fr,I c.to,I c.re,I c.n,I c.a,I c.b],I item,I region] (.bool true):=by simpa[Qg,hk]using hcp
     have nL:Pure Tryz.prog aD 48 [.agg [I 2,I c.it,I c.fr,I c.to,I c.re,I c.n,I c.a,I c.b]] (.bool false):=by simpa[Qg,hk]using XQ
     simp[h27,h7,ai,aa,ah,Qg,hk,gm,e1,e2,dV,hw,Wm];refine⟨rj,nL,aQ,⟨i+1,zE,zd,C,rt,⟨rfl,rfl⟩,Lm,_,⟨rfl,rfl⟩,hs,zE,zd,aX,ei.app gA _⟩,zE⟩
    |true=>
     have ht:=take (by simp[FN,e1,e2,hk]);rw[e2]at XQ;obtain hk|hk:=hk
     ·have gm:(⟨1,c.it,c.fr,c.to,c.re,c.n,c.a,c.b⟩:Cl)=c:=by cases c;simp at hk;subst hk;rfl
      have rj:Pure Tryz.prog aD 191 [.agg [I 1,I c.it,I c.fr,I c.to,I c.re,I c.n,I c.a,I c.b],I item,I region] (.bool true):=by simpa[Qg,hk]using hcp
      have nL:Pure Tryz.prog aD 48 [.agg [I 1,I c.it,I c.fr,I c.to,I c.re,I c.n,I c.a,I c.b]] (.bool true):=by simpa[Qg,hk]using XQ
      obtain⟨rfl,rfl,rfl⟩|⟨aO,rfl,rfl⟩:=aX
      ·obtain⟨_,dY⟩|⟨hx,_⟩:=ei
       ·have KN:∀x,Qh (B++x) 0=[.sl .nil []]:=fun x=>by rw[Qn gA];exact dY
        have lN:∀x y,(B++x).set 0 y=B.set 0 y++x:=fun x y=>Yk y gA;simp[h27,h7,ai,aa,ah,Qg,hk,gm,e1,e2,dV,hw,KN,lN,gA,Wm];refine⟨rj,nL,aQ,⟨i+1,zE,zd,[c],.own 0 8,⟨rfl,by simp[Qg,hk]⟩,[1],_,⟨rfl,rfl⟩,ht,zd,zd,.inr ⟨zd,rfl,rfl⟩,.inr ⟨zd,B.length+1,?_,zE,zd,?_⟩⟩,zE⟩
        ·rw[Qn (Nm gA),Yg _ gA];rfl
        have:=Vl (B.set 0 [AV.bs (B.length+1) 0 2 1]) [[I 1,I c.it,I c.fr,I c.to,I c.re,I c.n,I c.a,I c.b],[AV.int IntKind.i64 c.fr,AV.int IntKind.i64 c.to]] 1;rw[zzch]at this;rw[this];rfl
       exact absurd rfl hx
      obtain⟨hx,_⟩|⟨_,cE,dY,dx,fR,hb3⟩:=ei
      ·exact absurd hx aO
      have KN:∀x,Qh (B++x) 0=[.bs cE 0 (eH C).length 1]:=fun x=>by rw[Qn gA];exact dY
      have ami:∀x,Qh (B++x) cE=aj (eH C):=fun x=>by rw[Qn fR];exact hb3
      have lN:∀x y,(B++x).set 0 y=B.set 0 y++x:=fun x y=>Yk y gA;have hsb:∀x y,(B++x).set cE y=B.set cE y++x:=fun x y=>Yk y fR;have fO:=pE C;have iV:=Uh (eH C);have zH:∀x,Qh (B.set cE []++x) 0=[.bs cE 0 (eH C).length 1]:=fun x=>by rw[Qn (Nm gA),Ya _ dx,dY]
      have hss:∀x y,(B.set cE []++x).set 0 y=(B.set cE []).set 0 y++x:=fun x y=>Yk y (Nm gA);have bA:(aj (eH C)).take (eH C).length=aj (eH C):=zzat (by rw[iV];exact zzab _)
      have Fs:aj (eH C)≠[]:=by
       intro h;have:=congrArg List.length h;rw[iV,fO]at this;exact aO (zzc.1 (by simp at this;omega))
      simp[h27,h7,ai,aa,ah,Qg,hk,gm,e1,e2,dV,hw,KN,ami,lN,hsb,zH,hss,bA,Fs,gA,fR,iV,Wm];refine⟨rj,nL,⟨?_,zE⟩,⟨zE,zE⟩,aQ,⟨i+1,zE,zd,C++[c],.own 0 8,⟨rfl,by simp[Qg,hk]⟩,[C.length+1],_,⟨rfl,rfl⟩,ht,by simp;omega,zd,.inr ⟨zd,rfl,zd⟩,.inr ⟨zd,B.length+1,?_,zE,zd,?_⟩⟩,zE⟩
      ·rintro row (⟨a,_,rfl⟩|rfl)<;>rfl
      ·rw[Qn (Nm gA),Yg _ (Nm gA),pz];simp[eH]
      have:=Vl ((B.set cE []).set 0 [AV.bs (B.length+1) 0 ((eH C).length+2) 1]) [[I 1,I c.it,I c.fr,I c.to,I c.re,I c.n,I c.a,I c.b],aj (eH C)++[AV.int IntKind.i64 c.fr,AV.int IntKind.i64 c.to]] 1;rw[zzch,zzch]at this;rw[this,pz,nD];rfl
     have gm:(⟨2,c.it,c.fr,c.to,c.re,c.n,c.a,c.b⟩:Cl)=c:=by cases c;simp at hk;subst hk;rfl
     have rj:Pure Tryz.prog aD 191 [.agg [I 2,I c.it,I c.fr,I c.to,I c.re,I c.n,I c.a,I c.b],I item,I region] (.bool true):=by simpa[Qg,hk]using hcp
     have nL:Pure Tryz.prog aD 48 [.agg [I 2,I c.it,I c.fr,I c.to,I c.re,I c.n,I c.a,I c.b]] (.bool true):=by simpa[Qg,hk]using XQ
     obtain⟨rfl,rfl,rfl⟩|⟨aO,rfl,rfl⟩:=aX
     ·obtain⟨_,dY⟩|⟨hx,_⟩:=ei
      ·have KN:∀x,Qh (B++x) 0=[.sl .nil []]:=fun x=>by rw[Qn gA];exact dY
       have lN:∀x y,(B++x).set 0 y=B.set 0 y++x:=fun x y=>Yk y gA;simp[h27,h7,ai,aa,ah,Qg,hk,gm,e1,e2,dV,hw,KN,lN,gA,Wm];refine⟨rj,nL,aQ,⟨i+1,zE,zd,[c],.own 0 8,⟨rfl,by simp[Qg,hk]⟩,[1],_,⟨rfl,rfl⟩,ht,zd,zd,.inr ⟨zd,rfl,rfl⟩,.inr ⟨zd,B.length+1,?_,zE,zd,?_⟩⟩,zE⟩
       ·rw[Qn (Nm gA),Yg _ gA];rfl
       have:=Vl (B.set 0 [AV.bs (B.length+1) 0 2 1]) [[I 2,I c.it,I c.fr,I c.to,I c.re,I c.n,I c.a,I c.b],[AV.int IntKind.i64 c.fr,AV.int IntKind.i64 c.to]] 1;rw[zzch]at this;rw[this];rfl
      exact absurd rfl hx
     obtain⟨hx,_⟩|⟨_,cE,dY,dx,fR,hb3⟩:=ei
     ·exact absurd hx aO
     have KN:∀x,Qh (B++x) 0=[.bs cE 0 (eH C).length 1]:=fun x=>by rw[Qn gA];exact dY
     have ami:∀x,Qh (B++x) cE=aj (eH C):=fun x=>by rw[Qn fR];exact hb3
     have lN:∀x y,(B++x).set 0 y=B.set 0 y++x:=fun x y=>Yk y gA;have hsb:∀x y,(B++x).set cE y=B.set cE y++x:=fun x y=>Yk y fR;have fO:=pE C;have iV:=Uh (eH C);have zH:∀x,Qh (B.set cE []++x) 0=[.bs cE 0 (eH C).length 1]:=fun x=>by rw[Qn (Nm gA),Ya _ dx,dY]
     have hss:∀x y,(B.set cE []++x).set 0 y=(B.set cE []).set 0 y++x:=fun x y=>Yk y (Nm gA);have bA:(aj (eH C)).take (eH C).length=aj (eH C):=zzat (by rw[iV];exact zzab _)
     have Fs:aj (eH C)≠[]:=by
      intro h;have:=congrArg List.length h;rw[iV,fO]at this;exact aO (zzc.1 (by simp at this;omega))
     simp[h27,h7,ai,aa,ah,Qg,hk,gm,e1,e2,dV,hw,KN,ami,lN,hsb,zH,hss,bA,Fs,gA,fR,iV,Wm];refine⟨rj,nL,⟨?_,zE⟩,⟨zE,zE⟩,aQ,⟨i+1,zE,zd,C++[c],.own 0 8,⟨rfl,by simp[Qg,hk]⟩,[C.length+1],_,⟨rfl,rfl⟩,ht,by simp;omega,zd,.inr ⟨zd,rfl,zd⟩,.inr ⟨zd,B.length+1,?_,zE,zd,?_⟩⟩,zE⟩
     ·rintro row (⟨a,_,rfl⟩|rfl)<;>rfl
     ·rw[Qn (Nm gA),Yg _ (Nm gA),pz];simp[eH]
     have:=Vl ((B.set cE []).set 0 [AV.bs (B.length+1) 0 ((eH C).length+2) 1]) [[I 2,I c.it,I c.fr,I c.to,I c.re,I c.n,I c.a,I c.b],aj (eH C)++[AV.int IntKind.i64 c.fr,AV.int IntKind.i64 c.to]] 1;rw[zzch,zzch]at this;rw[this,pz,nD];rfl
  have h1:¬c.ki=1:=fun h=>hk (.inl h);have h2:¬c.ki=2:=fun h=>hk (.inr h);have hs:=skip (by simp[FN,h1,h2]);simp[h27,h7,ai,aa,ah,Qg,h1,h2,dV,hw,Wm];refine⟨aQ,⟨i+1,zE,zd,C,rt,⟨rfl,rfl⟩,Lm,_,⟨rfl,rfl⟩,hs,zE,zd,aX,ei.app gA _⟩,zE⟩
 obtain rfl:i=cs.length:=zE
 have hCe:C=CC:=by rw[<- hC];simp[Wq]
 subst hCe;have w11:IntKind.i64.wrap 1=1:=by rw[Ql]<;>omega
 obtain⟨rfl,rfl,rfl⟩|⟨aO,rfl,rfl⟩:=aX
 ·obtain⟨_,dY⟩|⟨h,_⟩:=ei
  ·have asL:dG []=[]:=by simp[dG,eH,dd]
   simp[h27,h7,dV,dY,Wm];refine pI _ _ _ _ ?_;simp[dY,Wm];refine C2 _ _ _ ?_;have axv:=XP dY gA;have gV:∀x,Qh (B++x) 0=[.sl .nil []]:=fun x=>by rw[Qn gA,dY]
   simp[dY,axv,gA,gV,Wm,w11,bF];refine A3 [] (dG []) [] R 0 rfl (by rw[asL];rfl) zE zd (by rw[hR,asL];rfl) _ _ _ _ _ B.length .nil .nil gA zd ?_ (fun _=>rfl) ?_ ?_ ?_ ?_ ?_ ?_ ?_ (fun h=>absurd rfl h);all_goals simp[Zi,aj]
  exact absurd rfl h
 obtain⟨h,_⟩|⟨_,cE,dY,dx,fR,hb3⟩:=ei
 ·exact absurd h aO
 simp[h27,h7,dV,dY,Wm];have fO:=pE C
 have Fs:aj (eH C)≠[]:=by
  intro h;have:=congrArg List.length h;rw[Uh,fO]at this;exact aO (zzc.1 (by simp at this;omega))
 refine sH _ (eH C) (by rw[fO];omega) _ cE [] ?_ (Nm Fs) _ ?_
 ·show B[cE]?=_;rw[Jj fR,hb3,zzau]
 obtain⟨l,CN⟩:∃l,(eH C).mergeSort (fun x y=>decide (x<=y))=l:=⟨_,rfl⟩;have Ee:(eH C).length=l.length:=by rw[<- CN,zzet]
 have hdl:dd l=dG C:=by rw[<- CN];rfl
 have KO:∀X,Qh (B.set cE X) 0=[.bs cE 0 (eH C).length 1]:=fun X=>by rw[Ya _ dx];exact dY
 have axw:l≠[]:=by
  intro h;have:=congrArg List.length h;rw[<- Ee,fO]at this;exact aO (zzc.1 (by simp at this;omega))
 simp[AM.wr,CN,KO,Ee,Wm];refine sE _ l (by rw[<- Ee,fO];omega) _ _ _ _ cE (Nm fR) axw (Yg _ fR) _ ?_;intro B2 z ef A4 hz;rw[hdl]at A4 hz |-
 have asM:0<B2.length:=by have:=ef.1;simp at this;omega
 have axx:Qh B2 0=[.bs cE 0 l.length 1]:=by rw[ef.2 0 (Nm gA) (fun h=>dx h.symm),KO,Ee]
 have azc:cE<B2.length:=by have:=ef.1;simp at this;omega
 obtain⟨B3,Su⟩:∃B3,B2.set 0 [.bs cE 0 (dG C).length 1]=B3:=⟨_,rfl⟩;have axy:B3.length=B2.length:=by rw[<- Su];simp
 have amj:Qh B3 0=[.bs cE 0 (dG C).length 1]:=by rw[<- Su];exact Yg _ asM
 have axz:Qh B3 cE=aj (dG C++z):=by rw[<- Su,Ya _ (fun h=>dx h.symm)];exact A4
 have axA:∀x,Qh (B3++x) 0=[.bs cE 0 (dG C).length 1]:=fun x=>by rw[Qn zE];exact amj
 have axB:0<B3.length:=zE
 have azd:=NX C;have hwn:IntKind.i64.wrap (((dG C).length:Int)+1)=((dG C).length:Int)+1:=by rw[Ql]<;>omega
 have htn:(((dG C).length:Int)+1).toNat=(dG C).length+1:=zE
 have vJ:(0:Int)<=((dG C).length:Int)+1:=zE
 have hf1:=W9 (dG C).length;have hf2:=FH ((dG C).length+1);simp[axx,asM,Su,amj,axA,hwn,htn,vJ,hf1,hf2,axy.symm,axB,Wm];refine⟨⟨zE,zE⟩,⟨zE,zE⟩,?_⟩;refine A3 C (dG C) z R (dG C).length rfl rfl zE zE hR _ _ _ _ _ B3.length (.own 0 8) .ro zE zd ?_ (fun _=>rfl) ?_ ?_ ?_ ?_ ?_ ?_ ?_ (fun _=>⟨cE,by rw[Qn zE];exact amj,by rw[Qn zE];exact axz,zE,zE⟩);all_goals simp
def pJ(nu de f:Int): -1<=Ym nu de f/\Ym nu de f<=100000000:=by
 unfold Ym;split
 ·rename_i h;obtain⟨h1,h2,h3⟩:=h;obtain⟨b1,b2,b3,b4,b5⟩:=Ju h1;have q0:0<=f*de:=zzef h2 zE;have q1:f*de<=f*nu:=zzft zE h2;have q2:0<=(f*de).tdiv nu:=Int.tdiv_nonneg q0 zE
  have q3:(f*de).tdiv nu<=f:=by
   rw[zzcl q0];exact Int.ediv_le_of_le_mul zE q1
  omega
 omega
def sI(p:Pl)(f:Int)(ht:0<=p.ep/\p.ep<=9000000000):Pure Tryz.prog aD 82 [.agg (Qa p),I f] (I (p.ep+Ym p.nu p.de f)):=by
 have h:=QB p.nu p.de f;have hb:=pJ p.nu p.de f;have hw:IntKind.i64.wrap (p.ep+Ym p.nu p.de f)=p.ep+Ym p.nu p.de f:=by rw[Ql]<;>omega
 refine Qp akD (fun _ f' l=>if f'=134 then I (Ym p.nu p.de f)else .junk) zd ?_;simp[apn,Qa,apo,hw];exact h
def xh(p:Pl)(n:Int)(hn: -1000000000000<=n-p.ep/\n-p.ep<=1000000000000)(Y:YT)(m:AM)(b:Nat)(hb:b<m.boxes.length)(hr:Qh m.boxes b=Qa p)(K:So)(hK:K (I (xk p.nu p.de (n-p.ep))) m):
  aB Tryz.prog aD Y 85 [I n,.ptr b 0] m K:=by
 have h:=A5 p.nu p.de (n-p.ep);have hw:IntKind.i64.wrap (n-p.ep)=n-p.ep:=by rw[Ql]<;>omega
 refine Xn akH (fun _ f' l=>if f'=86 then I (xk p.nu p.de (n-p.ep))else .junk) zd ?_;simp[apt,hr,Qa,apu,hw,hb];exact⟨h,hK⟩
def lP(p:Pl)(x:It)(region:Int)(s:Sp):List (List Sp):=Qcs p.cls x.id region::(uD p.cls x.ra).map fun w=>ig p.of p.sh s w.1 w.2
def F2(l:List Sp):P2:=[.sl .ro (l.map Qf)]
def F3(p:Pl)(x:It)(region:Int)(s:Sp):Pure Tryz.prog aD 83 [.agg (Qa p),.agg (Qj x),I region,.agg [I s.1,I s.2]] (.fn 135 [] [.ep (Qa p) 0,.ep (Qj x) 0,.ep [I region] 0,.ep [I s.1,I s.2] 0]):=by
 refine Qp akE (fun _ _ _=>.junk) zd ?_;simp[apq,apr,Qa,Qj]
def F4(p:Pl)(x:It)(region:Int)(s:Sp)(hc:p.cls.length<=1000000)(fA:p.sh.length<=1000000000)(h1: -9223372036854775808<=s.1/\s.1<=9223372036854775807)(h2: -9223372036854775808<=s.2/\s.2<=9223372036854775807):
  Iter Tryz.prog aD 135 [] [.ep (Qa p) 0,.ep (Qj x) 0,.ep [I region] 0,.ep [I s.1,I s.2] 0] ((lP p x region s).map F2):=by
 intro Y l m K hF;have asN:=KM p.cls x.id region hc;have asO:=tQ p.cls x.ra zE
 have hwl:(uD p.cls x.ra).length<=1000000:=by
  unfold uD;rw[zzbv];exact zzbd (zzce _ _) hc
 refine Xn ack (fun d f' l=>if f'=136 then .sl .ro ((Qcs p.cls x.id region).map Qf)else if f'=137 then .sl .ro ((uD p.cls x.ra).map Qf)else
  if f'=138 then(match l with|[_,_,.int _ a,.int _ b]=>.sl .ro ((ig p.of p.sh s a b).map Qf)|_=>.junk)else .junk) zd ?_
 unfold lP at hF;generalize hS:Qcs p.cls x.id region=S at hF asN;generalize hW:uD p.cls x.ra=W at hF asO hwl;simp only[zzbb,F2]at hF;simp[TF,Qa,Qj,hS,hW];refine⟨asN,?_⟩;refine hF _ (fu.refl _) _ (fun m2 AW=>?_) (fun m2 hK=>?_)
 ·rw[zzcu]at AW;simp[hW];refine⟨asO,?_⟩;refine Qi I5 (fun f mm=>∃i:Nat,f 23=I i/\i<=W.length/\wG (Y l) K ((W.drop i).map (F2 ∘ fun w=>ig p.of p.sh s w.1 w.2)) mm) (fun f _=>W.length-(numOf (f 23)).toNat) ?_ ?_
  ·exact⟨0,zd,zE,Nm AW⟩
  rintro f mm ⟨i,h23,hi,hF3⟩;rcases zzaa i W.length with ai|bq
  ·obtain⟨w,hw⟩:=aV ai;have zH:=Zv hw;have aa:(i:Int)<(W.length:Int):=zE
   have pK:=bP i zE;have hd:W.drop i=w::W.drop (i+1):=by rw[zzag ai,(zza.1 hw).2]
   rw[hd,zzbb]at hF3;simp only[Function.comp_apply,F2]at hF3;have axC:=zJ p.of p.sh s w.1 w.2 fA h1 h2
   have iC:∀x,Qh (mm.boxes++[x]) mm.boxes.length=x:=fun x=>by
    simp
   simp[h23,I5,ai,aa,zH,iC];refine⟨axC,?_⟩;refine hF3 _ (fu.box mm [[I w.1,I w.2]]) _ (fun m3 hF4=>?_) (fun m3 hK=>?_)
   ·simp[pK];refine⟨aQ,⟨i+1,zE,zE,by rw[<- zzge];exact hF4⟩,zE⟩
   simp[MU];exact hK _ (fu.refl _)
  obtain rfl:i=W.length:=zE
  rw[zzbu,zzcs]at hF3;simp[h23,I5,MU];exact hF3 _ (fu.refl _)
 simp[MU];exact hK _ (fu.refl _)
def amk:SC:=(⟨_,by cbv⟩:J4 [1,1,1,1,1,1,1,1,1,1,1,1,0,1] SV).1
def C9:SC->SC:=(⟨_,fun _=>by cbv⟩:Fm [1,1,1,1,1,1,1,1,1,1,1,1,0,1] SV).1
theorem pL:SV=C9 amk:=rfl
def uE(p:Pl)(w:Sp):Sp:=(xk p.nu p.de (w.1-p.ep),xk p.nu p.de (w.2-p.ep))
def A6(Y:YT)(p:Pl)(orc:UV)(ho:∀d l,orc d 74 l=.gd false .junk)(ho9:∀d l,orc d 999999 l=.junk)(E:QQ)(m:AM)(U:List Sp)(rt:Rt)(Q:R0)
  (h85:Abs.look E 85=.sl rt (U.map Qf))(h86:Abs.look E 86=I U.length)(h87:Abs.look E 87=I 0)(tT:Abs.look E 14=.fn 85 [] [.ptr 0 0])(sJ:Abs.look E 15=.sl .nil [])
  (h0:0<m.boxes.length)(hr:Qh m.boxes 0=Qa p)(hU:U.length<=10000000)(hUb:∀w∈U,(-1000000000000<=w.1-p.ep/\w.1-p.ep<=1000000000000)/\(-1000000000000<=w.2-p.ep/\w.2-p.ep<=1000000000000))
  (hQ:∀E' bx Lm y4,fJ Ej E' E->Abs.look E' 15=.sl y4 ((U.map (uE p)).map Qf)->(y4=.nil/\U=[]\/U≠[]/\∃k,y4=.own k 2)->Q .normal ⟨Vw 108 E',⟨m.boxes++bx,Lm,m.st,m.ln⟩⟩):
  vc Tryz.prog aD orc Y amk ⟨Vw 108 E,m⟩ Q:=by
 simp[amk];refine Qi Ej (fun f mm=>∃(i:Nat)(bx:T5)(Lm:Pa)(y4:Rt),f 87=I i/\i<=U.length/\mm=⟨m.boxes++bx,Lm,m.st,m.ln⟩/\f 15=.sl y4 ((U.map (Qf ∘ uE p)).take i)/\(i=0/\y4=.nil\/i≠0/\∃k,y4=.own k 2/\Lm[k]?=some i)) (fun f _=>U.length-(numOf (f 87)).toNat) ?_ ?_
 ·exact⟨0,[],m.lens,.nil,by simp[h87],zE,zd,by simp[sJ],.inl ⟨rfl,rfl⟩⟩
 rintro f mm ⟨i,bx,Lm,y4,h87',hi,rfl,h15',aX⟩;rcases zzaa i U.length with ai|bq
 ·obtain⟨w,hw⟩:=aV ai;have zH:=Zv hw;obtain⟨c1,c2⟩:=hUb w (zzad hw);have aa:(i:Int)<(U.length:Int):=zE
  have pK:=bP i zE;have lM:IntKind.i64.wrap 1=1:=by rw[Ql]<;>omega
  have bA:U.take (i+1)=U.take i++[w]:=by rw[zzb,hw];rfl
  have mj:(U.take i).length=i:=by rw[zzaq];omega
  have A0:∀x,Qh (m.boxes++(bx++[x])) (m.boxes.length+bx.length)=x:=fun x=>by
   simp
  have Ct:∀x,Qh (m.boxes++x) 0=Qa p:=fun x=>by rw[Qn h0];exact hr
  have e1:=fun m' h1 h2 K hK=>xh p w.1 c1 Y m' 0 h1 h2 K hK;have e2:=fun m' h1 h2 K hK=>xh p w.2 c2 Y m' 0 h1 h2 K hK;have hG:(U.map (Qf ∘ uE p)).take (i+1)=(U.map (Qf ∘ uE p)).take i++[[I (xk p.nu p.de (w.1-p.ep)),I (xk p.nu p.de (w.2-p.ep))]]:=by rw[zzb,zzbm,hw];rfl
  have hGl:((U.map (Qf ∘ uE p)).take i).length=i:=by rw[zzaq,zzbv];omega
  have hG2:∀row∈(U.map (Qf ∘ uE p)).take i,row.length=2:=by
   intro row h;obtain⟨a,_,rfl⟩:=zzar.1 (zzcg h);rfl
  generalize hGG:(U.map (Qf ∘ uE p)).take i=G at*
  obtain⟨rfl,rfl⟩|⟨aO,k,rfl,hk⟩:=aX
  ·simp[h87',h85,h86,tT,h15',Ej,ai,aa,zH,A0,ho,ho9];refine Qbm [(I (xk p.nu p.de (w.1-p.ep)),⟨m.boxes++(bx++[[I w.1,I w.2]]),Lm,m.st,m.ln⟩),(I (xk p.nu p.de (w.2-p.ep)),⟨m.boxes++(bx++[[I w.1,I w.2]]),Lm,m.st,m.ln⟩)] ?_;simp[h87',h85,h86,tT,h15',ai,aa,zH,A0,ho,ho9,pK,lM];refine⟨e1 _ (by simp;omega) (Ct _) _ ⟨rfl,rfl⟩,e2 _ (by simp;omega) (Ct _) _ ⟨rfl,rfl⟩,⟨by rintro row (h|rfl);exact hG2 row h;rfl,zE⟩,ag ?_,?_,zE⟩
   ·repeat(first|exact Qb _ _|refine Qc _ rfl ?_)
   exact⟨1,rfl,zE,_,_,⟨rfl,rfl⟩,_,⟨rfl,hG.symm⟩,.inr ⟨zE,Lm.length,rfl,by simp[hGl]⟩⟩
  simp[h87',h85,h86,tT,h15',Ej,ai,aa,zH,A0,ho,ho9];refine Qbm [(I (xk p.nu p.de (w.1-p.ep)),⟨m.boxes++(bx++[[I w.1,I w.2]]),Lm,m.st,m.ln⟩),(I (xk p.nu p.de (w.2-p.ep)),⟨m.boxes++(bx++[[I w.1,I w.2]]),Lm,m.st,m.ln⟩)] ?_;simp[h87',h85,h86,tT,h15',ai,aa,zH,A0,ho,ho9,pK,hk];refine⟨e1 _ (by simp;omega) (Ct _) _ ⟨rfl,rfl⟩,e2 _ (by simp;omega) (Ct _) _ ⟨rfl,rfl⟩,⟨hGl.symm,by rintro row (h|rfl);exact hG2 row h;rfl,zE⟩,ag ?_,?_,zE⟩
  ·repeat(first|exact Qb _ _|refine Qc _ rfl ?_)
  exact⟨i+1,zE,zE,_,_,⟨rfl,rfl⟩,_,⟨rfl,hG.symm⟩,.inr ⟨zE,k,rfl,by simp[hGl,(zza.1 hk).1]⟩⟩
 obtain rfl:i=U.length:=zE
 rw[zzat zd]at h15';simp[h87',h86,Ej];refine hQ _ bx Lm y4 ?_ ?_ ?_
 ·repeat(first|exact Qb _ _|refine Qc _ rfl ?_)
 ·simp[h15']
 obtain⟨h1,h2⟩|⟨h1,k,h2,h3⟩:=aX
 ·exact .inl ⟨h2,zzc.1 h1⟩
 exact .inr ⟨fun h=>h1 (by rw[h];rfl),k,h2⟩
def KP:∀(l:List Sp)(lo hi:Int),VS l->(∀w∈l,lo<=w.1/\w.2<=hi)->(l.length:Int)<=max 0 (hi-lo)
 |[],lo,hi,_,_=>by simp only[zzco];omega
 |s::l,lo,hi,h,hb=>by
  obtain⟨h1,h2,h3⟩:=cU.1 h;have:=KP l (s.2+1) hi h3 (fun w hw=>⟨by have:=h2 w hw;omega,(hb w (by simp[hw])).2⟩);have b:=hb s zd;simp only[zzaz];omega
def Sv(lo hi:Int)(l:List Sp):Prop:=∀w∈l,lo<=w.1/\w.1<=hi/\lo<=w.2/\w.2<=hi
def uF{lo hi:Int}{a b:List Sp}(h:Sv lo hi a):Sv lo hi (zK a b):=by
 obtain⟨⟨h1,_⟩,h2⟩:=kN a b;intro w hw;have ai:=h1 w hw;obtain⟨s,hs,s1,s2⟩:=((h2 w.1).1 ⟨w,hw,zE,ai⟩).1;obtain⟨t,ht,t1,t2⟩:=((h2 (w.2-1)).1 ⟨w,hw,zE,zE⟩).1;have:=h s hs;have:=h t ht;omega
def XR{lo hi:Int}{a b:List Sp}(h:Sv lo hi a):((zK a b).length:Int)<=max 0 (hi-lo):=
 KP _ _ _ (kN a b).1 (fun w hw=>⟨(uF h w hw).1,(uF h w hw).2.2.2⟩)
def kP{nu de f g:Int}(hv:Vd nu de=true)(h0:0<=f)(hfg:f<=g)(hg:g<=100000000):Ym nu de f<=Ym nu de g/\Ym nu de g<=Ym nu de f+(g-f):=by
 obtain⟨b1,b2,b3,b4,b5⟩:=Ju hv;rw[Ym,Ym,if_pos ⟨hv,h0,zE⟩,if_pos ⟨hv,zE,hg⟩];have q0:0<=f*de:=zzef h0 zE;have q1:0<=g*de:=zzef zE zE;rw[zzcl q0,zzcl q1];have m1:f*de<=g*de:=Int.mul_le_mul_of_nonneg_right hfg zE;have m2:(g-f)*de<=(g-f)*nu:=zzft zE zE
 have m3:g*de<=f*de+(g-f)*nu:=by
  have:g*de=f*de+(g-f)*de:=by rw[<- Int.add_mul];congr 1;omega
  omega
 constructor
 ·exact Int.ediv_le_ediv zE m1
 have:=Int.ediv_le_ediv (c:=nu) zE m3;rw[Int.add_mul_ediv_right _ _ zE]at this;exact this
def QC(s:Sp):Sp:=(max s.1 0,min s.2 100000001)
def uS(p:Pl)(c:Sp):Sp:=(p.ep+Ym p.nu p.de c.1,p.ep+Ym p.nu p.de (c.2-1)+1)
def ij(p:Pl)(x:It)(region:Int)(u:Sp)(i:Nat):List Sp:=((lP p x region u).take i).foldl zK [u]
def Vt(p:Pl)(id region:Int)(s:Sp):List Sp:=
 let c:=QC s
 match Xj id p.aM with
 |none=>[]
 |some x=>if region<0\/8<=region\/c.2<=c.1\/1000000<c.2-c.1 then[]else if x.ki=5 then[c]else if Kk p=false then[]else
  zK ((ij p x region (uS p c) (lP p x region (uS p c)).length).map (uE p)) [c]
def rq:P2->Sp
 |[.int _ a,.int _ b]=>(a,b)
 |_=>(0,0)
@[simp] def aey(l:List Sp):(l.map Qf).map rq=l:=by
 induction l with
 |nil=>rfl
 |cons a l ih=>simp only[zzbb,ih];rfl
@[simp] def asP(l:List Sp):l.map (rq ∘ Qf)=l:=by rw[<- zzcu];exact aey l
@[simp] theorem asQ(a b:Int):rq [I a,I b]=(a,b):=rfl
def zL(p:Pl)(id region:Int)(s:Sp):UV:=fun d f l=>
 if f=999999 then .junk else
 if f=80 then Zj (Xj id p.aM)else
 if f=81 then .bool (Kk p)else
 if f=82 then(match l with|[_,.int _ n]=>I (p.ep+Ym p.nu p.de n)|_=>.junk)else
 if f=83 then(match l with|[_,.agg x,_,.agg u]=>.fn 135 [] [.ep (Qa p) 0,.ep x 0,.ep [I region] 0,.ep u 0]|_=>.junk)else
 if f=84 then(match l with|[.sl _ A,.sl _ B]=>.sl .ro ((zK (A.map rq) (B.map rq)).map Qf)|_=>.junk)else .gd false .junk
def KQ(cs:List Cl)(item region:Int)(h:cs.length<=1000000):(Qcs cs item region).length<=2000000:=by
 have h1:=Yu (nG (dG (Wq cs item region)) (wP (Wq cs item region)) (dG (Wq cs item region)).length);have h2:=wR (dG (Wq cs item region)) (wP (Wq cs item region)) (dG (Wq cs item region)).length;have h3:=NX (Wq cs item region);have h4:(Wq cs item region).length<=cs.length:=zzce _ _;unfold Qcs;omega
def XS(p:Pl)(x:It)(region:Int)(u:Sp)(h:p.cls.length<=1000000):∀l∈lP p x region u,l.length<=2000000:=by
 intro l hl;rw[lP,zzap,zzar]at hl;obtain rfl|⟨w,_,rfl⟩:=hl
 ·exact KQ _ _ _ h
 have:=XM p.of p.sh u w.1 w.2;omega
def Da{lo hi:Int}:∀(ls:List (List Sp))(a:List Sp),Sv lo hi a->Sv lo hi (ls.foldl zK a)
 |[],a,h=>h
 |l::r,a,h=>Da r _ (uF h)
def A7{lo hi:Int}:∀(ls:List (List Sp))(a:List Sp),Sv lo hi a->(a.length:Int)<=max 1 (hi-lo)->((ls.foldl zK a).length:Int)<=max 1 (hi-lo)
 |[],a,_,h=>h
 |l::r,a,h,hl=>A7 r _ (uF h) (by have:=XR (b:=l) h;omega)
def F5(p:Pl)(id region:Int)(s:Sp)(hc:p.cls.length<=1000000)(fA:p.sh.length<=1000000000)(cM:p.aM.length<=1000000000)(h1: -9223372036854775808<=s.1/\s.1<=9223372036854775807)(h2: -9223372036854775808<=s.2/\s.2<=9223372036854775807):
  ∃rt,Pure Tryz.prog aD 40 [.agg (Qa p),I id,I region,.agg [I s.1,I s.2]] (.sl rt ((Vt p id region s).map Qf)):=by
 have sK:=kQ p id cM;have k70:=KR p fA;obtain⟨c,hcS⟩:∃c,QC s=c:=⟨_,rfl⟩;have hcb:0<=c.1/\c.2<=100000001/\c.1<=9223372036854775807/\ -9223372036854775808<=c.2:=by rw[<- hcS,QC];simp only;omega
 have hmx:max s.1 0=c.1:=by rw[<- hcS];rfl
 have hmn:min s.2 100000001=c.2:=by rw[<- hcS];rfl
 have F6:(if s.1<0 then 0 else s.1)=c.1:=zE
 have F7:(if 100000001<s.2 then 100000001 else s.2)=c.2:=zE
 cases hfx:Xj id p.aM with
 |none=>
  have hP:Vt p id region s=[]:=by simp[Vt,hfx]
  rw[hP];refine⟨.nil,Qp u5 (zL p id region s) zd ?_⟩;rw[pL];simp[C9,Qa,zL,hfx,Zj,tC,F6,F7];simpa[hfx,Zj,Qa]using sK
 |some x=>
  rw[hfx]at sK;by_cases hb:region<0\/8<=region\/c.2<=c.1\/1000000<c.2-c.1
  ·have hP:Vt p id region s=[]:=by simp only[Vt,hfx,hcS,if_pos hb]
   rw[hP];refine⟨.nil,Qp u5 (zL p id region s) zd ?_⟩;have KS:Abs.Pure Tryz.prog aD 80 [.agg (Qa p),I id] (.aS [.agg (Qj x),.bool true]):=sK;rw[pL];by_cases b1:region<0
   ·simp[C9,Qa,zL,hfx,Zj,Qj,tC,F6,F7,b1,Qf];exact KS
   by_cases b2:8<=region
   ·simp[C9,Qa,zL,hfx,Zj,Qj,tC,F6,F7,b1,b2,Qf];exact KS
   by_cases b3:c.2<=c.1
   ·simp[C9,Qa,zL,hfx,Zj,Qj,tC,F6,F7,b1,b2,b3,Qf];exact KS
   have b4:1000000<c.2-c.1:=zE
   have hw:IntKind.i64.wrap (c.2-c.1)=c.2-c.1:=by rw[Ql]<;>omega
   simp[C9,Qa,zL,hfx,Zj,Qj,tC,F6,F7,b1,b2,b3,b4,hw,Qf];exact KS
  simp only[not_or]at hb;obtain⟨b1,b2,b3,b4⟩:=hb;have hw:IntKind.i64.wrap (c.2-c.1)=c.2-c.1:=by rw[Ql]<;>omega
  by_cases hk:x.ki=5
  ·have hP:Vt p id region s=[c]:=by simp only[Vt,hfx,hcS,if_neg (show¬(region<0\/8<=region\/c.2<=c.1\/1000000<c.2-c.1) by omega),if_pos hk]
   rw[hP];refine⟨.full,Qp u5 (zL p id region s) zd ?_⟩;rw[pL];simp[C9,Qa,zL,hfx,Zj,Qj,tC,F6,F7,b1,b2,b3,b4,hw,hk,Qf];rw[Zj,Qj,hk]at sK;exact sK
  have axD:=pJ p.nu p.de c.1;have av4:=pJ p.nu p.de (c.2-1);have lM:IntKind.i64.wrap (c.2-1)=c.2-1:=by rw[Ql]<;>omega
  have KS:Abs.Pure Tryz.prog aD 80 [.agg (Qa p),I id] (.aS [.agg (Qj x),.bool true]):=sK;by_cases ht:Kk p=true
  ·have hte:Vd p.nu p.de=true/\0<=p.ep/\p.ep<=9000000000:=by
    simp only[Kk,zzac,decide_eq_true_eq]at ht;exact⟨ht.1.1,ht.2⟩
   have fQ:IntKind.i64.wrap (p.ep+Ym p.nu p.de (c.2-1)+1)=p.ep+Ym p.nu p.de (c.2-1)+1:=by rw[Ql]<;>omega
   have Sw:IntKind.i64.wrap (p.ep+Ym p.nu p.de c.1)=p.ep+Ym p.nu p.de c.1:=by rw[Ql]<;>omega
   have asR:=k70;rw[ht]at asR;have k71:=sI p c.1 hte.2;have axE:=sI p (c.2-1) hte.2;obtain⟨u,hu⟩:∃u,uS p c=u:=⟨_,rfl⟩;have hu1:p.ep+Ym p.nu p.de c.1=u.1:=by rw[<- hu];rfl
   have JL:p.ep+Ym p.nu p.de (c.2-1)+1=u.2:=by rw[<- hu];rfl
   have hu3:IntKind.i64.wrap u.2=u.2:=by rw[<- JL];exact fQ
   have hdf:=kP (f:=c.1) (g:=c.2-1) hte.1 zE zE zE;have k72:=F3 p x region u
   have hP:Vt p id region s=zK ((ij p x region u (lP p x region u).length).map (uE p)) [c]:=by
    simp only[Vt,hfx,hcS,hu,if_neg (show¬(region<0\/8<=region\/c.2<=c.1\/1000000<c.2-c.1) by omega),if_neg hk,ht];simp
   rw[hP];refine⟨.ro,Qp u5 (zL p id region s) zd ?_⟩;rw[pL];simp[C9,Qa,zL,hfx,Zj,Qj,F6,F7,b1,b2,b3,b4,hw,hk,Qf,ht,lM,fQ,hu1,JL,hu3];rw[hu1]at k71;refine⟨KS,asR,k71,axE,k72,?_⟩;have hub: -9223372036854775808<=u.1/\u.1<=9223372036854775807/\ -9223372036854775808<=u.2/\u.2<=9223372036854775807:=zE
   have hLi:=F4 p x region u hc fA ⟨hub.1,hub.2.1⟩ hub.2.2;have hLl:=XS p x region u hc;have asS:Sv u.1 u.2 [u]:=by intro w hw;simp at hw;subst hw;omega
   have axF:∀i,Sv u.1 u.2 (ij p x region u i):=fun i=>Da _ _ asS
   have qu:∀i,(ij p x region u i).length<=2000000:=fun i=>by
    have:=A7 ((lP p x region u).take i) [u] asS (by simp;omega);unfold ij;omega
   have fq:∀i l,(lP p x region u)[i]?=some l->ij p x region u (i+1)=zK (ij p x region u i) l:=fun i l h=>by
    unfold ij;rw[zzb,h,zzgk];rfl
   have hc0:ij p x region u 0=[u]:=by simp[ij]
   have hps:∀y,uE p y=uE p y:=fun _=>rfl;generalize hXs:lP p x region u=Xs at*
   refine je (xs:=Xs.map F2) (by simp;exact⟨rfl,rfl⟩) hLi (by intro y hy;simp[F2]at hy;obtain⟨a,_,rfl⟩:=hy;rfl)
    (fun i m=>∃(bx:T5)(rt:Rt),m.boxes=Qa p::[I c.1,I c.2]::Qj x::[I u.1,I u.2]::[.sl rt ((ij p x region u i).map Qf)]::bx/\(rt=.full\/rt=.ro)) (fun _ _=>False) ?_ ?_ (fun _ _ _ h=>h.elim) ?_ ?_ (fun _ _ h=>h.elim)
   ·refine⟨[],.full,?_,.inl rfl⟩;rw[hc0];rfl
   ·rintro i m m' ⟨bx,rt,hb,aX⟩ ⟨⟨b2,e1⟩,_,_⟩;exact⟨bx++b2,rt,by rw[e1,hb];rfl,aX⟩
   ·rintro l i m y hg hr ⟨bx,rt,hb,aX⟩ hy K' q1 _ _;rw[zzbm,zzcb]at hy;obtain⟨y,hy,rfl⟩:=hy;rw[Jm]at hb;have hyl:=hLl y (zzad hy);have k73:=jt (ij p x region u i) y (by have:=qu i;omega) zE;have hn:=fq i y hy;generalize ij p x region u i=C at*
    obtain rfl|rfl:=aX
    ·have axG:=Xz (l:=[.sl .full (C.map Qf),.sl .ro (y.map Qf)]) k73 ⟨Wk.sl _ _,Ps,trivial⟩;simp[hr,Zq,F2,hb,zL];refine⟨axG,q1 _ ⟨bx,.ro,?_,.inr rfl⟩⟩;simp[hb,hn]
    simp[hr,Zq,F2,hb,zL];refine⟨k73,q1 _ ⟨bx,.ro,?_,.inr rfl⟩⟩;simp[hb,hn]
   rintro m ⟨bx,rt,hb,aX⟩;have hcU:=qu Xs.length;have hcI:=axF Xs.length;rw[zzbv]at hb;generalize ij p x region u Xs.length=C at*
   have k73:=jt (C.map (uE p)) [c] (by simp;omega) zd;have ei:∀w∈C,(-1000000000000<=w.1-p.ep/\w.1-p.ep<=1000000000000)/\(-1000000000000<=w.2-p.ep/\w.2-p.ep<=1000000000000):=fun w hw=>by have:=hcI w hw;omega
   have leaf:∀rt,Abs.Pure Tryz.prog aD 84 [.sl rt (C.map (Qf ∘ uE p)),.sl .full [[I c.1,I c.2]]] (.sl .ro ((zK (C.map (rq ∘ Qf ∘ uE p)) [(c.1,c.2)]).map Qf))/\(zK (C.map (rq ∘ Qf ∘ uE p)) [(c.1,c.2)]).map Qf=(zK (C.map (uE p)) [c]).map Qf:=by
    have e1:C.map (rq ∘ Qf ∘ uE p)=C.map (uE p):=zzcr fun _ _=>rfl;intro rt;rw[e1];refine⟨?_,rfl⟩;have:=Xz (l:=[.sl rt ((C.map (uE p)).map Qf),.sl .full ([c].map Qf)]) k73 ⟨Wk.sl _ _,Wk.sl _ _,trivial⟩;rw[zzcu]at this;exact this
   obtain rfl|rfl:=aX
   ·simp[hb];refine A6 Y0 p (zL p id region s) (fun _ _=>rfl) (fun _ _=>rfl) _ _ C .full _ zd zd zd zd zd (by simp[hb]) (by simp[hb]) zE ei ?_;intro E' bx' Lm y4 hA sJ XT;have h7:Abs.look E' 7=.ptr 1 0:=by rw[hA 7 (by decide)];simp
    obtain⟨rfl,hC⟩|⟨hC,k,rfl⟩:=XT
    ·simp[h7,sJ,hb,zL,tC];exact leaf _
    simp[h7,sJ,hb,zL,tC];exact leaf _
   simp[hb];refine A6 Y0 p (zL p id region s) (fun _ _=>rfl) (fun _ _=>rfl) _ _ C .ro _ zd zd zd zd zd (by simp[hb]) (by simp[hb]) zE ei ?_;intro E' bx' Lm y4 hA sJ XT;have h7:Abs.look E' 7=.ptr 1 0:=by rw[hA 7 (by decide)];simp
   obtain⟨rfl,hC⟩|⟨hC,k,rfl⟩:=XT
   ·simp[h7,sJ,hb,zL,tC];exact leaf _
   simp[h7,sJ,hb,zL,tC];exact leaf _
  have XU:Kk p=false:=by simpa using ht
  rw[XU]at k70;have hP:Vt p id region s=[]:=by simp only[Vt,hfx,hcS,if_neg (show¬(region<0\/8<=region\/c.2<=c.1\/1000000<c.2-c.1) by omega),if_neg hk,if_pos XU]
  rw[hP];refine⟨.nil,Qp u5 (zL p id region s) zd ?_⟩;rw[pL];simp[C9,Qa,zL,hfx,Zj,Qj,tC,F6,F7,b1,b2,b3,b4,hw,hk,Qf,XU];exact⟨KS,k70⟩
def nM(p:Pl)(id region:Int)(s:Sp)(hc:p.cls.length<=1000000)(fA:p.sh.length<=1000000000)(cM:p.aM.length<=1000000000)(h1: -9223372036854775808<=s.1/\s.1<=9223372036854775807)(h2: -9223372036854775808<=s.2/\s.2<=9223372036854775807):
  Pure Tryz.prog aD 40 [.agg (Qa p),I id,I region,.agg [I s.1,I s.2]] (.sl .ro ((Vt p id region s).map Qf)):=by
 obtain⟨rt,h⟩:=F5 p id region s hc fA cM h1 h2;exact Zh h (Wk.sl _ _)
end
