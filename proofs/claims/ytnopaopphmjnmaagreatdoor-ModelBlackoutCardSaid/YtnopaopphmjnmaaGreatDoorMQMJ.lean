import Derived.Test.YtnopaopphmjnmaaGreatDoorMQMI
set_option linter.all false
set_option maxRecDepth 100000
set_option maxHeartbeats 64000000
namespace Go.Proofs.YtnopaopphmjnmaaGreatDoor
open Go Go.Abs
def xx:∀(cs:List Cl)(n i:Nat)(x:List AV),n<=cs.length->(RS cs n)[i]?=some x->∃(k:Nat)(c:Cl),cs[k]?=some c/\k+1+i=n/\x=[I (k:Int),.agg (Qg c)]
 |cs,0,i,x,_,h=>by simp[RS]at h
 |cs,n+1,0,x,hn,h=>by
  rw[nN]at h;simp at h;obtain⟨c,hc⟩:∃c,cs[n]?=some c:=⟨_,zzae zE⟩;refine⟨n,c,hc,zE,?_⟩;rw[<- h];simp[hc]
 |cs,n+1,i+1,x,hn,h=>by
  rw[nN]at h;obtain⟨k,c,h1,h2,h3⟩:=xx cs n i x zE (by simpa using h);exact⟨k,c,h1,zE,h3⟩
def Gp(cs:List Cl)(n:Nat):(RS cs n).length=n:=by simp[RS]
def Gq{cs:List Cl}{n:Nat}:∀x∈RS cs n,x.length=2:=by
 intro x hx;simp[RS]at hx;obtain⟨k,_,rfl⟩:=hx;rfl
structure T2 (C:List Cl) (Bd z:List Int) (n b:Nat) (s:GS) (L:List Nat) (bx:List (List AV)):Prop where
 len:b+4<bx.length
 g1:Qh bx (b+1)=[.bs b 0 n 1]
 g:Qh bx b=Zl (gB s)
 l1:Qh bx (b+3)=[.bs (b+2) 0 (n+1) 1]
 l:Qh bx (b+2)=Xp L
 f:Qh bx (b+4)=[.fn 256 [] [.ptr (b+3) 0]]
 bd:C≠[]->∃aQ,Qh bx 0=[.bs aQ 0 n 1]/\Qh bx aQ=aj (Bd++z)/\0<aQ/\aQ<b
def T2.app{C:List Cl}{Bd z:List Int}{n b:Nat}{s:GS}{L:List Nat}{bx:List (List AV)}(h:T2 C Bd z n b s L bx)(x:List (List AV)):T2 C Bd z n b s L (bx++x):=by
 have hl:=h.len;refine⟨by simp;omega,by rw[Ql zE];exact h.g1,by rw[Ql zE];exact h.g,by rw[Ql zE];exact h.l1,by rw[Ql zE];exact h.l,by rw[Ql zE];exact h.f,fun hc=>?_⟩;obtain⟨aQ,h1,h2,h3,h4⟩:=h.bd hc;exact⟨aQ,by rw[Ql zE];exact h1,by rw[Ql zE];exact h2,h3,h4⟩
def T2.later{C:List Cl}{Bd z:List Int}{n b:Nat}{s:GS}{L L':List Nat}{bx bx':List (List AV)}(h:T2 C Bd z n b s L bx)(hb:0<b)(hk:bw (·=b+2) bx bx')(hl:Qh bx' (b+2)=Xp L'):T2 C Bd z n b s L' bx':=by
 have aH:=h.len;have k:∀j,j<bx.length->j≠b+2->Qh bx' j=Qh bx j:=hk.2;refine⟨by have:=hk.1;omega,by rw[k _ zE zE];exact h.g1,by rw[k _ zE zE];exact h.g,by rw[k _ zE zE];exact h.l1,hl,by rw[k _ zE zE];exact h.f,fun hc=>?_⟩;obtain⟨aQ,h1,h2,h3,h4⟩:=h.bd hc;exact⟨aQ,by rw[k _ zE zE];exact h1,by rw[k _ zE zE];exact h2,h3,h4⟩
def T2.put{C:List Cl}{Bd z:List Int}{n b:Nat}{s:GS}{L:List Nat}{bx:List (List AV)}(h:T2 C Bd z n b s L bx)(hb:0<b)(k:Nat)(v:Bool):
  T2 C Bd z n b (s.set k (some v)) (L.set k (k+1)) ((bx.set b (Zl ((gB s).set k v))).set (b+2) (Xp (L.set k (k+1)))):=by
 have aH:=h.len
 have e:∀j,j≠b->j≠b+2->Qh ((bx.set b (Zl ((gB s).set k v))).set (b+2) (Xp (L.set k (k+1)))) j=Qh bx j:=fun j h1 h2=>by
  rw[Zz _ (fun h=>h2 h.symm),Zz _ (fun h=>h1 h.symm)]
 refine⟨by simpa using aH,by rw[e _ zE zE];exact h.g1,?_,by rw[e _ zE zE];exact h.l1,by rw[Vs _ (by simp;omega)],by rw[e _ zE zE];exact h.f,fun hc=>?_⟩
 ·rw[Zz _ zE,Vs _ zE,ans]
 obtain⟨aQ,h1,h2,h3,h4⟩:=h.bd hc;exact⟨aQ,by rw[e _ zE zE];exact h1,by rw[e _ zE zE];exact h2,h3,h4⟩
def afF(Bd:List Int)(s:GS)(c:Cl):(RU Bd s c).length=s.length:=by simp[RU,rG]
def xy(Bd:List Int):∀(l:List Cl)(s:GS),(l.foldl (RU Bd) s).length=s.length
 |[],_=>rfl
 |c::l,s=>by rw[zzd,xy Bd l,afF]
def Bl(Bd:List Int):∀(l:List Cl)(s:GS)(i:Nat)(v:Bool),(∀c∈l,c.to∈Bd)->(∀v,s[i]?≠some (some v))->(l.foldl (RU Bd) s)[i]?=some (some v)->i+1<Bd.length+0\/i+1<=Bd.length-1
 |[],s,i,v,_,h0,h=>absurd h (h0 v)
 |c::l,s,i,v,hc,h0,h=>by
  rw[zzd]at h;by_cases h1:∃v,(RU Bd s c)[i]?=some (some v)
  ·obtain⟨v',h2⟩:=h1;unfold RU at h2;rw[Jc]at h2;cases hs:s[i]? with
   |none=>rw[hs]at h2;cases h2
   |some o=>
    rw[hs]at h2;simp only[zzcw,Option.some.injEq]at h2;split at h2
    ·rename_i h3;have:=LB (hc c zd);exact .inl zE
    subst h2;exact absurd hs (h0 v')
  exact Bl Bd l _ i v (fun c h=>hc c (by simp[h])) (fun v hv=>h1 ⟨v,hv⟩) h
def O2(s:GS)(j:Nat)(h:nP s j=true):s[j]?≠some none:=by
 intro h';unfold nP at h;rw[h']at h;cases h
def ZF{s:GS}{j:Nat}(h:nP s j=false)(hj:j<s.length):s[j]?=some none:=by
 unfold nP at h;obtain⟨o,ho⟩:=aU hj;rw[ho]at h |-
 cases o with
 |none=>rfl
 |some v=>cases h
def LC(s:GS)(a q r:Nat)(v:Bool)(hq:q<=r)(h:∀j,a<=j->j<r->nP s j=true):stepG s a q v=s:=by
 rcases zzhv a q with h1|h1
 ·rw[xq s a a q v h1 (fun j h2 h3=>O2 s j (h j h2 zE)),Bj _ _ _ _ (zzab _)]
 exact Bj _ _ _ _ h1
def Bm(C:List Cl)(Bd z:List Int)(R:List Sp)(n:Nat)(hBd:Bd=dM C)(hn:Bd.length=n)(hn9:n<=10000000)(hCl:C.length<=1000000)(hR:R=Xn (nO Bd (xm C) n))(E:List (Nat×AV))(B:List (List AV))(Lm:List Nat)(st:Nat->LS)(ln:Nat)(b:Nat)(rt fB:Rt)
  (hb:0<b)(Ds:B.length=b+4)(h7:Abs.look E 7=.sl rt (C.map Qg))(aT:∀m,bJ m 6 (.sl rt (C.map Qg))=.sl fB (C.map Qg))(h8:Abs.look E 8=.ptr 0 0)(pO:Abs.look E 11=.ptr (b+1) 0)(qG:Abs.look E 12=.ptr (b+3) 0)
  (hg1:Qh B (b+1)=[.bs b 0 n 1])(hg:Qh B b=Zl (List.replicate n false))(ez:Qh B (b+3)=[.bs (b+2) 0 (n+1) 1])(hl:Qh B (b+2)=aj (List.replicate (n+1) 0))
  (sP:C≠[]->∃aQ,Qh B 0=[.bs aQ 0 n 1]/\Qh B aQ=aj (Bd++z)/\0<aQ/\aQ<b):
  vc Tryz.prog aA (Wj Bd R) Y0 (ZC Dv) ⟨Xv 145 E,⟨B,Lm,st,ln⟩⟩ (post Tryz.prog aA (Wj Bd R) Fe (.sl .ro (R.map Qf))):=by
 simp[ZC,qG,ez]
 refine Qk KO (fun f m=>∃(i:Nat)(B':List (List AV))(L':List Int),i<=n+1/\f 74=I i/\m=⟨B',Lm,st,ln⟩/\bw (·=b+2) B B'/\B'.length=B.length/\Qh B' (b+2)=aj L'/\L'.length=n+1/\∀j:Nat,j<i->L'[j]?=some (j:Int))
  (fun f _=>n+1-(numOf (f 74)).toNat) ?_ ?_
 ·exact⟨0,B,List.replicate (n+1) 0,zE,zd,rfl,bw.refl _ _,rfl,hl,zd,fun j h=>zE⟩
 rintro f m ⟨i,B',L',hi,h74,rfl,eU,Gn,eM,ug,AT⟩;have Gr:Qh B' (b+3)=[.bs (b+2) 0 (n+1) 1]:=by rw[eU.2 _ zE zE];exact ez
 rcases zzaa i (n+1)with ai|bz
 ·have aa:(i:Int)<(n:Int)+1:=zE
  have hw:=bM i zE;have bY:=Ls L' i (i:Int);have aH:=Uk L';have mQ:b+2<B'.length:=zE
  simp[h74,aa,ai,KO,qG,Gr,eM,hw,bY,aH,ug,mQ];refine⟨zE,aP,⟨i+1,zE,zd,eU.set (.inl rfl) _,Gn,L'.set i (i:Int),Vs _ mQ,by simpa using ug,fun j hj=>?_⟩,zE⟩
  ·by_cases hji':j=i
   ·subst hji';rw[zzba zE]
   rw[zzbf (fun h=>hji' h.symm)];exact AT j zE
 obtain rfl:i=n+1:=zE
 have hLr:L'=(List.range (n+1)).map fun(k:Nat)=>(k:Int):=by
  apply zzcm;intro j;by_cases hj:j<n+1
  ·rw[AT j hj];simp[hj]
  rw[zzaw zE,zzaw (by simp;omega)]
 have axH:Qh B' (b+2)=Xp (List.range (n+1)):=by rw[eM,hLr];rfl
 have bL:¬((n:Int)+1)<(n:Int)+1:=zE
 have axI:T2 C Bd z n b (List.replicate n none) (List.range (n+1)) (B'++[[.fn 256 [] [.ptr (b+3) 0]]]):=by
  have k:∀j,j<B.length->j≠b+2->Qh B' j=Qh B j:=eU.2;refine⟨by simp;omega,?_,?_,?_,?_,?_,fun hc=>?_⟩
  ·rw[Ql zE,k _ zE zE];exact hg1
  ·rw[Ql zE,k _ zE zE,afD];exact hg
  ·rw[Ql zE];exact Gr
  ·rw[Ql zE];exact axH
  ·have:b+4=B'.length:=zE
   rw[this];simp
  obtain⟨aQ,h1,h2,h3,h4⟩:=sP hc;exact⟨aQ,by rw[Ql zE,k _ zE zE];exact h1,by rw[Ql zE,k _ zE zE];exact h2,h3,h4⟩
 have anv:=Zo (l:=[.sl fB (C.map Qg)]) (mO C) ⟨Wk.sl _ _,trivial⟩;have cp:=mP C zE;have sK:=fun s hs hR E=>xw Bd z s R n hs hn9 hR E
 have uQ:∀y,Qh (B'++[y]) (b+4)=y:=fun y=>by
  have:b+4=B'.length:=zE
  rw[this];simp
 simp[h74,KO,h7,qG,aT,Gn,Ds,uQ,Wj];refine⟨anv,?_⟩;refine jK (xs:=RS C C.length) zd cp Gq (fun i m=>∃(s:GS)(L:List Nat),s=(C.reverse.take i).foldl (RU Bd) (List.replicate n none)/\WF L (nP s) n/\T2 C Bd z n b s L m.boxes) (fun _ _=>False) ?_ ?_ (fun _ _ _ h=>h.elim) ?_ ?_ (fun _ _ h=>h.elim)
 ·exact⟨_,_,zd,WF.init n _ (fun j=>by simp[nP,zzcp]),axI⟩
 ·rintro i m m' ⟨s,L,h1,h2,h3⟩ ⟨⟨bx,e1⟩,_,_⟩;exact⟨s,L,h1,h2,by rw[e1];exact h3.app bx⟩
 ·rintro l i m x hg hr ⟨s,L,hs,hWF,hSt⟩ hx K' k1 _ _;obtain⟨k,c,hc,hk,rfl⟩:=xx C C.length i x (zzab _) hx;rw[Ui]at hSt;have hcm:c∈C:=zzac hc;have anw:C≠[]:=List.ne_nil_of_mem hcm
  have axJ:C.reverse[i]?=some c:=by
   rw[List.getElem?_reverse zE];rw[show C.length-1-i=k by omega];exact hc
  have mR:s.length=n:=by rw[hs,xy];simp
  have iQ:(C.reverse.take (i+1)).foldl (RU Bd) (List.replicate n none)=RU Bd s c:=by
   rw[zzas,axJ,zzgp,<- hs];rfl
  obtain⟨aQ,d1,d2,d3,d4⟩:=hSt.bd anw;have fS:∀m,(aj (Bd++z)).map (bJ m 5)=aj (Bd++z):=fun m=>Zp m 4 (Y3 _);have fQ:bh 1 n (aj (Bd++z))=Bd.map fun x=>[I x]:=by rw[<- hn,nM];exact xh Bd _
  have oF:n<=(aj (Bd++z)).length:=by rw[Uk];simp;omega
  have nQ:Bd.Pairwise (·<=·):=by rw[hBd];exact(OY C).imp (fun h=>Int.le_of_lt h)
  have b1:=pK Bd c.fr zE nQ;have b2:=pK Bd c.to zE nQ;have hto:c.to∈Bd:=by rw[hBd,uP];exact(pN hcm).2
  have he:=LB hto;have ha:=ant Bd c.fr;have ct:RU Bd s c=stepG s (rF Bd c.fr) (rF Bd c.to) (decide (c.ki=1)):=rfl;rw[ct]at iQ;obtain⟨a,hae⟩:∃a,rF Bd c.fr=a:=⟨_,rfl⟩;obtain⟨e,hee⟩:∃e,rF Bd c.to=e:=⟨_,rfl⟩;obtain⟨v,hv⟩:∃v,(c.ki==1)=v:=⟨_,rfl⟩;have CX:decide (c.ki=1)=v:=hv;rw[hae,hee,CX]at iQ;rw[hae]at b1 ha;rw[hee]at b2 he;have aH:=hSt.len;have f0:∀x,Qh (m.boxes++x) 0=[.bs aQ 0 n 1]:=fun x=>by rw[Ql zE];exact d1
  have fb:∀x,Qh (m.boxes++x) aQ=aj (Bd++z):=fun x=>by rw[Ql zE];exact d2
  have ff:∀x,Qh (m.boxes++x) (b+4)=[.fn 256 [] [.ptr (b+3) 0]]:=fun x=>by rw[Ql zE];exact hSt.f
  simp[hr,Zn,Qg,h8,Wj,f0,fb,ff,fS,fQ,oF,hae,hee];refine⟨b1,b2,?_⟩;have anx:=hSt.app [[I c.ki,I c.it,I c.fr,I c.to,I c.re,I c.n,I c.a,I c.b]];refine OX Y0 a n (b+3) (b+2) L (nP s) hWF zE zE _ _ _ _ (by simp;omega) (by simp;omega) zE anx.l1 anx.l _ ?_;intro B1 L1 r dw ez RW har uj ew FY;have axK:=anx.later hb dw ez;have ZG:m.boxes.length<B1.length:=by have:=dw.1;simp at this;omega
  have as9:Qh B1 m.boxes.length=[I c.ki,I c.it,I c.fr,I c.to,I c.re,I c.n,I c.a,I c.b]:=by
   rw[dw.2 _ zd zE];simp
  have OC:stepG s a (min r e) v=s:=LC s a _ r v zE FY;simp
  refine Qk KP (fun g m2=>∃(k:Nat)(B2:List (List AV))(L2:List Nat),g 21=I k/\a<=k/\k<=n/\m2=⟨B2,m.lens,qE m.st l .busy,m.ln⟩/\WF L2 (nP (stepG s a (min k e) v)) n/\nP (stepG s a (min k e) v) k=false/\
   T2 C Bd z n b (stepG s a (min k e) v) L2 B2/\m.boxes.length<B2.length/\Qh B2 m.boxes.length=[I c.ki,I c.it,I c.fr,I c.to,I c.re,I c.n,I c.a,I c.b]) (fun g _=>n-(numOf (g 21)).toNat) ?_ ?_
  ·exact⟨r,B1,L1,zd,har,uj,rfl,by rw[OC];exact RW,by rw[OC];exact ew,by rw[OC];exact axK,ZG,as9⟩
  rintro g m2 ⟨k,B2,L2,g21,hak,EG,rfl,Gs,hd2,xA,anz,hrow2⟩;rcases zzaa k e with hke|hke
  ·have xB:min k e=k:=zE
   rw[xB]at Gs hd2 xA;have axL:(stepG s a k v).length=n:=by rw[rG,mR]
   have ata:k<n:=zE
   have ZH:=ZF hd2 zE
   have hsk:s[k]?=some none:=by
    rw[Jc]at ZH;cases hq:s[k]? with
    |none=>rw[hq]at ZH;cases ZH
    |some o=>rw[hq]at ZH;simpa using ZH
   have dX:=LA s a k v hak hsk;obtain⟨O3,ZI⟩:=ZB (stepG s a k v) k v zE;have hW3:=WF.dec Gs ata O3 ZI;have hS3:=xA.put hb k v;have atb:(k:Int)<(e:Int):=zE
   have atc:(k:Int)<(n:Int):=zE
   have anA:(k:Int)<(n:Int)+1:=zE
   have axM:k<n+1:=zE
   have Y6:IntKind.i64.wrap ((k:Int)+1)=(k:Int)+1:=by rw[Qj]<;>omega
   have iG:=anr (gB (stepG s a k v)) k v;have hns:(Xp L2).set k (I ((k:Int)+1))=Xp (L2.set k (k+1)):=by have:=Y9 L2 k (k+1);simpa using this
   have iP:=anp (gB (stepG s a k v));have ji:(gB (stepG s a k v)).length=n:=by simp[gB,axL]
   have hnl:=Y8 L2;have hL2:=Gs.1;have eC:=xA.len;have q1:∀X,Qh (B2.set b X) (b+3)=[.bs (b+2) 0 (n+1) 1]:=fun X=>by rw[Zz _ zE];exact xA.l1
   have q2:∀X,Qh (B2.set b X) (b+2)=Xp L2:=fun X=>by rw[Zz _ zE];exact xA.l
   have q3:∀X Z,Qh ((B2.set b X).set (b+2) Z) (b+4)=[.fn 256 [] [.ptr (b+3) 0]]:=fun X Z=>by rw[Zz _ zE,Zz _ zE];exact xA.f
   have mM:b<B2.length:=zE
   have mQ:b+2<B2.length:=zE
   simp[g21,atb,hke,KP,pO,qG,xA.g1,xA.g,hrow2,hv,atc,ata,anA,axM,Y6,iG,hns,iP,ji,hnl,hL2,q1,q2,q3,mM,mQ,Wj];have hl3:=hS3.len
   have atd:Qh ((B2.set b (Zl ((gB (stepG s a k v)).set k v))).set (b+2) (Xp (L2.set k (k+1)))) m.boxes.length=[I c.ki,I c.it,I c.fr,I c.to,I c.re,I c.n,I c.a,I c.b]:=by
    rw[Zz _ zE,Zz _ zE];exact hrow2
   have axN:m.boxes.length<((B2.set b (Zl ((gB (stepG s a k v)).set k v))).set (b+2) (Xp (L2.set k (k+1)))).length:=by simpa using anz
   refine⟨zE,zE,OX Y0 k n (b+3) (b+2) _ _ hW3 EG zE _ _ _ _ zE zE zE hS3.l1 hS3.l _ ?_⟩;intro B4 L4 r4 O4 hl4 hW4 axO axP anB axQ;have hS4:=hS3.later hb O4 hl4;have axR:m.boxes.length<B4.length:=by have:=O4.1;omega
   have ate:Qh B4 m.boxes.length=[I c.ki,I c.it,I c.fr,I c.to,I c.re,I c.n,I c.a,I c.b]:=by
    rw[O4.2 _ axN zE];exact atd
   have hr4:k+1<=r4:=by
    rcases Nat.eq_or_lt_of_le axO with h|h
    ·subst h;rw[O3]at anB;cases anB
    exact h
   have nR:stepG s a (min r4 e) v=(stepG s a k v).set k (some v):=by
    rw[<- dX];refine xq s a (k+1) (min r4 e) v zE (fun j ek oD=>?_);have h1:=O2 _ j (axQ j zE zE);rw[zzbf zE,Jc]at h1;intro h2;rw[h2]at h1;simp at h1;omega
   simp;refine⟨aP,⟨r4,rfl,zE,axP,L4,by rw[nR];exact hW4,by rw[nR];exact anB,by rw[nR];exact hS4,axR,ate⟩,zE⟩
  have xB:min k e=e:=zE
  rw[xB]at Gs hd2 xA;have axS:¬(k:Int)<(e:Int):=zE
  simp[g21,axS,zzbo.2 hke,KP];exact k1 _ ⟨stepG s a e v,L2,iQ.symm,Gs,xA⟩
 rintro m ⟨s,L,hs,hWF,hSt⟩;rw[Gp]at hs;rw[zzap zd]at hs;have hsf:s=xm C:=by rw[hs];unfold xm;rw[<- hBd,hn]
 rw[<- hsf]at hR;have mR:s.length=n:=by rw[hs,xy];simp
 refine xw Bd z s R n mR hn9 hR _ m.boxes m.lens m.st m.ln b (b+1) Bd ?_ ?_ hSt.g1 hSt.g ?_
 ·simp[h8]
 ·simp[pO]
 intro i hi
 have anw:C≠[]:=by
  rintro rfl;rw[hs]at hi;simp[zzcp]at hi
 obtain⟨aQ,d1,d2,_,_⟩:=hSt.bd anw;refine⟨aQ,d1,d2,?_,hn⟩;rw[hs]at hi;have:=Bl Bd C.reverse _ i true (fun c hc=>by rw[hBd,uP];exact(pN (zzf.1 hc)).2) (fun v=>by simp[zzcp]) hi;omega
section
variable (cs:List Cl) (item region:Int)
def axT(C:List Cl)(rt:Rt)(Lm:List Nat):Prop:=(C=[]/\rt=.nil/\Lm=[])\/(C≠[]/\rt=.own 0 8/\Lm=[C.length])
end
def ZJ{B:List (List AV)}{i:Nat}{v:List AV}(h:Qh B i=v)(hi:i<B.length):B.set i v=B:=by
 apply zzcm;intro j;by_cases hj:j=i
 ·subst hj;rw[zzba hi,Ug hi,h]
 rw[zzbf (fun e=>hj e.symm)]
def LD(cs:List Cl)(item region:Int)(hl:cs.length<=1000000):Pure Tryz.prog aA 187 [.sl .ro (cs.map Qg),I item,I region] (.sl .ro ((Qcu cs item region).map Qf)):=by
 have hR:Qcu cs item region=Xn (nO (dM (Jr cs item region)) (xm (Jr cs item region)) (dM (Jr cs item region)).length):=rfl;have hCl:(Jr cs item region).length<=cs.length:=zzbs _ _;obtain⟨CC,hCC⟩:∃CC,Jr cs item region=CC:=⟨_,rfl⟩;rw[hCC]at hR hCl;generalize Qcu cs item region=R at hR;refine Qo adK (Wj (dM CC) R) zd ?_;rw[ZD];simp[akE]
 refine Qk ef (fun f m=>∃(i:Nat)(C:List Cl)(rt:Rt)(Lm:List Nat)(B:List (List AV)),i<=cs.length/\f 27=I i/\f 7=.sl rt (C.map Qg)/\m=⟨B,Lm,fun _=>.gone,0⟩/\C++Jr (cs.drop i) item region=CC/\
   C.length<=i/\0<B.length/\axT C rt Lm/\afE B C) (fun f _=>cs.length-(numOf (f 27)).toNat) ?_ ?_
 ·exact⟨0,[],.nil,[],[[.sl .nil []]],zE,zd,zd,rfl,by simpa using hCC,zd,zd,.inl ⟨rfl,rfl,rfl⟩,.inl ⟨rfl,rfl⟩⟩
 rintro f m ⟨i,C,rt,Lm,B,hi,h27,h7,rfl,hC,hCi,dF,aT,sP⟩;rcases zzaa i cs.length with ai|bz
 ·obtain⟨c,hc⟩:=aU ai;have ah:Qh (cs.map Qg) i=Qg c:=Qt (by simp[hc]);have aa:(i:Int)<(cs.length:Int):=zE
  have hw:=bM i zE;have hd:cs.drop i=c::cs.drop (i+1):=by rw[zzaf ai,(zza.1 hc).2]
  have hcp:=mT c item region;have ZK:=We c;rw[hd]at hC
  have skip:uh item region c=false->C++Jr (cs.drop (i+1)) item region=CC:=by
   intro hb;rw[<- hC];simp[Jr,hb]
  have take:uh item region c=true->(C++[c])++Jr (cs.drop (i+1)) item region=CC:=by
   intro hb;rw[<- hC];simp[Jr,hb]
  have iE:∀x,Qh (B++x) 0=Qh B 0:=fun x=>Ql dF;by_cases hk:c.ki=1\/c.ki=2
  ·cases e1:RT c item region with
   |false=>
    have hs:=skip (by simp[uh,e1]);rw[e1]at hcp;obtain hk|hk:=hk
    ·have kY:(⟨1,c.it,c.fr,c.to,c.re,c.n,c.a,c.b⟩:Cl)=c:=by cases c;simp at hk;subst hk;rfl
     have rI:Pure Tryz.prog aA 255 [.agg [I 1,I c.it,I c.fr,I c.to,I c.re,I c.n,I c.a,I c.b],I item,I region] (.bool false):=by simpa[Qg,hk]using hcp
     simp[h27,h7,ai,aa,ah,Qg,hk,kY,e1,ef,hw,Wj];refine⟨rI,aP,⟨i+1,zE,zd,C,rt,⟨rfl,rfl⟩,Lm,_,⟨rfl,rfl⟩,hs,zE,zd,aT,sP.app dF _⟩,zE⟩
    have kY:(⟨2,c.it,c.fr,c.to,c.re,c.n,c.a,c.b⟩:Cl)=c:=by cases c;simp at hk;subst hk;rfl
    have rI:Pure Tryz.prog aA 255 [.agg [I 2,I c.it,I c.fr,I c.to,I c.re,I c.n,I c.a,I c.b],I item,I region] (.bool false):=by simpa[Qg,hk]using hcp
    simp[h27,h7,ai,aa,ah,Qg,hk,kY,e1,ef,hw,Wj];refine⟨rI,aP,⟨i+1,zE,zd,C,rt,⟨rfl,rfl⟩,Lm,_,⟨rfl,rfl⟩,hs,zE,zd,aT,sP.app dF _⟩,zE⟩
   |true=>
    rw[e1]at hcp;cases e2:Xj c with
    |false=>
     have hs:=skip (by simp[uh,e2]);rw[e2]at ZK;obtain hk|hk:=hk
     ·have kY:(⟨1,c.it,c.fr,c.to,c.re,c.n,c.a,c.b⟩:Cl)=c:=by cases c;simp at hk;subst hk;rfl
      have rI:Pure Tryz.prog aA 255 [.agg [I 1,I c.it,I c.fr,I c.to,I c.re,I c.n,I c.a,I c.b],I item,I region] (.bool true):=by simpa[Qg,hk]using hcp
      have nS:Pure Tryz.prog aA 83 [.agg [I 1,I c.it,I c.fr,I c.to,I c.re,I c.n,I c.a,I c.b]] (.bool false):=by simpa[Qg,hk]using ZK
      simp[h27,h7,ai,aa,ah,Qg,hk,kY,e1,e2,ef,hw,Wj];refine⟨rI,nS,aP,⟨i+1,zE,zd,C,rt,⟨rfl,rfl⟩,Lm,_,⟨rfl,rfl⟩,hs,zE,zd,aT,sP.app dF _⟩,zE⟩
     have kY:(⟨2,c.it,c.fr,c.to,c.re,c.n,c.a,c.b⟩:Cl)=c:=by cases c;simp at hk;subst hk;rfl
     have rI:Pure Tryz.prog aA 255 [.agg [I 2,I c.it,I c.fr,I c.to,I c.re,I c.n,I c.a,I c.b],I item,I region] (.bool true):=by simpa[Qg,hk]using hcp
     have nS:Pure Tryz.prog aA 83 [.agg [I 2,I c.it,I c.fr,I c.to,I c.re,I c.n,I c.a,I c.b]] (.bool false):=by simpa[Qg,hk]using ZK
     simp[h27,h7,ai,aa,ah,Qg,hk,kY,e1,e2,ef,hw,Wj];refine⟨rI,nS,aP,⟨i+1,zE,zd,C,rt,⟨rfl,rfl⟩,Lm,_,⟨rfl,rfl⟩,hs,zE,zd,aT,sP.app dF _⟩,zE⟩
    |true=>
     have ht:=take (by simp[uh,e1,e2,hk]);rw[e2]at ZK;obtain hk|hk:=hk
     ·have kY:(⟨1,c.it,c.fr,c.to,c.re,c.n,c.a,c.b⟩:Cl)=c:=by cases c;simp at hk;subst hk;rfl
      have rI:Pure Tryz.prog aA 255 [.agg [I 1,I c.it,I c.fr,I c.to,I c.re,I c.n,I c.a,I c.b],I item,I region] (.bool true):=by simpa[Qg,hk]using hcp
      have nS:Pure Tryz.prog aA 83 [.agg [I 1,I c.it,I c.fr,I c.to,I c.re,I c.n,I c.a,I c.b]] (.bool true):=by simpa[Qg,hk]using ZK
      obtain⟨rfl,rfl,rfl⟩|⟨aM,rfl,rfl⟩:=aT
      ·obtain⟨_,dV⟩|⟨hx,_⟩:=sP
       ·have LF:∀x,Qh (B++x) 0=[.sl .nil []]:=fun x=>by rw[Ql dF];exact dV
        have lY:∀x y,(B++x).set 0 y=B.set 0 y++x:=fun x y=>Ym y dF;simp[h27,h7,ai,aa,ah,Qg,hk,kY,e1,e2,ef,hw,LF,lY,dF,Wj];refine⟨rI,nS,aP,⟨i+1,zE,zd,[c],.own 0 8,⟨rfl,by simp[Qg,hk]⟩,[1],_,⟨rfl,rfl⟩,ht,zd,zd,.inr ⟨zd,rfl,rfl⟩,.inr ⟨zd,B.length+1,?_,zE,zd,?_⟩⟩,zE⟩
        ·rw[Ql (by simpa using dF),Vs _ dF];rfl
        have:=Vm (B.set 0 [AV.bs (B.length+1) 0 2 1]) [[I 1,I c.it,I c.fr,I c.to,I c.re,I c.n,I c.a,I c.b],[AV.int IntKind.i64 c.fr,AV.int IntKind.i64 c.to]] 1;rw[zzck]at this;rw[this];rfl
       exact absurd rfl hx
      obtain⟨hx,_⟩|⟨_,aQ,dV,mM,mQ,hb3⟩:=sP
      ·exact absurd hx aM
      have LF:∀x,Qh (B++x) 0=[.bs aQ 0 (fq C).length 1]:=fun x=>by rw[Ql dF];exact dV
      have anC:∀x,Qh (B++x) aQ=aj (fq C):=fun x=>by rw[Ql mQ];exact hb3
      have lY:∀x y,(B++x).set 0 y=B.set 0 y++x:=fun x y=>Ym y dF;have T3:∀x y,(B++x).set aQ y=B.set aQ y++x:=fun x y=>Ym y mQ;have iP:=pM C;have fO:=Uk (fq C);have sQ:∀x,Qh (B.set aQ []++x) 0=[.bs aQ 0 (fq C).length 1]:=fun x=>by rw[Ql (by simpa using dF),Zz _ mM,dV]
      have hss:∀x y,(B.set aQ []++x).set 0 y=(B.set aQ []).set 0 y++x:=fun x y=>Ym y (by simpa using dF);have bC:(aj (fq C)).take (fq C).length=aj (fq C):=zzap (by rw[fO];exact zzab _)
      have hnb:aj (fq C)≠[]:=by
       intro h;have:=congrArg List.length h;rw[fO,iP]at this;exact aM (zzcd.1 (by simp at this;omega))
      simp[h27,h7,ai,aa,ah,Qg,hk,kY,e1,e2,ef,hw,LF,anC,lY,T3,sQ,hss,bC,hnb,dF,mQ,fO,Wj];refine⟨rI,nS,⟨?_,zE⟩,⟨zE,zE⟩,aP,⟨i+1,zE,zd,C++[c],.own 0 8,⟨rfl,by simp[Qg,hk]⟩,[C.length+1],_,⟨rfl,rfl⟩,ht,by simp;omega,zd,.inr ⟨zd,rfl,zd⟩,.inr ⟨zd,B.length+1,?_,zE,zd,?_⟩⟩,zE⟩
      ·rintro row (⟨a,_,rfl⟩|rfl)<;>rfl
      ·rw[Ql (by simpa using dF),Vs _ (by simpa using dF),pL];simp[fq]
      have:=Vm ((B.set aQ []).set 0 [AV.bs (B.length+1) 0 ((fq C).length+2) 1]) [[I 1,I c.it,I c.fr,I c.to,I c.re,I c.n,I c.a,I c.b],aj (fq C)++[AV.int IntKind.i64 c.fr,AV.int IntKind.i64 c.to]] 1;rw[zzck,zzck]at this;rw[this,pL,nM];rfl
     have kY:(⟨2,c.it,c.fr,c.to,c.re,c.n,c.a,c.b⟩:Cl)=c:=by cases c;simp at hk;subst hk;rfl
     have rI:Pure Tryz.prog aA 255 [.agg [I 2,I c.it,I c.fr,I c.to,I c.re,I c.n,I c.a,I c.b],I item,I region] (.bool true):=by simpa[Qg,hk]using hcp
     have nS:Pure Tryz.prog aA 83 [.agg [I 2,I c.it,I c.fr,I c.to,I c.re,I c.n,I c.a,I c.b]] (.bool true):=by simpa[Qg,hk]using ZK
     obtain⟨rfl,rfl,rfl⟩|⟨aM,rfl,rfl⟩:=aT
     ·obtain⟨_,dV⟩|⟨hx,_⟩:=sP
      ·have LF:∀x,Qh (B++x) 0=[.sl .nil []]:=fun x=>by rw[Ql dF];exact dV
       have lY:∀x y,(B++x).set 0 y=B.set 0 y++x:=fun x y=>Ym y dF;simp[h27,h7,ai,aa,ah,Qg,hk,kY,e1,e2,ef,hw,LF,lY,dF,Wj];refine⟨rI,nS,aP,⟨i+1,zE,zd,[c],.own 0 8,⟨rfl,by simp[Qg,hk]⟩,[1],_,⟨rfl,rfl⟩,ht,zd,zd,.inr ⟨zd,rfl,rfl⟩,.inr ⟨zd,B.length+1,?_,zE,zd,?_⟩⟩,zE⟩
       ·rw[Ql (by simpa using dF),Vs _ dF];rfl
       have:=Vm (B.set 0 [AV.bs (B.length+1) 0 2 1]) [[I 2,I c.it,I c.fr,I c.to,I c.re,I c.n,I c.a,I c.b],[AV.int IntKind.i64 c.fr,AV.int IntKind.i64 c.to]] 1;rw[zzck]at this;rw[this];rfl
      exact absurd rfl hx
     obtain⟨hx,_⟩|⟨_,aQ,dV,mM,mQ,hb3⟩:=sP
     ·exact absurd hx aM
     have LF:∀x,Qh (B++x) 0=[.bs aQ 0 (fq C).length 1]:=fun x=>by rw[Ql dF];exact dV
     have anC:∀x,Qh (B++x) aQ=aj (fq C):=fun x=>by rw[Ql mQ];exact hb3
     have lY:∀x y,(B++x).set 0 y=B.set 0 y++x:=fun x y=>Ym y dF;have T3:∀x y,(B++x).set aQ y=B.set aQ y++x:=fun x y=>Ym y mQ;have iP:=pM C;have fO:=Uk (fq C);have sQ:∀x,Qh (B.set aQ []++x) 0=[.bs aQ 0 (fq C).length 1]:=fun x=>by rw[Ql (by simpa using dF),Zz _ mM,dV]
     have hss:∀x y,(B.set aQ []++x).set 0 y=(B.set aQ []).set 0 y++x:=fun x y=>Ym y (by simpa using dF);have bC:(aj (fq C)).take (fq C).length=aj (fq C):=zzap (by rw[fO];exact zzab _)
     have hnb:aj (fq C)≠[]:=by
      intro h;have:=congrArg List.length h;rw[fO,iP]at this;exact aM (zzcd.1 (by simp at this;omega))
     simp[h27,h7,ai,aa,ah,Qg,hk,kY,e1,e2,ef,hw,LF,anC,lY,T3,sQ,hss,bC,hnb,dF,mQ,fO,Wj];refine⟨rI,nS,⟨?_,zE⟩,⟨zE,zE⟩,aP,⟨i+1,zE,zd,C++[c],.own 0 8,⟨rfl,by simp[Qg,hk]⟩,[C.length+1],_,⟨rfl,rfl⟩,ht,by simp;omega,zd,.inr ⟨zd,rfl,zd⟩,.inr ⟨zd,B.length+1,?_,zE,zd,?_⟩⟩,zE⟩
     ·rintro row (⟨a,_,rfl⟩|rfl)<;>rfl
     ·rw[Ql (by simpa using dF),Vs _ (by simpa using dF),pL];simp[fq]
     have:=Vm ((B.set aQ []).set 0 [AV.bs (B.length+1) 0 ((fq C).length+2) 1]) [[I 2,I c.it,I c.fr,I c.to,I c.re,I c.n,I c.a,I c.b],aj (fq C)++[AV.int IntKind.i64 c.fr,AV.int IntKind.i64 c.to]] 1;rw[zzck,zzck]at this;rw[this,pL,nM];rfl
  have h1:¬c.ki=1:=fun h=>hk (.inl h);have h2:¬c.ki=2:=fun h=>hk (.inr h);have hs:=skip (by simp[uh,h1,h2]);simp[h27,h7,ai,aa,ah,Qg,h1,h2,ef,hw,Wj];refine⟨aP,⟨i+1,zE,zd,C,rt,⟨rfl,rfl⟩,Lm,_,⟨rfl,rfl⟩,hs,zE,zd,aT,sP.app dF _⟩,zE⟩
 obtain rfl:i=cs.length:=zE
 have hCe:C=CC:=by rw[<- hC];simp[Jr]
 subst hCe;have w11:IntKind.i64.wrap 1=1:=by rw[Qj]<;>omega
 obtain⟨rfl,rfl,rfl⟩|⟨aM,rfl,rfl⟩:=aT
 ·obtain⟨_,dV⟩|⟨h,_⟩:=sP
  ·have atf:dM []=[]:=by simp[dM,fq,dd]
   simp[h27,h7,ef,dV,Wj];refine pP _ _ _ _ ?_;simp[dV,Wj];refine Du _ _ _ ?_;have axU:=ZJ dV dF;have iE:∀x,Qh (B++x) 0=[.sl .nil []]:=fun x=>by rw[Ql dF,dV]
   simp[dV,axU,dF,iE,Wj,w11,bK];refine Bm [] (dM []) [] R 0 rfl (by rw[atf];rfl) zE zd (by rw[hR,atf];rfl) _ _ _ _ _ B.length .nil .nil dF zd ?_ (fun _=>rfl) ?_ ?_ ?_ ?_ ?_ ?_ ?_ (fun h=>absurd rfl h);all_goals simp[Zl,aj]
  exact absurd rfl h
 obtain⟨h,_⟩|⟨_,aQ,dV,mM,mQ,hb3⟩:=sP
 ·exact absurd h aM
 simp[h27,h7,ef,dV,Wj];have iP:=pM C
 have hnb:aj (fq C)≠[]:=by
  intro h;have:=congrArg List.length h;rw[Uk,iP]at this;exact aM (zzcd.1 (by simp at this;omega))
 refine sR _ (fq C) (by rw[iP];omega) _ aQ [] ?_ (by simpa using hnb) _ ?_
 ·show B[aQ]?=_;rw[Ug mQ,hb3,zzau]
 obtain⟨l,Bg⟩:∃l,(fq C).mergeSort (fun x y=>decide (x<=y))=l:=⟨_,rfl⟩;have w8:(fq C).length=l.length:=by rw[<- Bg,zzew]
 have hdl:dd l=dM C:=by rw[<- Bg];rfl
 have afG:∀X,Qh (B.set aQ X) 0=[.bs aQ 0 (fq C).length 1]:=fun X=>by rw[Zz _ mM];exact dV
 have axV:l≠[]:=by
  intro h;have:=congrArg List.length h;rw[<- w8,iP]at this;exact aM (zzcd.1 (by simp at this;omega))
 simp[AM.wr,Bg,afG,w8,Wj];refine sO _ l (by rw[<- w8,iP];omega) _ _ _ _ aQ (by simpa using mQ) axV (Vs _ mQ) _ ?_;intro B2 z dD uk hz;rw[hdl]at uk hz |-
 have atg:0<B2.length:=by have:=dD.1;simp at this;omega
 have axW:Qh B2 0=[.bs aQ 0 l.length 1]:=by rw[dD.2 0 (by simpa using dF) (fun h=>mM h.symm),afG,w8]
 have azy:aQ<B2.length:=by have:=dD.1;simp at this;omega
 obtain⟨B3,ZL⟩:∃B3,B2.set 0 [.bs aQ 0 (dM C).length 1]=B3:=⟨_,rfl⟩;have axX:B3.length=B2.length:=by rw[<- ZL];simp
 have anD:Qh B3 0=[.bs aQ 0 (dM C).length 1]:=by rw[<- ZL];exact Vs _ atg
 have axY:Qh B3 aQ=aj (dM C++z):=by rw[<- ZL,Zz _ (fun h=>mM h.symm)];exact uk
 have axZ:∀x,Qh (B3++x) 0=[.bs aQ 0 (dM C).length 1]:=fun x=>by rw[Ql zE];exact anD
 have ax0:0<B3.length:=zE
 have azz:=OZ C;have T4:IntKind.i64.wrap (((dM C).length:Int)+1)=((dM C).length:Int)+1:=by rw[Qj]<;>omega
 have htn:(((dM C).length:Int)+1).toNat=(dM C).length+1:=zE
 have A0:(0:Int)<=((dM C).length:Int)+1:=zE
 have hf1:=ZA (dM C).length;have hf2:=Gi ((dM C).length+1);simp[axW,atg,ZL,anD,axZ,T4,htn,A0,hf1,hf2,axX.symm,ax0,Wj];refine⟨⟨zE,zE⟩,⟨zE,zE⟩,?_⟩;refine Bm C (dM C) z R (dM C).length rfl rfl zE zE hR _ _ _ _ _ B3.length (.own 0 8) .ro zE zd ?_ (fun _=>rfl) ?_ ?_ ?_ ?_ ?_ ?_ ?_ (fun _=>⟨aQ,by rw[Ql zE];exact anD,by rw[Ql zE];exact axY,zE,zE⟩);all_goals simp
