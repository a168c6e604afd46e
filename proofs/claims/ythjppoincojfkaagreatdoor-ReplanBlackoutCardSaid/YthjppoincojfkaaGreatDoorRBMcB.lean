import Derived.Test.YthjppoincojfkaaGreatDoorRBMbU
import Derived.Test.YthjppoincojfkaaGreatDoorRBMbW
set_option linter.all false
set_option maxRecDepth 100000
set_option maxHeartbeats 64000000
namespace Go.Proofs.YthjppoincojfkaaGreatDoor
open Go Go.Abs
def ZK(Y:YT)(m:AM)(g:Pg)(f:Int)(mid kk:Nat)(b:QR)(e:En)(hk:kk<m.boxes.length)(hr:Qj m.boxes kk=Qr g f mid)(hb:fQ m.boxes mid b):
  aB Tryz.prog aD Y 149 [.agg (Qd e),.ptr kk 0] m (fun r m'=>m'=m/\r=.bool !(za b e.id)):=by
 obtain⟨mb,ml,ms,mn⟩:=m;have hR:∀ex,Qj (mb++ex) mid=[.aJ 0 (bG .bool b)]:=hb.ext;have hM:∀ex,Qj (mb++ex) kk=Qr g f mid:=fun ex=>by rw[Qn hk];exact hr
 simp only[Qr,Qg,Qa,zzae,zzai]at hM;refine aB.read (Xn acj (fun _ _ _=>.junk) zd ?_);rcases Xy AV.bool e.id b 0 with⟨b1,b2,_⟩|⟨u,u',b1,b2,_⟩
 ·simp[TC,TD,Qd,hM,hR,za,b1,b2];exact nS
 cases u<;>simp[TC,TD,Qd,hM,hR,za,b1,b2]<;>exact nS
def atd(Y:YT)(m:AM)(g:Pg)(f:Int)(mid kk:Nat)(b:QR)(e:En)(hk:kk<m.boxes.length)(hr:Qj m.boxes kk=Qr g f mid)(hb:fQ m.boxes mid b)(K:So)(hK:K (.bool !(za b e.id)) m):
  aB Tryz.prog aD Y 149 [.agg (Qd e),.ptr kk 0] m K:=
 aB.mono (ZK Y m g f mid kk b e hk hr hb) (by rintro r m' ⟨rfl,rfl⟩;exact hK)
def Lt(Y:YT)(m:AM)(g:Pg)(f:Int)(mid kk:Nat)(b:QR)(k:Nat)(L:List En)(z:P2)(hl:L.length<=1000000000)(hk:kk<m.boxes.length)(hr:Qj m.boxes kk=Qr g f mid)(hb:fQ m.boxes mid b)(hV:k<m.boxes.length)(hrV:Qj m.boxes k=eG L++z):
  aB Tryz.prog aD Y 148 [.bs k 0 L.length 7,.fn 149 [] [.ptr kk 0]] m (fun r m'=>m'=m/\r=I (Uo (fun e:En=>!(za b e.id)) L 0)):=by
 obtain⟨mb,ml,ms,mn⟩:=m;have aH:=Uy L;have k1:=fun e K hK=>atd Y ⟨mb,ml,ms,mn⟩ g f mid kk b e hk hr hb K hK;refine aB.read (Xn BW (fun _ _ _=>.gd false .junk) zd ?_);simp[ML];refine Qk eX (fun s m=>∃i:Nat,s 8=I i/\i<=L.length/\Uo (fun e:En=>!(za b e.id)) (L.drop i) i=Uo (fun e:En=>!(za b e.id)) L 0/\m=⟨mb,ml,ms,mn⟩) (fun s _=>L.length-(numOf (s 8)).toNat) ?_ ?_
 ·exact⟨0,zd,zE,zd,rfl⟩
 rintro s m ⟨i,f8,hi,hidx,rfl⟩;rcases zzaa i L.length with ai|bn
 ·obtain⟨x,hx⟩:=aV ai;have hg:=Dw hx;simp only at hrV
  have ah:(Qj mb k).drop (i*7)=I x.id::I x.it::I x.fr::I x.ea::I x.la::I x.bo::.sl .ro (x.al.map Qf)::(eG (L.drop (i+1))++z):=by
   rw[hrV,zzdu (by rw[Uy];omega),hg];rfl
  have aa:(i:Int)<(L.length:Int):=zE
  have hw:=bO i zE;have hd:L.drop i=x::L.drop (i+1):=by rw[zzah ai,(zza.1 hx).2]
  have kx:=k1 x;simp only[Qd]at kx;rw[hd,Uo]at hidx;cases hP:za b x.id with
  |false=>
   rw[if_pos (by simp[hP])]at hidx;simp[f8,eX,aa,ah];refine kx _ ?_;simp[hP,Aj,hidx];exact nS
  |true=>
   rw[if_neg (by simp[hP])]at hidx;simp[f8,eX,aa,ah];refine kx _ ?_;simp[hP,hw];refine⟨aQ,⟨i+1,zd,zE,hidx⟩,zE⟩
 obtain rfl:i=L.length:=zE
 rw[zzbx,Uo]at hidx;simp[f8,eX,Aj,<- hidx];exact nS
open Go Go.Abs Go.RowKit
def GW:bw Tryz.prog 150:=by
 first|exact BX.bw|(unfold bw;decide)|kernel_rfl
def Rn(Y:YT)(m:AM)(id gK i n:Nat)(A C V:P2)(aL:m.boxes[id]?=some (A++C))(fL:m.boxes[gK]?=some V)(aN:gK≠id)(hV:V.length=7)(hA:A.length=i*7)(hC:C.length=(n-i)*7)
  (hi:i<n)(hn:n+1<=1000000000)(K:So)(hK:K (.bs m.boxes.length 0 (n+1) 7) {m with boxes:=m.boxes.set id []++[A++(V++C)]}):aB Tryz.prog aD Y 150 [.bs id 0 n 7,I i,.bs gK 0 1 7] m K:=by
 refine aB.fO GW fun N w0 an γ w vs hm hl hr=>?_
 obtain⟨v1,r1,rfl,g1,Sd⟩:∃v1 r1,vs=v1::r1/\aA w γ (.bs id 0 n 7) v1/\ak w γ [I i,.bs gK 0 1 7] r1:=by
  cases vs with
  |nil=>have:=hr.1;simp at this
  |cons v r=>exact⟨v,r,rfl,hr.2 0 _ _ rfl rfl,⟨by have:=hr.1;simp at this |-;omega,fun k c u h1 h2=>hr.2 (k+1) c u (Nm h1) (Nm h2)⟩⟩
 obtain⟨v2,r2,rfl,g2,oF⟩:∃v2 r2,r1=v2::r2/\aA w γ (I i) v2/\ak w γ [.bs gK 0 1 7] r2:=by
  cases r1 with
  |nil=>have:=Sd.1;simp at this
  |cons v r=>exact⟨v,r,rfl,Sd.2 0 _ _ rfl rfl,⟨by have:=Sd.1;simp at this |-;omega,fun k c u h1 h2=>Sd.2 (k+1) c u (Nm h1) (Nm h2)⟩⟩
 obtain⟨v3,rfl,g3⟩:=Yo oF;cases g2;obtain⟨b,cap,arr,te,hβ,rfl,gM,hh,hs⟩:=g1.cN;obtain⟨vb,ate,uR,tv,hβv,rfl,hlv,hhv,hsv⟩:=g3.cN;have hB:m.B id=some (A++C):=aL;have A2:m.B gK=some V:=fL
 have aiX:A++C≠[]:=by
  intro h;have:=congrArg List.length h;simp only[zzak,hA,hC,zzcn]at this;omega
 have atf:V≠[]:=by rintro rfl;simp at hV
 have hvb:vb≠b:=by
  rintro rfl;rcases hm.inj _ _ _ hβ hβv with h|h|h
  ·rw[hB]at h;exact aiX (Option.some.inj h)
  ·rw[A2]at h;exact atf (Option.some.inj h)
  exact aN h.symm
 obtain⟨bN,y4,q2,q3,q4⟩:=hm.box id _ b hB hβ;rw[hh]at q2;cases q2;obtain⟨ayU,tv',p2,p3,p4⟩:=hm.box gK _ vb A2 hβv;rw[hhv]at p2;cases p2;have hvl:=p3.1;simp only[zzbi,hV]at hvl
 have hVr:ak w γ V (uR.toList.take 7):=by
  refine⟨by simp only[zzap,zzbi,hV];omega,fun k c v g1 g2=>?_⟩;have hk:=(zza.1 g1).1;rw[zzbj,if_pos zE]at g2;exact p3.2 k c v g1 g2
 have hvo:∀v∈uR.toList.take 7,v.oneCell'=true:=fun v hv=>p4 v (zzce hv);have hi7:(i+1)*7=A.length+V.length:=by rw[hA,hV];omega
 simp only[zzbs]at hs;by_cases cA:n+1<=cap
 ·have fR:=Rk b n cap i vb ate arr uR te tv w hi cA hn hvb hh hhv hs hvl q4 p4;have Pf:(n+1)*7<=cap*7:=zzbc _ cA;rw[hi7,<- hA,<- hC]at fR;obtain⟨e1,m1⟩:=Rl hm aL aiX hβ hh hVr hvo (by rw[hA,hC,hV];omega);refine fR.mono ?_;rintro e w' ⟨rfl,rfl⟩;have hh':w.drew.heap[b]?=some (.cells arr te (0,0)):=hh;refine⟨_,_,.bs m.boxes.length 0 (n+1) 7,_,rfl,e1.cH,m1,hl.mono' e1 rfl,.bs (by simp[G.box]) cA (Xc b _ _ _ _ te _ (Xc b _ _ _ arr te _ hh')) (by rw[Zz,Zz];omega),hK⟩
 have fR:=ZJ b n cap i vb ate arr uR te tv w hi gM zE hn hvb hh hhv hs hvl q4 p4;refine fR.mono ?_;rintro e w' ⟨Gc,nW,zs,hG,rfl,hR,hz,hGR,hzo,rfl⟩;rw[<- hA]at hR;obtain⟨e1,m1⟩:=ae5 (te2:=47) hm aL hβ hh hVr hvo hR (by rw[hC,hV];omega) hzo (by simp[atf]);rw[hi7,<- hA,<- hC];refine⟨_,_,.bs m.boxes.length 0 (n+1) 7,_,rfl,e1.cH,m1,hl.mono' e1 rfl,.bs (by simp[G.box]) hG (Xc _ _ _ _ _ 47 _ (Xc _ _ _ (w.drew.alloc (.cells nW 47)) nW 47 _ (Yj w _))) (by rw[Zz,Zz];omega),hK⟩
open Go Go.Abs
def Kc{B:T5}{id:Nat}{c:P2}(h:id<B.length)(hr:Qj B id=c):B[id]?=some c:=by
 rw[Jh h,hr]
def ae6(Y:YT)(m:AM)(id gK n:Nat)(A V:P2)(aL:m.boxes[id]?=some A)(fL:m.boxes[gK]?=some V)(hA:A.length=n*7)(hn:0<n)(hn9:n<=1000000000)(hV:V.length=7)(okV:Zl V=true)
  (K:So)(hK:K (.bs m.boxes.length 0 (n+1) 7) {m with boxes:=m.boxes.set id []++[A++V]}):aB Tryz.prog aD Y 150 [.bs id 0 n 7,I n,.bs gK 0 1 7] m K:=by
 obtain⟨mb,ml,ms,mn⟩:=m;have r1:=Qu aL;have r2:=Qu fL;have l1:=(zza.1 aL).1;have l2:=(zza.1 fL).1;simp only at r1 r2 l1 l2 hK;have aN:¬A=[]:=by rintro rfl;simp at hA;omega
 refine Xn BX (fun _ _ _=>.junk) zd ?_;simp[TE,TF,r1,r2,l1,l2,hA,hV,aN];refine⟨zE,?_⟩;rw[zzas zE,zzas zE];exact hK
def ae7(Y:YT)(m:AM)(k:Nat)(row:P2)(ah:row.length=7)(hk:m.lens[k]?=some 0)(K:So)(hK:K (.sl (.own k 7) [row]) {m with lens:=m.lens.set k 1}):
  aB Tryz.prog aD Y 150 [.sl (.own k 7) [],I 0,.sl .full [row]] m K:=by
 obtain⟨mb,ml,ms,mn⟩:=m;refine Xn BX (fun _ _ _=>.junk) zd ?_;simp[TE,TF,ah];exact⟨hk,hK⟩
def ZL(Y:YT)(m:AM)(K:So)(hK:K (.sl (.own m.lens.length 7) []) {m with lens:=m.lens++[0]}):aB Tryz.prog aD Y 118 [.sl .ro []] m K:=by
 refine Xn BU (fun _ _ _=>.junk) zd ?_;simp[MA,MB];exact hK
def ZM(p:Pl):UV:=fun d f l=>if f=118 then .gd false .junk else Kl p d f l
def ZN(Y:YT)(m:AM)(p:Pl)(h:Bj p)(hn:p.ens=[])(K:So)
  (hK:∀c0 c1,K (.agg (Um p (.sl (.own m.lens.length 7) []))) {m with boxes:=m.boxes++[c0,c1],lens:=m.lens++[0]}):aB Tryz.prog aD Y 66 [.agg (Qa p)] m K:=by
 obtain⟨mb,ml,ms,mn⟩:=m;obtain⟨h1,h2,h3,h4,h5,h6⟩:=h;have k1:=pS p.sh zE;have k2:=pT p.aM zE;have k4:=pU p.bks zE;have k5:=Dn p.cls zE;refine Xn u6 (ZM p) zd ?_;simp[IK,Qa,ZM,Kl,hn];refine⟨k1,k2,ZL _ _ _ ?_⟩;simp;refine Qk ez (fun f m=>f 22=I 0/\m=⟨mb++[[I p.ch,I p.nu,I p.de,I p.of,.sl .ro (p.sh.map Qf),I p.ep,I p.rg,I p.ln,I p.fi,.sl .ro (p.aM.map Qh),.sl (.own ml.length 7) [],.sl .ro (p.bks.map Xj),.sl .ro (p.cls.map Qi)],[I 0,I 0,I 0,I 0,.sl .nil [],I 0,I 0,I 0,I 0,.sl .nil [],.sl .nil [],.sl .nil [],.sl .nil []]],ml++[0],ms,mn⟩) (fun f _=>0) ?_ ?_
 ·exact⟨zd,zd⟩
 rintro f m ⟨f22,rfl⟩;simp[f22,ez,IL,ZM,Kl];refine⟨k4,k5,?_⟩;simp[Um]at hK;exact hK _ _
def DD(f:Int)(o:Od):En:={o.nw with ea:=if o.nw.ea<f then f else o.nw.ea}
def ae8(g:Pg)(b:QR):Int:=Uo (fun e:En=>!(za b e.id)) g.p.ens 0
def Ro(g:Pg)(b:QR):Nat:=if ae8 g b<0 then g.p.ens.length else(ae8 g b).toNat
def nX(g:Pg)(f:Int)(b:QR)(o:Od):Pl:={g.p with ens:=g.p.ens.take (Ro g b)++DD f o::g.p.ens.drop (Ro g b)}
def ae9{α:Type}(P:α->Bool)(L:List α)(i:Nat):Uo P L i= -1\/∃k:Nat,k<L.length/\Uo P L i=((i+k:Nat):Int):=by
 cases h:L.find? P with
 |none=>exact .inl (Qdc h)
 |some a=>
  obtain⟨k,h1,h2,_⟩:=Wj (i:=i) h;exact .inr ⟨k,(zza.1 h2).1,h1⟩
def afa(Y:YT)(m:AM)(rt:Rt)(kk:Nat)(K:So)(hK:K (I (-1)) m):aB Tryz.prog aD Y 148 [.sl rt [],.fn 149 [] [.ptr kk 0]] m K:=by
 obtain⟨mb,ml,ms,mn⟩:=m;refine aB.mono (aB.read (K:=fun r=>r=I (-1)) (Xn BW (fun _ _ _=>.gd false .junk) zd ?_)) (by rintro r m' ⟨rfl,rfl⟩;exact hK);simp[ML];refine Qk eX (fun s m=>s 8=I 0/\m=⟨mb,ml,ms,mn⟩) (fun s _=>0) ?_ ?_
 ·exact⟨zd,rfl⟩
 rintro s m ⟨f8,rfl⟩;simp[f8,eX,Aj];exact nS
def aiY:UV:=fun _ f l=>if f=119 then l.headD .junk else if f=999999 then .aJ 0 []else .gd false .junk
def ZO:UV:=fun _ f l=>if f=119 then l.headD .junk else if f=999999 then .junk else .gd false .junk
def Lu(Y:YT)(m:AM)(g:Pg)(f:Int)(mid:Nat)(b:QR)(o:Od)(hp:Bj g.p)(hb:fQ m.boxes mid b)(ho:o.nw.al.length<=8796093022208)(K:So)
  (hK:∀ex V ls,mG (m.boxes++ex) V (nX g f b o).ens->GL m.boxes.length V->K (.aS [.agg (Xr (nX g f b o) V (.sl .ro (g.p.cls.map Qi)) 0),.bool true]) {m with boxes:=m.boxes++ex,lens:=m.lens++ls}):
  aB Tryz.prog aD Y 93 [.agg (Qr g f mid),.agg (Qq o)] m K:=by
 obtain⟨mb,ml,ms,mn⟩:=m;have hoe:=Wp o.nw ho;simp only[Qd]at hoe;have hB:∀ex,fQ (mb++ex) mid b:=fun ex=>⟨by have:=hb.1;simp at this |-;omega,hb.ext ex⟩;by_cases aN:g.p.ens=[]
 ·have kO:=fun ex K hK=>ZN Y ⟨mb++ex,ml,ms,mn⟩ g.p hp aN K hK;simp only[Qa]at kO;have hx:(nX g f b o).ens=[DD f o]:=by simp[nX,aN]
  refine Xn Tg ZO zd ?_;simp[akw,akx,Qr,Qg,Qa,Qq,Qd,Qi,Qm,ZO];refine kO _ _ fun c0 c1=>?_;simp[Um];refine afa _ _ _ _ _ ?_;simp;refine⟨hoe,ae7 _ _ ml.length _ rfl zd _ ?_⟩;simp;exact hK _ (.sl (.own ml.length 7) [Qd (DD f o)]) [1] (.inl ⟨_,by rw[hx];rfl,Dx.own _ _⟩) (GL.sl _ _ _)
 have kO:=fun ex K hK=>yc Y ⟨mb++ex,ml,ms,mn⟩ g.p hp aN K hK;simp only[Qa]at kO;refine Xn Tg aiY zd ?_;simp[akw,akx,Qr,Qg,Qa,Qq,Qd,Qi,Qm,aiY];refine kO _ _ fun c0 c1 bx=>?_;simp[Um,zzan];have hl9:g.p.ens.length<=1000000:=hp.2.2.1;refine aB.mono (Lt _ _ g f mid mb.length b (mb.length+5) g.p.ens [] zE zd (by simp[Qr,Qg,Qa]) (hB _) zd (by simp[eG])) ?_;rintro r m' ⟨rfl,rfl⟩;have lF:0<g.p.ens.length:=zzdc.2 aN;rcases ae9 (fun e:En=>!(za b e.id)) g.p.ens 0 with hI|⟨k,hk,hI⟩
 ·have hJ:Ro g b=g.p.ens.length:=by unfold Ro ae8;rw[hI,if_pos zE]
  have hP:(nX g f b o).ens=g.p.ens++[DD f o]:=by simp[nX,hJ]
  rw[hI];simp[zzan];refine⟨hoe,ae6 _ _ _ _ _ (eG g.p.ens) (Qd (DD f o)) (Kc zd (by simp[eG])) (Kc zd (by simp[DD,Qd])) (Uy _) lF zE rfl rfl _ ?_⟩;simp[zzan];have h3:=fun ex k h1 h2 h4=>hK ex (.bs k 0 (g.p.ens.length+1) 7) [] (.inr ⟨k,[],by rw[hP];simp,h1,h2,rfl⟩) (GL.bs h4);simp only[zzat]at h3;exact h3 _ (mb.length+(bx.length+9)) zd (by simp[hP,pX,Qd]) zd
 have hJ:Ro g b=k:=by unfold Ro ae8;rw[hI,if_neg zE];omega
 have lI:Uo (fun e:En=>!(za b e.id)) g.p.ens 0=(k:Int):=by rw[hI];omega
 have D2:¬(k:Int)<0:=zE
 have hP:(nX g f b o).ens=g.p.ens.take k++DD f o::g.p.ens.drop k:=by simp[nX,hJ]
 rw[lI];simp[zzan,D2];refine⟨hoe,Rn _ _ _ _ _ _ (eG (g.p.ens.take k)) (eG (g.p.ens.drop k)) (Qd (DD f o)) (Kc zd (by rw[<- pX,zzdy];simp[eG])) (Kc zd (by simp[DD,Qd])) zE rfl (by rw[Uy,zzap];omega) (by rw[Uy,zzcv]) hk zE _ ?_⟩;simp[zzan];have h3:=fun ex k h1 h2 h4=>hK ex (.bs k 0 (g.p.ens.length+1) 7) [] (.inr ⟨k,[],by rw[hP];simp;omega,h1,h2,rfl⟩) (GL.bs h4);simp only[zzat]at h3;exact h3 _ (mb.length+(bx.length+9)) zd (by simp[hP,pX,Qd]) zd
open Go Go.Abs
def GX(f:Int)(e:bF):bF:={e with fr:=if f-e.st<e.fr then f-e.st else e.fr}
def Yh(f:Int):List bF->List bF
 |[]=>[]
 |e::r=>if f<=e.st then Yh f r else GX f e::Yh f r
def yp(f:Int):∀(l r:List bF),Yh f (l++r)=Yh f l++Yh f r
 |[],_=>rfl
 |e::l,r=>by
  simp only[zzae,Yh,yp f l r];split<;>rfl
def Qdq(f:Int):∀(l:List bF),(Yh f l).length<=l.length
 |[]=>zzab _
 |e::l=>by
  have:=Qdq f l;simp only[Yh];split<;>simp<;>omega
def aiZ(ml:Pa)(o:List bF)(v:AV)(ls:Pa):Prop:=(o=[]/\v=.sl .nil []/\ls=ml)\/(o≠[]/\v=.sl (.own ml.length 7) (o.map Qe)/\ls=ml++[o.length])
def atg(l:List bF)(F:Int)(mb:T5)(ml:Pa)(ms:Nat->LS)(mn:Nat)(g:Nat->AV)(m:AM):Prop:=
 ∃(i:Nat)(bx:T5)(ls:Pa),i<=l.length/\g 11=I i/\m=⟨mb++bx,ls,ms,mn⟩/\aiZ ml (Yh F (l.take i)) (g 5) ls
def ZP:UV:=fun _ g l=>if g=64 then l.headD .junk else .junk
def yq(Y:YT)(m:AM)(l:List bF)(f:Int)(hl:l.length<=1000000)(hs:∀e∈l,Kt e)(hf:0<=f/\f<=1000000)(K:So)
  (hK:∀ex v ls,aiZ m.lens (Yh f l) v ls->K v {m with boxes:=m.boxes++ex,lens:=ls}):aB Tryz.prog aD Y 105 [.sl .ro (l.map Qe),I f] m K:=by
 obtain⟨mb,ml,ms,mn⟩:=m;refine Xn abH ZP zd ?_;simp[Tn,agd];refine Qk u7 (atg l f mb ml ms mn) (fun g _=>l.length-(numOf (g 11)).toNat) ?_ ?_
 ·exact⟨0,[],ml,zE,zd,zd,.inl ⟨by simp[Yh],zd,rfl⟩⟩
 rintro g m ⟨i,bx,ls,hi,pq,rfl,aX⟩;rcases zzaa i l.length with ai|bn
 ·obtain⟨a,ha⟩:=aV ai;have ah:Qj (l.map Qe) i=Qe a:=Qu (by simp[ha]);have hw:=bO i zE;have bA:l.take (i+1)=l.take i++[a]:=by rw[zzax,ha];rfl
  have aa:(i:Int)<(l.length:Int):=zE
  obtain⟨⟨a1,a2⟩,⟨a3,a4⟩,a5,a6⟩:=hs a (zzad ha);have ek:=Qdq f (l.take i);have ayV:(Yh f (l.take i)).length<=1000000:=by simp at ek;omega
  by_cases h1:f<=a.st
  ·have hb:Yh f (l.take (i+1))=Yh f (l.take i):=by rw[bA,yp];simp[Yh,h1]
   simp[pq,ah,ai,Qe,h1,hw,u7];refine⟨aQ,⟨i+1,_,ls,zE,zd,rfl,?_⟩,zE⟩
   ·rw[hb];exact aX
  have hb:Yh f (l.take (i+1))=Yh f (l.take i)++[GX f a]:=by rw[bA,yp];simp[Yh,h1]
  have wf1:=wu f zE zE;have wf2:=wu a.st zE zE;have wf3:=wu a.fr zE zE;have wf4:=wu (f-a.st) zE zE;have wf5:IntKind.i64.wrap (f-a.st)=f-a.st:=by rw[Ql]<;>omega
  have qj:=Qcl a.al a6;obtain⟨fr',ams⟩:∃fr',fr'=if f-a.st<a.fr then f-a.st else a.fr:=⟨_,rfl⟩;have Sk:Qe (GX f a)=[I a.id,I a.it,I a.st,I fr',I a.i,I a.re,.sl .ro (a.al.map Qf)]:=by rw[ams];rfl
  have r8:(0<a.fr/\f-a.st<a.fr/\fr'=f-a.st)\/(0<a.fr/\¬f-a.st<a.fr/\fr'=a.fr)\/(¬0<a.fr/\fr'=a.fr):=by
   rw[ams];by_cases h0:0<a.fr
   ·by_cases hc:f-a.st<a.fr
    ·exact .inl ⟨h0,hc,by simp[hc]⟩
    exact .inr (.inl ⟨h0,hc,by simp[hc]⟩)
   exact .inr (.inr ⟨h0,by rw[if_neg zE]⟩)
  have vV:(Yh f (l.take (i+1))).length=(Yh f (l.take i)).length+1:=by rw[hb];simp
  have Rm:Yh f (l.take (i+1))≠[]:=by rw[hb];simp
  have fin:(Yh f (l.take (i+1))).map Qe=(Yh f (l.take i)).map Qe++[[I a.id,I a.it,I a.st,I fr',I a.i,I a.re,.sl .ro (a.al.map Qf)]]:=by rw[hb,zzch,<- Sk];rfl
  clear ams Sk;have XT:=aX;clear aX;obtain⟨e0,h5,rfl⟩|⟨e0,h5,rfl⟩:=XT
  ·rw[e0]at fin vV;obtain⟨h0,hc,rfl⟩|⟨h0,hc,rfl⟩|⟨h0,rfl⟩:=r8
   all_goals
    simp[Qe,ZP,u7, *];refine⟨aQ,⟨i+1,_,_,zE,zd,rfl,.inr ⟨Rm,?_,?_⟩⟩,zE⟩
    ·simp[fin]
    rw[vV];rfl
  obtain⟨h0,hc,rfl⟩|⟨h0,hc,rfl⟩|⟨h0,rfl⟩:=r8
  all_goals
   simp[Qe,ZP,u7, *];refine⟨⟨by rintro row (⟨x,_,rfl⟩|rfl)<;>rfl,zE⟩,ag ?_,⟨i+1,_,_,zE,zd,rfl,.inr ⟨Rm,?_,?_⟩⟩,zE⟩
   ·repeat(first|exact Qb _ _|refine Qc _ rfl ?_)
   ·simp[fin]
   rw[vV]
 have hbf:l.take i=l:=zzas bn;rw[hbf]at aX;simp[pq,zzbk.2 bn,u7];exact hK _ _ _ aX
open Go Go.Abs
def yt(n a b:Int)(ha:0<=a/\a<=1000000000)(hb:0<=b/\b<=1000000000):Pure Tryz.prog aD 165 [I n,I a,I b] (.bool (decide (n=a+b))):=by
 have hw:IntKind.i64.wrap (a+b)=a+b:=by rw[Ql]<;>omega
 have h1:¬a<0:=zE
 have h2:¬b<0:=zE
 have h3:¬a+b<0:=zE
 refine Qp acy (fun _ _ _=>.junk) zd ?_;by_cases h:n=a+b<;>simp[agV,agW,hw,h1,h2,h3,h]
def Rp(e:bF):Ad:=⟨e.it,0,e.st,e.fr⟩
def rH(n:Int):List Ad->List Ad
 |[]=>[]
 |[a]=>[{a with fs:=a.fs+n}]
 |a::b::r=>a::rH n (b::r)
def GY(n:Int)(a:Ad):∀l:List Ad,rH n (l++[a])=l++[{a with fs:=a.fs+n}]
 |[]=>rfl
 |[x]=>rfl
 |x::y::r=>by have:=GY n a (y::r);simp only[zzae]at this |-;rw[rH,this]
def yu(x e:bF):Prop:=x.id=e.id/\e.st=x.st+x.fr/\e.i=x.i+x.fr
instance (x e:bF):Decidable (yu x e):=by unfold yu;infer_instance
def Yw(x:Option bF)(e:bF)(out:List Ad):List Ad:=
 if e.id=0 then out else match x with
 |none=>out++[Rp e]
 |some x=>if yu x e then rH e.fr out else out++[Rp e]
def uf:Option bF->List bF->List Ad->List Ad
 |_,[],out=>out
 |x,e::r,out=>uf (some e) r (Yw x e out)
def Rq(l:List bF)(f:Int):List Ad:=uf none (Yh f l) []
def Bs(e:bF):∀(l:List bF)(x:Option bF)(out:List Ad),uf x (l++[e]) out=Yw (match l.getLast? with|some y=>some y|none=>x) e (uf x l out)
 |[],_,_=>rfl
 |[a],_,_=>rfl
 |a::b::r,x,out=>by
  have:=Bs e (b::r) (some a) (Yw x a out);simp only[zzae]at this |-
  rw[uf,this,List.getLast?_cons_cons];congr 1
def afb{n:Int}:∀{l:List Ad},l≠[]->rH n l≠[]
 |[],h=>absurd rfl h
 |[a],_=>by simp[rH]
 |a::b::r,_=>by simp[rH]
def rI{B:List bF}{i:Nat}{e:bF}(h:B[i]?=some e):uf none (B.take (i+1)) []=Yw (if i=0 then none else B[i-1]?) e (uf none (B.take i) []):=by
 have ai:=(zza.1 h).1;rw[zzax,h];show uf none (B.take i++[e]) []=_;rw[Bs];congr 1;cases i with
 |zero=>rfl
 |succ i=>
  have hx:B[i]?=some B[i]:=zzaf zE;rw[zzax,hx,Option.toList_some,List.getLast?_concat,if_neg zE,zzgb,hx]
def Oh{B:List bF}:∀{i:Nat}{e:bF},B[i]?=some e->e.id≠0->uf none (B.take (i+1)) []≠[]
 |0,e,h,h0=>by rw[rI h,if_pos rfl];simp[Yw,h0]
 |i+1,e,h,h0=>by
  rw[rI h,if_neg zE,zzgb];have ai:=(zza.1 h).1;obtain⟨x,hx⟩:∃x,B[i]?=some x:=⟨_,zzaf zE⟩;rw[hx];unfold Yw;rw[if_neg h0];simp only;split
  ·rename_i hj;exact afb (Oh hx (by rw[hj.1];exact h0))
  simp
def nY(f:Int)(hf:f<=1000000):∀(l:List bF),(∀e∈l,Kt e)->∀e∈Yh f l,Kt e
 |[],_,e,h=>by cases h
 |a::r,hs,e,h=>by
  have ih:=nY f hf r fun e he=>hs e (by simp[he]);rw[Yh]at h;split at h
  ·exact ih e h
  rename_i bY;rcases zzaq.1 h with rfl|h
  ·obtain⟨⟨a1,a2⟩,⟨a3,a4⟩,a5,a6⟩:=hs a zd;refine⟨⟨a1,a2⟩,?_,a5,a6⟩;simp only[GX];split<;>omega
  exact ih e h
def FsB(n:Int)(out:List Ad):Prop:=∀a∈out,0<=a.fs/\a.fs<=n
def FsB.inc{n k:Int}(hk:0<=k/\k<=1000000):∀{l:List Ad},FsB n l->FsB (n+1000000) (rH k l)
 |[],_,a,h=>by cases h
 |[x],hl,a,h=>by
  have:=hl x zd;simp only[rH,zzcf]at h;subst h;simp only;omega
 |x::y::r,hl,a,h=>by
  rw[rH]at h;rcases zzaq.1 h with rfl|h
  ·have:=hl a zd;omega
  exact FsB.inc hk (l:=y::r) (fun b hb=>hl b (by simp[hb])) a h
def FsB.step{n:Int}{x:Option bF}{e:bF}{out:List Ad}(h:FsB n out)(hn:0<=n)(he:Kt e):FsB (n+1000000) (Yw x e out):=by
 obtain⟨_,h3,_⟩:=he;have hw:FsB (n+1000000) out:=fun a ha=>by have:=h a ha;omega
 have hp:FsB (n+1000000) (out++[Rp e]):=fun a ha=>by
  rcases zzam.1 ha with ha|ha
  ·exact hw a ha
  simp only[zzcf]at ha;subst ha;simp only[Rp];omega
 unfold Yw;split
 ·exact hw
 cases x with
 |none=>exact hp
 |some x=>
  simp only;split
  ·exact h.inc h3
  exact hp
def GZ(B:List bF)(x:Option bF)(out:List Ad):(uf x B out).length<=out.length+B.length:=by
 induction B generalizing x out with
 |nil=>simp[uf]
 |cons e r ih=>
  rw[uf];have h1:=ih (some e) (Yw x e out)
  have h2:(Yw x e out).length<=out.length+1:=by
   have hi:∀(k:Int)(l:List Ad),(rH k l).length=l.length:=by
    intro k l;induction l with
    |nil=>rfl
    |cons a r ih=>cases r with
     |nil=>rfl
     |cons b r=>rw[rH,zzbg,ih];rfl
   unfold Yw;split
   ·omega
   cases x with
   |none=>simp
   |some x=>
    simp only;split
    · rw[hi];omega
    simp
  simp only[zzbg];omega
def tc(l:List Ad):P2:=(l.map Vi).flatten
def uT:∀l,(tc l).length=l.length*4
 |[]=>rfl
 |a::r=>by have:=uT r;simp only[tc,zzaz,zzci,zzak]at this |-;rw[this];simp[Vi];omega
def afc(a b:List Ad):tc (a++b)=tc a++tc b:=by simp[tc]
def amt(l:List Ad):Zl (tc l)=true:=kW (fun _=>rfl) l
def Rr{bx:T5}{k:Nat}{c:P2}(h:k<bx.length)(ex:T5):Qj (bx.set k c++ex) k=c:=
 Qu (by rw[zzaj (Nm h)];simp[h])
def rJ(bx:T5)(k:Nat)(c p q r:P2):Qj (bx.set k c++[p,q,r]) (bx.length+2)=r:=
 Qu (by rw[zzao zd];simp)
def Ru(l:List Ad):aY 4 l.length (tc l)=l.map Vi:=by
 have:=Qbq (sz:=4) (rows:=l.map Vi) (kX (f:=Vi) (fun _=>rfl) l);rw[zzbt]at this;exact this
def Oi(bx:T5)(o:List Ad)(v:AV):Prop:=(o=[]/\v=.sl .nil [])\/(o≠[]/\∃k,v=.bs k 0 o.length 4/\k<bx.length/\Qj bx k=tc o)
def ath(B:List bF)(ls:Pa)(g:Nat->AV)(m:AM):Prop:=
 ∃(i:Nat)(bx:T5),g 15=I i/\i<=B.length/\m=⟨bx,ls,fun _=>.gone,0⟩/\Oi bx (uf none (B.take i) []) (g 5)/\FsB (i*1000000) (uf none (B.take i) [])
def mJ:UV:=fun d f l=>if f=105 then .gd false .junk else if f=165 then(match l with|[.int _ n,.int _ a,.int _ b]=>.bool (decide (n=a+b))|_=>.junk)else if f=999999 then(if d=73 then .junk else .aJ 0 [])else .junk
def Oi.ext{bx:T5}{o:List Ad}{v:AV}(h:Oi bx o v)(ex:T5):Oi (bx++ex) o v:=by
 obtain h|⟨h0,k,h1,h2,h3⟩:=h
 ·exact .inl h
 exact .inr ⟨h0,k,h1,by simp;omega,by rw[Qn h2,h3]⟩
def Lv(l:List bF)(f:Int)(hl:l.length<=1000000)(hs:∀e∈l,Kt e)(hf:0<=f/\f<=1000000):Pure Tryz.prog aD 109 [.sl .ro (l.map Qe),I f] (.sl .ro ((Rq l f).map Vi)):=by
 have hsB:=nY f hf.2 l hs;have hlB:(Yh f l).length<=1000000:=by have:=Qdq f l;omega
 have:Pure Tryz.prog aD 109 [.sl .ro (l.map Qe),I f] (.sl (if Rq l f=[]then .nil else .ro) ((Rq l f).map Vi)):=by
  refine Qp abK mJ zd ?_;simp[Tp,agh,mJ];refine yq _ _ l f hl hs hf _ fun ex v ls hO=>?_
  obtain⟨rt,rfl⟩:∃rt,v=.sl rt ((Yh f l).map Qe):=by
   obtain⟨e,rfl,_⟩|⟨e,rfl,_⟩:=hO
   ·exact⟨.nil,by rw[e];rfl⟩
   exact⟨_,rfl⟩
  clear hO;unfold Rq;generalize Yh f l=B at*
  simp;refine Qk dV (ath B ls) (fun g _=>B.length-(numOf (g 15)).toNat) ?_ ?_
  ·exact⟨0,ex,zd,zE,zd,.inl ⟨by simp[uf],zd⟩,fun a h=>by simp[uf]at h⟩
  rintro g m ⟨i,bx,sH,hi,rfl,hO,hF⟩;rcases zzaa i B.length with ai|bn
  ·obtain⟨a,ha⟩:=aV ai;have ah:Qj (B.map Qe) i=Qe a:=Qu (by simp[ha]);have hw:=bO i zE;have aa:(i:Int)<(B.length:Int):=zE
   have lM:=hsB a (zzad ha);have bA:=rI ha;have Rv:=hF.step (x:=if i=0 then none else B[i-1]?) (e:=a) zE lM;rw[<- bA]at Rv;obtain⟨⟨a1,a2⟩,⟨a3,a4⟩,⟨a5,a6⟩,a7⟩:=lM;by_cases h0:a.id=0
   ·simp[sH,ah,ai,Qe,h0,dV,hw];refine⟨aQ,⟨i+1,_,zd,zE,rfl,?_,?_⟩,zE⟩
    ·simp[Yw,h0]at bA;rw[bA];simpa using hO.ext _
    have:((i+1:Nat):Int)*1000000=(i:Int)*1000000+1000000:=zE
    rw[this];exact Rv
   cases i with
   |zero=>
    have e1:uf none (B.take 1) []=[Rp a]:=by rw[bA];simp[Yw,h0,uf]
    have hO0:g 5=.sl .nil []:=by
     obtain⟨_,h⟩|⟨h,_⟩:=hO
     ·exact h
     exact absurd (by simp[uf]) h
    have dU:IntKind.i64.wrap 1=1:=by rw[Ql]<;>omega
    simp at sH;simp[sH,ah,ai,Qe,h0,dV,dU,hO0,mJ];refine⟨aQ,⟨1,_,zd,zE,rfl,.inr ⟨by rw[e1];simp,bx.length+1,by simp[e1],zd,?_⟩,?_⟩,zE⟩
    ·simp[e1,tc,Vi,Rp]
    simpa using Rv
   |succ i=>
    have axK:i<B.length:=zE
    obtain⟨x,hx⟩:=aV axK;have yw:Qj (B.map Qe) i=Qe x:=Qu (by simp[hx]);obtain⟨⟨x1,x2⟩,⟨x3,x4⟩,⟨x5,x6⟩,x7⟩:=hsB x (zzad hx);have k1:=yt a.st x.st x.fr zE zE;have k2:=yt a.i x.i x.fr zE zE;have Sm:IntKind.i64.wrap (i:Int)=i:=by rw[Ql]<;>omega
    have yx:(i:Int)<(B.length:Int):=zE
    have lF:(0:Int)<(i:Int)+1:=zE
    rw[if_neg zE,zzgb,hx]at bA;have aN:=Oh hx;have AW:((i+1+1:Nat):Int)*1000000=((i+1:Nat):Int)*1000000+1000000:=zE
    have FI:=GZ (B.take (i+1)) none [];have amu:¬yu x a->uf none (B.take (i+1+1)) []=uf none (B.take (i+1)) []++[Rp a]:=fun h=>by rw[bA];simp[Yw,h0,h]
    have Lw:yu x a->uf none (B.take (i+1+1)) []=rH a.fr (uf none (B.take (i+1)) []):=fun h=>by rw[bA];simp[Yw,h0,h]
    rw[<- AW]at Rv;clear bA;generalize uf none (B.take (i+1)) []=out at*
    generalize cO:uf none (B.take (i+1+1)) []=out' at*
    simp at sH ai aa hw FI;have asH:out.length<=1000000:=zE
    by_cases hj:yu x a
    ·have e1:=Lw hj;obtain⟨j1,j2,j3⟩:=hj;have aN:=aN (by rw[j1];exact h0)
     obtain⟨O,z,rfl⟩:∃O z,out=O++[z]:=by
      rcases zzhe out with e|⟨O,z,e⟩
      ·exact absurd e aN
      exact⟨O,z,by rw[e,zzhf]⟩
     have hOl:(tc O).length=O.length*4:=uT O;have hz:=hF z zd;have hwz:IntKind.i64.wrap (z.fs+a.fr)=z.fs+a.fr:=by rw[Ql]<;>omega
     have afd:∀X:P2,(tc O++X).drop (O.length*4+3)=X.drop 3:=fun X=>Bp _ _ _ _ hOl;have hs3:∀X Y:P2,setA (tc O++X) (O.length*4+3) Y=tc O++setA X 3 Y:=fun X Y=>Bo _ _ _ _ _ hOl;obtain⟨e,_⟩|⟨_,k,h5,hk,hr⟩:=hO
     ·exact absurd e aN
     have hR:∀ex,Qj (bx++ex) k=tc O++[I z.it,I z.re,I z.fr,I z.fs]:=fun ex=>by rw[Qn hk,hr,afc];rfl
     rw[GY]at e1;rw[zzak,zzfk]at h5;have hwo:IntKind.i64.wrap (O.length:Int)=O.length:=by simp at asH;rw[Ql]<;>omega
     have sj:k<bx.length+1:=zE
     have ZQ:k<bx.length+(1+1):=zE
     have axL:k<bx.length+2:=zE
     simp[sH,ah,aa,Qe,h0,dV,hw,yw,yx,lF,Sm,mJ,j1,j2,j3,h5,hR,hwo,afd,hs3,hOl,hwz,hk,ZQ];refine⟨zE,by rw[j2]at k1;simpa using k1,by rw[j3]at k2;simpa using k2,zE,aQ,⟨i+1+1,_,zd,zE,rfl,.inr ⟨by rw[cO,e1];simp,k,by rw[cO,e1];simp,by simp;omega,?_⟩,by rw[cO];exact Rv⟩,zE⟩
     ·rw[cO,e1,Rr hk];simp[tc,Vi]
    have e1:=amu hj
    have fS:¬x.id=a.id\/(x.id=a.id/\¬a.st=x.st+x.fr)\/(x.id=a.id/\a.st=x.st+x.fr/\¬a.i=x.i+x.fr):=by
     unfold yu at hj;by_cases j1:x.id=a.id
     ·by_cases j2:a.st=x.st+x.fr
      ·exact .inr (.inr ⟨j1,j2,fun j3=>hj ⟨j1,j2,j3⟩⟩)
      exact .inr (.inl ⟨j1,j2⟩)
     exact .inl j1
    obtain⟨rfl,h5⟩|⟨Rm,k,h5,hk,hr⟩:=hO
    ·obtain j1|⟨j1,j2⟩|⟨j1,j2,j3⟩:=fS
     ·simp[sH,ah,aa,Qe,h0,dV,hw,yw,yx,lF,Sm,mJ,j1,h5];refine⟨zE,aQ,⟨i+1+1,_,zd,zE,rfl,.inr ⟨by rw[cO,e1];simp,bx.length+2,by rw[cO,e1];simp,zd,?_⟩,by rw[cO];exact Rv⟩,zE⟩
      ·rw[cO,e1];simp[tc,Vi,Rp]
     ·simp[sH,ah,aa,Qe,h0,dV,hw,yw,yx,lF,Sm,mJ,j1,j2,h5];refine⟨zE,by simpa[j2]using k1,aQ,⟨i+1+1,_,zd,zE,rfl,.inr ⟨by rw[cO,e1];simp,bx.length+2,by rw[cO,e1];simp,zd,?_⟩,by rw[cO];exact Rv⟩,zE⟩
      ·rw[cO,e1];simp[tc,Vi,Rp]
     simp[sH,ah,aa,Qe,h0,dV,hw,yw,yx,lF,Sm,mJ,j1,j2,j3,h5];refine⟨zE,by rw[j2]at k1;simpa using k1,by simpa[j3]using k2,aQ,⟨i+1+1,_,zd,zE,rfl,.inr ⟨by rw[cO,e1];simp,bx.length+2,by rw[cO,e1];simp,zd,?_⟩,by rw[cO];exact Rv⟩,zE⟩
     ·rw[cO,e1];simp[tc,Vi,Rp,j2]
    have hR:∀ex,Qj (bx++ex) k=tc out:=fun ex=>by rw[Qn hk,hr]
    have sj:k<bx.length+1:=zE
    have ZQ:k<bx.length+(1+1):=zE
    have axL:k<bx.length+2:=zE
    have hlo:=uT out;have amv:¬tc out=[]:=by intro h;rw[h]at hlo;exact Rm (zzbd (by simp at hlo;omega))
    have Zs:List.take (out.length*4) (tc out)=tc out:=zzas zE;obtain j1|⟨j1,j2⟩|⟨j1,j2,j3⟩:=fS
    ·simp[sH,ah,aa,Qe,h0,dV,hw,yw,yx,lF,Sm,mJ,j1,h5,hR,hk,ZQ,hlo,amv,Zs];refine⟨zE,zE,aQ,⟨i+1+1,_,zd,zE,rfl,.inr ⟨by rw[cO,e1];simp,bx.length+2,by rw[cO,e1];simp,zd,?_⟩,by rw[cO];exact Rv⟩,zE⟩
     ·rw[cO,e1,rJ];simp[tc,Vi,Rp]
    ·simp[sH,ah,aa,Qe,h0,dV,hw,yw,yx,lF,Sm,mJ,j1,j2,h5,hR,hk,ZQ,hlo,amv,Zs];refine⟨zE,by simpa[j2]using k1,zE,aQ,⟨i+1+1,_,zd,zE,rfl,.inr ⟨by rw[cO,e1];simp,bx.length+2,by rw[cO,e1];simp,zd,?_⟩,by rw[cO];exact Rv⟩,zE⟩
     ·rw[cO,e1,rJ];simp[tc,Vi,Rp]
    simp[sH,ah,aa,Qe,h0,dV,hw,yw,yx,lF,Sm,mJ,j1,j2,j3,h5,hR,hk,ZQ,hlo,amv,Zs];refine⟨zE,by rw[j2]at k1;simpa using k1,by simpa[j3]using k2,zE,aQ,⟨i+1+1,_,zd,zE,rfl,.inr ⟨by rw[cO,e1];simp,bx.length+2,by rw[cO,e1];simp,zd,?_⟩,by rw[cO];exact Rv⟩,zE⟩
    ·rw[cO,e1,rJ];simp[tc,Vi,Rp,j2]
  obtain rfl:i=B.length:=zE
  rw[zzbw]at hO;obtain⟨e,h5⟩|⟨e,k,h5,hk,hr⟩:=hO
  ·simp[sH,dV,h5,e]
  simp[sH,dV,h5,e];rw[hr,Va _ _ (amt _),uT,if_pos (zzab _),Ru]
 exact Zk this (Wk.sl _ _)
