import Derived.Test.YthjppoincojfkaaGreatDoorRAMbU
import Derived.Test.YthjppoincojfkaaGreatDoorRAMbW
set_option linter.all false
set_option maxRecDepth 100000
set_option maxHeartbeats 64000000
namespace Go.Proofs.YthjppoincojfkaaGreatDoor
open Go Go.Abs
def ZQ(Y:YT)(m:AM)(g:Pg)(f:Int)(mid kk:Nat)(b:QR)(e:En)(hk:kk<m.boxes.length)(hr:Qj m.boxes kk=Qr g f mid)(hb:fS m.boxes mid b):
  aB Tryz.prog aD Y 149 [.agg (Qd e),.ptr kk 0] m (fun r m'=>m'=m/\r=.bool !(zi b e.id)):=by
 obtain⟨mb,ml,ms,mn⟩:=m;have hR:∀ex,Qj (mb++ex) mid=[.aJ 0 (bG .bool b)]:=hb.ext;have hM:∀ex,Qj (mb++ex) kk=Qr g f mid:=fun ex=>by rw[Qn hk];exact hr
 simp only[Qr,Qh,Qa,zzad,zzai]at hM;refine aB.read (Xn acf (fun _ _ _=>.junk) zd ?_);rcases Xx AV.bool e.id b 0 with⟨b1,b2,_⟩|⟨u,u',b1,b2,_⟩
 ·simp[TC,TD,Qd,hM,hR,zi,b1,b2];exact nU
 cases u<;>simp[TC,TD,Qd,hM,hR,zi,b1,b2]<;>exact nU
def as8(Y:YT)(m:AM)(g:Pg)(f:Int)(mid kk:Nat)(b:QR)(e:En)(hk:kk<m.boxes.length)(hr:Qj m.boxes kk=Qr g f mid)(hb:fS m.boxes mid b)(K:So)(hK:K (.bool !(zi b e.id)) m):
  aB Tryz.prog aD Y 149 [.agg (Qd e),.ptr kk 0] m K:=
 aB.mono (ZQ Y m g f mid kk b e hk hr hb) (by rintro r m' ⟨rfl,rfl⟩;exact hK)
def LC(Y:YT)(m:AM)(g:Pg)(f:Int)(mid kk:Nat)(b:QR)(k:Nat)(L:List En)(z:P2)(hl:L.length<=1000000000)(hk:kk<m.boxes.length)(hr:Qj m.boxes kk=Qr g f mid)(hb:fS m.boxes mid b)(hV:k<m.boxes.length)(hrV:Qj m.boxes k=eF L++z):
  aB Tryz.prog aD Y 148 [.bs k 0 L.length 7,.fn 149 [] [.ptr kk 0]] m (fun r m'=>m'=m/\r=I (Uu (fun e:En=>!(zi b e.id)) L 0)):=by
 obtain⟨mb,ml,ms,mn⟩:=m;have aH:=Jb L;have k1:=fun e K hK=>as8 Y ⟨mb,ml,ms,mn⟩ g f mid kk b e hk hr hb K hK;refine aB.read (Xn B6 (fun _ _ _=>.gd false .junk) zd ?_);simp[MM];refine Qk eY (fun s m=>∃i:Nat,s 8=I i/\i<=L.length/\Uu (fun e:En=>!(zi b e.id)) (L.drop i) i=Uu (fun e:En=>!(zi b e.id)) L 0/\m=⟨mb,ml,ms,mn⟩) (fun s _=>L.length-(numOf (s 8)).toNat) ?_ ?_
 ·exact⟨0,zd,zE,zd,rfl⟩
 rintro s m ⟨i,f8,hi,hidx,rfl⟩;rcases zzaa i L.length with ai|bn
 ·obtain⟨x,hx⟩:=aV ai;have hg:=DC hx;simp only at hrV
  have ah:(Qj mb k).drop (i*7)=I x.id::I x.it::I x.fr::I x.ea::I x.la::I x.bo::.sl .ro (x.al.map Qe)::(eF (L.drop (i+1))++z):=by
   rw[hrV,zzdt (by rw[Jb];omega),hg];rfl
  have aa:(i:Int)<(L.length:Int):=zE
  have hw:=bO i zE;have hd:L.drop i=x::L.drop (i+1):=by rw[zzag ai,(zza.1 hx).2]
  have kx:=k1 x;simp only[Qd]at kx;rw[hd,Uu]at hidx;cases hP:zi b x.id with
  |false=>
   rw[if_pos (by simp[hP])]at hidx;simp[f8,eY,aa,ah];refine kx _ ?_;simp[hP,Am,hidx];exact nU
  |true=>
   rw[if_neg (by simp[hP])]at hidx;simp[f8,eY,aa,ah];refine kx _ ?_;simp[hP,hw];refine⟨aQ,⟨i+1,zd,zE,hidx⟩,zE⟩
 obtain rfl:i=L.length:=zE
 rw[zzbv,Uu]at hidx;simp[f8,eY,Am,<- hidx];exact nU
open Go Go.Abs Go.RowKit
def He:bw Tryz.prog 150:=by
 first|exact B7.bw|(unfold bw;decide)|kernel_rfl
def Ro(Y:YT)(m:AM)(id gM i n:Nat)(A C V:P2)(aL:m.boxes[id]?=some (A++C))(fN:m.boxes[gM]?=some V)(aO:gM≠id)(hV:V.length=7)(hA:A.length=i*7)(hC:C.length=(n-i)*7)
  (hi:i<n)(hn:n+1<=1000000000)(K:So)(hK:K (.bs m.boxes.length 0 (n+1) 7) {m with boxes:=m.boxes.set id []++[A++(V++C)]}):aB Tryz.prog aD Y 150 [.bs id 0 n 7,I i,.bs gM 0 1 7] m K:=by
 refine aB.fQ He fun N w0 an γ w vs hm hl hr=>?_
 obtain⟨v1,r1,rfl,g1,Sd⟩:∃v1 r1,vs=v1::r1/\aA w γ (.bs id 0 n 7) v1/\ak w γ [I i,.bs gM 0 1 7] r1:=by
  cases vs with
  |nil=>have:=hr.1;simp at this
  |cons v r=>exact⟨v,r,rfl,hr.2 0 _ _ rfl rfl,⟨by have:=hr.1;simp at this |-;omega,fun k c u h1 h2=>hr.2 (k+1) c u (Nm h1) (Nm h2)⟩⟩
 obtain⟨v2,r2,rfl,g2,oI⟩:∃v2 r2,r1=v2::r2/\aA w γ (I i) v2/\ak w γ [.bs gM 0 1 7] r2:=by
  cases r1 with
  |nil=>have:=Sd.1;simp at this
  |cons v r=>exact⟨v,r,rfl,Sd.2 0 _ _ rfl rfl,⟨by have:=Sd.1;simp at this |-;omega,fun k c u h1 h2=>Sd.2 (k+1) c u (Nm h1) (Nm h2)⟩⟩
 obtain⟨v3,rfl,g3⟩:=Yp oI;cases g2;obtain⟨b,cap,arr,te,hβ,rfl,gO,hh,hs⟩:=g1.cO;obtain⟨vb,as9,uZ,tv,hβv,rfl,hlv,hhv,hsv⟩:=g3.cO;have hB:m.B id=some (A++C):=aL;have A6:m.B gM=some V:=fN
 have aiS:A++C≠[]:=by
  intro h;have:=congrArg List.length h;simp only[zzak,hA,hC,zzco]at this;omega
 have ata:V≠[]:=by rintro rfl;simp at hV
 have hvb:vb≠b:=by
  rintro rfl;rcases hm.inj _ _ _ hβ hβv with h|h|h
  ·rw[hB]at h;exact aiS (Option.some.inj h)
  ·rw[A6]at h;exact ata (Option.some.inj h)
  exact aO h.symm
 obtain⟨bP,ze,q2,q3,q4⟩:=hm.box id _ b hB hβ;rw[hh]at q2;cases q2;obtain⟨ayS,tv',p2,p3,p4⟩:=hm.box gM _ vb A6 hβv;rw[hhv]at p2;cases p2;have hvl:=p3.1;simp only[zzbi,hV]at hvl
 have hVr:ak w γ V (uZ.toList.take 7):=by
  refine⟨by simp only[zzaq,zzbi,hV];omega,fun k c v g1 g2=>?_⟩;have hk:=(zza.1 g1).1;rw[zzbj,if_pos zE]at g2;exact p3.2 k c v g1 g2
 have hvo:∀v∈uZ.toList.take 7,v.oneCell'=true:=fun v hv=>p4 v (zzcc hv);have hi7:(i+1)*7=A.length+V.length:=by rw[hA,hV];omega
 simp only[zzbs]at hs;by_cases cD:n+1<=cap
 ·have fT:=Rl b n cap i vb as9 arr uZ te tv w hi cD hn hvb hh hhv hs hvl q4 p4;have Pb:(n+1)*7<=cap*7:=zzbb _ cD;rw[hi7,<- hA,<- hC]at fT;obtain⟨e1,m1⟩:=Rm hm aL aiS hβ hh hVr hvo (by rw[hA,hC,hV];omega);refine fT.mono ?_;rintro e w' ⟨rfl,rfl⟩;have hh':w.drew.heap[b]?=some (.cells arr te (0,0)):=hh;refine⟨_,_,.bs m.boxes.length 0 (n+1) 7,_,rfl,e1.cI,m1,hl.mono' e1 rfl,.bs (by simp[G.box]) cD (Xc b _ _ _ _ te _ (Xc b _ _ _ arr te _ hh')) (by rw[Vd,Vd];omega),hK⟩
 have fT:=ZP b n cap i vb as9 arr uZ te tv w hi gO zE hn hvb hh hhv hs hvl q4 p4;refine fT.mono ?_;rintro e w' ⟨Gc,nX,zs,hG,rfl,hR,hz,hGR,hzo,rfl⟩;rw[<- hA]at hR;obtain⟨e1,m1⟩:=ae7 (te2:=47) hm aL hβ hh hVr hvo hR (by rw[hC,hV];omega) hzo (by simp[ata]);rw[hi7,<- hA,<- hC];refine⟨_,_,.bs m.boxes.length 0 (n+1) 7,_,rfl,e1.cI,m1,hl.mono' e1 rfl,.bs (by simp[G.box]) hG (Xc _ _ _ _ _ 47 _ (Xc _ _ _ (w.drew.alloc (.cells nX 47)) nX 47 _ (Yl w _))) (by rw[Vd,Vd];omega),hK⟩
open Go Go.Abs
def Ke{B:T5}{id:Nat}{c:P2}(h:id<B.length)(hr:Qj B id=c):B[id]?=some c:=by
 rw[Jj h,hr]
def ae8(Y:YT)(m:AM)(id gM n:Nat)(A V:P2)(aL:m.boxes[id]?=some A)(fN:m.boxes[gM]?=some V)(hA:A.length=n*7)(hn:0<n)(hn9:n<=1000000000)(hV:V.length=7)(okV:Zm V=true)
  (K:So)(hK:K (.bs m.boxes.length 0 (n+1) 7) {m with boxes:=m.boxes.set id []++[A++V]}):aB Tryz.prog aD Y 150 [.bs id 0 n 7,I n,.bs gM 0 1 7] m K:=by
 obtain⟨mb,ml,ms,mn⟩:=m;have r1:=Qu aL;have r2:=Qu fN;have l1:=(zza.1 aL).1;have l2:=(zza.1 fN).1;simp only at r1 r2 l1 l2 hK;have aO:¬A=[]:=by rintro rfl;simp at hA;omega
 refine Xn B7 (fun _ _ _=>.junk) zd ?_;simp[TE,TF,r1,r2,l1,l2,hA,hV,aO];refine⟨zE,?_⟩;rw[zzau zE,zzau zE];exact hK
def ae9(Y:YT)(m:AM)(k:Nat)(row:P2)(ah:row.length=7)(hk:m.lens[k]?=some 0)(K:So)(hK:K (.sl (.own k 7) [row]) {m with lens:=m.lens.set k 1}):
  aB Tryz.prog aD Y 150 [.sl (.own k 7) [],I 0,.sl .full [row]] m K:=by
 obtain⟨mb,ml,ms,mn⟩:=m;refine Xn B7 (fun _ _ _=>.junk) zd ?_;simp[TE,TF,ah];exact⟨hk,hK⟩
def ZR(Y:YT)(m:AM)(K:So)(hK:K (.sl (.own m.lens.length 7) []) {m with lens:=m.lens++[0]}):aB Tryz.prog aD Y 118 [.sl .ro []] m K:=by
 refine Xn BZ (fun _ _ _=>.junk) zd ?_;simp[MB,MC];exact hK
def ZS(p:Pl):UV:=fun d f l=>if f=118 then .gd false .junk else Kk p d f l
def ZT(Y:YT)(m:AM)(p:Pl)(h:Bs p)(hn:p.ens=[])(K:So)
  (hK:∀c0 c1,K (.agg (Ur p (.sl (.own m.lens.length 7) []))) {m with boxes:=m.boxes++[c0,c1],lens:=m.lens++[0]}):aB Tryz.prog aD Y 66 [.agg (Qa p)] m K:=by
 obtain⟨mb,ml,ms,mn⟩:=m;obtain⟨h1,h2,h3,h4,h5,h6⟩:=h;have k1:=pV p.sh zE;have k2:=pW p.aN zE;have k4:=pX p.bks zE;have k5:=Dt p.cls zE;refine Xn vl (ZS p) zd ?_;simp[IQ,Qa,ZS,Kk,hn];refine⟨k1,k2,ZR _ _ _ ?_⟩;simp;refine Qk ew (fun f m=>f 22=I 0/\m=⟨mb++[[I p.ch,I p.nu,I p.de,I p.of,.sl .ro (p.sh.map Qe),I p.ep,I p.rg,I p.ln,I p.fi,.sl .ro (p.aN.map Qm),.sl (.own ml.length 7) [],.sl .ro (p.bks.map Xj),.sl .ro (p.cls.map Qg)],[I 0,I 0,I 0,I 0,.sl .nil [],I 0,I 0,I 0,I 0,.sl .nil [],.sl .nil [],.sl .nil [],.sl .nil []]],ml++[0],ms,mn⟩) (fun f _=>0) ?_ ?_
 ·exact⟨zd,zd⟩
 rintro f m ⟨f22,rfl⟩;simp[f22,ew,IS,ZS,Kk];refine⟨k4,k5,?_⟩;simp[Ur]at hK;exact hK _ _
def DI(f:Int)(o:Od):En:={o.nw with ea:=if o.nw.ea<f then f else o.nw.ea}
def afa(g:Pg)(b:QR):Int:=Uu (fun e:En=>!(zi b e.id)) g.p.ens 0
def Rp(g:Pg)(b:QR):Nat:=if afa g b<0 then g.p.ens.length else(afa g b).toNat
def nY(g:Pg)(f:Int)(b:QR)(o:Od):Pl:={g.p with ens:=g.p.ens.take (Rp g b)++DI f o::g.p.ens.drop (Rp g b)}
def afb{α:Type}(P:α->Bool)(L:List α)(i:Nat):Uu P L i= -1\/∃k:Nat,k<L.length/\Uu P L i=((i+k:Nat):Int):=by
 cases h:L.find? P with
 |none=>exact .inl (Qde h)
 |some a=>
  obtain⟨k,h1,h2,_⟩:=Wj (i:=i) h;exact .inr ⟨k,(zza.1 h2).1,h1⟩
def afc(Y:YT)(m:AM)(rt:Rt)(kk:Nat)(K:So)(hK:K (I (-1)) m):aB Tryz.prog aD Y 148 [.sl rt [],.fn 149 [] [.ptr kk 0]] m K:=by
 obtain⟨mb,ml,ms,mn⟩:=m;refine aB.mono (aB.read (K:=fun r=>r=I (-1)) (Xn B6 (fun _ _ _=>.gd false .junk) zd ?_)) (by rintro r m' ⟨rfl,rfl⟩;exact hK);simp[MM];refine Qk eY (fun s m=>s 8=I 0/\m=⟨mb,ml,ms,mn⟩) (fun s _=>0) ?_ ?_
 ·exact⟨zd,rfl⟩
 rintro s m ⟨f8,rfl⟩;simp[f8,eY,Am];exact nU
def aiT:UV:=fun _ f l=>if f=119 then l.headD .junk else if f=999999 then .aJ 0 []else .gd false .junk
def ZU:UV:=fun _ f l=>if f=119 then l.headD .junk else if f=999999 then .junk else .gd false .junk
def LD(Y:YT)(m:AM)(g:Pg)(f:Int)(mid:Nat)(b:QR)(o:Od)(hp:Bs g.p)(hb:fS m.boxes mid b)(ho:o.nw.al.length<=8796093022208)(K:So)
  (hK:∀ex V ls,mH (m.boxes++ex) V (nY g f b o).ens->G1 m.boxes.length V->K (.aS [.agg (Xt (nY g f b o) V (.sl .ro (g.p.cls.map Qg)) 0),.bool true]) {m with boxes:=m.boxes++ex,lens:=m.lens++ls}):
  aB Tryz.prog aD Y 93 [.agg (Qr g f mid),.agg (Qq o)] m K:=by
 obtain⟨mb,ml,ms,mn⟩:=m;have hoe:=Wq o.nw ho;simp only[Qd]at hoe;have hB:∀ex,fS (mb++ex) mid b:=fun ex=>⟨by have:=hb.1;simp at this |-;omega,hb.ext ex⟩;by_cases aO:g.p.ens=[]
 ·have kO:=fun ex K hK=>ZT Y ⟨mb++ex,ml,ms,mn⟩ g.p hp aO K hK;simp only[Qa]at kO;have hx:(nY g f b o).ens=[DI f o]:=by simp[nY,aO]
  refine Xn Tg ZU zd ?_;simp[akx,aky,Qr,Qh,Qa,Qq,Qd,Qg,Qi,ZU];refine kO _ _ fun c0 c1=>?_;simp[Ur];refine afc _ _ _ _ _ ?_;simp;refine⟨hoe,ae9 _ _ ml.length _ rfl zd _ ?_⟩;simp;exact hK _ (.sl (.own ml.length 7) [Qd (DI f o)]) [1] (.inl ⟨_,by rw[hx];rfl,DD.own _ _⟩) (G1.sl _ _ _)
 have kO:=fun ex K hK=>yp Y ⟨mb++ex,ml,ms,mn⟩ g.p hp aO K hK;simp only[Qa]at kO;refine Xn Tg aiT zd ?_;simp[akx,aky,Qr,Qh,Qa,Qq,Qd,Qg,Qi,aiT];refine kO _ _ fun c0 c1 bx=>?_;simp[Ur,zzan];have hl9:g.p.ens.length<=1000000:=hp.2.2.1;refine aB.mono (LC _ _ g f mid mb.length b (mb.length+5) g.p.ens [] zE zd (by simp[Qr,Qh,Qa]) (hB _) zd (by simp[eF])) ?_;rintro r m' ⟨rfl,rfl⟩;have lD:0<g.p.ens.length:=zzdd.2 aO;rcases afb (fun e:En=>!(zi b e.id)) g.p.ens 0 with hI|⟨k,hk,hI⟩
 ·have hJ:Rp g b=g.p.ens.length:=by unfold Rp afa;rw[hI,if_pos zE]
  have hP:(nY g f b o).ens=g.p.ens++[DI f o]:=by simp[nY,hJ]
  rw[hI];simp[zzan];refine⟨hoe,ae8 _ _ _ _ _ (eF g.p.ens) (Qd (DI f o)) (Ke zd (by simp[eF])) (Ke zd (by simp[DI,Qd])) (Jb _) lD zE rfl rfl _ ?_⟩;simp[zzan];have h3:=fun ex k h1 h2 h4=>hK ex (.bs k 0 (g.p.ens.length+1) 7) [] (.inr ⟨k,[],by rw[hP];simp,h1,h2,rfl⟩) (G1.bs h4);simp only[zzar]at h3;exact h3 _ (mb.length+(bx.length+9)) zd (by simp[hP,p6,Qd]) zd
 have hJ:Rp g b=k:=by unfold Rp afa;rw[hI,if_neg zE];omega
 have lG:Uu (fun e:En=>!(zi b e.id)) g.p.ens 0=(k:Int):=by rw[hI];omega
 have D8:¬(k:Int)<0:=zE
 have hP:(nY g f b o).ens=g.p.ens.take k++DI f o::g.p.ens.drop k:=by simp[nY,hJ]
 rw[lG];simp[zzan,D8];refine⟨hoe,Ro _ _ _ _ _ _ (eF (g.p.ens.take k)) (eF (g.p.ens.drop k)) (Qd (DI f o)) (Ke zd (by rw[<- p6,zzdy];simp[eF])) (Ke zd (by simp[DI,Qd])) zE rfl (by rw[Jb,zzaq];omega) (by rw[Jb,zzcx]) hk zE _ ?_⟩;simp[zzan];have h3:=fun ex k h1 h2 h4=>hK ex (.bs k 0 (g.p.ens.length+1) 7) [] (.inr ⟨k,[],by rw[hP];simp;omega,h1,h2,rfl⟩) (G1.bs h4);simp only[zzar]at h3;exact h3 _ (mb.length+(bx.length+9)) zd (by simp[hP,p6,Qd]) zd
open Go Go.Abs
def nZ(f:Int)(e:bC):bC:={e with fr:=if f-e.st<e.fr then f-e.st else e.fr}
def Vu(f:Int):List bC->List bC
 |[]=>[]
 |e::r=>if f<=e.st then Vu f r else nZ f e::Vu f r
def yA(f:Int):∀(l r:List bC),Vu f (l++r)=Vu f l++Vu f r
 |[],_=>rfl
 |e::l,r=>by
  simp only[zzad,Vu,yA f l r];split<;>rfl
def Qds(f:Int):∀(l:List bC),(Vu f l).length<=l.length
 |[]=>zzab _
 |e::l=>by
  have:=Qds f l;simp only[Vu];split<;>simp<;>omega
def aiU(ml:Pa)(o:List bC)(v:AV)(ls:Pa):Prop:=(o=[]/\v=.sl .nil []/\ls=ml)\/(o≠[]/\v=.sl (.own ml.length 7) (o.map Qf)/\ls=ml++[o.length])
def atb(l:List bC)(F:Int)(mb:T5)(ml:Pa)(ms:Nat->LS)(mn:Nat)(g:Nat->AV)(m:AM):Prop:=
 ∃(i:Nat)(bx:T5)(ls:Pa),i<=l.length/\g 11=I i/\m=⟨mb++bx,ls,ms,mn⟩/\aiU ml (Vu F (l.take i)) (g 5) ls
def ZV:UV:=fun _ g l=>if g=64 then l.headD .junk else .junk
def yB(Y:YT)(m:AM)(l:List bC)(f:Int)(hl:l.length<=1000000)(hs:∀e∈l,Jw e)(hf:0<=f/\f<=1000000)(K:So)
  (hK:∀ex v ls,aiU m.lens (Vu f l) v ls->K v {m with boxes:=m.boxes++ex,lens:=ls}):aB Tryz.prog aD Y 105 [.sl .ro (l.map Qf),I f] m K:=by
 obtain⟨mb,ml,ms,mn⟩:=m;refine Xn abD ZV zd ?_;simp[Tn,af9];refine Qk vm (atb l f mb ml ms mn) (fun g _=>l.length-(numOf (g 11)).toNat) ?_ ?_
 ·exact⟨0,[],ml,zE,zd,zd,.inl ⟨by simp[Vu],zd,rfl⟩⟩
 rintro g m ⟨i,bx,ls,hi,pE,rfl,aX⟩;rcases zzaa i l.length with ai|bn
 ·obtain⟨a,ha⟩:=aV ai;have ah:Qj (l.map Qf) i=Qf a:=Qu (by simp[ha]);have hw:=bO i zE;have bA:l.take (i+1)=l.take i++[a]:=by rw[zzax,ha];rfl
  have aa:(i:Int)<(l.length:Int):=zE
  obtain⟨⟨a1,a2⟩,⟨a3,a4⟩,a5,a6⟩:=hs a (zzae ha);have eR:=Qds f (l.take i);have ayT:(Vu f (l.take i)).length<=1000000:=by simp at eR;omega
  by_cases h1:f<=a.st
  ·have hb:Vu f (l.take (i+1))=Vu f (l.take i):=by rw[bA,yA];simp[Vu,h1]
   simp[pE,ah,ai,Qf,h1,hw,vm];refine⟨aQ,⟨i+1,_,ls,zE,zd,rfl,?_⟩,zE⟩
   ·rw[hb];exact aX
  have hb:Vu f (l.take (i+1))=Vu f (l.take i)++[nZ f a]:=by rw[bA,yA];simp[Vu,h1]
  have wf1:=wu f zE zE;have wf2:=wu a.st zE zE;have wf3:=wu a.fr zE zE;have wf4:=wu (f-a.st) zE zE;have wf5:IntKind.i64.wrap (f-a.st)=f-a.st:=by rw[Ql]<;>omega
  have qu:=Qcl a.al a6;obtain⟨fr',amu⟩:∃fr',fr'=if f-a.st<a.fr then f-a.st else a.fr:=⟨_,rfl⟩;have Sk:Qf (nZ f a)=[I a.id,I a.it,I a.st,I fr',I a.i,I a.re,.sl .ro (a.al.map Qe)]:=by rw[amu];rfl
  have sk:(0<a.fr/\f-a.st<a.fr/\fr'=f-a.st)\/(0<a.fr/\¬f-a.st<a.fr/\fr'=a.fr)\/(¬0<a.fr/\fr'=a.fr):=by
   rw[amu];by_cases h0:0<a.fr
   ·by_cases hc:f-a.st<a.fr
    ·exact .inl ⟨h0,hc,by simp[hc]⟩
    exact .inr (.inl ⟨h0,hc,by simp[hc]⟩)
   exact .inr (.inr ⟨h0,by rw[if_neg zE]⟩)
  have wk:(Vu f (l.take (i+1))).length=(Vu f (l.take i)).length+1:=by rw[hb];simp
  have Rn:Vu f (l.take (i+1))≠[]:=by rw[hb];simp
  have fin:(Vu f (l.take (i+1))).map Qf=(Vu f (l.take i)).map Qf++[[I a.id,I a.it,I a.st,I fr',I a.i,I a.re,.sl .ro (a.al.map Qe)]]:=by rw[hb,zzcg,<- Sk];rfl
  clear amu Sk;have XR:=aX;clear aX;obtain⟨e0,h5,rfl⟩|⟨e0,h5,rfl⟩:=XR
  ·rw[e0]at fin wk;obtain⟨h0,hc,rfl⟩|⟨h0,hc,rfl⟩|⟨h0,rfl⟩:=sk
   all_goals
    simp[Qf,ZV,vm, *];refine⟨aQ,⟨i+1,_,_,zE,zd,rfl,.inr ⟨Rn,?_,?_⟩⟩,zE⟩
    ·simp[fin]
    rw[wk];rfl
  obtain⟨h0,hc,rfl⟩|⟨h0,hc,rfl⟩|⟨h0,rfl⟩:=sk
  all_goals
   simp[Qf,ZV,vm, *];refine⟨⟨by rintro row (⟨x,_,rfl⟩|rfl)<;>rfl,zE⟩,ag ?_,⟨i+1,_,_,zE,zd,rfl,.inr ⟨Rn,?_,?_⟩⟩,zE⟩
   ·repeat(first|exact Qb _ _|refine Qc _ rfl ?_)
   ·simp[fin]
   rw[wk]
 have hbf:l.take i=l:=zzau bn;rw[hbf]at aX;simp[pE,zzbk.2 bn,vm];exact hK _ _ _ aX
open Go Go.Abs
def yC(n a b:Int)(ha:0<=a/\a<=1000000000)(hb:0<=b/\b<=1000000000):Pure Tryz.prog aD 165 [I n,I a,I b] (.bool (decide (n=a+b))):=by
 have hw:IntKind.i64.wrap (a+b)=a+b:=by rw[Ql]<;>omega
 have h1:¬a<0:=zE
 have h2:¬b<0:=zE
 have h3:¬a+b<0:=zE
 refine Qo acs (fun _ _ _=>.junk) zd ?_;by_cases h:n=a+b<;>simp[agR,agS,hw,h1,h2,h3,h]
def Rq(e:bC):Ad:=⟨e.it,0,e.st,e.fr⟩
def rP(n:Int):List Ad->List Ad
 |[]=>[]
 |[a]=>[{a with fs:=a.fs+n}]
 |a::b::r=>a::rP n (b::r)
def Hf(n:Int)(a:Ad):∀l:List Ad,rP n (l++[a])=l++[{a with fs:=a.fs+n}]
 |[]=>rfl
 |[x]=>rfl
 |x::y::r=>by have:=Hf n a (y::r);simp only[zzad]at this |-;rw[rP,this]
def yD(x e:bC):Prop:=x.id=e.id/\e.st=x.st+x.fr/\e.i=x.i+x.fr
instance (x e:bC):Decidable (yD x e):=by unfold yD;infer_instance
def Yz(x:Option bC)(e:bC)(out:List Ad):List Ad:=
 if e.id=0 then out else match x with
 |none=>out++[Rq e]
 |some x=>if yD x e then rP e.fr out else out++[Rq e]
def uk:Option bC->List bC->List Ad->List Ad
 |_,[],out=>out
 |x,e::r,out=>uk (some e) r (Yz x e out)
def Rr(l:List bC)(f:Int):List Ad:=uk none (Vu f l) []
def Bz(e:bC):∀(l:List bC)(x:Option bC)(out:List Ad),uk x (l++[e]) out=Yz (match l.getLast? with|some y=>some y|none=>x) e (uk x l out)
 |[],_,_=>rfl
 |[a],_,_=>rfl
 |a::b::r,x,out=>by
  have:=Bz e (b::r) (some a) (Yz x a out);simp only[zzad]at this |-
  rw[uk,this,List.getLast?_cons_cons];congr 1
def afd{n:Int}:∀{l:List Ad},l≠[]->rP n l≠[]
 |[],h=>absurd rfl h
 |[a],_=>by simp[rP]
 |a::b::r,_=>by simp[rP]
def rQ{B:List bC}{i:Nat}{e:bC}(h:B[i]?=some e):uk none (B.take (i+1)) []=Yz (if i=0 then none else B[i-1]?) e (uk none (B.take i) []):=by
 have ai:=(zza.1 h).1;rw[zzax,h];show uk none (B.take i++[e]) []=_;rw[Bz];congr 1;cases i with
 |zero=>rfl
 |succ i=>
  have hx:B[i]?=some B[i]:=zzaf zE;rw[zzax,hx,zzg,List.getLast?_concat,if_neg zE,zzga,hx]
def Ol{B:List bC}:∀{i:Nat}{e:bC},B[i]?=some e->e.id≠0->uk none (B.take (i+1)) []≠[]
 |0,e,h,h0=>by rw[rQ h,if_pos rfl];simp[Yz,h0]
 |i+1,e,h,h0=>by
  rw[rQ h,if_neg zE,zzga];have ai:=(zza.1 h).1;obtain⟨x,hx⟩:∃x,B[i]?=some x:=⟨_,zzaf zE⟩;rw[hx];unfold Yz;rw[if_neg h0];simp only;split
  ·rename_i hj;exact afd (Ol hx (by rw[hj.1];exact h0))
  simp
def oc(f:Int)(hf:f<=1000000):∀(l:List bC),(∀e∈l,Jw e)->∀e∈Vu f l,Jw e
 |[],_,e,h=>by cases h
 |a::r,hs,e,h=>by
  have ih:=oc f hf r fun e he=>hs e (by simp[he]);rw[Vu]at h;split at h
  ·exact ih e h
  rename_i bZ;rcases zzao.1 h with rfl|h
  ·obtain⟨⟨a1,a2⟩,⟨a3,a4⟩,a5,a6⟩:=hs a zd;refine⟨⟨a1,a2⟩,?_,a5,a6⟩;simp only[nZ];split<;>omega
  exact ih e h
def FsB(n:Int)(out:List Ad):Prop:=∀a∈out,0<=a.fs/\a.fs<=n
def FsB.inc{n k:Int}(hk:0<=k/\k<=1000000):∀{l:List Ad},FsB n l->FsB (n+1000000) (rP k l)
 |[],_,a,h=>by cases h
 |[x],hl,a,h=>by
  have:=hl x zd;simp only[rP,zzcq]at h;subst h;simp only;omega
 |x::y::r,hl,a,h=>by
  rw[rP]at h;rcases zzao.1 h with rfl|h
  ·have:=hl a zd;omega
  exact FsB.inc hk (l:=y::r) (fun b hb=>hl b (by simp[hb])) a h
def FsB.step{n:Int}{x:Option bC}{e:bC}{out:List Ad}(h:FsB n out)(hn:0<=n)(he:Jw e):FsB (n+1000000) (Yz x e out):=by
 obtain⟨_,h3,_⟩:=he;have hw:FsB (n+1000000) out:=fun a ha=>by have:=h a ha;omega
 have hp:FsB (n+1000000) (out++[Rq e]):=fun a ha=>by
  rcases zzam.1 ha with ha|ha
  ·exact hw a ha
  simp only[zzcq]at ha;subst ha;simp only[Rq];omega
 unfold Yz;split
 ·exact hw
 cases x with
 |none=>exact hp
 |some x=>
  simp only;split
  ·exact h.inc h3
  exact hp
def Hg(B:List bC)(x:Option bC)(out:List Ad):(uk x B out).length<=out.length+B.length:=by
 induction B generalizing x out with
 |nil=>simp[uk]
 |cons e r ih=>
  rw[uk];have h1:=ih (some e) (Yz x e out)
  have h2:(Yz x e out).length<=out.length+1:=by
   have hi:∀(k:Int)(l:List Ad),(rP k l).length=l.length:=by
    intro k l;induction l with
    |nil=>rfl
    |cons a r ih=>cases r with
     |nil=>rfl
     |cons b r=>rw[rP,zzbd,ih];rfl
   unfold Yz;split
   ·omega
   cases x with
   |none=>simp
   |some x=>
    simp only;split
    · rw[hi];omega
    simp
  simp only[zzbd];omega
def tu(l:List Ad):P2:=(l.map Vn).flatten
def u5:∀l,(tu l).length=l.length*4
 |[]=>rfl
 |a::r=>by have:=u5 r;simp only[tu,zzaz,zzch,zzak]at this |-;rw[this];simp[Vn];omega
def afe(a b:List Ad):tu (a++b)=tu a++tu b:=by simp[tu]
def amv(l:List Ad):Zm (tu l)=true:=kW (fun _=>rfl) l
def Ru{bx:T5}{k:Nat}{c:P2}(h:k<bx.length)(ex:T5):Qj (bx.set k c++ex) k=c:=
 Qu (by rw[zzaj (Nm h)];simp[h])
def rR(bx:T5)(k:Nat)(c p q r:P2):Qj (bx.set k c++[p,q,r]) (bx.length+2)=r:=
 Qu (by rw[zzap zd];simp)
def Rv(l:List Ad):aY 4 l.length (tu l)=l.map Vn:=by
 have:=Qbu (sz:=4) (rows:=l.map Vn) (kX (f:=Vn) (fun _=>rfl) l);rw[zzbt]at this;exact this
def Om(bx:T5)(o:List Ad)(v:AV):Prop:=(o=[]/\v=.sl .nil [])\/(o≠[]/\∃k,v=.bs k 0 o.length 4/\k<bx.length/\Qj bx k=tu o)
def atc(B:List bC)(ls:Pa)(g:Nat->AV)(m:AM):Prop:=
 ∃(i:Nat)(bx:T5),g 15=I i/\i<=B.length/\m=⟨bx,ls,fun _=>.gone,0⟩/\Om bx (uk none (B.take i) []) (g 5)/\FsB (i*1000000) (uk none (B.take i) [])
def mM:UV:=fun d f l=>if f=105 then .gd false .junk else if f=165 then(match l with|[.int _ n,.int _ a,.int _ b]=>.bool (decide (n=a+b))|_=>.junk)else if f=999999 then(if d=73 then .junk else .aJ 0 [])else .junk
def Om.ext{bx:T5}{o:List Ad}{v:AV}(h:Om bx o v)(ex:T5):Om (bx++ex) o v:=by
 obtain h|⟨h0,k,h1,h2,h3⟩:=h
 ·exact .inl h
 exact .inr ⟨h0,k,h1,by simp;omega,by rw[Qn h2,h3]⟩
def LF(l:List bC)(f:Int)(hl:l.length<=1000000)(hs:∀e∈l,Jw e)(hf:0<=f/\f<=1000000):Pure Tryz.prog aD 109 [.sl .ro (l.map Qf),I f] (.sl .ro ((Rr l f).map Vn)):=by
 have hsB:=oc f hf.2 l hs;have hlB:(Vu f l).length<=1000000:=by have:=Qds f l;omega
 have:Pure Tryz.prog aD 109 [.sl .ro (l.map Qf),I f] (.sl (if Rr l f=[]then .nil else .ro) ((Rr l f).map Vn)):=by
  refine Qo abG mM zd ?_;simp[Tp,agc,mM];refine yB _ _ l f hl hs hf _ fun ex v ls hO=>?_
  obtain⟨rt,rfl⟩:∃rt,v=.sl rt ((Vu f l).map Qf):=by
   obtain⟨e,rfl,_⟩|⟨e,rfl,_⟩:=hO
   ·exact⟨.nil,by rw[e];rfl⟩
   exact⟨_,rfl⟩
  clear hO;unfold Rr;generalize Vu f l=B at*
  simp;refine Qk dU (atc B ls) (fun g _=>B.length-(numOf (g 15)).toNat) ?_ ?_
  ·exact⟨0,ex,zd,zE,zd,.inl ⟨by simp[uk],zd⟩,fun a h=>by simp[uk]at h⟩
  rintro g m ⟨i,bx,sO,hi,rfl,hO,hF⟩;rcases zzaa i B.length with ai|bn
  ·obtain⟨a,ha⟩:=aV ai;have ah:Qj (B.map Qf) i=Qf a:=Qu (by simp[ha]);have hw:=bO i zE;have aa:(i:Int)<(B.length:Int):=zE
   have lK:=hsB a (zzae ha);have bA:=rQ ha;have QF:=hF.step (x:=if i=0 then none else B[i-1]?) (e:=a) zE lK;rw[<- bA]at QF;obtain⟨⟨a1,a2⟩,⟨a3,a4⟩,⟨a5,a6⟩,a7⟩:=lK;by_cases h0:a.id=0
   ·simp[sO,ah,ai,Qf,h0,dU,hw];refine⟨aQ,⟨i+1,_,zd,zE,rfl,?_,?_⟩,zE⟩
    ·simp[Yz,h0]at bA;rw[bA];simpa using hO.ext _
    have:((i+1:Nat):Int)*1000000=(i:Int)*1000000+1000000:=zE
    rw[this];exact QF
   cases i with
   |zero=>
    have e1:uk none (B.take 1) []=[Rq a]:=by rw[bA];simp[Yz,h0,uk]
    have hO0:g 5=.sl .nil []:=by
     obtain⟨_,h⟩|⟨h,_⟩:=hO
     ·exact h
     exact absurd (by simp[uk]) h
    have lJ:IntKind.i64.wrap 1=1:=by rw[Ql]<;>omega
    simp at sO;simp[sO,ah,ai,Qf,h0,dU,lJ,hO0,mM];refine⟨aQ,⟨1,_,zd,zE,rfl,.inr ⟨by rw[e1];simp,bx.length+1,by simp[e1],zd,?_⟩,?_⟩,zE⟩
    ·simp[e1,tu,Vn,Rq]
    simpa using QF
   |succ i=>
    have axK:i<B.length:=zE
    obtain⟨x,hx⟩:=aV axK;have yE:Qj (B.map Qf) i=Qf x:=Qu (by simp[hx]);obtain⟨⟨x1,x2⟩,⟨x3,x4⟩,⟨x5,x6⟩,x7⟩:=hsB x (zzae hx);have k1:=yC a.st x.st x.fr zE zE;have k2:=yC a.i x.i x.fr zE zE;have Sm:IntKind.i64.wrap (i:Int)=i:=by rw[Ql]<;>omega
    have yF:(i:Int)<(B.length:Int):=zE
    have lD:(0:Int)<(i:Int)+1:=zE
    rw[if_neg zE,zzga,hx]at bA;have aO:=Ol hx;have A0:((i+1+1:Nat):Int)*1000000=((i+1:Nat):Int)*1000000+1000000:=zE
    have FP:=Hg (B.take (i+1)) none [];have amw:¬yD x a->uk none (B.take (i+1+1)) []=uk none (B.take (i+1)) []++[Rq a]:=fun h=>by rw[bA];simp[Yz,h0,h]
    have gI:yD x a->uk none (B.take (i+1+1)) []=rP a.fr (uk none (B.take (i+1)) []):=fun h=>by rw[bA];simp[Yz,h0,h]
    rw[<- A0]at QF;clear bA;generalize uk none (B.take (i+1)) []=out at*
    generalize cQ:uk none (B.take (i+1+1)) []=out' at*
    simp at sO ai aa hw FP;have asA:out.length<=1000000:=zE
    by_cases hj:yD x a
    ·have e1:=gI hj;obtain⟨j1,j2,j3⟩:=hj;have aO:=aO (by rw[j1];exact h0)
     obtain⟨O,z,rfl⟩:∃O z,out=O++[z]:=by
      rcases zzhe out with e|⟨O,z,e⟩
      ·exact absurd e aO
      exact⟨O,z,by rw[e,zzhf]⟩
     have hOl:(tu O).length=O.length*4:=u5 O;have hz:=hF z zd;have hwz:IntKind.i64.wrap (z.fs+a.fr)=z.fs+a.fr:=by rw[Ql]<;>omega
     have aff:∀X:P2,(tu O++X).drop (O.length*4+3)=X.drop 3:=fun X=>Bx _ _ _ _ hOl;have hs3:∀X Y:P2,setA (tu O++X) (O.length*4+3) Y=tu O++setA X 3 Y:=fun X Y=>Bw _ _ _ _ _ hOl;obtain⟨e,_⟩|⟨_,k,h5,hk,hr⟩:=hO
     ·exact absurd e aO
     have hR:∀ex,Qj (bx++ex) k=tu O++[I z.it,I z.re,I z.fr,I z.fs]:=fun ex=>by rw[Qn hk,hr,afe];rfl
     rw[Hf]at e1;rw[zzak,zzhb]at h5;have hwo:IntKind.i64.wrap (O.length:Int)=O.length:=by simp at asA;rw[Ql]<;>omega
     have oQ:k<bx.length+1:=zE
     have ZW:k<bx.length+(1+1):=zE
     have axL:k<bx.length+2:=zE
     simp[sO,ah,aa,Qf,h0,dU,hw,yE,yF,lD,Sm,mM,j1,j2,j3,h5,hR,hwo,aff,hs3,hOl,hwz,hk,ZW];refine⟨zE,by rw[j2]at k1;simpa using k1,by rw[j3]at k2;simpa using k2,zE,aQ,⟨i+1+1,_,zd,zE,rfl,.inr ⟨by rw[cQ,e1];simp,k,by rw[cQ,e1];simp,by simp;omega,?_⟩,by rw[cQ];exact QF⟩,zE⟩
     ·rw[cQ,e1,Ru hk];simp[tu,Vn]
    have e1:=amw hj
    have fU:¬x.id=a.id\/(x.id=a.id/\¬a.st=x.st+x.fr)\/(x.id=a.id/\a.st=x.st+x.fr/\¬a.i=x.i+x.fr):=by
     unfold yD at hj;by_cases j1:x.id=a.id
     ·by_cases j2:a.st=x.st+x.fr
      ·exact .inr (.inr ⟨j1,j2,fun j3=>hj ⟨j1,j2,j3⟩⟩)
      exact .inr (.inl ⟨j1,j2⟩)
     exact .inl j1
    obtain⟨rfl,h5⟩|⟨Rn,k,h5,hk,hr⟩:=hO
    ·obtain j1|⟨j1,j2⟩|⟨j1,j2,j3⟩:=fU
     ·simp[sO,ah,aa,Qf,h0,dU,hw,yE,yF,lD,Sm,mM,j1,h5];refine⟨zE,aQ,⟨i+1+1,_,zd,zE,rfl,.inr ⟨by rw[cQ,e1];simp,bx.length+2,by rw[cQ,e1];simp,zd,?_⟩,by rw[cQ];exact QF⟩,zE⟩
      ·rw[cQ,e1];simp[tu,Vn,Rq]
     ·simp[sO,ah,aa,Qf,h0,dU,hw,yE,yF,lD,Sm,mM,j1,j2,h5];refine⟨zE,by simpa[j2]using k1,aQ,⟨i+1+1,_,zd,zE,rfl,.inr ⟨by rw[cQ,e1];simp,bx.length+2,by rw[cQ,e1];simp,zd,?_⟩,by rw[cQ];exact QF⟩,zE⟩
      ·rw[cQ,e1];simp[tu,Vn,Rq]
     simp[sO,ah,aa,Qf,h0,dU,hw,yE,yF,lD,Sm,mM,j1,j2,j3,h5];refine⟨zE,by rw[j2]at k1;simpa using k1,by simpa[j3]using k2,aQ,⟨i+1+1,_,zd,zE,rfl,.inr ⟨by rw[cQ,e1];simp,bx.length+2,by rw[cQ,e1];simp,zd,?_⟩,by rw[cQ];exact QF⟩,zE⟩
     ·rw[cQ,e1];simp[tu,Vn,Rq,j2]
    have hR:∀ex,Qj (bx++ex) k=tu out:=fun ex=>by rw[Qn hk,hr]
    have oQ:k<bx.length+1:=zE
    have ZW:k<bx.length+(1+1):=zE
    have axL:k<bx.length+2:=zE
    have hlo:=u5 out;have amx:¬tu out=[]:=by intro h;rw[h]at hlo;exact Rn (zzbc (by simp at hlo;omega))
    have ZE:List.take (out.length*4) (tu out)=tu out:=zzau zE;obtain j1|⟨j1,j2⟩|⟨j1,j2,j3⟩:=fU
    ·simp[sO,ah,aa,Qf,h0,dU,hw,yE,yF,lD,Sm,mM,j1,h5,hR,hk,ZW,hlo,amx,ZE];refine⟨zE,zE,aQ,⟨i+1+1,_,zd,zE,rfl,.inr ⟨by rw[cQ,e1];simp,bx.length+2,by rw[cQ,e1];simp,zd,?_⟩,by rw[cQ];exact QF⟩,zE⟩
     ·rw[cQ,e1,rR];simp[tu,Vn,Rq]
    ·simp[sO,ah,aa,Qf,h0,dU,hw,yE,yF,lD,Sm,mM,j1,j2,h5,hR,hk,ZW,hlo,amx,ZE];refine⟨zE,by simpa[j2]using k1,zE,aQ,⟨i+1+1,_,zd,zE,rfl,.inr ⟨by rw[cQ,e1];simp,bx.length+2,by rw[cQ,e1];simp,zd,?_⟩,by rw[cQ];exact QF⟩,zE⟩
     ·rw[cQ,e1,rR];simp[tu,Vn,Rq]
    simp[sO,ah,aa,Qf,h0,dU,hw,yE,yF,lD,Sm,mM,j1,j2,j3,h5,hR,hk,ZW,hlo,amx,ZE];refine⟨zE,by rw[j2]at k1;simpa using k1,by simpa[j3]using k2,zE,aQ,⟨i+1+1,_,zd,zE,rfl,.inr ⟨by rw[cQ,e1];simp,bx.length+2,by rw[cQ,e1];simp,zd,?_⟩,by rw[cQ];exact QF⟩,zE⟩
    ·rw[cQ,e1,rR];simp[tu,Vn,Rq,j2]
  obtain rfl:i=B.length:=zE
  rw[zzbx]at hO;obtain⟨e,h5⟩|⟨e,k,h5,hk,hr⟩:=hO
  ·simp[sO,dU,h5,e]
  simp[sO,dU,h5,e];rw[hr,Ve _ _ (amv _),u5,if_pos (zzab _),Rv]
 exact Zl this (Wk.sl _ _)
