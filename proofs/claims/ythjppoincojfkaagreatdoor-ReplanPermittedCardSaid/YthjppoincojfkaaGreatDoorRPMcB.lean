import Derived.Test.YthjppoincojfkaaGreatDoorRPMbU
set_option linter.all false
set_option maxRecDepth 100000
set_option maxHeartbeats 64000000
namespace Go.Proofs.YthjppoincojfkaaGreatDoor
open Go Go.Abs
def ZP(Y:YT)(m:AM)(g:Pg)(f:Int)(mid kk:Nat)(b:QR)(e:En)(hk:kk<m.boxes.length)(hr:Qh m.boxes kk=Qr g f mid)(hb:fL m.boxes mid b):
  aB Tryz.prog aD Y 149 [.agg (Qd e),.ptr kk 0] m (fun r m'=>m'=m/\r=.bool !(oA b e.id)):=by
 obtain⟨mb,ml,ms,mn⟩:=m;have hR:∀ex,Qh (mb++ex) mid=[.aJ 0 (bG .bool b)]:=hb.ext;have hM:∀ex,Qh (mb++ex) kk=Qr g f mid:=fun ex=>by rw[Qn hk];exact hr
 simp only[Qr,Qm,Qa,zzae,zzai]at hM;refine aB.read (Xn acA (fun _ _ _=>.junk) zd ?_);rcases Xw AV.bool e.id b 0 with⟨b1,b2,_⟩|⟨u,u',b1,b2,_⟩
 ·simp[TJ,TK,Qd,hM,hR,oA,b1,b2];exact nU
 cases u<;>simp[TJ,TK,Qd,hM,hR,oA,b1,b2]<;>exact nU
def atr(Y:YT)(m:AM)(g:Pg)(f:Int)(mid kk:Nat)(b:QR)(e:En)(hk:kk<m.boxes.length)(hr:Qh m.boxes kk=Qr g f mid)(hb:fL m.boxes mid b)(K:So)(hK:K (.bool !(oA b e.id)) m):
  aB Tryz.prog aD Y 149 [.agg (Qd e),.ptr kk 0] m K:=
 aB.mono (ZP Y m g f mid kk b e hk hr hb) (by rintro r m' ⟨rfl,rfl⟩;exact hK)
def LA(Y:YT)(m:AM)(g:Pg)(f:Int)(mid kk:Nat)(b:QR)(k:Nat)(L:List En)(z:P2)(hl:L.length<=1000000000)(hk:kk<m.boxes.length)(hr:Qh m.boxes kk=Qr g f mid)(hb:fL m.boxes mid b)(hV:k<m.boxes.length)(hrV:Qh m.boxes k=eE L++z):
  aB Tryz.prog aD Y 148 [.bs k 0 L.length 7,.fn 149 [] [.ptr kk 0]] m (fun r m'=>m'=m/\r=I (Uf (fun e:En=>!(oA b e.id)) L 0)):=by
 obtain⟨mb,ml,ms,mn⟩:=m;have aH:=Jb L;have k1:=fun e K hK=>atr Y ⟨mb,ml,ms,mn⟩ g f mid kk b e hk hr hb K hK;refine aB.read (Xn BZ (fun _ _ _=>.gd false .junk) zd ?_);simp[MW];refine Qi eU (fun s m=>∃i:Nat,s 8=I i/\i<=L.length/\Uf (fun e:En=>!(oA b e.id)) (L.drop i) i=Uf (fun e:En=>!(oA b e.id)) L 0/\m=⟨mb,ml,ms,mn⟩) (fun s _=>L.length-(numOf (s 8)).toNat) ?_ ?_
 ·exact⟨0,zd,zE,zd,rfl⟩
 rintro s m ⟨i,f8,hi,hidx,rfl⟩;rcases zzaa i L.length with ai|bq
 ·obtain⟨x,hx⟩:=aV ai;have hg:=Dw hx;simp only at hrV
  have ah:(Qh mb k).drop (i*7)=I x.id::I x.it::I x.fr::I x.ea::I x.la::I x.bo::.sl .ro (x.al.map Qf)::(eE (L.drop (i+1))++z):=by
   rw[hrV,zzdx (by rw[Jb];omega),hg];rfl
  have aa:(i:Int)<(L.length:Int):=zE
  have hw:=bP i zE;have hd:L.drop i=x::L.drop (i+1):=by rw[zzag ai,(zza.1 hx).2]
  have kx:=k1 x;simp only[Qd]at kx;rw[hd,Uf]at hidx;cases hP:oA b x.id with
  |false=>
   rw[if_pos (by simp[hP])]at hidx;simp[f8,eU,aa,ah];refine kx _ ?_;simp[hP,Aj,hidx];exact nU
  |true=>
   rw[if_neg (by simp[hP])]at hidx;simp[f8,eU,aa,ah];refine kx _ ?_;simp[hP,hw];refine⟨aQ,⟨i+1,zd,zE,hidx⟩,zE⟩
 obtain rfl:i=L.length:=zE
 rw[zzbu,Uf]at hidx;simp[f8,eU,Aj,<- hidx];exact nU
open Go Go.Abs Go.RowKit
def G5:bw Tryz.prog 150:=by
 first|exact B5.bw|(unfold bw;decide)|kernel_rfl
def Rp(Y:YT)(m:AM)(id gH i n:Nat)(A C V:P2)(aL:m.boxes[id]?=some (A++C))(fH:m.boxes[gH]?=some V)(aO:gH≠id)(hV:V.length=7)(hA:A.length=i*7)(hC:C.length=(n-i)*7)
  (hi:i<n)(hn:n+1<=1000000000)(K:So)(hK:K (.bs m.boxes.length 0 (n+1) 7) {m with boxes:=m.boxes.set id []++[A++(V++C)]}):aB Tryz.prog aD Y 150 [.bs id 0 n 7,I i,.bs gH 0 1 7] m K:=by
 refine aB.fM G5 fun N w0 an γ w vs hm hl hr=>?_
 obtain⟨v1,r1,rfl,g1,Sl⟩:∃v1 r1,vs=v1::r1/\aA w γ (.bs id 0 n 7) v1/\ak w γ [I i,.bs gH 0 1 7] r1:=by
  cases vs with
  |nil=>have:=hr.1;simp at this
  |cons v r=>exact⟨v,r,rfl,hr.2 0 _ _ rfl rfl,⟨by have:=hr.1;simp at this |-;omega,fun k c u h1 h2=>hr.2 (k+1) c u (Nm h1) (Nm h2)⟩⟩
 obtain⟨v2,r2,rfl,g2,oM⟩:∃v2 r2,r1=v2::r2/\aA w γ (I i) v2/\ak w γ [.bs gH 0 1 7] r2:=by
  cases r1 with
  |nil=>have:=Sl.1;simp at this
  |cons v r=>exact⟨v,r,rfl,Sl.2 0 _ _ rfl rfl,⟨by have:=Sl.1;simp at this |-;omega,fun k c u h1 h2=>Sl.2 (k+1) c u (Nm h1) (Nm h2)⟩⟩
 obtain⟨v3,rfl,g3⟩:=Yn oM;cases g2;obtain⟨b,cap,arr,te,hβ,rfl,gJ,hh,hs⟩:=g1.cN;obtain⟨vb,att,uP,tv,hβv,rfl,hlv,hhv,hsv⟩:=g3.cN;have hB:m.B id=some (A++C):=aL;have A4:m.B gH=some V:=fH
 have ajg:A++C≠[]:=by
  intro h;have:=congrArg List.length h;simp only[zzak,hA,hC,zzco]at this;omega
 have atu:V≠[]:=by rintro rfl;simp at hV
 have hvb:vb≠b:=by
  rintro rfl;rcases hm.inj _ _ _ hβ hβv with h|h|h
  ·rw[hB]at h;exact ajg (Option.some.inj h)
  ·rw[A4]at h;exact atu (Option.some.inj h)
  exact aO h.symm
 obtain⟨bN,y5,q2,q3,q4⟩:=hm.box id _ b hB hβ;rw[hh]at q2;cases q2;obtain⟨azj,tv',p2,p3,p4⟩:=hm.box gH _ vb A4 hβv;rw[hhv]at p2;cases p2;have hvl:=p3.1;simp only[zzbi,hV]at hvl
 have hVr:ak w γ V (uP.toList.take 7):=by
  refine⟨by simp only[zzaq,zzbi,hV];omega,fun k c v g1 g2=>?_⟩;have hk:=(zza.1 g1).1;rw[zzbj,if_pos zE]at g2;exact p3.2 k c v g1 g2
 have hvo:∀v∈uP.toList.take 7,v.oneCell'=true:=fun v hv=>p4 v (zzcg hv);have hi7:(i+1)*7=A.length+V.length:=by rw[hA,hV];omega
 simp only[zzbs]at hs;by_cases cA:n+1<=cap
 ·have fN:=Rm b n cap i vb att arr uP te tv w hi cA hn hvb hh hhv hs hvl q4 p4;have Ph:(n+1)*7<=cap*7:=zzbe _ cA;rw[hi7,<- hA,<- hC]at fN;obtain⟨e1,m1⟩:=Rn hm aL ajg hβ hh hVr hvo (by rw[hA,hC,hV];omega);refine fN.mono ?_;rintro e w' ⟨rfl,rfl⟩;have hh':w.drew.heap[b]?=some (.cells arr te (0,0)):=hh;refine⟨_,_,.bs m.boxes.length 0 (n+1) 7,_,rfl,e1.cG,m1,hl.mono' e1 rfl,.bs (by simp[G.box]) cA (Xe b _ _ _ _ te _ (Xe b _ _ _ arr te _ hh')) (by rw[Zz,Zz];omega),hK⟩
 have fN:=ZO b n cap i vb att arr uP te tv w hi gJ zE hn hvb hh hhv hs hvl q4 p4;refine fN.mono ?_;rintro e w' ⟨Gc,nZ,zs,hG,rfl,hR,hz,hGR,hzo,rfl⟩;rw[<- hA]at hR;obtain⟨e1,m1⟩:=afo (te2:=47) hm aL hβ hh hVr hvo hR (by rw[hC,hV];omega) hzo (by simp[atu]);rw[hi7,<- hA,<- hC];refine⟨_,_,.bs m.boxes.length 0 (n+1) 7,_,rfl,e1.cG,m1,hl.mono' e1 rfl,.bs (by simp[G.box]) hG (Xe _ _ _ _ _ 47 _ (Xe _ _ _ (w.drew.alloc (.cells nZ 47)) nZ 47 _ (Yj w _))) (by rw[Zz,Zz];omega),hK⟩
open Go Go.Abs
def Kg{B:T5}{id:Nat}{c:P2}(h:id<B.length)(hr:Qh B id=c):B[id]?=some c:=by
 rw[Jj h,hr]
def afp(Y:YT)(m:AM)(id gH n:Nat)(A V:P2)(aL:m.boxes[id]?=some A)(fH:m.boxes[gH]?=some V)(hA:A.length=n*7)(hn:0<n)(hn9:n<=1000000000)(hV:V.length=7)(okV:Zm V=true)
  (K:So)(hK:K (.bs m.boxes.length 0 (n+1) 7) {m with boxes:=m.boxes.set id []++[A++V]}):aB Tryz.prog aD Y 150 [.bs id 0 n 7,I n,.bs gH 0 1 7] m K:=by
 obtain⟨mb,ml,ms,mn⟩:=m;have r1:=Qu aL;have r2:=Qu fH;have l1:=(zza.1 aL).1;have l2:=(zza.1 fH).1;simp only at r1 r2 l1 l2 hK;have aO:¬A=[]:=by rintro rfl;simp at hA;omega
 refine Xn B5 (fun _ _ _=>.junk) zd ?_;simp[TL,TM,r1,r2,l1,l2,hA,hV,aO];refine⟨zE,?_⟩;rw[zzat zE,zzat zE];exact hK
def afq(Y:YT)(m:AM)(k:Nat)(row:P2)(ah:row.length=7)(hk:m.lens[k]?=some 0)(K:So)(hK:K (.sl (.own k 7) [row]) {m with lens:=m.lens.set k 1}):
  aB Tryz.prog aD Y 150 [.sl (.own k 7) [],I 0,.sl .full [row]] m K:=by
 obtain⟨mb,ml,ms,mn⟩:=m;refine Xn B5 (fun _ _ _=>.junk) zd ?_;simp[TL,TM,ah];exact⟨hk,hK⟩
def ZQ(Y:YT)(m:AM)(K:So)(hK:K (.sl (.own m.lens.length 7) []) {m with lens:=m.lens++[0]}):aB Tryz.prog aD Y 118 [.sl .ro []] m K:=by
 refine Xn BX (fun _ _ _=>.junk) zd ?_;simp[ML,MM];exact hK
def ZR(p:Pl):UV:=fun d f l=>if f=118 then .gd false .junk else Ko p d f l
def ZS(Y:YT)(m:AM)(p:Pl)(h:Bl p)(hn:p.ens=[])(K:So)
  (hK:∀c0 c1,K (.agg (Us p (.sl (.own m.lens.length 7) []))) {m with boxes:=m.boxes++[c0,c1],lens:=m.lens++[0]}):aB Tryz.prog aD Y 66 [.agg (Qa p)] m K:=by
 obtain⟨mb,ml,ms,mn⟩:=m;obtain⟨h1,h2,h3,h4,h5,h6⟩:=h;have k1:=pV p.sh zE;have k2:=pW p.aM zE;have k4:=pX p.bks zE;have k5:=Dm p.cls zE;refine Xn u6 (ZR p) zd ?_;simp[IY,Qa,ZR,Ko,hn];refine⟨k1,k2,ZQ _ _ _ ?_⟩;simp;refine Qi ey (fun f m=>f 22=I 0/\m=⟨mb++[[I p.ch,I p.nu,I p.de,I p.of,.sl .ro (p.sh.map Qf),I p.ep,I p.rg,I p.ln,I p.fi,.sl .ro (p.aM.map Qj),.sl (.own ml.length 7) [],.sl .ro (p.bks.map Xl),.sl .ro (p.cls.map Qg)],[I 0,I 0,I 0,I 0,.sl .nil [],I 0,I 0,I 0,I 0,.sl .nil [],.sl .nil [],.sl .nil [],.sl .nil []]],ml++[0],ms,mn⟩) (fun f _=>0) ?_ ?_
 ·exact⟨zd,zd⟩
 rintro f m ⟨f22,rfl⟩;simp[f22,ey,IZ,ZR,Ko];refine⟨k4,k5,?_⟩;simp[Us]at hK;exact hK _ _
def yo(f:Int)(o:Od):En:={o.nw with ea:=if o.nw.ea<f then f else o.nw.ea}
def afr(g:Pg)(b:QR):Int:=Uf (fun e:En=>!(oA b e.id)) g.p.ens 0
def G6(g:Pg)(b:QR):Nat:=if afr g b<0 then g.p.ens.length else(afr g b).toNat
def oa(g:Pg)(f:Int)(b:QR)(o:Od):Pl:={g.p with ens:=g.p.ens.take (G6 g b)++yo f o::g.p.ens.drop (G6 g b)}
def afs{α:Type}(P:α->Bool)(L:List α)(i:Nat):Uf P L i= -1\/∃k:Nat,k<L.length/\Uf P L i=((i+k:Nat):Int):=by
 cases h:L.find? P with
 |none=>exact .inl (Qbj h)
 |some a=>
  obtain⟨k,h1,h2,_⟩:=Ke (i:=i) h;exact .inr ⟨k,(zza.1 h2).1,h1⟩
def aft(Y:YT)(m:AM)(rt:Rt)(kk:Nat)(K:So)(hK:K (I (-1)) m):aB Tryz.prog aD Y 148 [.sl rt [],.fn 149 [] [.ptr kk 0]] m K:=by
 obtain⟨mb,ml,ms,mn⟩:=m;refine aB.mono (aB.read (K:=fun r=>r=I (-1)) (Xn BZ (fun _ _ _=>.gd false .junk) zd ?_)) (by rintro r m' ⟨rfl,rfl⟩;exact hK);simp[MW];refine Qi eU (fun s m=>s 8=I 0/\m=⟨mb,ml,ms,mn⟩) (fun s _=>0) ?_ ?_
 ·exact⟨zd,rfl⟩
 rintro s m ⟨f8,rfl⟩;simp[f8,eU,Aj];exact nU
def ajh:UV:=fun _ f l=>if f=119 then l.headD .junk else if f=999999 then .aJ 0 []else .gd false .junk
def ZT:UV:=fun _ f l=>if f=119 then l.headD .junk else if f=999999 then .junk else .gd false .junk
def LB(Y:YT)(m:AM)(g:Pg)(f:Int)(mid:Nat)(b:QR)(o:Od)(hp:Bl g.p)(hb:fL m.boxes mid b)(ho:o.nw.al.length<=8796093022208)(K:So)
  (hK:∀ex V ls,mH (m.boxes++ex) V (oa g f b o).ens->GQ m.boxes.length V->K (.aS [.agg (Xr (oa g f b o) V (.sl .ro (g.p.cls.map Qg)) 0),.bool true]) {m with boxes:=m.boxes++ex,lens:=m.lens++ls}):
  aB Tryz.prog aD Y 93 [.agg (Qr g f mid),.agg (Qq o)] m K:=by
 obtain⟨mb,ml,ms,mn⟩:=m;have hoe:=Wv o.nw ho;simp only[Qd]at hoe;have hB:∀ex,fL (mb++ex) mid b:=fun ex=>⟨by have:=hb.1;simp at this |-;omega,hb.ext ex⟩;by_cases aO:g.p.ens=[]
 ·have kO:=fun ex K hK=>ZS Y ⟨mb++ex,ml,ms,mn⟩ g.p hp aO K hK;simp only[Qa]at kO;have hx:(oa g f b o).ens=[yo f o]:=by simp[oa,aO]
  refine Xn Tn ZT zd ?_;simp[akS,akT,Qr,Qm,Qa,Qq,Qd,Qg,Qk,ZT];refine kO _ _ fun c0 c1=>?_;simp[Us];refine aft _ _ _ _ _ ?_;simp;refine⟨hoe,afq _ _ ml.length _ rfl zd _ ?_⟩;simp;exact hK _ (.sl (.own ml.length 7) [Qd (yo f o)]) [1] (.inl ⟨_,by rw[hx];rfl,Dx.own _ _⟩) (GQ.sl _ _ _)
 have kO:=fun ex K hK=>x9 Y ⟨mb++ex,ml,ms,mn⟩ g.p hp aO K hK;simp only[Qa]at kO;refine Xn Tn ajh zd ?_;simp[akS,akT,Qr,Qm,Qa,Qq,Qd,Qg,Qk,ajh];refine kO _ _ fun c0 c1 bx=>?_;simp[Us,zzan];have hl9:g.p.ens.length<=1000000:=hp.2.2.1;refine aB.mono (LA _ _ g f mid mb.length b (mb.length+5) g.p.ens [] zE zd (by simp[Qr,Qm,Qa]) (hB _) zd (by simp[eE])) ?_;rintro r m' ⟨rfl,rfl⟩;have lF:0<g.p.ens.length:=zzdb.2 aO;rcases afs (fun e:En=>!(oA b e.id)) g.p.ens 0 with hI|⟨k,hk,hI⟩
 ·have hJ:G6 g b=g.p.ens.length:=by unfold G6 afr;rw[hI,if_pos zE]
  have hP:(oa g f b o).ens=g.p.ens++[yo f o]:=by simp[oa,hJ]
  rw[hI];simp[zzan];refine⟨hoe,afp _ _ _ _ _ (eE g.p.ens) (Qd (yo f o)) (Kg zd (by simp[eE])) (Kg zd (by simp[yo,Qd])) (Jb _) lF zE rfl rfl _ ?_⟩;simp[zzan];have h3:=fun ex k h1 h2 h4=>hK ex (.bs k 0 (g.p.ens.length+1) 7) [] (.inr ⟨k,[],by rw[hP];simp,h1,h2,rfl⟩) (GQ.bs h4);simp only[zzau]at h3;exact h3 _ (mb.length+(bx.length+9)) zd (by simp[hP,p6,Qd]) zd
 have hJ:G6 g b=k:=by unfold G6 afr;rw[hI,if_neg zE];omega
 have lI:Uf (fun e:En=>!(oA b e.id)) g.p.ens 0=(k:Int):=by rw[hI];omega
 have Eb:¬(k:Int)<0:=zE
 have hP:(oa g f b o).ens=g.p.ens.take k++yo f o::g.p.ens.drop k:=by simp[oa,hJ]
 rw[lI];simp[zzan,Eb];refine⟨hoe,Rp _ _ _ _ _ _ (eE (g.p.ens.take k)) (eE (g.p.ens.drop k)) (Qd (yo f o)) (Kg zd (by rw[<- p6,zzdo];simp[eE])) (Kg zd (by simp[yo,Qd])) zE rfl (by rw[Jb,zzaq];omega) (by rw[Jb,zzcw]) hk zE _ ?_⟩;simp[zzan];have h3:=fun ex k h1 h2 h4=>hK ex (.bs k 0 (g.p.ens.length+1) 7) [] (.inr ⟨k,[],by rw[hP];simp;omega,h1,h2,rfl⟩) (GQ.bs h4);simp only[zzau]at h3;exact h3 _ (mb.length+(bx.length+9)) zd (by simp[hP,p6,Qd]) zd
open Go Go.Abs
def G7(f:Int)(e:bC):bC:={e with fr:=if f-e.st<e.fr then f-e.st else e.fr}
def Vz(f:Int):List bC->List bC
 |[]=>[]
 |e::r=>if f<=e.st then Vz f r else G7 f e::Vz f r
def yp(f:Int):∀(l r:List bC),Vz f (l++r)=Vz f l++Vz f r
 |[],_=>rfl
 |e::l,r=>by
  simp only[zzae,Vz,yp f l r];split<;>rfl
def Qdt(f:Int):∀(l:List bC),(Vz f l).length<=l.length
 |[]=>zzab _
 |e::l=>by
  have:=Qdt f l;simp only[Vz];split<;>simp<;>omega
def aji(ml:Pa)(o:List bC)(v:AV)(ls:Pa):Prop:=(o=[]/\v=.sl .nil []/\ls=ml)\/(o≠[]/\v=.sl (.own ml.length 7) (o.map Qe)/\ls=ml++[o.length])
def atv(l:List bC)(F:Int)(mb:T5)(ml:Pa)(ms:Nat->LS)(mn:Nat)(g:Nat->AV)(m:AM):Prop:=
 ∃(i:Nat)(bx:T5)(ls:Pa),i<=l.length/\g 11=I i/\m=⟨mb++bx,ls,ms,mn⟩/\aji ml (Vz F (l.take i)) (g 5) ls
def ZU:UV:=fun _ g l=>if g=64 then l.headD .junk else .junk
def yq(Y:YT)(m:AM)(l:List bC)(f:Int)(hl:l.length<=1000000)(hs:∀e∈l,Kz e)(hf:0<=f/\f<=1000000)(K:So)
  (hK:∀ex v ls,aji m.lens (Vz f l) v ls->K v {m with boxes:=m.boxes++ex,lens:=ls}):aB Tryz.prog aD Y 105 [.sl .ro (l.map Qe),I f] m K:=by
 obtain⟨mb,ml,ms,mn⟩:=m;refine Xn abV ZU zd ?_;simp[Tv,agz];refine Qi u7 (atv l f mb ml ms mn) (fun g _=>l.length-(numOf (g 11)).toNat) ?_ ?_
 ·exact⟨0,[],ml,zE,zd,zd,.inl ⟨by simp[Vz],zd,rfl⟩⟩
 rintro g m ⟨i,bx,ls,hi,pG,rfl,aX⟩;rcases zzaa i l.length with ai|bq
 ·obtain⟨a,ha⟩:=aV ai;have ah:Qh (l.map Qe) i=Qe a:=Qu (by simp[ha]);have hw:=bP i zE;have bA:l.take (i+1)=l.take i++[a]:=by rw[zzb,ha];rfl
  have aa:(i:Int)<(l.length:Int):=zE
  obtain⟨⟨a1,a2⟩,⟨a3,a4⟩,a5,a6⟩:=hs a (zzad ha);have fO:=Qdt f (l.take i);have azk:(Vz f (l.take i)).length<=1000000:=by simp at fO;omega
  by_cases h1:f<=a.st
  ·have hb:Vz f (l.take (i+1))=Vz f (l.take i):=by rw[bA,yp];simp[Vz,h1]
   simp[pG,ah,ai,Qe,h1,hw,u7];refine⟨aQ,⟨i+1,_,ls,zE,zd,rfl,?_⟩,zE⟩
   ·rw[hb];exact aX
  have hb:Vz f (l.take (i+1))=Vz f (l.take i)++[G7 f a]:=by rw[bA,yp];simp[Vz,h1]
  have wf1:=wu f zE zE;have wf2:=wu a.st zE zE;have wf3:=wu a.fr zE zE;have wf4:=wu (f-a.st) zE zE;have wf5:IntKind.i64.wrap (f-a.st)=f-a.st:=by rw[Ql]<;>omega
  have qu:=Qcn a.al a6;obtain⟨fr',amM⟩:∃fr',fr'=if f-a.st<a.fr then f-a.st else a.fr:=⟨_,rfl⟩;have Ss:Qe (G7 f a)=[I a.id,I a.it,I a.st,I fr',I a.i,I a.re,.sl .ro (a.al.map Qf)]:=by rw[amM];rfl
  have sd:(0<a.fr/\f-a.st<a.fr/\fr'=f-a.st)\/(0<a.fr/\¬f-a.st<a.fr/\fr'=a.fr)\/(¬0<a.fr/\fr'=a.fr):=by
   rw[amM];by_cases h0:0<a.fr
   ·by_cases hc:f-a.st<a.fr
    ·exact .inl ⟨h0,hc,by simp[hc]⟩
    exact .inr (.inl ⟨h0,hc,by simp[hc]⟩)
   exact .inr (.inr ⟨h0,by rw[if_neg zE]⟩)
  have vU:(Vz f (l.take (i+1))).length=(Vz f (l.take i)).length+1:=by rw[hb];simp
  have Ro:Vz f (l.take (i+1))≠[]:=by rw[hb];simp
  have fin:(Vz f (l.take (i+1))).map Qe=(Vz f (l.take i)).map Qe++[[I a.id,I a.it,I a.st,I fr',I a.i,I a.re,.sl .ro (a.al.map Qf)]]:=by rw[hb,zzci,<- Ss];rfl
  clear amM Ss;have XT:=aX;clear aX;obtain⟨e0,h5,rfl⟩|⟨e0,h5,rfl⟩:=XT
  ·rw[e0]at fin vU;obtain⟨h0,hc,rfl⟩|⟨h0,hc,rfl⟩|⟨h0,rfl⟩:=sd
   all_goals
    simp[Qe,ZU,u7, *];refine⟨aQ,⟨i+1,_,_,zE,zd,rfl,.inr ⟨Ro,?_,?_⟩⟩,zE⟩
    ·simp[fin]
    rw[vU];rfl
  obtain⟨h0,hc,rfl⟩|⟨h0,hc,rfl⟩|⟨h0,rfl⟩:=sd
  all_goals
   simp[Qe,ZU,u7, *];refine⟨⟨by rintro row (⟨x,_,rfl⟩|rfl)<;>rfl,zE⟩,ag ?_,⟨i+1,_,_,zE,zd,rfl,.inr ⟨Ro,?_,?_⟩⟩,zE⟩
   ·repeat(first|exact Qb _ _|refine Qc _ rfl ?_)
   ·simp[fin]
   rw[vU]
 have hbf:l.take i=l:=zzat bq;rw[hbf]at aX;simp[pG,zzbk.2 bq,u7];exact hK _ _ _ aX
open Go Go.Abs
def yt(n a b:Int)(ha:0<=a/\a<=1000000000)(hb:0<=b/\b<=1000000000):Pure Tryz.prog aD 165 [I n,I a,I b] (.bool (decide (n=a+b))):=by
 have hw:IntKind.i64.wrap (a+b)=a+b:=by rw[Ql]<;>omega
 have h1:¬a<0:=zE
 have h2:¬b<0:=zE
 have h3:¬a+b<0:=zE
 refine Qp acM (fun _ _ _=>.junk) zd ?_;by_cases h:n=a+b<;>simp[ahf,ahg,hw,h1,h2,h3,h]
def Rq(e:bC):Ad:=⟨e.it,0,e.st,e.fr⟩
def rG(n:Int):List Ad->List Ad
 |[]=>[]
 |[a]=>[{a with fs:=a.fs+n}]
 |a::b::r=>a::rG n (b::r)
def G8(n:Int)(a:Ad):∀l:List Ad,rG n (l++[a])=l++[{a with fs:=a.fs+n}]
 |[]=>rfl
 |[x]=>rfl
 |x::y::r=>by have:=G8 n a (y::r);simp only[zzae]at this |-;rw[rG,this]
def yu(x e:bC):Prop:=x.id=e.id/\e.st=x.st+x.fr/\e.i=x.i+x.fr
instance (x e:bC):Decidable (yu x e):=by unfold yu;infer_instance
def Yw(x:Option bC)(e:bC)(out:List Ad):List Ad:=
 if e.id=0 then out else match x with
 |none=>out++[Rq e]
 |some x=>if yu x e then rG e.fr out else out++[Rq e]
def tY:Option bC->List bC->List Ad->List Ad
 |_,[],out=>out
 |x,e::r,out=>tY (some e) r (Yw x e out)
def Rr(l:List bC)(f:Int):List Ad:=tY none (Vz f l) []
def Bt(e:bC):∀(l:List bC)(x:Option bC)(out:List Ad),tY x (l++[e]) out=Yw (match l.getLast? with|some y=>some y|none=>x) e (tY x l out)
 |[],_,_=>rfl
 |[a],_,_=>rfl
 |a::b::r,x,out=>by
  have:=Bt e (b::r) (some a) (Yw x a out);simp only[zzae]at this |-
  rw[tY,this,List.getLast?_cons_cons];congr 1
def afu{n:Int}:∀{l:List Ad},l≠[]->rG n l≠[]
 |[],h=>absurd rfl h
 |[a],_=>by simp[rG]
 |a::b::r,_=>by simp[rG]
def rH{B:List bC}{i:Nat}{e:bC}(h:B[i]?=some e):tY none (B.take (i+1)) []=Yw (if i=0 then none else B[i-1]?) e (tY none (B.take i) []):=by
 have ai:=(zza.1 h).1;rw[zzb,h];show tY none (B.take i++[e]) []=_;rw[Bt];congr 1;cases i with
 |zero=>rfl
 |succ i=>
  have hx:B[i]?=some B[i]:=zzaf zE;rw[zzb,hx,Option.toList_some,List.getLast?_concat,if_neg zE,zzgc,hx]
def Ot{B:List bC}:∀{i:Nat}{e:bC},B[i]?=some e->e.id≠0->tY none (B.take (i+1)) []≠[]
 |0,e,h,h0=>by rw[rH h,if_pos rfl];simp[Yw,h0]
 |i+1,e,h,h0=>by
  rw[rH h,if_neg zE,zzgc];have ai:=(zza.1 h).1;obtain⟨x,hx⟩:∃x,B[i]?=some x:=⟨_,zzaf zE⟩;rw[hx];unfold Yw;rw[if_neg h0];simp only;split
  ·rename_i hj;exact afu (Ot hx (by rw[hj.1];exact h0))
  simp
def oc(f:Int)(hf:f<=1000000):∀(l:List bC),(∀e∈l,Kz e)->∀e∈Vz f l,Kz e
 |[],_,e,h=>by cases h
 |a::r,hs,e,h=>by
  have ih:=oc f hf r fun e he=>hs e (by simp[he]);rw[Vz]at h;split at h
  ·exact ih e h
  rename_i bY;rcases zzap.1 h with rfl|h
  ·obtain⟨⟨a1,a2⟩,⟨a3,a4⟩,a5,a6⟩:=hs a zd;refine⟨⟨a1,a2⟩,?_,a5,a6⟩;simp only[G7];split<;>omega
  exact ih e h
def FsB(n:Int)(out:List Ad):Prop:=∀a∈out,0<=a.fs/\a.fs<=n
def FsB.inc{n k:Int}(hk:0<=k/\k<=1000000):∀{l:List Ad},FsB n l->FsB (n+1000000) (rG k l)
 |[],_,a,h=>by cases h
 |[x],hl,a,h=>by
  have:=hl x zd;simp only[rG,zzca]at h;subst h;simp only;omega
 |x::y::r,hl,a,h=>by
  rw[rG]at h;rcases zzap.1 h with rfl|h
  ·have:=hl a zd;omega
  exact FsB.inc hk (l:=y::r) (fun b hb=>hl b (by simp[hb])) a h
def FsB.step{n:Int}{x:Option bC}{e:bC}{out:List Ad}(h:FsB n out)(hn:0<=n)(he:Kz e):FsB (n+1000000) (Yw x e out):=by
 obtain⟨_,h3,_⟩:=he;have hw:FsB (n+1000000) out:=fun a ha=>by have:=h a ha;omega
 have hp:FsB (n+1000000) (out++[Rq e]):=fun a ha=>by
  rcases zzam.1 ha with ha|ha
  ·exact hw a ha
  simp only[zzca]at ha;subst ha;simp only[Rq];omega
 unfold Yw;split
 ·exact hw
 cases x with
 |none=>exact hp
 |some x=>
  simp only;split
  ·exact h.inc h3
  exact hp
def G9(B:List bC)(x:Option bC)(out:List Ad):(tY x B out).length<=out.length+B.length:=by
 induction B generalizing x out with
 |nil=>simp[tY]
 |cons e r ih=>
  rw[tY];have h1:=ih (some e) (Yw x e out)
  have h2:(Yw x e out).length<=out.length+1:=by
   have hi:∀(k:Int)(l:List Ad),(rG k l).length=l.length:=by
    intro k l;induction l with
    |nil=>rfl
    |cons a r ih=>cases r with
     |nil=>rfl
     |cons b r=>rw[rG,zzaz,ih];rfl
   unfold Yw;split
   ·omega
   cases x with
   |none=>simp
   |some x=>
    simp only;split
    · rw[hi];omega
    simp
  simp only[zzaz];omega
def td(l:List Ad):P2:=(l.map Vi).flatten
def uQ:∀l,(td l).length=l.length*4
 |[]=>rfl
 |a::r=>by have:=uQ r;simp only[td,zzbb,zzcj,zzak]at this |-;rw[this];simp[Vi];omega
def afv(a b:List Ad):td (a++b)=td a++td b:=by simp[td]
def amN(l:List Ad):Zm (td l)=true:=kU (fun _=>rfl) l
def Ru{bx:T5}{k:Nat}{c:P2}(h:k<bx.length)(ex:T5):Qh (bx.set k c++ex) k=c:=
 Qu (by rw[zzaj (Nm h)];simp[h])
def rI(bx:T5)(k:Nat)(c p q r:P2):Qh (bx.set k c++[p,q,r]) (bx.length+2)=r:=
 Qu (by rw[zzao zd];simp)
def Rv(l:List Ad):aY 4 l.length (td l)=l.map Vi:=by
 have:=Qbw (sz:=4) (rows:=l.map Vi) (kV (f:=Vi) (fun _=>rfl) l);rw[zzbv]at this;exact this
def Ou(bx:T5)(o:List Ad)(v:AV):Prop:=(o=[]/\v=.sl .nil [])\/(o≠[]/\∃k,v=.bs k 0 o.length 4/\k<bx.length/\Qh bx k=td o)
def atw(B:List bC)(ls:Pa)(g:Nat->AV)(m:AM):Prop:=
 ∃(i:Nat)(bx:T5),g 15=I i/\i<=B.length/\m=⟨bx,ls,fun _=>.gone,0⟩/\Ou bx (tY none (B.take i) []) (g 5)/\FsB (i*1000000) (tY none (B.take i) [])
def mM:UV:=fun d f l=>if f=105 then .gd false .junk else if f=165 then(match l with|[.int _ n,.int _ a,.int _ b]=>.bool (decide (n=a+b))|_=>.junk)else if f=999999 then(if d=73 then .junk else .aJ 0 [])else .junk
def Ou.ext{bx:T5}{o:List Ad}{v:AV}(h:Ou bx o v)(ex:T5):Ou (bx++ex) o v:=by
 obtain h|⟨h0,k,h1,h2,h3⟩:=h
 ·exact .inl h
 exact .inr ⟨h0,k,h1,by simp;omega,by rw[Qn h2,h3]⟩
def LC(l:List bC)(f:Int)(hl:l.length<=1000000)(hs:∀e∈l,Kz e)(hf:0<=f/\f<=1000000):Pure Tryz.prog aD 109 [.sl .ro (l.map Qe),I f] (.sl .ro ((Rr l f).map Vi)):=by
 have hsB:=oc f hf.2 l hs;have hlB:(Vz f l).length<=1000000:=by have:=Qdt f l;omega
 have:Pure Tryz.prog aD 109 [.sl .ro (l.map Qe),I f] (.sl (if Rr l f=[]then .nil else .ro) ((Rr l f).map Vi)):=by
  refine Qp abY mM zd ?_;simp[Tw,agD,mM];refine yq _ _ l f hl hs hf _ fun ex v ls hO=>?_
  obtain⟨rt,rfl⟩:∃rt,v=.sl rt ((Vz f l).map Qe):=by
   obtain⟨e,rfl,_⟩|⟨e,rfl,_⟩:=hO
   ·exact⟨.nil,by rw[e];rfl⟩
   exact⟨_,rfl⟩
  clear hO;unfold Rr;generalize Vz f l=B at*
  simp;refine Qi dU (atw B ls) (fun g _=>B.length-(numOf (g 15)).toNat) ?_ ?_
  ·exact⟨0,ex,zd,zE,zd,.inl ⟨by simp[tY],zd⟩,fun a h=>by simp[tY]at h⟩
  rintro g m ⟨i,bx,sJ,hi,rfl,hO,hF⟩;rcases zzaa i B.length with ai|bq
  ·obtain⟨a,ha⟩:=aV ai;have ah:Qh (B.map Qe) i=Qe a:=Qu (by simp[ha]);have hw:=bP i zE;have aa:(i:Int)<(B.length:Int):=zE
   have lN:=hsB a (zzad ha);have bA:=rH ha;have Rw:=hF.step (x:=if i=0 then none else B[i-1]?) (e:=a) zE lN;rw[<- bA]at Rw;obtain⟨⟨a1,a2⟩,⟨a3,a4⟩,⟨a5,a6⟩,a7⟩:=lN;by_cases h0:a.id=0
   ·simp[sJ,ah,ai,Qe,h0,dU,hw];refine⟨aQ,⟨i+1,_,zd,zE,rfl,?_,?_⟩,zE⟩
    ·simp[Yw,h0]at bA;rw[bA];simpa using hO.ext _
    have:((i+1:Nat):Int)*1000000=(i:Int)*1000000+1000000:=zE
    rw[this];exact Rw
   cases i with
   |zero=>
    have e1:tY none (B.take 1) []=[Rq a]:=by rw[bA];simp[Yw,h0,tY]
    have hO0:g 5=.sl .nil []:=by
     obtain⟨_,h⟩|⟨h,_⟩:=hO
     ·exact h
     exact absurd (by simp[tY]) h
    have lM:IntKind.i64.wrap 1=1:=by rw[Ql]<;>omega
    simp at sJ;simp[sJ,ah,ai,Qe,h0,dU,lM,hO0,mM];refine⟨aQ,⟨1,_,zd,zE,rfl,.inr ⟨by rw[e1];simp,bx.length+1,by simp[e1],zd,?_⟩,?_⟩,zE⟩
    ·simp[e1,td,Vi,Rq]
    simpa using Rw
   |succ i=>
    have ax9:i<B.length:=zE
    obtain⟨x,hx⟩:=aV ax9;have yw:Qh (B.map Qe) i=Qe x:=Qu (by simp[hx]);obtain⟨⟨x1,x2⟩,⟨x3,x4⟩,⟨x5,x6⟩,x7⟩:=hsB x (zzad hx);have k1:=yt a.st x.st x.fr zE zE;have k2:=yt a.i x.i x.fr zE zE;have Sw:IntKind.i64.wrap (i:Int)=i:=by rw[Ql]<;>omega
    have yx:(i:Int)<(B.length:Int):=zE
    have lF:(0:Int)<(i:Int)+1:=zE
    rw[if_neg zE,zzgc,hx]at bA;have aO:=Ot hx;have AW:((i+1+1:Nat):Int)*1000000=((i+1:Nat):Int)*1000000+1000000:=zE
    have zF:=G9 (B.take (i+1)) none [];have amO:¬yu x a->tY none (B.take (i+1+1)) []=tY none (B.take (i+1)) []++[Rq a]:=fun h=>by rw[bA];simp[Yw,h0,h]
    have LD:yu x a->tY none (B.take (i+1+1)) []=rG a.fr (tY none (B.take (i+1)) []):=fun h=>by rw[bA];simp[Yw,h0,h]
    rw[<- AW]at Rw;clear bA;generalize tY none (B.take (i+1)) []=out at*
    generalize cO:tY none (B.take (i+1+1)) []=out' at*
    simp at sJ ai aa hw zF;have atx:out.length<=1000000:=zE
    by_cases hj:yu x a
    ·have e1:=LD hj;obtain⟨j1,j2,j3⟩:=hj;have aO:=aO (by rw[j1];exact h0)
     obtain⟨O,z,rfl⟩:∃O z,out=O++[z]:=by
      rcases zzhf out with e|⟨O,z,e⟩
      ·exact absurd e aO
      exact⟨O,z,by rw[e,zzhg]⟩
     have hOl:(td O).length=O.length*4:=uQ O;have hz:=hF z zd;have hwz:IntKind.i64.wrap (z.fs+a.fr)=z.fs+a.fr:=by rw[Ql]<;>omega
     have afw:∀X:P2,(td O++X).drop (O.length*4+3)=X.drop 3:=fun X=>Bp _ _ _ _ hOl;have hs3:∀X Y:P2,setA (td O++X) (O.length*4+3) Y=td O++setA X 3 Y:=fun X Y=>Bo _ _ _ _ _ hOl;obtain⟨e,_⟩|⟨_,k,h5,hk,hr⟩:=hO
     ·exact absurd e aO
     have hR:∀ex,Qh (bx++ex) k=td O++[I z.it,I z.re,I z.fr,I z.fs]:=fun ex=>by rw[Qn hk,hr,afv];rfl
     rw[G8]at e1;rw[zzak,zzhc]at h5;have hwo:IntKind.i64.wrap (O.length:Int)=O.length:=by simp at atx;rw[Ql]<;>omega
     have qv:k<bx.length+1:=zE
     have ZV:k<bx.length+(1+1):=zE
     have aya:k<bx.length+2:=zE
     simp[sJ,ah,aa,Qe,h0,dU,hw,yw,yx,lF,Sw,mM,j1,j2,j3,h5,hR,hwo,afw,hs3,hOl,hwz,hk,ZV];refine⟨zE,by rw[j2]at k1;simpa using k1,by rw[j3]at k2;simpa using k2,zE,aQ,⟨i+1+1,_,zd,zE,rfl,.inr ⟨by rw[cO,e1];simp,k,by rw[cO,e1];simp,by simp;omega,?_⟩,by rw[cO];exact Rw⟩,zE⟩
     ·rw[cO,e1,Ru hk];simp[td,Vi]
    have e1:=amO hj
    have fP:¬x.id=a.id\/(x.id=a.id/\¬a.st=x.st+x.fr)\/(x.id=a.id/\a.st=x.st+x.fr/\¬a.i=x.i+x.fr):=by
     unfold yu at hj;by_cases j1:x.id=a.id
     ·by_cases j2:a.st=x.st+x.fr
      ·exact .inr (.inr ⟨j1,j2,fun j3=>hj ⟨j1,j2,j3⟩⟩)
      exact .inr (.inl ⟨j1,j2⟩)
     exact .inl j1
    obtain⟨rfl,h5⟩|⟨Ro,k,h5,hk,hr⟩:=hO
    ·obtain j1|⟨j1,j2⟩|⟨j1,j2,j3⟩:=fP
     ·simp[sJ,ah,aa,Qe,h0,dU,hw,yw,yx,lF,Sw,mM,j1,h5];refine⟨zE,aQ,⟨i+1+1,_,zd,zE,rfl,.inr ⟨by rw[cO,e1];simp,bx.length+2,by rw[cO,e1];simp,zd,?_⟩,by rw[cO];exact Rw⟩,zE⟩
      ·rw[cO,e1];simp[td,Vi,Rq]
     ·simp[sJ,ah,aa,Qe,h0,dU,hw,yw,yx,lF,Sw,mM,j1,j2,h5];refine⟨zE,by simpa[j2]using k1,aQ,⟨i+1+1,_,zd,zE,rfl,.inr ⟨by rw[cO,e1];simp,bx.length+2,by rw[cO,e1];simp,zd,?_⟩,by rw[cO];exact Rw⟩,zE⟩
      ·rw[cO,e1];simp[td,Vi,Rq]
     simp[sJ,ah,aa,Qe,h0,dU,hw,yw,yx,lF,Sw,mM,j1,j2,j3,h5];refine⟨zE,by rw[j2]at k1;simpa using k1,by simpa[j3]using k2,aQ,⟨i+1+1,_,zd,zE,rfl,.inr ⟨by rw[cO,e1];simp,bx.length+2,by rw[cO,e1];simp,zd,?_⟩,by rw[cO];exact Rw⟩,zE⟩
     ·rw[cO,e1];simp[td,Vi,Rq,j2]
    have hR:∀ex,Qh (bx++ex) k=td out:=fun ex=>by rw[Qn hk,hr]
    have qv:k<bx.length+1:=zE
    have ZV:k<bx.length+(1+1):=zE
    have aya:k<bx.length+2:=zE
    have hlo:=uQ out;have amP:¬td out=[]:=by intro h;rw[h]at hlo;exact Ro (zzbf (by simp at hlo;omega))
    have ZA:List.take (out.length*4) (td out)=td out:=zzat zE;obtain j1|⟨j1,j2⟩|⟨j1,j2,j3⟩:=fP
    ·simp[sJ,ah,aa,Qe,h0,dU,hw,yw,yx,lF,Sw,mM,j1,h5,hR,hk,ZV,hlo,amP,ZA];refine⟨zE,zE,aQ,⟨i+1+1,_,zd,zE,rfl,.inr ⟨by rw[cO,e1];simp,bx.length+2,by rw[cO,e1];simp,zd,?_⟩,by rw[cO];exact Rw⟩,zE⟩
     ·rw[cO,e1,rI];simp[td,Vi,Rq]
    ·simp[sJ,ah,aa,Qe,h0,dU,hw,yw,yx,lF,Sw,mM,j1,j2,h5,hR,hk,ZV,hlo,amP,ZA];refine⟨zE,by simpa[j2]using k1,zE,aQ,⟨i+1+1,_,zd,zE,rfl,.inr ⟨by rw[cO,e1];simp,bx.length+2,by rw[cO,e1];simp,zd,?_⟩,by rw[cO];exact Rw⟩,zE⟩
     ·rw[cO,e1,rI];simp[td,Vi,Rq]
    simp[sJ,ah,aa,Qe,h0,dU,hw,yw,yx,lF,Sw,mM,j1,j2,j3,h5,hR,hk,ZV,hlo,amP,ZA];refine⟨zE,by rw[j2]at k1;simpa using k1,by simpa[j3]using k2,zE,aQ,⟨i+1+1,_,zd,zE,rfl,.inr ⟨by rw[cO,e1];simp,bx.length+2,by rw[cO,e1];simp,zd,?_⟩,by rw[cO];exact Rw⟩,zE⟩
    ·rw[cO,e1,rI];simp[td,Vi,Rq,j2]
  obtain rfl:i=B.length:=zE
  rw[zzbz]at hO;obtain⟨e,h5⟩|⟨e,k,h5,hk,hr⟩:=hO
  ·simp[sJ,dU,h5,e]
  simp[sJ,dU,h5,e];rw[hr,Va _ _ (amN _),uQ,if_pos (zzab _),Rv]
 exact Zh this (Wk.sl _ _)
