import Derived.Test.YtnopaopphmjnmaaGreatDoorMLMbU
import Derived.Test.YtnopaopphmjnmaaGreatDoorMLMbW
set_option linter.all false
set_option maxRecDepth 100000
set_option maxHeartbeats 64000000
namespace Go.Proofs.YtnopaopphmjnmaaGreatDoor
open Go Go.Abs
def aac(Y:YT)(m:AM)(g:Pg)(f:Int)(mid kk:Nat)(b:List (Int×Bool))(e:En)(hk:kk<m.boxes.length)(hr:Qh m.boxes kk=Qu g f mid)(hb:gj m.boxes mid b):
  an Tryz.prog az Y 219 [.agg (Qd e),.ptr kk 0] m (fun r m'=>m'=m/\r=.bool !(ze b e.id)):=by
 obtain⟨mb,ml,ms,mn⟩:=m;have hR:∀ex,Qh (mb++ex) mid=[.aJ 0 (bH .bool b)]:=hb.ext;have hM:∀ex,Qh (mb++ex) kk=Qu g f mid:=fun ex=>by rw[Ql hk];exact hr
 simp only[Qu,Qo,Qb,zzae,zzai]at hM;refine an.read (Xe adx (fun _ _ _=>.junk) (by simp) ?_);rcases Xr AV.bool e.id b 0 with⟨b1,b2,_⟩|⟨u,u',b1,b2,_⟩
 ·simp[UX,UY,Qd,hM,hR,ze,b1,b2];exact iI
 cases u<;>simp[UX,UY,Qd,hM,hR,ze,b1,b2]<;>exact iI
def asY(Y:YT)(m:AM)(g:Pg)(f:Int)(mid kk:Nat)(b:List (Int×Bool))(e:En)(hk:kk<m.boxes.length)(hr:Qh m.boxes kk=Qu g f mid)(hb:gj m.boxes mid b)(K:AV->AM->Prop)(hK:K (.bool !(ze b e.id)) m):
  an Tryz.prog az Y 219 [.agg (Qd e),.ptr kk 0] m K:=
 an.mono (aac Y m g f mid kk b e hk hr hb) (by rintro r m' ⟨rfl,rfl⟩;exact hK)
def LO(Y:YT)(m:AM)(g:Pg)(f:Int)(mid kk:Nat)(b:List (Int×Bool))(k:Nat)(L:List En)(z:List AV)(hl:L.length<=1000000000)(hk:kk<m.boxes.length)(hr:Qh m.boxes kk=Qu g f mid)(hb:gj m.boxes mid b)(hV:k<m.boxes.length)(hrV:Qh m.boxes k=eH L++z):
  an Tryz.prog az Y 218 [.bs k 0 L.length 7,.fn 219 [] [.ptr kk 0]] m (fun r m'=>m'=m/\r=I (Ur (fun e:En=>!(ze b e.id)) L 0)):=by
 obtain⟨mb,ml,ms,mn⟩:=m;have aH:=Uz L;have k1:=fun e K hK=>asY Y ⟨mb,ml,ms,mn⟩ g f mid kk b e hk hr hb K hK;refine an.read (Xe Cd (fun _ _ _=>.gd false .junk) (by simp) ?_);simp[Ns];refine Qi fh (fun s m=>∃i:Nat,s 8=I i/\i<=L.length/\Ur (fun e:En=>!(ze b e.id)) (L.drop i) i=Ur (fun e:En=>!(ze b e.id)) L 0/\m=⟨mb,ml,ms,mn⟩) (fun s _=>L.length-(numOf (s 8)).toNat) ?_ ?_
 ·exact⟨0,by simp,by omega,by simp,rfl⟩
 rintro s m ⟨i,f8,hi,hidx,rfl⟩;rcases zzaa i L.length with ai|bu
 ·obtain⟨x,hx⟩:=aS ai;have hg:=Dy hx;simp only at hrV
  have ah:(Qh mb k).drop (i*7)=I x.id::I x.it::I x.fr::I x.ea::I x.la::I x.bo::.sl .ro (x.al.map Qe)::(eH (L.drop (i+1))++z):=by
   rw[hrV,zzdp (by rw[Uz];omega),hg];rfl
  have aa:(i:Int)<(L.length:Int):=by omega
  have hw:=bJ i (by omega);have hd:L.drop i=x::L.drop (i+1):=by rw[zzaf ai,(zza.1 hx).2]
  have kx:=k1 x;simp only[Qd]at kx;rw[hd,Ur]at hidx;cases hP:ze b x.id with
  |false=>
   rw[if_pos (by simp[hP])]at hidx;simp[f8,fh,aa,ah];refine kx _ ?_;simp[hP,An,hidx];exact iI
  |true=>
   rw[if_neg (by simp[hP])]at hidx;simp[f8,fh,aa,ah];refine kx _ ?_;simp[hP,hw];refine⟨aO,⟨i+1,by simp,by omega,hidx⟩,by omega⟩
 obtain rfl:i=L.length:=by omega
 rw[zzbo,Ur]at hidx;simp[f8,fh,An,<- hidx];exact iI
open Go Go.Abs Go.RowKit
def G7:bC Tryz.prog 220:=by
 first|exact Ce.bC|(unfold bC;decide)|kernel_rfl
def R9(Y:YT)(m:AM)(id gO i n:Nat)(A C V:List AV)(aN:m.boxes[id]?=some (A++C))(fQ:m.boxes[gO]?=some V)(aK:gO≠id)(hV:V.length=7)(hA:A.length=i*7)(hC:C.length=(n-i)*7)
  (hi:i<n)(hn:n+1<=1000000000)(K:AV->AM->Prop)(hK:K (.bs m.boxes.length 0 (n+1) 7) {m with boxes:=m.boxes.set id []++[A++(V++C)]}):an Tryz.prog az Y 220 [.bs id 0 n 7,I i,.bs gO 0 1 7] m K:=by
 refine an.fV G7 fun N w0 aq γ w vs hm hl hr=>?_
 obtain⟨v1,r1,rfl,g1,y6⟩:∃v1 r1,vs=v1::r1/\aB w γ (.bs id 0 n 7) v1/\ak w γ [I i,.bs gO 0 1 7] r1:=by
  cases vs with
  |nil=>have:=hr.1;simp at this
  |cons v r=>exact⟨v,r,rfl,hr.2 0 _ _ rfl rfl,⟨by have:=hr.1;simp at this |-;omega,fun k c u h1 h2=>hr.2 (k+1) c u (by simpa using h1) (by simpa using h2)⟩⟩
 obtain⟨v2,r2,rfl,g2,iu⟩:∃v2 r2,r1=v2::r2/\aB w γ (I i) v2/\ak w γ [.bs gO 0 1 7] r2:=by
  cases r1 with
  |nil=>have:=y6.1;simp at this
  |cons v r=>exact⟨v,r,rfl,y6.2 0 _ _ rfl rfl,⟨by have:=y6.1;simp at this |-;omega,fun k c u h1 h2=>y6.2 (k+1) c u (by simpa using h1) (by simpa using h2)⟩⟩
 obtain⟨v3,rfl,g3⟩:=Ud iu;cases g2;obtain⟨b,cap,arr,te,hβ,rfl,dZ,hh,hs⟩:=g1.cI;obtain⟨vb,asZ,uQ,tv,hβv,rfl,hlv,hhv,hsv⟩:=g3.cI;have hB:m.B id=some (A++C):=aN;have ri:m.B gO=some V:=fQ
 have aj8:A++C≠[]:=by
  intro h;have:=congrArg List.length h;simp only[zzah,hA,hC,zzch]at this;omega
 have as0:V≠[]:=by rintro rfl;simp at hV
 have X5:vb≠b:=by
  rintro rfl;rcases hm.inj _ _ _ hβ hβv with h|h|h
  ·rw[hB]at h;exact aj8 (Option.some.inj h)
  ·rw[ri]at h;exact as0 (Option.some.inj h)
  exact aK h.symm
 obtain⟨bT,JU,q2,q3,q4⟩:=hm.box id _ b hB hβ;rw[hh]at q2;cases q2;obtain⟨ayn,tv',p2,p3,p4⟩:=hm.box gO _ vb ri hβv;rw[hhv]at p2;cases p2;have hvl:=p3.1;simp only[zzbi,hV]at hvl
 have hVr:ak w γ V (uQ.toList.take 7):=by
  refine⟨by simp only[zzaq,zzbi,hV];omega,fun k c v g1 g2=>?_⟩;have hk:=(zza.1 g1).1;rw[zzbj,if_pos (by omega)]at g2;exact p3.2 k c v g1 g2
 have hvo:∀v∈uQ.toList.take 7,v.oneCell'=true:=fun v hv=>p4 v (zzca hv);have hi7:(i+1)*7=A.length+V.length:=by rw[hA,hV];omega
 simp only[zzbv]at hs;by_cases cB:n+1<=cap
 ·have fW:=R6 b n cap i vb asZ arr uQ te tv w hi cB hn X5 hh hhv hs hvl q4 p4;have PT:(n+1)*7<=cap*7:=zzba _ cB;rw[hi7,<- hA,<- hC]at fW;obtain⟨e1,m1⟩:=R7 hm aN aj8 hβ hh hVr hvo (by rw[hA,hC,hV];omega);refine fW.mono ?_;rintro e w' ⟨rfl,rfl⟩;have hh':w.drew.heap[b]?=some (.cells arr te (0,0)):=hh;refine⟨_,_,.bs m.boxes.length 0 (n+1) 7,_,rfl,e1.dD,m1,hl.mono' e1 rfl,.bs (by simp[G.box]) cB (Xa b _ _ _ _ te _ (Xa b _ _ _ arr te _ hh')) (by rw[Vb,Vb];omega),hK⟩
 have fW:=aab b n cap i vb asZ arr uQ te tv w hi dZ (by omega) hn X5 hh hhv hs hvl q4 p4;refine fW.mono ?_;rintro e w' ⟨Gc,og,zs,hG,rfl,hR,hz,hGR,hzo,rfl⟩;rw[<- hA]at hR;obtain⟨e1,m1⟩:=afZ (te2:=36) hm aN hβ hh hVr hvo hR (by rw[hC,hV];omega) hzo (by simp[as0]);rw[hi7,<- hA,<- hC];refine⟨_,_,.bs m.boxes.length 0 (n+1) 7,_,rfl,e1.dD,m1,hl.mono' e1 rfl,.bs (by simp[G.box]) hG (Xa _ _ _ _ _ 36 _ (Xa _ _ _ (w.drew.alloc (.cells og 36)) og 36 _ (Yf w _))) (by rw[Vb,Vb];omega),hK⟩
open Go Go.Abs
def Jz{B:List (List AV)}{id:Nat}{c:List AV}(h:id<B.length)(hr:Qh B id=c):B[id]?=some c:=by
 rw[Uc h,hr]
def af0(Y:YT)(m:AM)(id gO n:Nat)(A V:List AV)(aN:m.boxes[id]?=some A)(fQ:m.boxes[gO]?=some V)(hA:A.length=n*7)(hn:0<n)(hn9:n<=1000000000)(hV:V.length=7)(okV:Zg V=true)
  (K:AV->AM->Prop)(hK:K (.bs m.boxes.length 0 (n+1) 7) {m with boxes:=m.boxes.set id []++[A++V]}):an Tryz.prog az Y 220 [.bs id 0 n 7,I n,.bs gO 0 1 7] m K:=by
 obtain⟨mb,ml,ms,mn⟩:=m;have r1:=Qs aN;have r2:=Qs fQ;have l1:=(zza.1 aN).1;have l2:=(zza.1 fQ).1;simp only at r1 r2 l1 l2 hK;have aK:¬A=[]:=by rintro rfl;simp at hA;omega
 refine Xe Ce (fun _ _ _=>.junk) (by simp) ?_;simp[UZ,U0,r1,r2,l1,l2,hA,hV,aK];refine⟨by omega,?_⟩;rw[zzap (by omega),zzap (by omega)];exact hK
def af1(Y:YT)(m:AM)(k:Nat)(row:List AV)(ah:row.length=7)(hk:m.lens[k]?=some 0)(K:AV->AM->Prop)(hK:K (.sl (.own k 7) [row]) {m with lens:=m.lens.set k 1}):
  an Tryz.prog az Y 220 [.sl (.own k 7) [],I 0,.sl .full [row]] m K:=by
 obtain⟨mb,ml,ms,mn⟩:=m;refine Xe Ce (fun _ _ _=>.junk) (by simp) ?_;simp[UZ,U0,ah];exact⟨hk,hK⟩
def aad(Y:YT)(m:AM)(K:AV->AM->Prop)(hK:K (.sl (.own m.lens.length 7) []) {m with lens:=m.lens++[0]}):an Tryz.prog az Y 126 [.sl .ro []] m K:=by
 refine Xe BS (fun _ _ _=>.junk) (by simp) ?_;simp[MW,MX];exact hK
def aae(p:Pl):Nat->FuncId->List AV->AV:=fun d f l=>if f=126 then .gd false .junk else Ki p d f l
def aaf(Y:YT)(m:AM)(p:Pl)(h:Bo p)(hn:p.ens=[])(K:AV->AM->Prop)
  (hK:∀c0 c1,K (.agg (Uo p (.sl (.own m.lens.length 7) []))) {m with boxes:=m.boxes++[c0,c1],lens:=m.lens++[0]}):an Tryz.prog az Y 61 [.agg (Qb p)] m K:=by
 obtain⟨mb,ml,ms,mn⟩:=m;obtain⟨h1,h2,h3,h4,h5,h6⟩:=h;have k1:=pW p.sh (by omega);have k2:=pX p.aL (by omega);have k4:=pY p.bks (by omega);have k5:=Ds p.cls (by omega);refine Xe u7 (aae p) (by simp) ?_;simp[IY,Qb,aae,Ki,hn];refine⟨k1,k2,aad _ _ _ ?_⟩;simp;refine Qi ez (fun f m=>f 22=I 0/\m=⟨mb++[[I p.ch,I p.nu,I p.de,I p.of,.sl .ro (p.sh.map Qe),I p.ep,I p.rg,I p.ln,I p.fi,.sl .ro (p.aL.map Qm),.sl (.own ml.length 7) [],.sl .ro (p.bks.map Xg),.sl .ro (p.cls.map Qg)],[I 0,I 0,I 0,I 0,.sl .nil [],I 0,I 0,I 0,I 0,.sl .nil [],.sl .nil [],.sl .nil [],.sl .nil []]],ml++[0],ms,mn⟩) (fun f _=>0) ?_ ?_
 ·exact⟨by simp,by simp⟩
 rintro f m ⟨f22,rfl⟩;simp[f22,ez,IZ,aae,Ki];refine⟨k4,k5,?_⟩;simp[Uo]at hK;exact hK _ _
def DE(f:Int)(o:Od):En:={o.nw with ea:=if o.nw.ea<f then f else o.nw.ea}
def af2(g:Pg)(b:List (Int×Bool)):Int:=Ur (fun e:En=>!(ze b e.id)) g.p.ens 0
def Sa(g:Pg)(b:List (Int×Bool)):Nat:=if af2 g b<0 then g.p.ens.length else(af2 g b).toNat
def oh(g:Pg)(f:Int)(b:List (Int×Bool))(o:Od):Pl:={g.p with ens:=g.p.ens.take (Sa g b)++DE f o::g.p.ens.drop (Sa g b)}
def af3{α:Type}(P:α->Bool)(L:List α)(i:Nat):Ur P L i= -1\/∃k:Nat,k<L.length/\Ur P L i=((i+k:Nat):Int):=by
 cases h:L.find? P with
 |none=>exact .inl (Qda h)
 |some a=>
  obtain⟨k,h1,h2,_⟩:=Kz (i:=i) h;exact .inr ⟨k,(zza.1 h2).1,h1⟩
def af4(Y:YT)(m:AM)(rt:Rt)(kk:Nat)(K:AV->AM->Prop)(hK:K (I (-1)) m):an Tryz.prog az Y 218 [.sl rt [],.fn 219 [] [.ptr kk 0]] m K:=by
 obtain⟨mb,ml,ms,mn⟩:=m;refine an.mono (an.read (K:=fun r=>r=I (-1)) (Xe Cd (fun _ _ _=>.gd false .junk) (by simp) ?_)) (by rintro r m' ⟨rfl,rfl⟩;exact hK);simp[Ns];refine Qi fh (fun s m=>s 8=I 0/\m=⟨mb,ml,ms,mn⟩) (fun s _=>0) ?_ ?_
 ·exact⟨by simp,rfl⟩
 rintro s m ⟨f8,rfl⟩;simp[f8,fh,An];exact iI
def aj9:Nat->FuncId->List AV->AV:=fun _ f l=>if f=127 then l.headD .junk else if f=999999 then .aJ 0 []else .gd false .junk
def aag:Nat->FuncId->List AV->AV:=fun _ f l=>if f=127 then l.headD .junk else if f=999999 then .junk else .gd false .junk
def LP(Y:YT)(m:AM)(g:Pg)(f:Int)(mid:Nat)(b:List (Int×Bool))(o:Od)(hp:Bo g.p)(hb:gj m.boxes mid b)(ho:o.nw.al.length<=8796093022208)(K:AV->AM->Prop)
  (hK:∀ex V ls,mW (m.boxes++ex) V (oh g f b o).ens->GX m.boxes.length V->K (.aW [.agg (Xq (oh g f b o) V (.sl .ro (g.p.cls.map Qg)) 0),.bool true]) {m with boxes:=m.boxes++ex,lens:=m.lens++ls}):
  an Tryz.prog az Y 141 [.agg (Qu g f mid),.agg (Qq o)] m K:=by
 obtain⟨mb,ml,ms,mn⟩:=m;have hoe:=Wm o.nw ho;simp only[Qd]at hoe;have hB:∀ex,gj (mb++ex) mid b:=fun ex=>⟨by have:=hb.1;simp at this |-;omega,hb.ext ex⟩;by_cases aK:g.p.ens=[]
 ·have kO:=fun ex K hK=>aaf Y ⟨mb++ex,ml,ms,mn⟩ g.p hp aK K hK;simp only[Qb]at kO;have hx:(oh g f b o).ens=[DE f o]:=by simp[oh,aK]
  refine Xe M7 aag (by simp) ?_;simp[Up,UA,Qu,Qo,Qb,Qq,Qd,Qg,Qj,aag];refine kO _ _ fun c0 c1=>?_;simp[Uo];refine af4 _ _ _ _ _ ?_;simp;refine⟨hoe,af1 _ _ ml.length _ rfl (by simp) _ ?_⟩;simp;exact hK _ (.sl (.own ml.length 7) [Qd (DE f o)]) [1] (.inl ⟨_,by rw[hx];rfl,Dz.own _ _⟩) (GX.sl _ _ _)
 have kO:=fun ex K hK=>yh Y ⟨mb++ex,ml,ms,mn⟩ g.p hp aK K hK;simp only[Qb]at kO;refine Xe M7 aj9 (by simp) ?_;simp[Up,UA,Qu,Qo,Qb,Qq,Qd,Qg,Qj,aj9];refine kO _ _ fun c0 c1 bx=>?_;simp[Uo,zzan];have hl9:g.p.ens.length<=1000000:=hp.2.2.1;refine an.mono (LO _ _ g f mid mb.length b (mb.length+5) g.p.ens [] (by omega) (by simp) (by simp[Qu,Qo,Qb]) (hB _) (by simp) (by simp[eH])) ?_;rintro r m' ⟨rfl,rfl⟩;have eR:0<g.p.ens.length:=zzcw.2 aK;rcases af3 (fun e:En=>!(ze b e.id)) g.p.ens 0 with hI|⟨k,hk,hI⟩
 ·have hJ:Sa g b=g.p.ens.length:=by unfold Sa af2;rw[hI,if_pos (by omega)]
  have hP:(oh g f b o).ens=g.p.ens++[DE f o]:=by simp[oh,hJ]
  rw[hI];simp[zzan];refine⟨hoe,af0 _ _ _ _ _ (eH g.p.ens) (Qd (DE f o)) (Jz (by simp) (by simp[eH])) (Jz (by simp) (by simp[DE,Qd])) (Uz _) eR (by omega) rfl rfl _ ?_⟩;simp[zzan];have h3:=fun ex k h1 h2 h4=>hK ex (.bs k 0 (g.p.ens.length+1) 7) [] (.inr ⟨k,[],by rw[hP];simp,h1,h2,rfl⟩) (GX.bs h4);simp only[zzau]at h3;exact h3 _ (mb.length+(bx.length+9)) (by simp) (by simp[hP,p8,Qd]) (by simp)
 have hJ:Sa g b=k:=by unfold Sa af2;rw[hI,if_neg (by omega)];omega
 have zw:Ur (fun e:En=>!(ze b e.id)) g.p.ens 0=(k:Int):=by rw[hI];omega
 have D5:¬(k:Int)<0:=by omega
 have hP:(oh g f b o).ens=g.p.ens.take k++DE f o::g.p.ens.drop k:=by simp[oh,hJ]
 rw[zw];simp[zzan,D5];refine⟨hoe,R9 _ _ _ _ _ _ (eH (g.p.ens.take k)) (eH (g.p.ens.drop k)) (Qd (DE f o)) (Jz (by simp) (by rw[<- p8,zzdb];simp[eH])) (Jz (by simp) (by simp[DE,Qd])) (by omega) rfl (by rw[Uz,zzaq];omega) (by rw[Uz,zzcr]) hk (by omega) _ ?_⟩;simp[zzan];have h3:=fun ex k h1 h2 h4=>hK ex (.bs k 0 (g.p.ens.length+1) 7) [] (.inr ⟨k,[],by rw[hP];simp;omega,h1,h2,rfl⟩) (GX.bs h4);simp only[zzau]at h3;exact h3 _ (mb.length+(bx.length+9)) (by simp) (by simp[hP,p8,Qd]) (by simp)
open Go Go.Abs
def G8(f:Int)(e:bD):bD:={e with fr:=if f-e.st<e.fr then f-e.st else e.fr}
def Yb(f:Int):List bD->List bD
 |[]=>[]
 |e::r=>if f<=e.st then Yb f r else G8 f e::Yb f r
def yx(f:Int):∀(l r:List bD),Yb f (l++r)=Yb f l++Yb f r
 |[],_=>rfl
 |e::l,r=>by
  simp only[zzae,Yb,yx f l r];split<;>rfl
def Qdm(f:Int):∀(l:List bD),(Yb f l).length<=l.length
 |[]=>zzab _
 |e::l=>by
  have:=Qdm f l;simp only[Yb];split<;>simp<;>omega
def aka(ml:List Nat)(o:List bD)(v:AV)(ls:List Nat):Prop:=(o=[]/\v=.sl .nil []/\ls=ml)\/(o≠[]/\v=.sl (.own ml.length 7) (o.map Qf)/\ls=ml++[o.length])
def as1(l:List bD)(F:Int)(mb:List (List AV))(ml:List Nat)(ms:Nat->LS)(mn:Nat)(g:Nat->AV)(m:AM):Prop:=
 ∃(i:Nat)(bx:List (List AV))(ls:List Nat),i<=l.length/\g 11=I i/\m=⟨mb++bx,ls,ms,mn⟩/\aka ml (Yb F (l.take i)) (g 5) ls
def aah:Nat->FuncId->List AV->AV:=fun _ g l=>if g=88 then l.headD .junk else .junk
def yy(Y:YT)(m:AM)(l:List bD)(f:Int)(hl:l.length<=1000000)(hs:∀e∈l,Uh e)(hf:0<=f/\f<=1000000)(K:AV->AM->Prop)
  (hK:∀ex v ls,aka m.lens (Yb f l) v ls->K v {m with boxes:=m.boxes++ex,lens:=ls}):an Tryz.prog az Y 155 [.sl .ro (l.map Qf),I f] m K:=by
 obtain⟨mb,ml,ms,mn⟩:=m;refine Xe acN aah (by simp) ?_;simp[UF,ahO];refine Qi vh (as1 l f mb ml ms mn) (fun g _=>l.length-(numOf (g 11)).toNat) ?_ ?_
 ·exact⟨0,[],ml,by omega,by simp,by simp,.inl ⟨by simp[Yb],by simp,rfl⟩⟩
 rintro g m ⟨i,bx,ls,hi,kY,rfl,aR⟩;rcases zzaa i l.length with ai|bu
 ·obtain⟨a,ha⟩:=aS ai;have ah:Qh (l.map Qf) i=Qf a:=Qs (by simp[ha]);have hw:=bJ i (by omega);have bB:l.take (i+1)=l.take i++[a]:=by rw[zzas,ha];rfl
  have aa:(i:Int)<(l.length:Int):=by omega
  obtain⟨⟨a1,a2⟩,⟨a3,a4⟩,a5,a6⟩:=hs a (zzad ha);have ja:=Qdm f (l.take i);have ayo:(Yb f (l.take i)).length<=1000000:=by simp at ja;omega
  by_cases h1:f<=a.st
  ·have hb:Yb f (l.take (i+1))=Yb f (l.take i):=by rw[bB,yx];simp[Yb,h1]
   simp[kY,ah,ai,Qf,h1,hw,vh];refine⟨aO,⟨i+1,_,ls,by omega,by simp,rfl,?_⟩,by omega⟩
   ·rw[hb];exact aR
  have hb:Yb f (l.take (i+1))=Yb f (l.take i)++[G8 f a]:=by rw[bB,yx];simp[Yb,h1]
  have wf1:=wu f (by omega) (by omega);have wf2:=wu a.st (by omega) (by omega);have wf3:=wu a.fr (by omega) (by omega);have wf4:=wu (f-a.st) (by omega) (by omega);have wf5:IntKind.i64.wrap (f-a.st)=f-a.st:=by rw[Qk]<;>omega
  have qo:=Ut a.al a6;obtain⟨fr',anc⟩:∃fr',fr'=if f-a.st<a.fr then f-a.st else a.fr:=⟨_,rfl⟩;have Tn:Qf (G8 f a)=[I a.id,I a.it,I a.st,I fr',I a.i,I a.re,.sl .ro (a.al.map Qe)]:=by rw[anc];rfl
  have ue:(0<a.fr/\f-a.st<a.fr/\fr'=f-a.st)\/(0<a.fr/\¬f-a.st<a.fr/\fr'=a.fr)\/(¬0<a.fr/\fr'=a.fr):=by
   rw[anc];by_cases h0:0<a.fr
   ·by_cases hc:f-a.st<a.fr
    ·exact .inl ⟨h0,hc,by simp[hc]⟩
    exact .inr (.inl ⟨h0,hc,by simp[hc]⟩)
   exact .inr (.inr ⟨h0,by rw[if_neg (by omega)]⟩)
  have sr:(Yb f (l.take (i+1))).length=(Yb f (l.take i)).length+1:=by rw[hb];simp
  have R8:Yb f (l.take (i+1))≠[]:=by rw[hb];simp
  have fin:(Yb f (l.take (i+1))).map Qf=(Yb f (l.take i)).map Qf++[[I a.id,I a.it,I a.st,I fr',I a.i,I a.re,.sl .ro (a.al.map Qe)]]:=by rw[hb,zzc,<- Tn];rfl
  clear anc Tn;have FY:=aR;clear aR;obtain⟨e0,h5,rfl⟩|⟨e0,h5,rfl⟩:=FY
  ·rw[e0]at fin sr;obtain⟨h0,hc,rfl⟩|⟨h0,hc,rfl⟩|⟨h0,rfl⟩:=ue
   all_goals
    simp[Qf,aah,vh, *];refine⟨aO,⟨i+1,_,_,by omega,by simp,rfl,.inr ⟨R8,?_,?_⟩⟩,by omega⟩
    ·simp[fin]
    rw[sr];rfl
  obtain⟨h0,hc,rfl⟩|⟨h0,hc,rfl⟩|⟨h0,rfl⟩:=ue
  all_goals
   simp[Qf,aah,vh, *];refine⟨⟨by rintro row (⟨x,_,rfl⟩|rfl)<;>rfl,by omega⟩,ag ?_,⟨i+1,_,_,by omega,by simp,rfl,.inr ⟨R8,?_,?_⟩⟩,by omega⟩
   ·repeat(first|exact Qc _ _|refine Qa _ rfl ?_)
   ·simp[fin]
   rw[sr]
 have hbf:l.take i=l:=zzap bu;rw[hbf]at aR;simp[kY,zzbm.2 bu,vh];exact hK _ _ _ aR
end Go.Proofs.YtnopaopphmjnmaaGreatDoor
