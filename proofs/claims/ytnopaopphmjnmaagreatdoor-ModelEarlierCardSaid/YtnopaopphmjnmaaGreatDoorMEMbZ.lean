import Derived.Test.YtnopaopphmjnmaaGreatDoorMEMbU
import Derived.Test.YtnopaopphmjnmaaGreatDoorMEMbW
set_option linter.all false
set_option maxRecDepth 100000
set_option maxHeartbeats 64000000
namespace Go.Proofs.YtnopaopphmjnmaaGreatDoor
open Go Go.Abs
def Z7(Y:YT)(m:AM)(g:Pg)(f:Int)(mid kk:Nat)(b:List (Int×Bool))(e:En)(hk:kk<m.boxes.length)(hr:Qh m.boxes kk=Qu g f mid)(hb:gz m.boxes mid b):
  an Tryz.prog az Y 219 [.agg (Qd e),.ptr kk 0] m (fun r m'=>m'=m/\r=.bool !(zi b e.id)):=by
 obtain⟨mb,ml,ms,mn⟩:=m;have hR:∀ex,Qh (mb++ex) mid=[.aJ 0 (bH .bool b)]:=hb.ext;have hM:∀ex,Qh (mb++ex) kk=Qu g f mid:=fun ex=>by rw[Ql hk];exact hr
 simp only[Qu,Qo,Qc,zzae,zzaj]at hM;refine an.read (Xe adz (fun _ _ _=>.junk) (by simp) ?_);rcases Xq AV.bool e.id b 0 with⟨b1,b2,_⟩|⟨u,u',b1,b2,_⟩
 ·simp[UU,UW,Qd,hM,hR,zi,b1,b2];exact lJ
 cases u<;>simp[UU,UW,Qd,hM,hR,zi,b1,b2]<;>exact lJ
def as4(Y:YT)(m:AM)(g:Pg)(f:Int)(mid kk:Nat)(b:List (Int×Bool))(e:En)(hk:kk<m.boxes.length)(hr:Qh m.boxes kk=Qu g f mid)(hb:gz m.boxes mid b)(K:AV->AM->Prop)(hK:K (.bool !(zi b e.id)) m):
  an Tryz.prog az Y 219 [.agg (Qd e),.ptr kk 0] m K:=
 an.mono (Z7 Y m g f mid kk b e hk hr hb) (by rintro r m' ⟨rfl,rfl⟩;exact hK)
def L7(Y:YT)(m:AM)(g:Pg)(f:Int)(mid kk:Nat)(b:List (Int×Bool))(k:Nat)(L:List En)(z:List AV)(hl:L.length<=1000000000)(hk:kk<m.boxes.length)(hr:Qh m.boxes kk=Qu g f mid)(hb:gz m.boxes mid b)(hV:k<m.boxes.length)(hrV:Qh m.boxes k=eT L++z):
  an Tryz.prog az Y 218 [.bs k 0 L.length 7,.fn 219 [] [.ptr kk 0]] m (fun r m'=>m'=m/\r=I (Ux (fun e:En=>!(zi b e.id)) L 0)):=by
 obtain⟨mb,ml,ms,mn⟩:=m;have aH:=Jg L;have k1:=fun e K hK=>as4 Y ⟨mb,ml,ms,mn⟩ g f mid kk b e hk hr hb K hK;refine an.read (Xe Cf (fun _ _ _=>.gd false .junk) (by simp) ?_);simp[NG];refine Qj fC (fun s m=>∃i:Nat,s 8=I i/\i<=L.length/\Ux (fun e:En=>!(zi b e.id)) (L.drop i) i=Ux (fun e:En=>!(zi b e.id)) L 0/\m=⟨mb,ml,ms,mn⟩) (fun s _=>L.length-(numOf (s 8)).toNat) ?_ ?_
 ·exact⟨0,by simp,by omega,by simp,rfl⟩
 rintro s m ⟨i,f8,hi,hidx,rfl⟩;rcases zzaa i L.length with ai|bu
 ·obtain⟨x,hx⟩:=aR ai;have hg:=Dy hx;simp only at hrV
  have ah:(Qh mb k).drop (i*7)=I x.id::I x.it::I x.fr::I x.ea::I x.la::I x.bo::.sl .ro (x.al.map Qe)::(eT (L.drop (i+1))++z):=by
   rw[hrV,zzdr (by rw[Jg];omega),hg];rfl
  have aa:(i:Int)<(L.length:Int):=by omega
  have hw:=bK i (by omega);have hd:L.drop i=x::L.drop (i+1):=by rw[zzaf ai,(zza.1 hx).2]
  have kx:=k1 x;simp only[Qd]at kx;rw[hd,Ux]at hidx;cases hP:zi b x.id with
  |false=>
   rw[if_pos (by simp[hP])]at hidx;simp[f8,fC,aa,ah];refine kx _ ?_;simp[hP,Ap,hidx];exact lJ
  |true=>
   rw[if_neg (by simp[hP])]at hidx;simp[f8,fC,aa,ah];refine kx _ ?_;simp[hP,hw];refine⟨aO,⟨i+1,by simp,by omega,hidx⟩,by omega⟩
 obtain rfl:i=L.length:=by omega
 rw[zzbo,Ux]at hidx;simp[f8,fC,Ap,<- hidx];exact lJ
open Go Go.Abs Go.RowKit
def Ho:bC Tryz.prog 220:=by
 first|exact Cg.bC|(unfold bC;decide)|kernel_rfl
def Sc(Y:YT)(m:AM)(id gT i n:Nat)(A C V:List AV)(aN:m.boxes[id]?=some (A++C))(fZ:m.boxes[gT]?=some V)(aK:gT≠id)(hV:V.length=7)(hA:A.length=i*7)(hC:C.length=(n-i)*7)
  (hi:i<n)(hn:n+1<=1000000000)(K:AV->AM->Prop)(hK:K (.bs m.boxes.length 0 (n+1) 7) {m with boxes:=m.boxes.set id []++[A++(V++C)]}):an Tryz.prog az Y 220 [.bs id 0 n 7,I i,.bs gT 0 1 7] m K:=by
 refine an.gj Ho fun N w0 aq γ w vs hm hl hr=>?_
 obtain⟨v1,r1,rfl,g1,ze⟩:∃v1 r1,vs=v1::r1/\aB w γ (.bs id 0 n 7) v1/\ak w γ [I i,.bs gT 0 1 7] r1:=by
  cases vs with
  |nil=>have:=hr.1;simp at this
  |cons v r=>exact⟨v,r,rfl,hr.2 0 _ _ rfl rfl,⟨by have:=hr.1;simp at this |-;omega,fun k c u h1 h2=>hr.2 (k+1) c u (by simpa using h1) (by simpa using h2)⟩⟩
 obtain⟨v2,r2,rfl,g2,iz⟩:∃v2 r2,r1=v2::r2/\aB w γ (I i) v2/\ak w γ [.bs gT 0 1 7] r2:=by
  cases r1 with
  |nil=>have:=ze.1;simp at this
  |cons v r=>exact⟨v,r,rfl,ze.2 0 _ _ rfl rfl,⟨by have:=ze.1;simp at this |-;omega,fun k c u h1 h2=>ze.2 (k+1) c u (by simpa using h1) (by simpa using h2)⟩⟩
 obtain⟨v3,rfl,g3⟩:=Uh iz;cases g2;obtain⟨b,cap,arr,te,hβ,rfl,ew,hh,hs⟩:=g1.cM;obtain⟨vb,as5,uW,tv,hβv,rfl,hlv,hhv,hsv⟩:=g3.cM;have hB:m.B id=some (A++C):=aN;have oB:m.B gT=some V:=fZ
 have aj5:A++C≠[]:=by
  intro h;have:=congrArg List.length h;simp only[zzah,hA,hC,zzch]at this;omega
 have as6:V≠[]:=by rintro rfl;simp at hV
 have hvb:vb≠b:=by
  rintro rfl;rcases hm.inj _ _ _ hβ hβv with h|h|h
  ·rw[hB]at h;exact aj5 (Option.some.inj h)
  ·rw[oB]at h;exact as6 (Option.some.inj h)
  exact aK h.symm
 obtain⟨bT,J3,q2,q3,q4⟩:=hm.box id _ b hB hβ;rw[hh]at q2;cases q2;obtain⟨ayp,tv',p2,p3,p4⟩:=hm.box gT _ vb oB hβv;rw[hhv]at p2;cases p2;have hvl:=p3.1;simp only[zzbi,hV]at hvl
 have hVr:ak w γ V (uW.toList.take 7):=by
  refine⟨by simp only[zzaq,zzbi,hV];omega,fun k c v g1 g2=>?_⟩;have hk:=(zza.1 g1).1;rw[zzbj,if_pos (by omega)]at g2;exact p3.2 k c v g1 g2
 have hvo:∀v∈uW.toList.take 7,v.oneCell'=true:=fun v hv=>p4 v (zzcb hv);have hi7:(i+1)*7=A.length+V.length:=by rw[hA,hV];omega
 simp only[zzbu]at hs;by_cases cC:n+1<=cap
 ·have gm:=R9 b n cap i vb as5 arr uW te tv w hi cC hn hvb hh hhv hs hvl q4 p4;have P7:(n+1)*7<=cap*7:=zzb _ cC;rw[hi7,<- hA,<- hC]at gm;obtain⟨e1,m1⟩:=Sa hm aN aj5 hβ hh hVr hvo (by rw[hA,hC,hV];omega);refine gm.mono ?_;rintro e w' ⟨rfl,rfl⟩;have hh':w.drew.heap[b]?=some (.cells arr te (0,0)):=hh;refine⟨_,_,.bs m.boxes.length 0 (n+1) 7,_,rfl,e1.dJ,m1,hl.mono' e1 rfl,.bs (by simp[G.box]) cC (Xb b _ _ _ _ te _ (Xb b _ _ _ arr te _ hh')) (by rw[Vd,Vd];omega),hK⟩
 have gm:=Z6 b n cap i vb as5 arr uW te tv w hi ew (by omega) hn hvb hh hhv hs hvl q4 p4;refine gm.mono ?_;rintro e w' ⟨Gc,oq,zs,hG,rfl,hR,hz,hGR,hzo,rfl⟩;rw[<- hA]at hR;obtain⟨e1,m1⟩:=afY (te2:=36) hm aN hβ hh hVr hvo hR (by rw[hC,hV];omega) hzo (by simp[as6]);rw[hi7,<- hA,<- hC];refine⟨_,_,.bs m.boxes.length 0 (n+1) 7,_,rfl,e1.dJ,m1,hl.mono' e1 rfl,.bs (by simp[G.box]) hG (Xb _ _ _ _ _ 36 _ (Xb _ _ _ (w.drew.alloc (.cells oq 36)) oq 36 _ (Yi w _))) (by rw[Vd,Vd];omega),hK⟩
open Go Go.Abs
def Ke{B:List (List AV)}{id:Nat}{c:List AV}(h:id<B.length)(hr:Qh B id=c):B[id]?=some c:=by
 rw[Ug h,hr]
def afZ(Y:YT)(m:AM)(id gT n:Nat)(A V:List AV)(aN:m.boxes[id]?=some A)(fZ:m.boxes[gT]?=some V)(hA:A.length=n*7)(hn:0<n)(hn9:n<=1000000000)(hV:V.length=7)(okV:Zg V=true)
  (K:AV->AM->Prop)(hK:K (.bs m.boxes.length 0 (n+1) 7) {m with boxes:=m.boxes.set id []++[A++V]}):an Tryz.prog az Y 220 [.bs id 0 n 7,I n,.bs gT 0 1 7] m K:=by
 obtain⟨mb,ml,ms,mn⟩:=m;have r1:=Qs aN;have r2:=Qs fZ;have l1:=(zza.1 aN).1;have l2:=(zza.1 fZ).1;simp only at r1 r2 l1 l2 hK;have aK:¬A=[]:=by rintro rfl;simp at hA;omega
 refine Xe Cg (fun _ _ _=>.junk) (by simp) ?_;simp[UX,UY,r1,r2,l1,l2,hA,hV,aK];refine⟨by omega,?_⟩;rw[zzap (by omega),zzap (by omega)];exact hK
def af0(Y:YT)(m:AM)(k:Nat)(row:List AV)(ah:row.length=7)(hk:m.lens[k]?=some 0)(K:AV->AM->Prop)(hK:K (.sl (.own k 7) [row]) {m with lens:=m.lens.set k 1}):
  an Tryz.prog az Y 220 [.sl (.own k 7) [],I 0,.sl .full [row]] m K:=by
 obtain⟨mb,ml,ms,mn⟩:=m;refine Xe Cg (fun _ _ _=>.junk) (by simp) ?_;simp[UX,UY,ah];exact⟨hk,hK⟩
def Z8(Y:YT)(m:AM)(K:AV->AM->Prop)(hK:K (.sl (.own m.lens.length 7) []) {m with lens:=m.lens++[0]}):an Tryz.prog az Y 126 [.sl .ro []] m K:=by
 refine Xe BV (fun _ _ _=>.junk) (by simp) ?_;simp[Nb,Nc];exact hK
def Z9(p:Pl):Nat->FuncId->List AV->AV:=fun d f l=>if f=126 then .gd false .junk else Kl p d f l
def aaa(Y:YT)(m:AM)(p:Pl)(h:Bn p)(hn:p.ens=[])(K:AV->AM->Prop)
  (hK:∀c0 c1,K (.agg (Uu p (.sl (.own m.lens.length 7) []))) {m with boxes:=m.boxes++[c0,c1],lens:=m.lens++[0]}):an Tryz.prog az Y 61 [.agg (Qc p)] m K:=by
 obtain⟨mb,ml,ms,mn⟩:=m;obtain⟨h1,h2,h3,h4,h5,h6⟩:=h;have k1:=pX p.sh (by omega);have k2:=pY p.aM (by omega);have k4:=pZ p.bks (by omega);have k5:=Ds p.cls (by omega);refine Xe vf (Z9 p) (by simp) ?_;simp[I7,Qc,Z9,Kl,hn];refine⟨k1,k2,Z8 _ _ _ ?_⟩;simp;refine Qj eH (fun f m=>f 22=I 0/\m=⟨mb++[[I p.ch,I p.nu,I p.de,I p.of,.sl .ro (p.sh.map Qe),I p.ep,I p.rg,I p.ln,I p.fi,.sl .ro (p.aM.map Qm),.sl (.own ml.length 7) [],.sl .ro (p.bks.map Xh),.sl .ro (p.cls.map Qg)],[I 0,I 0,I 0,I 0,.sl .nil [],I 0,I 0,I 0,I 0,.sl .nil [],.sl .nil [],.sl .nil [],.sl .nil []]],ml++[0],ms,mn⟩) (fun f _=>0) ?_ ?_
 ·exact⟨by simp,by simp⟩
 rintro f m ⟨f22,rfl⟩;simp[f22,eH,I8,Z9,Kl];refine⟨k4,k5,?_⟩;simp[Uu]at hK;exact hK _ _
def DF(f:Int)(o:Od):En:={o.nw with ea:=if o.nw.ea<f then f else o.nw.ea}
def af1(g:Pg)(b:List (Int×Bool)):Int:=Ux (fun e:En=>!(zi b e.id)) g.p.ens 0
def Sd(g:Pg)(b:List (Int×Bool)):Nat:=if af1 g b<0 then g.p.ens.length else(af1 g b).toNat
def ot(g:Pg)(f:Int)(b:List (Int×Bool))(o:Od):Pl:={g.p with ens:=g.p.ens.take (Sd g b)++DF f o::g.p.ens.drop (Sd g b)}
def af2{α:Type}(P:α->Bool)(L:List α)(i:Nat):Ux P L i= -1\/∃k:Nat,k<L.length/\Ux P L i=((i+k:Nat):Int):=by
 cases h:L.find? P with
 |none=>exact .inl (Qdm h)
 |some a=>
  obtain⟨k,h1,h2,_⟩:=Wi (i:=i) h;exact .inr ⟨k,(zza.1 h2).1,h1⟩
def af3(Y:YT)(m:AM)(rt:Rt)(kk:Nat)(K:AV->AM->Prop)(hK:K (I (-1)) m):an Tryz.prog az Y 218 [.sl rt [],.fn 219 [] [.ptr kk 0]] m K:=by
 obtain⟨mb,ml,ms,mn⟩:=m;refine an.mono (an.read (K:=fun r=>r=I (-1)) (Xe Cf (fun _ _ _=>.gd false .junk) (by simp) ?_)) (by rintro r m' ⟨rfl,rfl⟩;exact hK);simp[NG];refine Qj fC (fun s m=>s 8=I 0/\m=⟨mb,ml,ms,mn⟩) (fun s _=>0) ?_ ?_
 ·exact⟨by simp,rfl⟩
 rintro s m ⟨f8,rfl⟩;simp[f8,fC,Ap];exact lJ
def aj6:Nat->FuncId->List AV->AV:=fun _ f l=>if f=127 then l.headD .junk else if f=999999 then .aJ 0 []else .gd false .junk
def aab:Nat->FuncId->List AV->AV:=fun _ f l=>if f=127 then l.headD .junk else if f=999999 then .junk else .gd false .junk
def L8(Y:YT)(m:AM)(g:Pg)(f:Int)(mid:Nat)(b:List (Int×Bool))(o:Od)(hp:Bn g.p)(hb:gz m.boxes mid b)(ho:o.nw.al.length<=8796093022208)(K:AV->AM->Prop)
  (hK:∀ex V ls,mY (m.boxes++ex) V (ot g f b o).ens->G8 m.boxes.length V->K (.aW [.agg (Xp (ot g f b o) V (.sl .ro (g.p.cls.map Qg)) 0),.bool true]) {m with boxes:=m.boxes++ex,lens:=m.lens++ls}):
  an Tryz.prog az Y 141 [.agg (Qu g f mid),.agg (Qq o)] m K:=by
 obtain⟨mb,ml,ms,mn⟩:=m;have hoe:=Wq o.nw ho;simp only[Qd]at hoe;have hB:∀ex,gz (mb++ex) mid b:=fun ex=>⟨by have:=hb.1;simp at this |-;omega,hb.ext ex⟩;by_cases aK:g.p.ens=[]
 ·have kO:=fun ex K hK=>aaa Y ⟨mb++ex,ml,ms,mn⟩ g.p hp aK K hK;simp only[Qc]at kO;have hx:(ot g f b o).ens=[DF f o]:=by simp[ot,aK]
  refine Xe Nl aab (by simp) ?_;simp[T8,T9,Qu,Qo,Qc,Qq,Qd,Qg,Qi,aab];refine kO _ _ fun c0 c1=>?_;simp[Uu];refine af3 _ _ _ _ _ ?_;simp;refine⟨hoe,af0 _ _ ml.length _ rfl (by simp) _ ?_⟩;simp;exact hK _ (.sl (.own ml.length 7) [Qd (DF f o)]) [1] (.inl ⟨_,by rw[hx];rfl,Dz.own _ _⟩) (G8.sl _ _ _)
 have kO:=fun ex K hK=>ym Y ⟨mb++ex,ml,ms,mn⟩ g.p hp aK K hK;simp only[Qc]at kO;refine Xe Nl aj6 (by simp) ?_;simp[T8,T9,Qu,Qo,Qc,Qq,Qd,Qg,Qi,aj6];refine kO _ _ fun c0 c1 bx=>?_;simp[Uu,zzam];have hl9:g.p.ens.length<=1000000:=hp.2.2.1;refine an.mono (L7 _ _ g f mid mb.length b (mb.length+5) g.p.ens [] (by omega) (by simp) (by simp[Qu,Qo,Qc]) (hB _) (by simp) (by simp[eT])) ?_;rintro r m' ⟨rfl,rfl⟩;have eZ:0<g.p.ens.length:=zzcw.2 aK;rcases af2 (fun e:En=>!(zi b e.id)) g.p.ens 0 with hI|⟨k,hk,hI⟩
 ·have hJ:Sd g b=g.p.ens.length:=by unfold Sd af1;rw[hI,if_pos (by omega)]
  have hP:(ot g f b o).ens=g.p.ens++[DF f o]:=by simp[ot,hJ]
  rw[hI];simp[zzam];refine⟨hoe,afZ _ _ _ _ _ (eT g.p.ens) (Qd (DF f o)) (Ke (by simp) (by simp[eT])) (Ke (by simp) (by simp[DF,Qd])) (Jg _) eZ (by omega) rfl rfl _ ?_⟩;simp[zzam];have h3:=fun ex k h1 h2 h4=>hK ex (.bs k 0 (g.p.ens.length+1) 7) [] (.inr ⟨k,[],by rw[hP];simp,h1,h2,rfl⟩) (G8.bs h4);simp only[zzat]at h3;exact h3 _ (mb.length+(bx.length+9)) (by simp) (by simp[hP,p9,Qd]) (by simp)
 have hJ:Sd g b=k:=by unfold Sd af1;rw[hI,if_neg (by omega)];omega
 have zy:Ux (fun e:En=>!(zi b e.id)) g.p.ens 0=(k:Int):=by rw[hI];omega
 have D9:¬(k:Int)<0:=by omega
 have hP:(ot g f b o).ens=g.p.ens.take k++DF f o::g.p.ens.drop k:=by simp[ot,hJ]
 rw[zy];simp[zzam,D9];refine⟨hoe,Sc _ _ _ _ _ _ (eT (g.p.ens.take k)) (eT (g.p.ens.drop k)) (Qd (DF f o)) (Ke (by simp) (by rw[<- p9,zzdd];simp[eT])) (Ke (by simp) (by simp[DF,Qd])) (by omega) rfl (by rw[Jg,zzaq];omega) (by rw[Jg,zzcq]) hk (by omega) _ ?_⟩;simp[zzam];have h3:=fun ex k h1 h2 h4=>hK ex (.bs k 0 (g.p.ens.length+1) 7) [] (.inr ⟨k,[],by rw[hP];simp;omega,h1,h2,rfl⟩) (G8.bs h4);simp only[zzat]at h3;exact h3 _ (mb.length+(bx.length+9)) (by simp) (by simp[hP,p9,Qd]) (by simp)
open Go Go.Abs
def L9(f:Int)(e:bE):bE:={e with fr:=if f-e.st<e.fr then f-e.st else e.fr}
def Ym(f:Int):List bE->List bE
 |[]=>[]
 |e::r=>if f<=e.st then Ym f r else L9 f e::Ym f r
def yz(f:Int):∀(l r:List bE),Ym f (l++r)=Ym f l++Ym f r
 |[],_=>rfl
 |e::l,r=>by
  simp only[zzae,Ym,yz f l r];split<;>rfl
def Qdw(f:Int):∀(l:List bE),(Ym f l).length<=l.length
 |[]=>zzab _
 |e::l=>by
  have:=Qdw f l;simp only[Ym];split<;>simp<;>omega
def aj7(ml:List Nat)(o:List bE)(v:AV)(ls:List Nat):Prop:=(o=[]/\v=.sl .nil []/\ls=ml)\/(o≠[]/\v=.sl (.own ml.length 7) (o.map Qf)/\ls=ml++[o.length])
def as7(l:List bE)(F:Int)(mb:List (List AV))(ml:List Nat)(ms:Nat->LS)(mn:Nat)(g:Nat->AV)(m:AM):Prop:=
 ∃(i:Nat)(bx:List (List AV))(ls:List Nat),i<=l.length/\g 11=I i/\m=⟨mb++bx,ls,ms,mn⟩/\aj7 ml (Ym F (l.take i)) (g 5) ls
def aac:Nat->FuncId->List AV->AV:=fun _ g l=>if g=88 then l.headD .junk else .junk
def yA(Y:YT)(m:AM)(l:List bE)(f:Int)(hl:l.length<=1000000)(hs:∀e∈l,Ul e)(hf:0<=f/\f<=1000000)(K:AV->AM->Prop)
  (hK:∀ex v ls,aj7 m.lens (Ym f l) v ls->K v {m with boxes:=m.boxes++ex,lens:=ls}):an Tryz.prog az Y 155 [.sl .ro (l.map Qf),I f] m K:=by
 obtain⟨mb,ml,ms,mn⟩:=m;refine Xe acP aac (by simp) ?_;simp[UD,ahM];refine Qj vk (as7 l f mb ml ms mn) (fun g _=>l.length-(numOf (g 11)).toNat) ?_ ?_
 ·exact⟨0,[],ml,by omega,by simp,by simp,.inl ⟨by simp[Ym],by simp,rfl⟩⟩
 rintro g m ⟨i,bx,ls,hi,pq,rfl,aS⟩;rcases zzaa i l.length with ai|bu
 ·obtain⟨a,ha⟩:=aR ai;have ah:Qh (l.map Qf) i=Qf a:=Qs (by simp[ha]);have hw:=bK i (by omega);have bB:l.take (i+1)=l.take i++[a]:=by rw[zzas,ha];rfl
  have aa:(i:Int)<(l.length:Int):=by omega
  obtain⟨⟨a1,a2⟩,⟨a3,a4⟩,a5,a6⟩:=hs a (zzac ha);have iL:=Qdw f (l.take i);have ayq:(Ym f (l.take i)).length<=1000000:=by simp at iL;omega
  by_cases h1:f<=a.st
  ·have hb:Ym f (l.take (i+1))=Ym f (l.take i):=by rw[bB,yz];simp[Ym,h1]
   simp[pq,ah,ai,Qf,h1,hw,vk];refine⟨aO,⟨i+1,_,ls,by omega,by simp,rfl,?_⟩,by omega⟩
   ·rw[hb];exact aS
  have hb:Ym f (l.take (i+1))=Ym f (l.take i)++[L9 f a]:=by rw[bB,yz];simp[Ym,h1]
  have wf1:=wu f (by omega) (by omega);have wf2:=wu a.st (by omega) (by omega);have wf3:=wu a.fr (by omega) (by omega);have wf4:=wu (f-a.st) (by omega) (by omega);have wf5:IntKind.i64.wrap (f-a.st)=f-a.st:=by rw[Qk]<;>omega
  have qt:=Ja a.al a6;obtain⟨fr',ang⟩:∃fr',fr'=if f-a.st<a.fr then f-a.st else a.fr:=⟨_,rfl⟩;have Tj:Qf (L9 f a)=[I a.id,I a.it,I a.st,I fr',I a.i,I a.re,.sl .ro (a.al.map Qe)]:=by rw[ang];rfl
  have uv:(0<a.fr/\f-a.st<a.fr/\fr'=f-a.st)\/(0<a.fr/\¬f-a.st<a.fr/\fr'=a.fr)\/(¬0<a.fr/\fr'=a.fr):=by
   rw[ang];by_cases h0:0<a.fr
   ·by_cases hc:f-a.st<a.fr
    ·exact .inl ⟨h0,hc,by simp[hc]⟩
    exact .inr (.inl ⟨h0,hc,by simp[hc]⟩)
   exact .inr (.inr ⟨h0,by rw[if_neg (by omega)]⟩)
  have sv:(Ym f (l.take (i+1))).length=(Ym f (l.take i)).length+1:=by rw[hb];simp
  have Sb:Ym f (l.take (i+1))≠[]:=by rw[hb];simp
  have fin:(Ym f (l.take (i+1))).map Qf=(Ym f (l.take i)).map Qf++[[I a.id,I a.it,I a.st,I fr',I a.i,I a.re,.sl .ro (a.al.map Qe)]]:=by rw[hb,zzby,<- Tj];rfl
  clear ang Tj;have F7:=aS;clear aS;obtain⟨e0,h5,rfl⟩|⟨e0,h5,rfl⟩:=F7
  ·rw[e0]at fin sv;obtain⟨h0,hc,rfl⟩|⟨h0,hc,rfl⟩|⟨h0,rfl⟩:=uv
   all_goals
    simp[Qf,aac,vk, *];refine⟨aO,⟨i+1,_,_,by omega,by simp,rfl,.inr ⟨Sb,?_,?_⟩⟩,by omega⟩
    ·simp[fin]
    rw[sv];rfl
  obtain⟨h0,hc,rfl⟩|⟨h0,hc,rfl⟩|⟨h0,rfl⟩:=uv
  all_goals
   simp[Qf,aac,vk, *];refine⟨⟨by rintro row (⟨x,_,rfl⟩|rfl)<;>rfl,by omega⟩,ag ?_,⟨i+1,_,_,by omega,by simp,rfl,.inr ⟨Sb,?_,?_⟩⟩,by omega⟩
   ·repeat(first|exact Qb _ _|refine Qa _ rfl ?_)
   ·simp[fin]
   rw[sv]
 have hbf:l.take i=l:=zzap bu;rw[hbf]at aS;simp[pq,zzbl.2 bu,vk];exact hK _ _ _ aS
end Go.Proofs.YtnopaopphmjnmaaGreatDoor
