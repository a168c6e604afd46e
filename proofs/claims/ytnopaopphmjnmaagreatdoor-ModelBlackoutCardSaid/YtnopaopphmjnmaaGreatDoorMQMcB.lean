import Derived.Test.YtnopaopphmjnmaaGreatDoorMQMbU
import Derived.Test.YtnopaopphmjnmaaGreatDoorMQMbW
set_option linter.all false
set_option maxRecDepth 100000
set_option maxHeartbeats 64000000
namespace Go.Proofs.YtnopaopphmjnmaaGreatDoor
open Go Go.Abs
def aaM(Y:YT)(m:AM)(g:Pg)(f:Int)(mid kk:Nat)(b:List (Int×Bool))(e:En)(hk:kk<m.boxes.length)(hr:Qh m.boxes kk=Qr g f mid)(hb:gz m.boxes mid b):
  an Tryz.prog aA Y 219 [.agg (Qd e),.ptr kk 0] m (fun r m'=>m'=m/\r=.bool !(zB b e.id)):=by
 obtain⟨mb,ml,ms,mn⟩:=m;have hR:∀ex,Qh (mb++ex) mid=[.aL 0 (bH .bool b)]:=hb.ext;have hM:∀ex,Qh (mb++ex) kk=Qr g f mid:=fun ex=>by rw[Ql hk];exact hr
 simp only[Qr,Qm,Qa,zzad,zzah]at hM;refine an.read (Xd aec (fun _ _ _=>.junk) zd ?_);rcases Xq AV.bool e.id b 0 with⟨b1,b2,_⟩|⟨u,u',b1,b2,_⟩
 ·simp[V7,V9,Qd,hM,hR,zB,b1,b2];exact lK
 cases u<;>simp[V7,V9,Qd,hM,hR,zB,b1,b2]<;>exact lK
def at7(Y:YT)(m:AM)(g:Pg)(f:Int)(mid kk:Nat)(b:List (Int×Bool))(e:En)(hk:kk<m.boxes.length)(hr:Qh m.boxes kk=Qr g f mid)(hb:gz m.boxes mid b)(K:AV->AM->Prop)(hK:K (.bool !(zB b e.id)) m):
  an Tryz.prog aA Y 219 [.agg (Qd e),.ptr kk 0] m K:=
 an.mono (aaM Y m g f mid kk b e hk hr hb) (by rintro r m' ⟨rfl,rfl⟩;exact hK)
def MC(Y:YT)(m:AM)(g:Pg)(f:Int)(mid kk:Nat)(b:List (Int×Bool))(k:Nat)(L:List En)(z:List AV)(hl:L.length<=1000000000)(hk:kk<m.boxes.length)(hr:Qh m.boxes kk=Qr g f mid)(hb:gz m.boxes mid b)(hV:k<m.boxes.length)(hrV:Qh m.boxes k=eY L++z):
  an Tryz.prog aA Y 218 [.bs k 0 L.length 7,.fn 219 [] [.ptr kk 0]] m (fun r m'=>m'=m/\r=I (Ux (fun e:En=>!(zB b e.id)) L 0)):=by
 obtain⟨mb,ml,ms,mn⟩:=m;have aH:=Jg L;have k1:=fun e K hK=>at7 Y ⟨mb,ml,ms,mn⟩ g f mid kk b e hk hr hb K hK;refine an.read (Xd CE (fun _ _ _=>.gd false .junk) zd ?_);simp[Oa];refine Qk fE (fun s m=>∃i:Nat,s 8=I i/\i<=L.length/\Ux (fun e:En=>!(zB b e.id)) (L.drop i) i=Ux (fun e:En=>!(zB b e.id)) L 0/\m=⟨mb,ml,ms,mn⟩) (fun s _=>L.length-(numOf (s 8)).toNat) ?_ ?_
 ·exact⟨0,zd,zE,zd,rfl⟩
 rintro s m ⟨i,f8,hi,hidx,rfl⟩;rcases zzaa i L.length with ai|bz
 ·obtain⟨x,hx⟩:=aU ai;have hg:=D0 hx;simp only at hrV
  have ah:(Qh mb k).drop (i*7)=I x.id::I x.it::I x.fr::I x.ea::I x.la::I x.bo::.sl .ro (x.al.map Qf)::(eY (L.drop (i+1))++z):=by
   rw[hrV,zzdv (by rw[Jg];omega),hg];rfl
  have aa:(i:Int)<(L.length:Int):=zE
  have hw:=bM i zE;have hd:L.drop i=x::L.drop (i+1):=by rw[zzaf ai,(zza.1 hx).2]
  have kx:=k1 x;simp only[Qd]at kx;rw[hd,Ux]at hidx;cases hP:zB b x.id with
  |false=>
   rw[if_pos (by simp[hP])]at hidx;simp[f8,fE,aa,ah];refine kx _ ?_;simp[hP,AN,hidx];exact lK
  |true=>
   rw[if_neg (by simp[hP])]at hidx;simp[f8,fE,aa,ah];refine kx _ ?_;simp[hP,hw];refine⟨aP,⟨i+1,zd,zE,hidx⟩,zE⟩
 obtain rfl:i=L.length:=zE
 rw[zzbn,Ux]at hidx;simp[f8,fE,AN,<- hidx];exact lK
open Go Go.Abs Go.RowKit
def HR:bD Tryz.prog 220:=by
 first|exact CF.bD|(unfold bD;decide)|kernel_rfl
def SV(Y:YT)(m:AM)(id gV i n:Nat)(A C V:List AV)(aK:m.boxes[id]?=some (A++C))(dW:m.boxes[gV]?=some V)(aM:gV≠id)(hV:V.length=7)(hA:A.length=i*7)(hC:C.length=(n-i)*7)
  (hi:i<n)(hn:n+1<=1000000000)(K:AV->AM->Prop)(hK:K (.bs m.boxes.length 0 (n+1) 7) {m with boxes:=m.boxes.set id []++[A++(V++C)]}):an Tryz.prog aA Y 220 [.bs id 0 n 7,I i,.bs gV 0 1 7] m K:=by
 refine an.gr HR fun N w0 aq γ w vs hm hl hr=>?_
 obtain⟨v1,r1,rfl,g1,zq⟩:∃v1 r1,vs=v1::r1/\aC w γ (.bs id 0 n 7) v1/\ak w γ [I i,.bs gV 0 1 7] r1:=by
  cases vs with
  |nil=>have:=hr.1;simp at this
  |cons v r=>exact⟨v,r,rfl,hr.2 0 _ _ rfl rfl,⟨by have:=hr.1;simp at this |-;omega,fun k c u h1 h2=>hr.2 (k+1) c u (by simpa using h1) (by simpa using h2)⟩⟩
 obtain⟨v2,r2,rfl,g2,iC⟩:∃v2 r2,r1=v2::r2/\aC w γ (I i) v2/\ak w γ [.bs gV 0 1 7] r2:=by
  cases r1 with
  |nil=>have:=zq.1;simp at this
  |cons v r=>exact⟨v,r,rfl,zq.2 0 _ _ rfl rfl,⟨by have:=zq.1;simp at this |-;omega,fun k c u h1 h2=>zq.2 (k+1) c u (by simpa using h1) (by simpa using h2)⟩⟩
 obtain⟨v3,rfl,g3⟩:=Yq iC;cases g2;obtain⟨b,cap,arr,te,hβ,rfl,ez,hh,hs⟩:=g1.cQ;obtain⟨vb,aua,vi,tv,hβv,rfl,hlv,hhv,hsv⟩:=g3.cQ;have hB:m.B id=some (A++C):=aK;have uk:m.B gV=some V:=dW
 have akQ:A++C≠[]:=by
  intro h;have:=congrArg List.length h;simp only[zzai,hA,hC,zzcf]at this;omega
 have aub:V≠[]:=by rintro rfl;simp at hV
 have T1:vb≠b:=by
  rintro rfl;rcases hm.inj _ _ _ hβ hβv with h|h|h
  ·rw[hB]at h;exact akQ (Option.some.inj h)
  ·rw[uk]at h;exact aub (Option.some.inj h)
  exact aM h.symm
 obtain⟨bR,zn,q2,q3,q4⟩:=hm.box id _ b hB hβ;rw[hh]at q2;cases q2;obtain⟨azF,tv',p2,p3,p4⟩:=hm.box gV _ vb uk hβv;rw[hhv]at p2;cases p2;have hvl:=p3.1;simp only[zzbk,hV]at hvl
 have hVr:ak w γ V (vi.toList.take 7):=by
  refine⟨by simp only[zzaq,zzbk,hV];omega,fun k c v g1 g2=>?_⟩;have hk:=(zza.1 g1).1;rw[zzbl,if_pos zE]at g2;exact p3.2 k c v g1 g2
 have hvo:∀v∈vi.toList.take 7,v.oneCell'=true:=fun v hv=>p4 v (zzcb hv);have hi7:(i+1)*7=A.length+V.length:=by rw[hA,hV];omega
 simp only[zzbw]at hs;by_cases cH:n+1<=cap
 ·have gA:=SR b n cap i vb aua arr vi te tv w hi cH hn T1 hh hhv hs hvl q4 p4;have Ra:(n+1)*7<=cap*7:=zzbc _ cH;rw[hi7,<- hA,<- hC]at gA;obtain⟨e1,m1⟩:=SS hm aK akQ hβ hh hVr hvo (by rw[hA,hC,hV];omega);refine gA.mono ?_;rintro e w' ⟨rfl,rfl⟩;have hh':w.drew.heap[b]?=some (.cells arr te (0,0)):=hh;refine⟨_,_,.bs m.boxes.length 0 (n+1) 7,_,rfl,e1.cK,m1,hl.mono' e1 rfl,.bs (by simp[G.box]) cH (Xb b _ _ _ _ te _ (Xb b _ _ _ arr te _ hh')) (by rw[Vd,Vd];omega),hK⟩
 have gA:=aaL b n cap i vb aua arr vi te tv w hi ez zE hn T1 hh hhv hs hvl q4 p4;refine gA.mono ?_;rintro e w' ⟨Gc,ou,zs,hG,rfl,hR,hz,hGR,hzo,rfl⟩;rw[<- hA]at hR;obtain⟨e1,m1⟩:=agD (te2:=36) hm aK hβ hh hVr hvo hR (by rw[hC,hV];omega) hzo (by simp[aub]);rw[hi7,<- hA,<- hC];refine⟨_,_,.bs m.boxes.length 0 (n+1) 7,_,rfl,e1.cK,m1,hl.mono' e1 rfl,.bs (by simp[G.box]) hG (Xb _ _ _ _ _ 36 _ (Xb _ _ _ (w.drew.alloc (.cells ou 36)) ou 36 _ (Yj w _))) (by rw[Vd,Vd];omega),hK⟩
open Go Go.Abs
def Ki{B:List (List AV)}{id:Nat}{c:List AV}(h:id<B.length)(hr:Qh B id=c):B[id]?=some c:=by
 rw[Ug h,hr]
def agE(Y:YT)(m:AM)(id gV n:Nat)(A V:List AV)(aK:m.boxes[id]?=some A)(dW:m.boxes[gV]?=some V)(hA:A.length=n*7)(hn:0<n)(hn9:n<=1000000000)(hV:V.length=7)(okV:Zj V=true)
  (K:AV->AM->Prop)(hK:K (.bs m.boxes.length 0 (n+1) 7) {m with boxes:=m.boxes.set id []++[A++V]}):an Tryz.prog aA Y 220 [.bs id 0 n 7,I n,.bs gV 0 1 7] m K:=by
 obtain⟨mb,ml,ms,mn⟩:=m;have r1:=Qt aK;have r2:=Qt dW;have l1:=(zza.1 aK).1;have l2:=(zza.1 dW).1;simp only at r1 r2 l1 l2 hK;have aM:¬A=[]:=by rintro rfl;simp at hA;omega
 refine Xd CF (fun _ _ _=>.junk) zd ?_;simp[Wa,Wb,r1,r2,l1,l2,hA,hV,aM];refine⟨zE,?_⟩;rw[zzap zE,zzap zE];exact hK
def agF(Y:YT)(m:AM)(k:Nat)(row:List AV)(ah:row.length=7)(hk:m.lens[k]?=some 0)(K:AV->AM->Prop)(hK:K (.sl (.own k 7) [row]) {m with lens:=m.lens.set k 1}):
  an Tryz.prog aA Y 220 [.sl (.own k 7) [],I 0,.sl .full [row]] m K:=by
 obtain⟨mb,ml,ms,mn⟩:=m;refine Xd CF (fun _ _ _=>.junk) zd ?_;simp[Wa,Wb,ah];exact⟨hk,hK⟩
def aaN(Y:YT)(m:AM)(K:AV->AM->Prop)(hK:K (.sl (.own m.lens.length 7) []) {m with lens:=m.lens++[0]}):an Tryz.prog aA Y 126 [.sl .ro []] m K:=by
 refine Xd Cr (fun _ _ _=>.junk) zd ?_;simp[NI,NJ];exact hK
def aaO(p:Pl):Nat->FuncId->List AV->AV:=fun d f l=>if f=126 then .gd false .junk else Kr p d f l
def aaP(Y:YT)(m:AM)(p:Pl)(h:BJ p)(hn:p.ens=[])(K:AV->AM->Prop)
  (hK:∀c0 c1,K (.agg (Uu p (.sl (.own m.lens.length 7) []))) {m with boxes:=m.boxes++[c0,c1],lens:=m.lens++[0]}):an Tryz.prog aA Y 61 [.agg (Qa p)] m K:=by
 obtain⟨mb,ml,ms,mn⟩:=m;obtain⟨h1,h2,h3,h4,h5,h6⟩:=h;have k1:=qf p.sh zE;have k2:=qg p.aN zE;have k4:=qh p.bks zE;have k5:=DU p.cls zE;refine Xd vu (aaO p) zd ?_;simp[J8,Qa,aaO,Kr,hn];refine⟨k1,k2,aaN _ _ _ ?_⟩;simp;refine Qk eN (fun f m=>f 22=I 0/\m=⟨mb++[[I p.ch,I p.nu,I p.de,I p.of,.sl .ro (p.sh.map Qf),I p.ep,I p.rg,I p.ln,I p.fi,.sl .ro (p.aN.map Qn),.sl (.own ml.length 7) [],.sl .ro (p.bks.map Xg),.sl .ro (p.cls.map Qg)],[I 0,I 0,I 0,I 0,.sl .nil [],I 0,I 0,I 0,I 0,.sl .nil [],.sl .nil [],.sl .nil [],.sl .nil []]],ml++[0],ms,mn⟩) (fun f _=>0) ?_ ?_
 ·exact⟨zd,zd⟩
 rintro f m ⟨f22,rfl⟩;simp[f22,eN,J9,aaO,Kr];refine⟨k4,k5,?_⟩;simp[Uu]at hK;exact hK _ _
def D6(f:Int)(o:Od):En:={o.nw with ea:=if o.nw.ea<f then f else o.nw.ea}
def agG(g:Pg)(b:List (Int×Bool)):Int:=Ux (fun e:En=>!(zB b e.id)) g.p.ens 0
def SX(g:Pg)(b:List (Int×Bool)):Nat:=if agG g b<0 then g.p.ens.length else(agG g b).toNat
def ov(g:Pg)(f:Int)(b:List (Int×Bool))(o:Od):Pl:={g.p with ens:=g.p.ens.take (SX g b)++D6 f o::g.p.ens.drop (SX g b)}
def agH{α:Type}(P:α->Bool)(L:List α)(i:Nat):Ux P L i= -1\/∃k:Nat,k<L.length/\Ux P L i=((i+k:Nat):Int):=by
 cases h:L.find? P with
 |none=>exact .inl (Qdk h)
 |some a=>
  obtain⟨k,h1,h2,_⟩:=Wm (i:=i) h;exact .inr ⟨k,(zza.1 h2).1,h1⟩
def agI(Y:YT)(m:AM)(rt:Rt)(kk:Nat)(K:AV->AM->Prop)(hK:K (I (-1)) m):an Tryz.prog aA Y 218 [.sl rt [],.fn 219 [] [.ptr kk 0]] m K:=by
 obtain⟨mb,ml,ms,mn⟩:=m;refine an.mono (an.read (K:=fun r=>r=I (-1)) (Xd CE (fun _ _ _=>.gd false .junk) zd ?_)) (by rintro r m' ⟨rfl,rfl⟩;exact hK);simp[Oa];refine Qk fE (fun s m=>s 8=I 0/\m=⟨mb,ml,ms,mn⟩) (fun s _=>0) ?_ ?_
 ·exact⟨zd,rfl⟩
 rintro s m ⟨f8,rfl⟩;simp[f8,fE,AN];exact lK
def akR:Nat->FuncId->List AV->AV:=fun _ f l=>if f=127 then l.headD .junk else if f=999999 then .aL 0 []else .gd false .junk
def aaQ:Nat->FuncId->List AV->AV:=fun _ f l=>if f=127 then l.headD .junk else if f=999999 then .junk else .gd false .junk
def MD(Y:YT)(m:AM)(g:Pg)(f:Int)(mid:Nat)(b:List (Int×Bool))(o:Od)(hp:BJ g.p)(hb:gz m.boxes mid b)(ho:o.nw.al.length<=8796093022208)(K:AV->AM->Prop)
  (hK:∀ex V ls,nc (m.boxes++ex) V (ov g f b o).ens->HI m.boxes.length V->K (.aZ [.agg (Xr (ov g f b o) V (.sl .ro (g.p.cls.map Qg)) 0),.bool true]) {m with boxes:=m.boxes++ex,lens:=m.lens++ls}):
  an Tryz.prog aA Y 141 [.agg (Qr g f mid),.agg (Qp o)] m K:=by
 obtain⟨mb,ml,ms,mn⟩:=m;have hoe:=Wv o.nw ho;simp only[Qd]at hoe;have hB:∀ex,gz (mb++ex) mid b:=fun ex=>⟨by have:=hb.1;simp at this |-;omega,hb.ext ex⟩;by_cases aM:g.p.ens=[]
 ·have kO:=fun ex K hK=>aaP Y ⟨mb++ex,ml,ms,mn⟩ g.p hp aM K hK;simp only[Qa]at kO;have hx:(ov g f b o).ens=[D6 f o]:=by simp[ov,aM]
  refine Xd NR aaQ zd ?_;simp[VH,VI,Qr,Qm,Qa,Qp,Qd,Qg,Qi,aaQ];refine kO _ _ fun c0 c1=>?_;simp[Uu];refine agI _ _ _ _ _ ?_;simp;refine⟨hoe,agF _ _ ml.length _ rfl zd _ ?_⟩;simp;exact hK _ (.sl (.own ml.length 7) [Qd (D6 f o)]) [1] (.inl ⟨_,by rw[hx];rfl,D1.own _ _⟩) (HI.sl _ _ _)
 have kO:=fun ex K hK=>yC Y ⟨mb++ex,ml,ms,mn⟩ g.p hp aM K hK;simp only[Qa]at kO;refine Xd NR akR zd ?_;simp[VH,VI,Qr,Qm,Qa,Qp,Qd,Qg,Qi,akR];refine kO _ _ fun c0 c1 bx=>?_;simp[Uu,zzao];have hl9:g.p.ens.length<=1000000:=hp.2.2.1;refine an.mono (MC _ _ g f mid mb.length b (mb.length+5) g.p.ens [] zE zd (by simp[Qr,Qm,Qa]) (hB _) zd (by simp[eY])) ?_;rintro r m' ⟨rfl,rfl⟩;have fk:0<g.p.ens.length:=zzcx.2 aM;rcases agH (fun e:En=>!(zB b e.id)) g.p.ens 0 with hI|⟨k,hk,hI⟩
 ·have hJ:SX g b=g.p.ens.length:=by unfold SX agG;rw[hI,if_pos zE]
  have hP:(ov g f b o).ens=g.p.ens++[D6 f o]:=by simp[ov,hJ]
  rw[hI];simp[zzao];refine⟨hoe,agE _ _ _ _ _ (eY g.p.ens) (Qd (D6 f o)) (Ki zd (by simp[eY])) (Ki zd (by simp[D6,Qd])) (Jg _) fk zE rfl rfl _ ?_⟩;simp[zzao];have h3:=fun ex k h1 h2 h4=>hK ex (.bs k 0 (g.p.ens.length+1) 7) [] (.inr ⟨k,[],by rw[hP];simp,h1,h2,rfl⟩) (HI.bs h4);simp only[zzau]at h3;exact h3 _ (mb.length+(bx.length+9)) zd (by simp[hP,qn,Qd]) zd
 have hJ:SX g b=k:=by unfold SX agG;rw[hI,if_neg zE];omega
 have gX:Ux (fun e:En=>!(zB b e.id)) g.p.ens 0=(k:Int):=by rw[hI];omega
 have EG:¬(k:Int)<0:=zE
 have hP:(ov g f b o).ens=g.p.ens.take k++D6 f o::g.p.ens.drop k:=by simp[ov,hJ]
 rw[gX];simp[zzao,EG];refine⟨hoe,SV _ _ _ _ _ _ (eY (g.p.ens.take k)) (eY (g.p.ens.drop k)) (Qd (D6 f o)) (Ki zd (by rw[<- qn,zzdd];simp[eY])) (Ki zd (by simp[D6,Qd])) zE rfl (by rw[Jg,zzaq];omega) (by rw[Jg,zzcr]) hk zE _ ?_⟩;simp[zzao];have h3:=fun ex k h1 h2 h4=>hK ex (.bs k 0 (g.p.ens.length+1) 7) [] (.inr ⟨k,[],by rw[hP];simp;omega,h1,h2,rfl⟩) (HI.bs h4);simp only[zzau]at h3;exact h3 _ (mb.length+(bx.length+9)) zd (by simp[hP,qn,Qd]) zd
open Go Go.Abs
def HS(f:Int)(e:bE):bE:={e with fr:=if f-e.st<e.fr then f-e.st else e.fr}
def Ye(f:Int):List bE->List bE
 |[]=>[]
 |e::r=>if f<=e.st then Ye f r else HS f e::Ye f r
def yL(f:Int):∀(l r:List bE),Ye f (l++r)=Ye f l++Ye f r
 |[],_=>rfl
 |e::l,r=>by
  simp only[zzad,Ye,yL f l r];split<;>rfl
def Qdu(f:Int):∀(l:List bE),(Ye f l).length<=l.length
 |[]=>zzab _
 |e::l=>by
  have:=Qdu f l;simp only[Ye];split<;>simp<;>omega
def akS(ml:List Nat)(o:List bE)(v:AV)(ls:List Nat):Prop:=(o=[]/\v=.sl .nil []/\ls=ml)\/(o≠[]/\v=.sl (.own ml.length 7) (o.map Qe)/\ls=ml++[o.length])
def auc(l:List bE)(F:Int)(mb:List (List AV))(ml:List Nat)(ms:Nat->LS)(mn:Nat)(g:Nat->AV)(m:AM):Prop:=
 ∃(i:Nat)(bx:List (List AV))(ls:List Nat),i<=l.length/\g 11=I i/\m=⟨mb++bx,ls,ms,mn⟩/\akS ml (Ye F (l.take i)) (g 5) ls
def aaR:Nat->FuncId->List AV->AV:=fun _ g l=>if g=88 then l.headD .junk else .junk
def yM(Y:YT)(m:AM)(l:List bE)(f:Int)(hl:l.length<=1000000)(hs:∀e∈l,Ul e)(hf:0<=f/\f<=1000000)(K:AV->AM->Prop)
  (hK:∀ex v ls,akS m.lens (Ye f l) v ls->K v {m with boxes:=m.boxes++ex,lens:=ls}):an Tryz.prog aA Y 155 [.sl .ro (l.map Qe),I f] m K:=by
 obtain⟨mb,ml,ms,mn⟩:=m;refine Xd ads aaR zd ?_;simp[VN,aiu];refine Qk vC (auc l f mb ml ms mn) (fun g _=>l.length-(numOf (g 11)).toNat) ?_ ?_
 ·exact⟨0,[],ml,zE,zd,zd,.inl ⟨by simp[Ye],zd,rfl⟩⟩
 rintro g m ⟨i,bx,ls,hi,pO,rfl,aT⟩;rcases zzaa i l.length with ai|bz
 ·obtain⟨a,ha⟩:=aU ai;have ah:Qh (l.map Qe) i=Qe a:=Qt (by simp[ha]);have hw:=bM i zE;have bC:l.take (i+1)=l.take i++[a]:=by rw[zzas,ha];rfl
  have aa:(i:Int)<(l.length:Int):=zE
  obtain⟨⟨a1,a2⟩,⟨a3,a4⟩,a5,a6⟩:=hs a (zzac ha);have iP:=Qdu f (l.take i);have azG:(Ye f (l.take i)).length<=1000000:=by simp at iP;omega
  by_cases h1:f<=a.st
  ·have hb:Ye f (l.take (i+1))=Ye f (l.take i):=by rw[bC,yL];simp[Ye,h1]
   simp[pO,ah,ai,Qe,h1,hw,vC];refine⟨aP,⟨i+1,_,ls,zE,zd,rfl,?_⟩,zE⟩
   ·rw[hb];exact aT
  have hb:Ye f (l.take (i+1))=Ye f (l.take i)++[HS f a]:=by rw[bC,yL];simp[Ye,h1]
  have wf1:=wu f zE zE;have wf2:=wu a.st zE zE;have wf3:=wu a.fr zE zE;have wf4:=wu (f-a.st) zE zE;have wf5:IntKind.i64.wrap (f-a.st)=f-a.st:=by rw[Qj]<;>omega
  have oF:=Uz a.al a6;obtain⟨fr',an6⟩:∃fr',fr'=if f-a.st<a.fr then f-a.st else a.fr:=⟨_,rfl⟩;have T6:Qe (HS f a)=[I a.id,I a.it,I a.st,I fr',I a.i,I a.re,.sl .ro (a.al.map Qf)]:=by rw[an6];rfl
  have sD:(0<a.fr/\f-a.st<a.fr/\fr'=f-a.st)\/(0<a.fr/\¬f-a.st<a.fr/\fr'=a.fr)\/(¬0<a.fr/\fr'=a.fr):=by
   rw[an6];by_cases h0:0<a.fr
   ·by_cases hc:f-a.st<a.fr
    ·exact .inl ⟨h0,hc,by simp[hc]⟩
    exact .inr (.inl ⟨h0,hc,by simp[hc]⟩)
   exact .inr (.inr ⟨h0,by rw[if_neg zE]⟩)
  have jr:(Ye f (l.take (i+1))).length=(Ye f (l.take i)).length+1:=by rw[hb];simp
  have SU:Ye f (l.take (i+1))≠[]:=by rw[hb];simp
  have fin:(Ye f (l.take (i+1))).map Qe=(Ye f (l.take i)).map Qe++[[I a.id,I a.it,I a.st,I fr',I a.i,I a.re,.sl .ro (a.al.map Qf)]]:=by rw[hb,zzca,<- T6];rfl
  clear an6 T6;have z7:=aT;clear aT;obtain⟨e0,h5,rfl⟩|⟨e0,h5,rfl⟩:=z7
  ·rw[e0]at fin jr;obtain⟨h0,hc,rfl⟩|⟨h0,hc,rfl⟩|⟨h0,rfl⟩:=sD
   all_goals
    simp[Qe,aaR,vC, *];refine⟨aP,⟨i+1,_,_,zE,zd,rfl,.inr ⟨SU,?_,?_⟩⟩,zE⟩
    ·simp[fin]
    rw[jr];rfl
  obtain⟨h0,hc,rfl⟩|⟨h0,hc,rfl⟩|⟨h0,rfl⟩:=sD
  all_goals
   simp[Qe,aaR,vC, *];refine⟨⟨by rintro row (⟨x,_,rfl⟩|rfl)<;>rfl,zE⟩,ag ?_,⟨i+1,_,_,zE,zd,rfl,.inr ⟨SU,?_,?_⟩⟩,zE⟩
   ·repeat(first|exact Qc _ _|refine Qb _ rfl ?_)
   ·simp[fin]
   rw[jr]
 have hbf:l.take i=l:=zzap bz;rw[hbf]at aT;simp[pO,zzbo.2 bz,vC];exact hK _ _ _ aT
open Go Go.Abs
def yN(n a b:Int)(ha:0<=a/\a<=1000000000)(hb:0<=b/\b<=1000000000):Pure Tryz.prog aA 229 [I n,I a,I b] (.bool (decide (n=a+b))):=by
 have hw:IntKind.i64.wrap (a+b)=a+b:=by rw[Qj]<;>omega
 have h1:¬a<0:=zE
 have h2:¬b<0:=zE
 have h3:¬a+b<0:=zE
 refine Qo aej (fun _ _ _=>.junk) zd ?_;by_cases h:n=a+b<;>simp[ai4,ai5,hw,h1,h2,h3,h]
def SY(e:bE):Ad:=⟨e.it,0,e.st,e.fr⟩
def r8(n:Int):List Ad->List Ad
 |[]=>[]
 |[a]=>[{a with fs:=a.fs+n}]
 |a::b::r=>a::r8 n (b::r)
def HT(n:Int)(a:Ad):∀l:List Ad,r8 n (l++[a])=l++[{a with fs:=a.fs+n}]
 |[]=>rfl
 |[x]=>rfl
 |x::y::r=>by have:=HT n a (y::r);simp only[zzad]at this |-;rw[r8,this]
def yO(x e:bE):Prop:=x.id=e.id/\e.st=x.st+x.fr/\e.i=x.i+x.fr
instance (x e:bE):Decidable (yO x e):=by unfold yO;infer_instance
def Ud(x:Option bE)(e:bE)(out:List Ad):List Ad:=
 if e.id=0 then out else match x with
 |none=>out++[SY e]
 |some x=>if yO x e then r8 e.fr out else out++[SY e]
def uB:Option bE->List bE->List Ad->List Ad
 |_,[],out=>out
 |x,e::r,out=>uB (some e) r (Ud x e out)
def SZ(l:List bE)(f:Int):List Ad:=uB none (Ye f l) []
def BQ(e:bE):∀(l:List bE)(x:Option bE)(out:List Ad),uB x (l++[e]) out=Ud (match l.getLast? with|some y=>some y|none=>x) e (uB x l out)
 |[],_,_=>rfl
 |[a],_,_=>rfl
 |a::b::r,x,out=>by
  have:=BQ e (b::r) (some a) (Ud x a out);simp only[zzad]at this |-
  rw[uB,this,List.getLast?_cons_cons];congr 1
def agJ{n:Int}:∀{l:List Ad},l≠[]->r8 n l≠[]
 |[],h=>absurd rfl h
 |[a],_=>by simp[r8]
 |a::b::r,_=>by simp[r8]
def r9{B:List bE}{i:Nat}{e:bE}(h:B[i]?=some e):uB none (B.take (i+1)) []=Ud (if i=0 then none else B[i-1]?) e (uB none (B.take i) []):=by
 have ai:=(zza.1 h).1;rw[zzas,h];show uB none (B.take i++[e]) []=_;rw[BQ];congr 1;cases i with
 |zero=>rfl
 |succ i=>
  have hx:B[i]?=some B[i]:=zzae zE;rw[zzas,hx,zzgi,List.getLast?_concat,if_neg zE,zzgj,hx]
def PA{B:List bE}:∀{i:Nat}{e:bE},B[i]?=some e->e.id≠0->uB none (B.take (i+1)) []≠[]
 |0,e,h,h0=>by rw[r9 h,if_pos rfl];simp[Ud,h0]
 |i+1,e,h,h0=>by
  rw[r9 h,if_neg zE,zzgj];have ai:=(zza.1 h).1;obtain⟨x,hx⟩:∃x,B[i]?=some x:=⟨_,zzae zE⟩;rw[hx];unfold Ud;rw[if_neg h0];simp only;split
  ·rename_i hj;exact agJ (PA hx (by rw[hj.1];exact h0))
  simp
def ow(f:Int)(hf:f<=1000000):∀(l:List bE),(∀e∈l,Ul e)->∀e∈Ye f l,Ul e
 |[],_,e,h=>by cases h
 |a::r,hs,e,h=>by
  have ih:=ow f hf r fun e he=>hs e (by simp[he]);rw[Ye]at h;split at h
  ·exact ih e h
  rename_i ct;rcases zzat.1 h with rfl|h
  ·obtain⟨⟨a1,a2⟩,⟨a3,a4⟩,a5,a6⟩:=hs a zd;refine⟨⟨a1,a2⟩,?_,a5,a6⟩;simp only[HS];split<;>omega
  exact ih e h
def FsB(n:Int)(out:List Ad):Prop:=∀a∈out,0<=a.fs/\a.fs<=n
def FsB.inc{n k:Int}(hk:0<=k/\k<=1000000):∀{l:List Ad},FsB n l->FsB (n+1000000) (r8 k l)
 |[],_,a,h=>by cases h
 |[x],hl,a,h=>by
  have:=hl x zd;simp only[r8,zzbd]at h;subst h;simp only;omega
 |x::y::r,hl,a,h=>by
  rw[r8]at h;rcases zzat.1 h with rfl|h
  ·have:=hl a zd;omega
  exact FsB.inc hk (l:=y::r) (fun b hb=>hl b (by simp[hb])) a h
def FsB.step{n:Int}{x:Option bE}{e:bE}{out:List Ad}(h:FsB n out)(hn:0<=n)(he:Ul e):FsB (n+1000000) (Ud x e out):=by
 obtain⟨_,h3,_⟩:=he;have hw:FsB (n+1000000) out:=fun a ha=>by have:=h a ha;omega
 have hp:FsB (n+1000000) (out++[SY e]):=fun a ha=>by
  rcases zzam.1 ha with ha|ha
  ·exact hw a ha
  simp only[zzbd]at ha;subst ha;simp only[SY];omega
 unfold Ud;split
 ·exact hw
 cases x with
 |none=>exact hp
 |some x=>
  simp only;split
  ·exact h.inc h3
  exact hp
def HU(B:List bE)(x:Option bE)(out:List Ad):(uB x B out).length<=out.length+B.length:=by
 induction B generalizing x out with
 |nil=>simp[uB]
 |cons e r ih=>
  rw[uB];have h1:=ih (some e) (Ud x e out)
  have h2:(Ud x e out).length<=out.length+1:=by
   have hi:∀(k:Int)(l:List Ad),(r8 k l).length=l.length:=by
    intro k l;induction l with
    |nil=>rfl
    |cons a r ih=>cases r with
     |nil=>rfl
     |cons b r=>rw[r8,zzbe,ih];rfl
   unfold Ud;split
   ·omega
   cases x with
   |none=>simp
   |some x=>
    simp only;split
    · rw[hi];omega
    simp
  simp only[zzbe];omega
def tG(l:List Ad):List AV:=(l.map Vl).flatten
def vj:∀l,(tG l).length=l.length*4
 |[]=>rfl
 |a::r=>by have:=vj r;simp only[tG,zzay,zzcl,zzai]at this |-;rw[this];simp[Vl];omega
def agK(a b:List Ad):tG (a++b)=tG a++tG b:=by simp[tG]
def an7(l:List Ad):Zj (tG l)=true:=fD (fun _=>rfl) l
def S0{bx:List (List AV)}{k:Nat}{c:List AV}(h:k<bx.length)(ex:List (List AV)):Qh (bx.set k c++ex) k=c:=
 Qt (by rw[zzag (by simpa using h)];simp[h])
def lP(bx:List (List AV))(k:Nat)(c p q r:List AV):Qh (bx.set k c++[p,q,r]) (bx.length+2)=r:=
 Qt (by rw[zzal zd];simp)
def S1(l:List Ad):bh 4 l.length (tG l)=l.map Vl:=by
 have:=Ju (sz:=4) (rows:=l.map Vl) (Qbb (f:=Vl) (fun _=>rfl) l);rw[zzbj]at this;exact this
def PB(bx:List (List AV))(o:List Ad)(v:AV):Prop:=(o=[]/\v=.sl .nil [])\/(o≠[]/\∃k,v=.bs k 0 o.length 4/\k<bx.length/\Qh bx k=tG o)
def aud(B:List bE)(ls:List Nat)(g:Nat->AV)(m:AM):Prop:=
 ∃(i:Nat)(bx:List (List AV)),g 15=I i/\i<=B.length/\m=⟨bx,ls,fun _=>.gone,0⟩/\PB bx (uB none (B.take i) []) (g 5)/\FsB (i*1000000) (uB none (B.take i) [])
def nh:Nat->FuncId->List AV->AV:=fun d f l=>if f=155 then .gd false .junk else if f=229 then(match l with|[.int _ n,.int _ a,.int _ b]=>.bool (decide (n=a+b))|_=>.junk)else if f=999999 then(if d=73 then .junk else .aL 0 [])else .junk
def PB.ext{bx:List (List AV)}{o:List Ad}{v:AV}(h:PB bx o v)(ex:List (List AV)):PB (bx++ex) o v:=by
 obtain h|⟨h0,k,h1,h2,h3⟩:=h
 ·exact .inl h
 exact .inr ⟨h0,k,h1,by simp;omega,by rw[Ql h2,h3]⟩
def ME(l:List bE)(f:Int)(hl:l.length<=1000000)(hs:∀e∈l,Ul e)(hf:0<=f/\f<=1000000):Pure Tryz.prog aA 159 [.sl .ro (l.map Qe),I f] (.sl .ro ((SZ l f).map Vl)):=by
 have hsB:=ow f hf.2 l hs;have hlB:(Ye f l).length<=1000000:=by have:=Qdu f l;omega
 have:Pure Tryz.prog aA 159 [.sl .ro (l.map Qe),I f] (.sl (if SZ l f=[]then .nil else .ro) ((SZ l f).map Vl)):=by
  refine Qo adv nh zd ?_;simp[VO,aix,nh];refine yM _ _ l f hl hs hf _ fun ex v ls hO=>?_
  obtain⟨rt,rfl⟩:∃rt,v=.sl rt ((Ye f l).map Qe):=by
   obtain⟨e,rfl,_⟩|⟨e,rfl,_⟩:=hO
   ·exact⟨.nil,by rw[e];rfl⟩
   exact⟨_,rfl⟩
  clear hO;unfold SZ;generalize Ye f l=B at*
  simp;refine Qk ee (aud B ls) (fun g _=>B.length-(numOf (g 15)).toNat) ?_ ?_
  ·exact⟨0,ex,zd,zE,zd,.inl ⟨by simp[uB],zd⟩,fun a h=>by simp[uB]at h⟩
  rintro g m ⟨i,bx,sU,hi,rfl,hO,hF⟩;rcases zzaa i B.length with ai|bz
  ·obtain⟨a,ha⟩:=aU ai;have ah:Qh (B.map Qe) i=Qe a:=Qt (by simp[ha]);have hw:=bM i zE;have aa:(i:Int)<(B.length:Int):=zE
   have lY:=hsB a (zzac ha);have bC:=r9 ha;have S2:=hF.step (x:=if i=0 then none else B[i-1]?) (e:=a) zE lY;rw[<- bC]at S2;obtain⟨⟨a1,a2⟩,⟨a3,a4⟩,⟨a5,a6⟩,a7⟩:=lY;by_cases h0:a.id=0
   ·simp[sU,ah,ai,Qe,h0,ee,hw];refine⟨aP,⟨i+1,_,zd,zE,rfl,?_,?_⟩,zE⟩
    ·simp[Ud,h0]at bC;rw[bC];simpa using hO.ext _
    have:((i+1:Nat):Int)*1000000=(i:Int)*1000000+1000000:=zE
    rw[this];exact S2
   cases i with
   |zero=>
    have e1:uB none (B.take 1) []=[SY a]:=by rw[bC];simp[Ud,h0,uB]
    have hO0:g 5=.sl .nil []:=by
     obtain⟨_,h⟩|⟨h,_⟩:=hO
     ·exact h
     exact absurd (by simp[uB]) h
    have eT:IntKind.i64.wrap 1=1:=by rw[Qj]<;>omega
    simp at sU;simp[sU,ah,ai,Qe,h0,ee,eT,hO0,nh];refine⟨aP,⟨1,_,zd,zE,rfl,.inr ⟨by rw[e1];simp,bx.length+1,by simp[e1],zd,?_⟩,?_⟩,zE⟩
    ·simp[e1,tG,Vl,SY]
    simpa using S2
   |succ i=>
    have ayE:i<B.length:=zE
    obtain⟨x,hx⟩:=aU ayE;have yP:Qh (B.map Qe) i=Qe x:=Qt (by simp[hx]);obtain⟨⟨x1,x2⟩,⟨x3,x4⟩,⟨x5,x6⟩,x7⟩:=hsB x (zzac hx);have k1:=yN a.st x.st x.fr zE zE;have k2:=yN a.i x.i x.fr zE zE;have LO:IntKind.i64.wrap (i:Int)=i:=by rw[Qj]<;>omega
    have yQ:(i:Int)<(B.length:Int):=zE
    have fk:(0:Int)<(i:Int)+1:=zE
    rw[if_neg zE,zzgj,hx]at bC;have aM:=PA hx;have qF:((i+1+1:Nat):Int)*1000000=((i+1:Nat):Int)*1000000+1000000:=zE
    have O1:=HU (B.take (i+1)) none [];have an8:¬yO x a->uB none (B.take (i+1+1)) []=uB none (B.take (i+1)) []++[SY a]:=fun h=>by rw[bC];simp[Ud,h0,h]
    have MF:yO x a->uB none (B.take (i+1+1)) []=r8 a.fr (uB none (B.take (i+1)) []):=fun h=>by rw[bC];simp[Ud,h0,h]
    rw[<- qF]at S2;clear bC;generalize uB none (B.take (i+1)) []=out at*
    generalize cW:uB none (B.take (i+1+1)) []=out' at*
    simp at sU ai aa hw O1;have atu:out.length<=1000000:=zE
    by_cases hj:yO x a
    ·have e1:=MF hj;obtain⟨j1,j2,j3⟩:=hj;have aM:=aM (by rw[j1];exact h0)
     obtain⟨O,z,rfl⟩:∃O z,out=O++[z]:=by
      rcases zzdp out with e|⟨O,z,e⟩
      ·exact absurd e aM
      exact⟨O,z,by rw[e,zzdq]⟩
     have hOl:(tG O).length=O.length*4:=vj O;have hz:=hF z zd;have hwz:IntKind.i64.wrap (z.fs+a.fr)=z.fs+a.fr:=by rw[Qj]<;>omega
     have hd3:∀X:List AV,(tG O++X).drop (O.length*4+3)=X.drop 3:=fun X=>BO _ _ _ _ hOl;have hs3:∀X Y:List AV,setA (tG O++X) (O.length*4+3) Y=tG O++setA X 3 Y:=fun X Y=>BN _ _ _ _ _ hOl;obtain⟨e,_⟩|⟨_,k,h5,hk,hr⟩:=hO
     ·exact absurd e aM
     have hR:∀ex,Qh (bx++ex) k=tG O++[I z.it,I z.re,I z.fr,I z.fs]:=fun ex=>by rw[Ql hk,hr,agK];rfl
     rw[HT]at e1;rw[zzai,zzea]at h5;have hwo:IntKind.i64.wrap (O.length:Int)=O.length:=by simp at atu;rw[Qj]<;>omega
     have sI:k<bx.length+1:=zE
     have aaS:k<bx.length+(1+1):=zE
     have ayF:k<bx.length+2:=zE
     simp[sU,ah,aa,Qe,h0,ee,hw,yP,yQ,fk,LO,nh,j1,j2,j3,h5,hR,hwo,hd3,hs3,hOl,hwz,hk,aaS];refine⟨zE,by rw[j2]at k1;simpa using k1,by rw[j3]at k2;simpa using k2,zE,aP,⟨i+1+1,_,zd,zE,rfl,.inr ⟨by rw[cW,e1];simp,k,by rw[cW,e1];simp,by simp;omega,?_⟩,by rw[cW];exact S2⟩,zE⟩
     ·rw[cW,e1,S0 hk];simp[tG,Vl]
    have e1:=an8 hj
    have o8:¬x.id=a.id\/(x.id=a.id/\¬a.st=x.st+x.fr)\/(x.id=a.id/\a.st=x.st+x.fr/\¬a.i=x.i+x.fr):=by
     unfold yO at hj;by_cases j1:x.id=a.id
     ·by_cases j2:a.st=x.st+x.fr
      ·exact .inr (.inr ⟨j1,j2,fun j3=>hj ⟨j1,j2,j3⟩⟩)
      exact .inr (.inl ⟨j1,j2⟩)
     exact .inl j1
    obtain⟨rfl,h5⟩|⟨SU,k,h5,hk,hr⟩:=hO
    ·obtain j1|⟨j1,j2⟩|⟨j1,j2,j3⟩:=o8
     ·simp[sU,ah,aa,Qe,h0,ee,hw,yP,yQ,fk,LO,nh,j1,h5];refine⟨zE,aP,⟨i+1+1,_,zd,zE,rfl,.inr ⟨by rw[cW,e1];simp,bx.length+2,by rw[cW,e1];simp,zd,?_⟩,by rw[cW];exact S2⟩,zE⟩
      ·rw[cW,e1];simp[tG,Vl,SY]
     ·simp[sU,ah,aa,Qe,h0,ee,hw,yP,yQ,fk,LO,nh,j1,j2,h5];refine⟨zE,by simpa[j2]using k1,aP,⟨i+1+1,_,zd,zE,rfl,.inr ⟨by rw[cW,e1];simp,bx.length+2,by rw[cW,e1];simp,zd,?_⟩,by rw[cW];exact S2⟩,zE⟩
      ·rw[cW,e1];simp[tG,Vl,SY]
     simp[sU,ah,aa,Qe,h0,ee,hw,yP,yQ,fk,LO,nh,j1,j2,j3,h5];refine⟨zE,by rw[j2]at k1;simpa using k1,by simpa[j3]using k2,aP,⟨i+1+1,_,zd,zE,rfl,.inr ⟨by rw[cW,e1];simp,bx.length+2,by rw[cW,e1];simp,zd,?_⟩,by rw[cW];exact S2⟩,zE⟩
     ·rw[cW,e1];simp[tG,Vl,SY,j2]
    have hR:∀ex,Qh (bx++ex) k=tG out:=fun ex=>by rw[Ql hk,hr]
    have sI:k<bx.length+1:=zE
    have aaS:k<bx.length+(1+1):=zE
    have ayF:k<bx.length+2:=zE
    have JJ:=vj out;have aaT:¬tG out=[]:=by intro h;rw[h]at JJ;exact SU (zzav (by simp at JJ;omega))
    have Mn:List.take (out.length*4) (tG out)=tG out:=zzap zE;obtain j1|⟨j1,j2⟩|⟨j1,j2,j3⟩:=o8
    ·simp[sU,ah,aa,Qe,h0,ee,hw,yP,yQ,fk,LO,nh,j1,h5,hR,hk,aaS,JJ,aaT,Mn];refine⟨zE,zE,aP,⟨i+1+1,_,zd,zE,rfl,.inr ⟨by rw[cW,e1];simp,bx.length+2,by rw[cW,e1];simp,zd,?_⟩,by rw[cW];exact S2⟩,zE⟩
     ·rw[cW,e1,lP];simp[tG,Vl,SY]
    ·simp[sU,ah,aa,Qe,h0,ee,hw,yP,yQ,fk,LO,nh,j1,j2,h5,hR,hk,aaS,JJ,aaT,Mn];refine⟨zE,by simpa[j2]using k1,zE,aP,⟨i+1+1,_,zd,zE,rfl,.inr ⟨by rw[cW,e1];simp,bx.length+2,by rw[cW,e1];simp,zd,?_⟩,by rw[cW];exact S2⟩,zE⟩
     ·rw[cW,e1,lP];simp[tG,Vl,SY]
    simp[sU,ah,aa,Qe,h0,ee,hw,yP,yQ,fk,LO,nh,j1,j2,j3,h5,hR,hk,aaS,JJ,aaT,Mn];refine⟨zE,by rw[j2]at k1;simpa using k1,by simpa[j3]using k2,zE,aP,⟨i+1+1,_,zd,zE,rfl,.inr ⟨by rw[cW,e1];simp,bx.length+2,by rw[cW,e1];simp,zd,?_⟩,by rw[cW];exact S2⟩,zE⟩
    ·rw[cW,e1,lP];simp[tG,Vl,SY,j2]
  obtain rfl:i=B.length:=zE
  rw[zzbu]at hO;obtain⟨e,h5⟩|⟨e,k,h5,hk,hr⟩:=hO
  ·simp[sU,ee,h5,e]
  simp[sU,ee,h5,e];rw[hr,Zp _ _ (an7 _),vj,if_pos (zzab _),S1]
 exact Xa this (Wk.sl _ _)
