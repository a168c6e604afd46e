import Derived.Test.YthjppoincojfkaaGreatDoorRTMJ
set_option linter.all false
set_option maxRecDepth 100000
set_option maxHeartbeats 64000000
namespace Go.Proofs.YthjppoincojfkaaGreatDoor
noncomputable section
open Go Go.Abs
def wX(n:Int):Pure Tryz.prog aD 195 [I n] (.bool (decide (0<=n/\n<86400))):=by
 refine Qp ado (fun _ _ _=>.junk) zd ?_;by_cases h1:0<=n<;>by_cases h2:n<86400<;>simp[ahU,ahV,h1,h2]
def FR(n:Int)(h: -100000000000<=n/\n<=100000000000):Pure Tryz.prog aD 198 [I n] (.aS [I (n/86400),I (n%86400)]):=by
 refine Qp adr (fun _ _ _=>.junk) zd ?_
 have ht:n.tdiv 86400=if 0<=n\/n%86400=0 then n/86400 else n/86400+1:=by
  by_cases h0:0<=n
  ·rw[ac (.inl h0),zzcj h0]
  rw[Int.tdiv_eq_ediv];by_cases h1:n%86400=0
  ·rw[ac (.inr (Int.dvd_of_emod_eq_zero h1)),ac (.inr h1)];simp
  rw[ab (by rintro(h|h);exact h0 h;exact h1 (Int.emod_eq_zero_of_dvd h)),ab (by rintro(h|h);exact h0 h;exact h1 h)];rfl
 have hm:n.tmod 86400=n-n.tdiv 86400*86400:=by have:=Int.mul_tdiv_add_tmod n 86400;omega
 have w1:IntKind.i64.wrap (n.tdiv 86400)=n.tdiv 86400:=by rw[ht];split<;>rw[Ql]<;>omega
 by_cases CA:n.tmod 86400<0
 ·have e1:n.tdiv 86400=n/86400+1:=by
   rw[ht]at hm |-
   split
   ·rename_i hc;rw[ac hc]at hm;omega
   rfl
  have w2:IntKind.i64.wrap (n/86400+1)=n/86400+1:=by rw[Ql]<;>omega
  have w3:IntKind.i64.wrap (n/86400)=n/86400:=by rw[Ql]<;>omega
  have e2:n.tmod 86400=n%86400-86400:=by rw[hm,e1];omega
  have w4:IntKind.i64.wrap (n%86400)=n%86400:=by rw[Ql]<;>omega
  have vL:n%86400<86400:=zE
  have hn3:¬86400<=n%86400:=zE
  simp[UJ,UK,e1,e2,w2,w3,w4,vL,hn3]
 have e1:n.tdiv 86400=n/86400:=by
  rw[ht]at hm |-
  split
  ·rfl
  rename_i hc;rw[ab hc]at hm;omega
 have e2:n.tmod 86400=n%86400:=by rw[hm,e1];omega
 have w3:IntKind.i64.wrap (n/86400)=n/86400:=by rw[Ql]<;>omega
 have vL:¬n%86400<0:=zE
 simp[UJ,UK,e1,e2,w3,vL]
def zM(fr to:Int):List Sp:=if fr<to then[(fr,to)]else if to<fr then[(0,to),(fr,86400)]else[(0,86400)]
def C2(fr to:Int):Pure Tryz.prog aD 199 [I fr,I to] (.sl .full ((zM fr to).map Qe)):=by
 refine Qp ads (fun _ _ _=>.junk) zd ?_;by_cases h1:fr<to
 ·simp[Nb,Nc,h1,zM,Qe]
 by_cases h2:to<fr
 ·simp[Nb,Nc,h1,h2,zM,Qe]
 simp[Nb,Nc,h1,h2,zM,Qe]
def uC:Int->Int->List Sp->List (Int×Int×Int)
 |f,o,[]=>[(f,10000000001,o)]
 |f,o,s::r=>(if f<s.1 then[(f,s.1,o)]else[])++uC s.1 s.2 r
def A5(x:Int×Int×Int):P2:=[.agg [I x.1,I x.2.1,I x.2.2]]
def wY(of:Int)(sh:List Sp):Pure Tryz.prog aD 197 [.agg [I of,.sl .ro (sh.map Qe)]] (.fn 236 [] [.ep [I of,.sl .ro (sh.map Qe)] 0]):=by
 refine Qp adq (fun _ _ _=>.junk) zd ?_;simp[ahW,ahX]
def bW.put{O:Nat->Prop}{m:AM}{b:Nat}(hb:O b)(v:P2)(x:T5):bW O m {m with boxes:=m.boxes.set b v++x}:=
 ⟨zd,fun j hj ho=>by show Qi (m.boxes.set b v++x) j=_;rw[Qn (Nm hj),Ya v (by rintro rfl;exact ho hb)],⟨[],zd⟩,fun _ _=>rfl⟩
def bW.ar7{O:Nat->Prop}{m:AM}{b:Nat}(hb:O b)(v:P2):bW O m {m with boxes:=m.boxes.set b v}:=
 ⟨zd,fun j hj ho=>by show Qi (m.boxes.set b v) j=_;rw[Ya v (by rintro rfl;exact ho hb)],⟨[],zd⟩,fun _ _=>rfl⟩
def wZ(of:Int)(sh:List Sp)(hl:sh.length<=1000000000):XP Tryz.prog aD 236 [] [.ep [I of,.sl .ro (sh.map Qe)] 0] ((uC 0 of sh).map A5):=by
 intro Y l m K hF;refine Xo adN (fun _ _ _=>.junk) zd ?_;simp[UU];obtain⟨b,hbe⟩:∃b,m.boxes.length=b:=⟨_,rfl⟩;refine Qj Ch (fun f mm=>∃(i:Nat)(fr t o:Int)(O:Nat->Prop),f 12=I i/\i<=sh.length/\b<mm.boxes.length/\Qi mm.boxes b=[I fr,I t,I o]/\O b/\sE (Y l) K ((uC fr o (sh.drop i)).map A5) O mm) (fun f _=>sh.length-(numOf (f 12)).toNat) ?_ ?_
 ·refine⟨0,0,0,of,OU (fun _=>False) m.boxes.length (m.boxes.length+1),zd,zE,by simp[hbe],by simp[<- hbe],.inr ⟨zE,zE⟩,?_⟩;have:=hF.ext ((fB.box m [[I 0,I 0,I of]]).toO _);simpa using this
 rintro f mm ⟨i,fr,t,o,O,qm,hi,hlm,ai,C3,hF⟩;rcases zzaa i sh.length with ah|bu
 ·obtain⟨s,hs⟩:=aV ah;have zL:=Zy hs;have aa:(i:Int)<(sh.length:Int):=zE
  have hw:=bO i zE;have hd:sh.drop i=s::sh.drop (i+1):=by rw[zzai ah,(zza.1 hs).2]
  rw[hd,uC]at hF;have gX:∀x,Qi (mm.boxes++x) b=[I fr,I t,I o]:=fun x=>by rw[Qn hlm];exact ai
  have lu:∀x y,(mm.boxes++x).set b y=mm.boxes.set b y++x:=fun x y=>Yl y hlm;have nW:∀y x,Qi (mm.boxes.set b y++x) b=y:=fun y x=>by rw[Qn (Nm hlm),Yi _ hlm]
  have iC:∀y x,Qi (mm.boxes.set b y++[x]) mm.boxes.length=x:=fun y x=>by
   have:=Vp (mm.boxes.set b y) [x] 0;rw[zzcq]at this;simpa using this
  have hsc:∀y x z,(mm.boxes.set b y++x).set b z=mm.boxes.set b z++x:=fun y x z=>by rw[Yl z (Nm hlm),List.set_set]
  by_cases hfs:fr<s.1
  ·rw[ac hfs]at hF;simp only[zzfa,zzar]at hF;simp[qm,ah,aa,zL,gX,lu,nW,iC,Ch,hbe,hfs,hlm];refine⟨zE,hF _ (bW.put C3 _ _) _ (fun m2 A3 AW=>?_) (fun m2 hK=>?_)⟩
   ·have azk:mm.boxes.length+1<=m2.boxes.length:=by have:=A3.1;simpa using this
    have q1:Qi m2.boxes b=[I fr,I s.1,I o]:=by rw[A3.2 b (.inl C3)];exact nW _ _
    have q2:Qi m2.boxes mm.boxes.length=[I s.1,I s.2]:=by
     rw[A3.2 mm.boxes.length (.inr ⟨zzab _,zd⟩)];exact iC _ _
    have fh:b<m2.boxes.length:=zE
    have ar8:OU O mm.boxes.length (mm.boxes.length+1) b:=.inl C3;simp at AW;have q3:∀y,Qi (m2.boxes.set b y) b=y:=fun y=>Yi _ fh;simp[q1,q2,q3,fh,hw];refine⟨aQ,⟨i+1,zd,zE,s.1,0,s.2,⟨rfl,rfl,rfl⟩,_,.inl ar8,AW.ext (bW.ar7 ar8 _)⟩,zE⟩
   simp[No];exact hK _ (bW.refl _ _)
  rw[ab hfs]at hF;simp only[zzag]at hF;simp[qm,ah,aa,zL,gX,lu,nW,iC,hsc,Ch,hbe,hfs,hlm,hw];refine⟨zE,aQ,⟨i+1,zd,zE,zE,s.1,0,s.2,⟨rfl,rfl,rfl⟩,_,.inl C3,hF.ext (bW.put C3 _ _)⟩,zE⟩
 obtain rfl:i=sh.length:=zE
 rw[zzc,uC]at hF;simp only[zzar,zzct]at hF;simp[qm,Ch,hbe,ai,hlm,Yi _ hlm];refine hF _ (bW.ar7 C3 _) _ (fun m2 _ AW=>?_) (fun m2 hK=>?_)
 ·simp[No];exact AW _ (bW.refl _ _)
 simp[No];exact hK _ (bW.refl _ _)
def nx(L:List Sp)(f t:Int):List Sp:=
 if f<t then(match L.getLast? with|some s=>if s.2=f then L.dropLast++[(s.1,t)]else L++[(f,t)]|none=>[(f,t)])else L
def ig(m:AM)(id k:Nat)(L:List Sp):Prop:=id<m.boxes.length/\((L=[]/\Qi m.boxes id=[.sl .nil []])\/(L≠[]/\k<m.boxes.length/\k≠id/\Qi m.boxes id=[.bs k 0 L.length 2]/\Qi m.boxes k=cE L))
def aeu:UV:=fun d f _=>if f=999999 then(if d=34 then .aJ 0 []else .junk)else .junk
def XQ(Y:YT)(f t:Int)(id k:Nat)(L:List Sp)(m:AM)(hO:ig m id k L)(hl:L.length<=1000000000)(K:So)
  (hK:∀m' k',ig m' id k' (nx L f t)->(k'=k\/m.boxes.length<=k')->bC (fun j=>j=id\/(L≠[]/\j=k)) m.boxes m'.boxes->m'.st=m.st->m'.ln=m.ln->m'.lens=m.lens->K (.aS []) m'):aB Tryz.prog aD Y 196 [I f,I t,.ptr id 0] m K:=by
 obtain⟨h2,h3⟩:=hO;refine Xo adp aeu zd ?_;have gX:∀x,Qi (m.boxes++x) id=Qi m.boxes id:=fun x=>Qn h2;have lu:∀x y,(m.boxes++x).set id y=m.boxes.set id y++x:=fun x y=>Yl y h2;by_cases Ej:f<t
 ·have XR:¬t<=f:=zE
  obtain⟨rfl,h1⟩|⟨aO,hk,dP,h1,ai⟩:=h3
  ·have ha:nx [] f t=[(f,t)]:=by simp[nx,Ej]
   rw[ha]at hK;simp[EK,EL,aeu,Ej,XR,h1,h2,gX,lu];refine⟨zE,hK _ m.boxes.length ⟨by simp;omega,.inr ⟨zd,zd,zE,?_,?_⟩⟩ (.inr (zzab _)) ((bC.set (S:=fun j=>j=id\/(([]:List Sp)≠[]/\j=k)) (bC.refl _ _) (.inl (.inl rfl)) _).app _) rfl rfl rfl⟩
   ·simp only[zzhg];rw[Qn (Nm h2),Yi _ h2]
   have:=Vp (m.boxes.set id [.bs m.boxes.length 0 1 2]) [[I f,I t]] 0;rw[zzcq]at this;simpa using this
  obtain⟨A,s,rfl⟩:∃A s,L=A++[s]:=⟨L.dropLast,L.getLast aO,(zzfb aO).symm⟩;have ha:nx (A++[s]) f t=if s.2=f then A++[(s.1,t)]else A++[s]++[(f,t)]:=by simp[nx,Ej]
  rw[ha]at hK;have hw:IntKind.i64.wrap (A.length:Int)=(A.length:Int):=by simp at hl;rw[Ql]<;>omega
  have hg:(A++[s])[A.length]?=some s:=zd
  have g0:=uD hg;have g1:=FT hg;have dQ:(A++[s]).length=A.length+1:=zd
  rw[dQ]at h1;have gl:(cE (A++[s])).length=A.length*2+2:=by rw[Yh,dQ];omega
  have hR2:cE (A++[s]++[(f,t)])=cE (A++[s])++[I f,I t]:=by rw[Qcc];rfl
  have hR1:(cE (A++[s])).set (A.length*2+1) (I t)=cE (A++[(s.1,t)]):=by rw[w8 _ _ s _ hg];simp
  have hrk:∀x,Qi (m.boxes++x) k=cE (A++[s]):=fun x=>by rw[Qn hk];exact ai
  have hsk:∀x y,(m.boxes++x).set k y=m.boxes.set k y++x:=fun x y=>Yl y hk;generalize hR:cE (A++[s])=R at*
  by_cases hs:s.2=f
  ·rw[ac hs]at hK;simp[EK,EL,aeu,Ej,XR,h1,h2,hw,ai,g0,g1,gl,gX,lu,hrk,hsk,hk,hs];refine⟨zE,hK _ k ⟨Nm h2,.inr ⟨zd,Nm hk,dP,?_,?_⟩⟩ (.inl rfl) (bC.set (S:=fun j=>j=id\/(A++[s]≠[]/\j=k)) (bC.refl _ _) (.inl (.inr ⟨zd,rfl⟩)) _) rfl rfl rfl⟩
   ·show Qi (m.boxes.set k _) id=_;rw[Ya _ dP,h1];simp
   show Qi (m.boxes.set k _) k=_;rw[Yi _ hk];exact hR1
  rw[ab hs]at hK;simp[EK,EL,aeu,Ej,XR,h1,h2,hw,ai,g0,g1,gl,gX,lu,hrk,hsk,hk,hs];have hRt:List.take ((A.length+1)*2) R=R:=zzau zE;have axm:¬R=[]:=by rintro rfl;simp at gl
  have hri:∀x,Qi (m.boxes.set k []++x) id=[AV.bs k 0 (A.length+1) 2]:=fun x=>by rw[Qn (Nm h2),Ya _ dP,h1]
  simp only[hRt,hri];refine⟨zE,⟨⟨axm,zE⟩,by simp at hl;omega⟩,⟨zd,zE⟩,?_⟩;refine hK _ m.boxes.length ⟨by simp;omega,.inr ⟨zd,zd,zE,?_,?_⟩⟩ (.inr (zzab _)) ?_ rfl rfl rfl
  ·show Qi ((m.boxes.set k []).set id _++_) id=_;rw[Qn (Nm h2),Yi _ (Nm h2)];simp
  ·have:=Vp ((m.boxes.set k []).set id [.bs m.boxes.length 0 (A.length+1+1) 2]) [R++[I f,I t]] 0;simp only[zzcq]at this;rw[hR2];simpa using this
  exact((bC.set (S:=fun j=>j=id\/(A++[s]≠[]/\j=k)) (bC.refl _ _) (.inl (.inr ⟨zd,rfl⟩)) _).set (.inl (.inl rfl)) _).app _
 have ha:nx L f t=L:=by simp[nx,Ej]
 rw[ha]at hK;have XR:t<=f:=zE
 simp[EK,EL,Ej,XR];exact hK m k ⟨h2,h3⟩ (.inl rfl) (bC.refl _ _) rfl rfl rfl
def FU(L:List Sp)(f t:Int):(nx L f t).length<=L.length+1:=by
 unfold nx;split
 ·split
  ·rename_i s hs;split
   ·have:0<L.length:=by cases L with
     |nil=>simp at hs
     |cons=>simp
    simp<;>omega
   simp
  simp
 omega
def oW(sf st mid:Int):List Sp->List Sp->List Sp
 |[],L=>L
 |w::W,L=>oW sf st mid W (nx L (max sf (mid+w.1)) (min st (mid+w.2)))
def FV(sf st mid:Int):∀(W L:List Sp),(oW sf st mid W L).length<=L.length+W.length
 |[],L=>by simp[oW]
 |w::W,L=>by
  have h1:=FV sf st mid W (nx L (max sf (mid+w.1)) (min st (mid+w.2)));have h2:=FU L (max sf (mid+w.1)) (min st (mid+w.2));simp[oW];omega
def ny(W:List Sp)(sf st mid:Int)(L:List Sp):List Sp:=
 if mid<st then ny W sf st (mid+86400) (oW sf st mid W L)else L
termination_by(st-mid).toNat
decreasing_by omega
def qV(m0:AM)(k0:Nat)(m:AM)(k:Nat)(L:List Sp):Prop:=
 ig m 4 k L/\(k=k0\/m0.boxes.length<=k)/\bC (fun j=>j=4\/j=k0) m0.boxes m.boxes/\m.st=m0.st/\m.ln=m0.ln/\m.lens=m0.lens
def ig.app{m:AM}{id k:Nat}{L:List Sp}(h:ig m id k L)(x:T5):ig {m with boxes:=m.boxes++x} id k L:=by
 obtain⟨h1,h2⟩:=h;refine⟨by simp;omega,?_⟩;obtain⟨h2,h3⟩|⟨h2,h3,h4,h5,h6⟩:=h2
 ·exact .inl ⟨h2,by show Qi (m.boxes++x) id=_;rw[Qn h1];exact h3⟩
 exact .inr ⟨h2,by simp;omega,h4,by show Qi (m.boxes++x) id=_;rw[Qn h1];exact h5,by show Qi (m.boxes++x) k=_;rw[Qn h3];exact h6⟩
def qV.refl{m:AM}{k:Nat}{L:List Sp}(h:ig m 4 k L):qV m k m k L:=⟨h,.inl rfl,bC.refl _ _,rfl,rfl,rfl⟩
def qV.app{m0 m:AM}{k0 k:Nat}{L:List Sp}(h:qV m0 k0 m k L)(x:T5):qV m0 k0 {m with boxes:=m.boxes++x} k L:=
 ⟨h.1.app x,h.2.1,h.2.2.1.app x,h.2.2.2⟩
def qV.step{m0 m m':AM}{k0 k k':Nat}{L L':List Sp}(h:qV m0 k0 m k L)(hO:ig m' 4 k' L')(hk:k'=k\/m.boxes.length<=k')(hK:bC (fun j=>j=4\/(L≠[]/\j=k)) m.boxes m'.boxes)(h1:m'.st=m.st)(h2:m'.ln=m.ln)(h3:m'.lens=m.lens):qV m0 k0 m' k' L':=by
 obtain⟨a1,a2,a3,a4,a5,a6⟩:=h;refine⟨hO,?_,bC.trans a3 (hK.mono ?_),by rw[h1,a4],by rw[h2,a5],by rw[h3,a6]⟩
 ·have:=a3.1;omega
 rintro i (rfl|⟨_,rfl⟩)
 ·exact .inl (.inl rfl)
 obtain a2|a2:=a2
 ·exact .inl (.inr a2)
 exact .inr a2
def IC(s:Sp)(fr to:Int)(m:AM):Prop:=5<m.boxes.length/\Qi m.boxes 1=[I s.1,I s.2]/\Qi m.boxes 2=[I fr]/\Qi m.boxes 3=[I to]/\Qi m.boxes 5=[.fn 196 [] [.ptr 4 0]]
def IC.keep{s:Sp}{fr to:Int}{m m':AM}(h:IC s fr to m){S:Nat->Prop}(hK:bC S m.boxes m'.boxes)(hS:∀j,S j->j=4\/6<=j):IC s fr to m':=by
 obtain⟨h1,h2,h3,h4,h5⟩:=h;have q:∀j,j<6->j≠4->Qi m'.boxes j=Qi m.boxes j:=fun j hj h4=>hK.2 j zE (fun h=>by have:=hS j h;omega);exact⟨zzaz h1 hK.1,by rw[q 1 zE zE];exact h2,by rw[q 2 zE zE];exact h3,by rw[q 3 zE zE];exact h4,by rw[q 5 zE zE];exact h5⟩
def IC.day{s:Sp}{fr to:Int}{m0 m:AM}{k0 k:Nat}{L:List Sp}(h:IC s fr to m0)(hD:qV m0 k0 m k L)(hk:k0=4\/6<=k0):IC s fr to m:=
 h.keep hD.2.2.1 (by rintro j (h|h)<;>omega)
def IC.app{s:Sp}{fr to:Int}{m:AM}(h:IC s fr to m)(x:T5):IC s fr to {m with boxes:=m.boxes++x}:=
 h.keep (S:=fun _=>False) ((bC.refl _ _).app x) (fun _ h=>h.elim)
def XS(of:Int)(sh:List Sp)(fr to:Int):UV:=fun d f l=>
 if f=999999 then .junk else
 if f=133 then .bool (Yj of sh)else
 if f=195 then(match l with|[.int _ n]=>.bool (decide (0<=n/\n<86400))|_=>.junk)else
 if f=197 then .fn 236 [] [.ep [I of,.sl .ro (sh.map Qe)] 0]else
 if f=198 then(match l with|[.int _ n]=>.aS [I (n/86400),I (n%86400)]|_=>.junk)else
 if f=199 then .sl .full ((zM fr to).map Qe)else .gd false .junk
def XT:SC:=(⟨_,by cbv⟩:J3 [1,0,1,1,1,1,1,0,1,0,1,0,1,1,1,1,1] Aj).1
def w9:SC->SC:=(⟨_,fun _=>by cbv⟩:Ft [1,0,1,1,1,1,1,0,1,0,1,0,1,1,1,1,1] Aj).1
theorem XU:Aj=w9 XT:=rfl
def uF{fr to:Int}(h1:0<=fr/\fr<86400)(h2:0<=to/\to<86400):(zM fr to).length<=2/\∀w∈zM fr to,0<=w.1/\w.1<=86400/\0<=w.2/\w.2<=86400:=by
 unfold zM;split
 ·simp;omega
 split
 ·simp;omega
 simp
def aev(Y:YT)(of:Int)(sh:List Sp)(fr to:Int)(zF:0<=fr/\fr<86400)(hto:0<=to/\to<86400)(E:QQ)(m:AM)(k0:Nat)(L0:List Sp)(sf st KH:Int)(Q:R0)
  (s:Sp)(h6:Abs.look E 6=.ptr 2 0)(h7:Abs.look E 7=.ptr 3 0)(ij:Abs.look E 10=.ptr 5 0)(qm:Abs.look E 12=I sf)(eS:Abs.look E 13=I st)(KI:Abs.look E 16=I KH)
  (hf:IC s fr to m)(hO:ig m 4 k0 L0)(hk:k0=4\/6<=k0)
  (hb: -100000000000<=KH/\KH<=100000000000/\st<=100000000000)(hl:L0.length+2*((st-KH)/86400+1).toNat<=100000)
  (hQ:∀T m' k',qV m k0 m' k' (ny (zM fr to) sf st KH L0)->Q .normal ⟨T,m'⟩):
  vc Tryz.prog aD (XS of sh fr to) Y XT ⟨Vw 111 E,m⟩ Q:=by
 obtain⟨QT,hWb⟩:=uF zF hto;have axn:=C2 fr to;simp[XT];refine Qj I8 (fun f mm=>∃(mid:Int)(k:Nat)(L:List Sp),f 16=I mid/\qV m k0 mm k L/\ -100000000000<=mid/\mid<=100000086400/\L.length+2*((st-mid)/86400+1).toNat<=100000/\ny (zM fr to) sf st mid L=ny (zM fr to) sf st KH L0) (fun f _=>(st-numOf (f 16)).toNat) ?_ ?_
 ·exact⟨KH,k0,L0,by simp[KI],qV.refl hO,zE,zE,hl,rfl⟩
 rintro f mm ⟨mid,k,L,hm16,hD,b1,b2,b3,hR⟩;by_cases ah:mid<st
 ·have axo:IntKind.i64.wrap (mid+86400)=mid+86400:=by rw[Ql]<;>omega
  rw[ny,ac ah]at hR;obtain⟨f0,f1,f2,f3,f5⟩:=hf.day hD hk;generalize hWe:zM fr to=W at*
  simp[hm16,h6,h7,ij,qm,eS,I8,ah,XS,hWe,f2,f3];refine⟨axn,?_⟩;refine Qj I9 (fun f' m'=>∃(i k':Nat)(L':List Sp),f' 91=I i/\i<=W.length/\qV m k0 m' k' L'/\L'.length<=L.length+i/\oW sf st mid (W.drop i) L'=oW sf st mid W L) (fun f' _=>W.length-(numOf (f' 91)).toNat) ?_ ?_
  ·exact⟨0,k,L,zd,zE,hD,zE,rfl⟩
  rintro f' m' ⟨i,k',L',h91,hi,hD',tK,hR'⟩;obtain⟨g0,g1,g2,g3,g5⟩:=hf.day hD' hk;rcases zzaa i W.length with hiw|bu
  ·obtain⟨w,hw⟩:=aV hiw;have SI:=Zy hw;obtain⟨c1,c2,c3,c4⟩:=hWb w (zzad hw);have aa:(i:Int)<(W.length:Int):=zE
   have XV:=bO i zE;have lq:IntKind.i64.wrap (mid+w.1)=mid+w.1:=by rw[Ql]<;>omega
   have fV:IntKind.i64.wrap (mid+w.2)=mid+w.2:=by rw[Ql]<;>omega
   have hd:W.drop i=w::W.drop (i+1):=by rw[zzai hiw,(zza.1 hw).2]
   rw[hd,oW]at hR';have gX:∀x,Qi (m'.boxes++x) 5=[.fn 196 [] [.ptr 4 0]]:=fun x=>by rw[Qn g0];exact g5
   have A0:∀x,Qi (m'.boxes++[x]) m'.boxes.length=x:=fun x=>by
    simp
   have hmx:(if sf<mid+w.1 then mid+w.1 else sf)=max sf (mid+w.1):=zE
   have hmn:(if mid+w.2<st then mid+w.2 else st)=min st (mid+w.2):=zE
   have axp:=fun K hK=>XQ Y (max sf (mid+w.1)) (min st (mid+w.2)) 4 k' L' {m' with boxes:=m'.boxes++[[I w.1,I w.2]]} (hD'.1.app _) zE K hK;simp[h91,hiw,aa,SI,I9,ij,qm,eS,hm16,g5,gX,A0,lq,fV,g0,hmx,hmn,XV,XS];refine axp _ fun m2 k2 e1 e2 e3 e4 e5 e6=>?_;have hD2:=(hD'.app [[I w.1,I w.2]]).step e1 e2 e3 e4 e5 e6;have:=FU L' (max sf (mid+w.1)) (min st (mid+w.2));refine⟨aQ,⟨i+1,zE,zE,k2,_,hD2,zE,hR'⟩,zE⟩
  obtain rfl:i=W.length:=zE
  rw[zzc,oW]at hR';rw[<- hR']at hR;simp[h91,I9,hm16,axo];refine⟨aQ,⟨k',L',hD',zE,zE,zE,hR⟩,zE⟩
 have hR0:=hR;rw[ny,ab ah]at hR;simp[hm16,eS,I8,ah];exact hQ _ _ k (by rw[<- hR];exact hD)
def stL(s:Sp)(W:List Sp)(x:Int×Int×Int)(L:List Sp):List Sp:=
 if min x.2.1 s.2<=max x.1 s.1 then L else ny W (max x.1 s.1) (min x.2.1 s.2) ((max x.1 s.1+x.2.2)/86400*86400-x.2.2) L
def tL(s:Sp)(W:List Sp):List (Int×Int×Int)->List Sp->List Sp
 |[],L=>L
 |x::r,L=>if s.2<=x.1 then L else tL s W r (stL s W x L)
def zN(n:Int):Bool:=decide (0<=n/\n<86400)
def xb(of:Int)(sh:List Sp)(s:Sp)(fr to:Int):Bool:=Yj of sh&&zN fr&&zN to&&decide (s.1<s.2/\s.2-s.1<=1000000)
def iq(of:Int)(sh:List Sp)(s:Sp)(fr to:Int):List Sp:=if xb of sh s fr to then tL s (zM fr to) (uC 0 of sh) []else[]
def aew(x:Int×Int×Int):Prop:=0<=x.1/\x.1<=10000000000/\x.2.1<=10000000001/\ -50400<=x.2.2/\x.2.2<=50400
def C4:∀(sh:List Sp)(f o last:Int),0<=f->f<=10000000000-> -1<=last-> -50400<=o->o<=50400->tM last sh=true->(∀x∈uC f o sh,aew x)
 |[],f,o,last,h1,h2,_,h3,h4,_=>by simp[uC,aew];omega
 |s::r,f,o,last,h1,h2,hla,h3,h4,ha=>by
  rw[tM]at ha;split at ha
  ·cases ha
  rename_i hn;simp only[not_or,zzgr,gO,am]at hn;have ih:=C4 r s.1 s.2 s.1 zE zE zE zE zE ha;intro x hx;rw[uC,zzaj]at hx;obtain hx|hx:=hx
  ·split at hx
   ·simp at hx;subst hx;simp[aew];omega
   simp at hx
  exact ih x hx
def xd:∀(sh:List Sp)(f o:Int),(uC f o sh).length<=sh.length+1
 |[],f,o=>by simp[uC]
 |s::r,f,o=>by
  have:=xd r s.1 s.2;rw[uC];split<;>simp<;>omega
def FX(W:List Sp)(hW:W.length<=2)(sf st:Int):∀(n:Nat)(mid:Int)(L:List Sp),(st-mid).toNat<=n->(ny W sf st mid L).length<=L.length+2*((st-mid)/86400+1).toNat:=by
 intro n;induction n with
 |zero=>intro mid L h;rw[ny,ab zE];omega
 |succ n ih=>
  intro mid L h;rw[ny];split
  ·have:=ih (mid+86400) (oW sf st mid W L) zE;have:=FV sf st mid W L;omega
  omega
def aex(R:List Sp)(s:Sp)(fr to:Int)(xs:List (Int×Int×Int))(O:Nat->Prop)(i:Nat)(m:AM):Prop:=
 ∃k L,ig m 4 k L/\(k=4\/6<=k)/\¬O k/\k<m.boxes.length/\(∀j,O j->6<=j)/\IC s fr to m/\L.length<=40*i/\tL s (zM fr to) (xs.drop i) L=R
def aey(R:List Sp)(O:Nat->Prop)(ex:Exit)(m:AM):Prop:=ex=.exit 0/\∃k,ig m 4 k R/\¬O k/\(∀j,O j->6<=j)
def ig.cg{m m':AM}{id k:Nat}{L:List Sp}(h:ig m id k L)(e:m'.boxes=m.boxes):ig m' id k L:=by unfold ig at*;rw[e];exact h
def IC.cg{s:Sp}{fr to:Int}{m m':AM}(h:IC s fr to m)(e:m'.boxes=m.boxes):IC s fr to m':=by unfold IC at*;rw[e];exact h
def ig.XW{O:Nat->Prop}{m m':AM}{k:Nat}{L:List Sp}(h:ig m 4 k L)(e:bW O m m')(h0:¬O 4)(hk:¬O k):ig m' 4 k L:=by
 obtain⟨h1,h2⟩:=h;refine⟨zzaz h1 e.1,?_⟩;obtain⟨h2,h3⟩|⟨h2,h3,h4,h5,h6⟩:=h2
 ·exact .inl ⟨h2,by rw[e.2.1 4 h1 h0];exact h3⟩
 exact .inr ⟨h2,zzaz h3 e.1,h4,by rw[e.2.1 4 h1 h0];exact h5,by rw[e.2.1 k h3 hk];exact h6⟩
def aex.ext{R:List Sp}{s:Sp}{fr to:Int}{xs:List (Int×Int×Int)}{O:Nat->Prop}{i:Nat}{m m':AM}(h:aex R s fr to xs O i m)(e:bW O m m'):aex R s fr to xs (OU O m.boxes.length m'.boxes.length) i m':=by
 obtain⟨k,L,h1,h2,h3,h4,h5,h6,h8,h9⟩:=h;refine⟨k,L,h1.XW e (fun h=>by have:=h5 4 h;omega) h3,h2,?_,zzaz h4 e.1,?_,h6.keep (S:=O) ⟨e.1,e.2.1⟩ (fun j h=>.inr (h5 j h)),h8,h9⟩
 ·rintro(h|h)
  ·exact h3 h
  omega
 have:=h6.1;rintro j (h|h)
 ·exact h5 j h
 omega
def aey.ext{R:List Sp}{O:Nat->Prop}{ex:Exit}{m m':AM}(h:aey R O ex m)(e:bW O m m'):aey R O ex m':=by
 obtain⟨h0,k,h1,h3,h5⟩:=h;exact⟨h0,k,h1.XW e (fun h=>by have:=h5 4 h;omega) h3,h3,h5⟩
def xe(of:Int)(sh:List Sp)(s:Sp)(fr to:Int)(fC:sh.length<=1000000000)(h1: -9223372036854775808<=s.1/\s.1<=9223372036854775807)(h2: -9223372036854775808<=s.2/\s.2<=9223372036854775807):
  Pure Tryz.prog aD 138 [.agg [I of,.sl .ro (sh.map Qe)],.agg [I s.1,I s.2],I fr,I to] (if iq of sh s fr to=[]then .sl .nil []else .sl .ro ((iq of sh s fr to).map Qe)):=by
 have k89:=jf of sh fC;have KJ:=wX fr;have A6:=wX to;have ar9:=wY of sh;refine Qp acF (XS of sh fr to) zd ?_;rw[XU];generalize hR:iq of sh s fr to=R;by_cases hv:Yj of sh=true
 ·rw[hv]at k89;by_cases hf:0<=fr/\fr<86400
  ·rw[decide_eq_true hf]at KJ;by_cases ht:0<=to/\to<86400
   ·rw[decide_eq_true ht]at A6;by_cases ah:s.1<s.2
    ·have cw:¬s.2<=s.1:=zE
     have hu:IntKind.u64.wrap (IntKind.u64.wrap s.2-IntKind.u64.wrap s.1)=s.2-s.1:=by
      have q:∀z:Int,IntKind.u64.wrap z=z%18446744073709551616:=fun z=>by simp[IntKind.wrap,IntKind.bits,IntKind.signed]
      rw[q,q,q];omega
     by_cases hm:s.2-s.1<=1000000
     ·have y9:¬1000000<s.2-s.1:=zE
      simp[w9,XS,hv,hf,ht,ah,cw,hu,hm,y9];refine⟨k89,KJ,A6,ar9,?_⟩;have cR:=wZ of sh fC;have hz:sh.length<=40/\gO of=true/\tM (-1) sh=true:=by simpa[Yj,and_assoc]using hv
      have hof: -50400<=of/\of<=50400:=by simpa[gO]using hz.2.1
      have bV:=C4 sh 0 of (-1) (by decide) (by decide) (by decide) hof.1 hof.2 hz.2.2;have hxl:=xd sh 0 of;have hRc:tL s (zM fr to) (uC 0 of sh) []=R:=by rw[<- hR,iq,ac (by simp[xb,hv,zN,hf,ht,ah,hm])]
      clear k89 KJ A6 ar9 hu;generalize hX:uC 0 of sh=xs at*
      refine qW (xs:=xs.map A5) zd cR (by intro x hx;simp at hx;obtain⟨a,b,c,_,rfl⟩:=hx;rfl) (aex R s fr to xs) (aey R) ?_ (fun _ _ _ _ h e=>h.ext e) (fun _ _ _ _ h e=>h.ext e) ?_ ?_ ?_
      ·refine⟨4,[],⟨zd,.inl ⟨rfl,zd⟩⟩,.inl rfl,id,zd,fun _ h=>h.elim,⟨zd,zd,zd,zd,zd⟩,zd,Nm hRc⟩
      ·rintro O l i m x hO hle0 W7 iC ⟨k,L,i1,i2,i3,i4,i5,i6,i8,i9⟩ hx K' q1 q2 q3;rw[zzbn,zzca]at hx;obtain⟨⟨a,b,o⟩,hx,rfl⟩:=hx;obtain⟨o1,o2,o3,o4,o5⟩:=bV _ (zzad hx);simp only at o1 o2 o3 o4 o5;have iT:i<xs.length:=(zza.1 hx).1;have hd:xs.drop i=(a,b,o)::xs.drop (i+1):=by rw[zzai iT,(zza.1 hx).2]
       rw[hd,tL]at i9;simp only[Jp]at i4;have hf6:=i6;obtain⟨f0,f1,f2,f3,f5⟩:=i6;have hOl:∀j,O j->j<m.boxes.length:=fun j h=>(hO j h).2;have alx:xs.length<=41:=zE
       clear hO hle0 W7 cR hR hX;simp only[Jp]at f0 f1 f2 f3 f5;have gX:∀x,Qi (m.boxes++x) 1=[I s.1,I s.2]:=fun x=>by rw[Qn zE];exact f1
       have A0:∀x,Qi (m.boxes++[x]) m.boxes.length=x:=fun x=>by
        simp
       by_cases hc:s.2<=a
       ·rw[ac hc]at i9;simp[iC,Zt,A5,gX,A0,hc];subst i9;refine q3 0 _ zd ⟨rfl,k,?_,i3,i5⟩;exact(i1.app [[I a,I b,I o]]).cg zd
       rw[ab hc]at i9;have hmx:(if a<s.1 then s.1 else a)=max a s.1:=zE
       have hmn:(if s.2<b then s.2 else b)=min b s.2:=zE
       by_cases he:min b s.2<=max a s.1
       ·rw[stL,ac he]at i9;simp[iC,Zt,A5,gX,A0,hc,hmx,hmn,he];refine q1 _ ⟨zd,fun j hj=>Qn (hOl j hj)⟩ ⟨k,L,(i1.app [[I a,I b,I o]]).cg zd,i2,i3,by simp;omega,i5,(hf6.app [[I a,I b,I o]]).cg zd,zE,i9⟩
       rw[stL,ab he]at i9;have hw0:IntKind.i64.wrap (max a s.1+o)=max a s.1+o:=by rw[Ql]<;>omega
       have hdv:=FR (max a s.1+o) zE;have lq:IntKind.i64.wrap ((max a s.1+o)/86400*86400)=(max a s.1+o)/86400*86400:=by rw[Ql]<;>omega
       have fV:IntKind.i64.wrap ((max a s.1+o)/86400*86400-o)=(max a s.1+o)/86400*86400-o:=by rw[Ql]<;>omega
       simp[iC,Zt,A5,gX,A0,hc,hmx,hmn,he,hw0,lq,fV,XS];refine⟨hdv,?_⟩;refine aev Y0 of sh fr to hf ht _ _ k L (max a s.1) (min b s.2) ((max a s.1+o)/86400*86400-o) _ s zd zd zd zd zd zd ((hf6.app [[I a,I b,I o]]).cg zd) ((i1.app [[I a,I b,I o]]).cg zd) i2 zE zE ?_;intro T m' k' hD;have aH:m.boxes.length+1<=m'.boxes.length:=by have:=hD.2.2.1.1;simpa using this
       have tK:=FX (zM fr to) (uF hf ht).1 (max a s.1) (min b s.2) _ ((max a s.1+o)/86400*86400-o) L (zzab _);have hFx:=IC.day (s:=s) (fr:=fr) (to:=to) ((hf6.app [[I a,I b,I o]]).cg zd) hD i2;have Cp:k'=k\/m.boxes.length+1<=k':=by have:=hD.2.1;simpa using this
       have hS:N1 O m m':=⟨zE,fun j hj=>by
        have:=hD.2.2.1.2 j (by simp;have:=hOl j hj;omega) (by rintro(rfl|rfl);have:=i5 4 hj;omega;exact i3 hj);rw[this];exact Qn (hOl j hj)⟩
       simp;refine q1 ⟨T,m'⟩ hS ?_;by_cases hLe:ny (zM fr to) (max a s.1) (min b s.2) ((max a s.1+o)/86400*86400-o) L=[]
       ·rw[hLe]at i9 hD;refine⟨4,[],⟨hD.1.1,?_⟩,.inl rfl,(fun h=>by have:=i5 4 h;omega),(by show 4<m'.boxes.length;omega),i5,hFx,zd,i9⟩;rcases hD.1.2 with h|h
        ·exact .inl h
        exact absurd rfl h.1
       have ur:k'<m'.boxes.length:=by
        rcases hD.1.2 with h|h
        ·exact absurd h.1 hLe
        exact h.2.1
       refine⟨k',_,hD.1,zE,?_,ur,i5,hFx,zE,i9⟩;obtain rfl|Cp:=Cp
       ·exact i3
       intro h;have:=hOl k' h;omega
      ·rintro O m ⟨k,L,i1,i2,i3,i4,i5,i6,i8,i9⟩;rw[zzbw,zzc,tL]at i9;subst i9;rcases i1.2 with⟨hL0,h⟩|⟨aO,h2,h3,h4,h5⟩
       ·simp[h,lG,i1.1,hL0]
       have gA:=Ve m 4 (C5 L);have gY:=Qef L;have eZ:=Yh L;simp[h4,lG,aO,h5,gA,gY,eZ,i1.1]
      rintro O ex m ⟨rfl,k,i1,i3,i5⟩;rcases i1.2 with⟨hL0,h⟩|⟨aO,h2,h3,h4,h5⟩
      ·simp[h,lG,i1.1,hL0]
      have gA:=Ve m 4 (C5 R);have gY:=Qef R;have eZ:=Yh R;simp[h4,lG,aO,h5,gA,gY,eZ,i1.1]
     have hR0:R=[]:=by rw[<- hR,iq,ab (by simp[xb];omega)]
     have y9:1000000<s.2-s.1:=zE
     simp[w9,XS,hv,hf,ht,ah,cw,hu,hm,y9,lG,hR0,k89,KJ,A6]
    have hR0:R=[]:=by rw[<- hR,iq,ab (by simp[xb];omega)]
    have cw:s.2<=s.1:=zE
    simp[w9,XS,hv,hf,ht,ah,cw,lG,hR0,k89,KJ,A6]
   have hR0:R=[]:=by rw[<- hR,iq,ab (by simp[xb,zN];omega)]
   simp[w9,XS,hv,hf,ht,lG,hR0,k89,KJ];simpa[ht]using A6
  have hR0:R=[]:=by rw[<- hR,iq,ab (by simp[xb,zN];omega)]
  simp[w9,XS,hv,hf,lG,hR0,k89];simpa[hf]using KJ
 have hR0:R=[]:=by rw[<- hR,iq,ab (by simp[xb,hv])]
 simp[w9,XS,hv,lG,hR0];simpa[hv]using k89
def zP(of:Int)(sh:List Sp)(s:Sp)(fr to:Int)(fC:sh.length<=1000000000)(h1: -9223372036854775808<=s.1/\s.1<=9223372036854775807)(h2: -9223372036854775808<=s.2/\s.2<=9223372036854775807):
  Pure Tryz.prog aD 138 [.agg [I of,.sl .ro (sh.map Qe)],.agg [I s.1,I s.2],I fr,I to] (.sl .ro ((iq of sh s fr to).map Qe)):=by
 have h:=xe of sh s fr to fC h1 h2;by_cases hn:iq of sh s fr to=[]
 ·rw[ac hn]at h;rw[hn];exact Zk h (Wk.sl _ _)
 rw[ab hn]at h;exact h
def FY(s:Sp)(W:List Sp)(hW:W.length<=2)(hs:s.2-s.1<=1000000):∀(xs:List (Int×Int×Int))(L:List Sp),(∀x∈xs,aew x)->(tL s W xs L).length<=L.length+40*xs.length
 |[],L,_=>by simp[tL]
 |x::r,L,h=>by
  rw[tL];split
  ·omega
  have ih:=FY s W hW hs r (stL s W x L) (fun y hy=>h y (by simp[hy]));obtain⟨o1,o2,o3,o4,o5⟩:=h x zd
  have:(stL s W x L).length<=L.length+40:=by
   unfold stL;split
   ·omega
   have:=FX W hW (max x.1 s.1) (min x.2.1 s.2) _ ((max x.1 s.1+x.2.2)/86400*86400-x.2.2) L (zzab _);omega
  simp only[zzbf];omega
def XX(of:Int)(sh:List Sp)(s:Sp)(fr to:Int):(iq of sh s fr to).length<=2000:=by
 unfold iq;split
 ·rename_i h;simp only[xb,Yj,zN,gO,zzac,am]at h;obtain⟨⟨⟨⟨⟨a1,a2⟩,a3⟩,a4⟩,a5⟩,a6,a7⟩:=h;have h1:=FY s (zM fr to) (uF a4 a5).1 a7 (uC 0 of sh) [] (C4 sh 0 of (-1) (by decide) (by decide) (by decide) a2.1 a2.2 a3);have h2:=xd sh 0 of;simp at h1;omega
 simp
def oZ(nu de f:Int): -1<=Yn nu de f/\Yn nu de f<=100000000:=by
 unfold Yn;split
 ·rename_i h;obtain⟨h1,h2,h3⟩:=h;obtain⟨b1,b2,b3,b4,b5⟩:=Jw h1;have q0:0<=f*de:=zzej h2 zE;have q1:f*de<=f*nu:=zzgb zE h2;have q2:0<=(f*de).tdiv nu:=Int.tdiv_nonneg q0 zE
  have q3:(f*de).tdiv nu<=f:=by
   rw[zzcj q0];exact Int.ediv_le_of_le_mul zE q1
  omega
 omega
def sF(p:Pl)(f:Int)(ht:0<=p.ep/\p.ep<=9000000000):Pure Tryz.prog aD 82 [.agg (Qa p),I f] (I (p.ep+Yn p.nu p.de f)):=by
 have h:=QU p.nu p.de f;have hb:=oZ p.nu p.de f;have hw:IntKind.i64.wrap (p.ep+Yn p.nu p.de f)=p.ep+Yn p.nu p.de f:=by rw[Ql]<;>omega
 refine Qp akP (fun _ f' l=>if f'=134 then I (Yn p.nu p.de f)else .junk) zd ?_;simp[apy,Qa,apz,hw];exact h
def xg(p:Pl)(n:Int)(hn: -1000000000000<=n-p.ep/\n-p.ep<=1000000000000)(Y:YT)(m:AM)(b:Nat)(hb:b<m.boxes.length)(hr:Qi m.boxes b=Qa p)(K:So)(hK:K (I (xh p.nu p.de (n-p.ep))) m):
  aB Tryz.prog aD Y 85 [I n,.ptr b 0] m K:=by
 have h:=A7 p.nu p.de (n-p.ep);have hw:IntKind.i64.wrap (n-p.ep)=n-p.ep:=by rw[Ql]<;>omega
 refine Xo akT (fun _ f' l=>if f'=86 then I (xh p.nu p.de (n-p.ep))else .junk) zd ?_;simp[apD,hr,Qa,apE,hw,hb];exact⟨h,hK⟩
def lz(p:Pl)(x:It)(region:Int)(s:Sp):List (List Sp):=Qck p.cls x.id region::(uG p.cls x.ra).map fun w=>iq p.of p.sh s w.1 w.2
def FZ(l:List Sp):P2:=[.sl .ro (l.map Qe)]
def F0(p:Pl)(x:It)(region:Int)(s:Sp):Pure Tryz.prog aD 83 [.agg (Qa p),.agg (Qm x),I region,.agg [I s.1,I s.2]] (.fn 135 [] [.ep (Qa p) 0,.ep (Qm x) 0,.ep [I region] 0,.ep [I s.1,I s.2] 0]):=by
 refine Qp akQ (fun _ _ _=>.junk) zd ?_;simp[apA,apB,Qa,Qm]
def F1(p:Pl)(x:It)(region:Int)(s:Sp)(hc:p.cls.length<=1000000)(fC:p.sh.length<=1000000000)(h1: -9223372036854775808<=s.1/\s.1<=9223372036854775807)(h2: -9223372036854775808<=s.2/\s.2<=9223372036854775807):
  Iter Tryz.prog aD 135 [] [.ep (Qa p) 0,.ep (Qm x) 0,.ep [I region] 0,.ep [I s.1,I s.2] 0] ((lz p x region s).map FZ):=by
 intro Y l m K hF;have asa:=KE p.cls x.id region hc;have asb:=tN p.cls x.ra zE
 have hwl:(uG p.cls x.ra).length<=1000000:=by
  unfold uG;rw[zzbw];exact zzbb (zzcf _ _) hc
 refine Xo acC (fun d f' l=>if f'=136 then .sl .ro ((Qck p.cls x.id region).map Qe)else if f'=137 then .sl .ro ((uG p.cls x.ra).map Qe)else
  if f'=138 then(match l with|[_,_,.int _ a,.int _ b]=>.sl .ro ((iq p.of p.sh s a b).map Qe)|_=>.junk)else .junk) zd ?_
 unfold lz at hF;generalize hS:Qck p.cls x.id region=S at hF asa;generalize hW:uG p.cls x.ra=W at hF asb hwl;simp only[zzar,FZ]at hF;simp[TW,Qa,Qm,hS,hW];refine⟨asa,?_⟩;refine hF _ (fB.refl _) _ (fun m2 AW=>?_) (fun m2 hK=>?_)
 ·rw[zzcw]at AW;simp[hW];refine⟨asb,?_⟩;refine Qj I5 (fun f mm=>∃i:Nat,f 23=I i/\i<=W.length/\wL (Y l) K ((W.drop i).map (FZ ∘ fun w=>iq p.of p.sh s w.1 w.2)) mm) (fun f _=>W.length-(numOf (f 23)).toNat) ?_ ?_
  ·exact⟨0,zd,zE,Nm AW⟩
  rintro f mm ⟨i,h23,hi,hF3⟩;rcases zzaa i W.length with ah|bu
  ·obtain⟨w,hw⟩:=aV ah;have zL:=Zy hw;have aa:(i:Int)<(W.length:Int):=zE
   have qX:=bO i zE;have hd:W.drop i=w::W.drop (i+1):=by rw[zzai ah,(zza.1 hw).2]
   rw[hd,zzar]at hF3;simp only[Function.comp_apply,FZ]at hF3;have axq:=zP p.of p.sh s w.1 w.2 fC h1 h2
   have iC:∀x,Qi (mm.boxes++[x]) mm.boxes.length=x:=fun x=>by
    simp
   simp[h23,I5,ah,aa,zL,iC];refine⟨axq,?_⟩;refine hF3 _ (fB.box mm [[I w.1,I w.2]]) _ (fun m3 hF4=>?_) (fun m3 hK=>?_)
   ·simp[qX];refine⟨aQ,⟨i+1,zE,zE,by rw[<- zzgm];exact hF4⟩,zE⟩
   simp[MU];exact hK _ (fB.refl _)
  obtain rfl:i=W.length:=zE
  rw[zzc,zzct]at hF3;simp[h23,I5,MU];exact hF3 _ (fB.refl _)
 simp[MU];exact hK _ (fB.refl _)
def al0:SC:=(⟨_,by cbv⟩:J3 [1,1,1,1,1,1,1,1,1,1,1,1,0,1] Td).1
def C6:SC->SC:=(⟨_,fun _=>by cbv⟩:Ft [1,1,1,1,1,1,1,1,1,1,1,1,0,1] Td).1
theorem o6:Td=C6 al0:=rfl
def uH(p:Pl)(w:Sp):Sp:=(xh p.nu p.de (w.1-p.ep),xh p.nu p.de (w.2-p.ep))
def A8(Y:YT)(p:Pl)(orc:UV)(ho:∀d l,orc d 74 l=.gd false .junk)(ho9:∀d l,orc d 999999 l=.junk)(E:QQ)(m:AM)(U:List Sp)(rt:Rt)(Q:R0)
  (h85:Abs.look E 85=.sl rt (U.map Qe))(h86:Abs.look E 86=I U.length)(h87:Abs.look E 87=I 0)(tO:Abs.look E 14=.fn 85 [] [.ptr 0 0])(sG:Abs.look E 15=.sl .nil [])
  (h0:0<m.boxes.length)(hr:Qi m.boxes 0=Qa p)(hU:U.length<=10000000)(hUb:∀w∈U,(-1000000000000<=w.1-p.ep/\w.1-p.ep<=1000000000000)/\(-1000000000000<=w.2-p.ep/\w.2-p.ep<=1000000000000))
  (hQ:∀E' bx Lm y6,fL Es E' E->Abs.look E' 15=.sl y6 ((U.map (uH p)).map Qe)->(y6=.nil/\U=[]\/U≠[]/\∃k,y6=.own k 2)->Q .normal ⟨Vw 108 E',⟨m.boxes++bx,Lm,m.st,m.ln⟩⟩):
  vc Tryz.prog aD orc Y al0 ⟨Vw 108 E,m⟩ Q:=by
 simp[al0];refine Qj Es (fun f mm=>∃(i:Nat)(bx:T5)(Lm:Pa)(y6:Rt),f 87=I i/\i<=U.length/\mm=⟨m.boxes++bx,Lm,m.st,m.ln⟩/\f 15=.sl y6 ((U.map (Qe ∘ uH p)).take i)/\(i=0/\y6=.nil\/i≠0/\∃k,y6=.own k 2/\Lm[k]?=some i)) (fun f _=>U.length-(numOf (f 87)).toNat) ?_ ?_
 ·exact⟨0,[],m.lens,.nil,by simp[h87],zE,zd,by simp[sG],.inl ⟨rfl,rfl⟩⟩
 rintro f mm ⟨i,bx,Lm,y6,h87',hi,rfl,h15',aY⟩;rcases zzaa i U.length with ah|bu
 ·obtain⟨w,hw⟩:=aV ah;have zL:=Zy hw;obtain⟨c1,c2⟩:=hUb w (zzad hw);have aa:(i:Int)<(U.length:Int):=zE
  have qX:=bO i zE;have lq:IntKind.i64.wrap 1=1:=by rw[Ql]<;>omega
  have bz:U.take (i+1)=U.take i++[w]:=by rw[zzay,hw];rfl
  have lQ:(U.take i).length=i:=by rw[zzas];omega
  have A0:∀x,Qi (m.boxes++(bx++[x])) (m.boxes.length+bx.length)=x:=fun x=>by
   simp
  have Cu:∀x,Qi (m.boxes++x) 0=Qa p:=fun x=>by rw[Qn h0];exact hr
  have e1:=fun m' h1 h2 K hK=>xg p w.1 c1 Y m' 0 h1 h2 K hK;have e2:=fun m' h1 h2 K hK=>xg p w.2 c2 Y m' 0 h1 h2 K hK;have hG:(U.map (Qe ∘ uH p)).take (i+1)=(U.map (Qe ∘ uH p)).take i++[[I (xh p.nu p.de (w.1-p.ep)),I (xh p.nu p.de (w.2-p.ep))]]:=by rw[zzay,zzbn,hw];rfl
  have hGl:((U.map (Qe ∘ uH p)).take i).length=i:=by rw[zzas,zzbw];omega
  have hG2:∀row∈(U.map (Qe ∘ uH p)).take i,row.length=2:=by
   intro row h;obtain⟨a,_,rfl⟩:=zzan.1 (zzcc h);rfl
  generalize hGG:(U.map (Qe ∘ uH p)).take i=G at*
  obtain⟨rfl,rfl⟩|⟨aO,k,rfl,hk⟩:=aY
  ·simp[h87',h85,h86,tO,h15',Es,ah,aa,zL,A0,ho,ho9];refine Qaz [(I (xh p.nu p.de (w.1-p.ep)),⟨m.boxes++(bx++[[I w.1,I w.2]]),Lm,m.st,m.ln⟩),(I (xh p.nu p.de (w.2-p.ep)),⟨m.boxes++(bx++[[I w.1,I w.2]]),Lm,m.st,m.ln⟩)] ?_;simp[h87',h85,h86,tO,h15',ah,aa,zL,A0,ho,ho9,qX,lq];refine⟨e1 _ (by simp;omega) (Cu _) _ ⟨rfl,rfl⟩,e2 _ (by simp;omega) (Cu _) _ ⟨rfl,rfl⟩,⟨by rintro row (h|rfl);exact hG2 row h;rfl,zE⟩,ag ?_,?_,zE⟩
   ·repeat(first|exact Qb _ _|refine Qc _ rfl ?_)
   exact⟨1,rfl,zE,_,_,⟨rfl,rfl⟩,_,⟨rfl,hG.symm⟩,.inr ⟨zE,Lm.length,rfl,by simp[hGl]⟩⟩
  simp[h87',h85,h86,tO,h15',Es,ah,aa,zL,A0,ho,ho9];refine Qaz [(I (xh p.nu p.de (w.1-p.ep)),⟨m.boxes++(bx++[[I w.1,I w.2]]),Lm,m.st,m.ln⟩),(I (xh p.nu p.de (w.2-p.ep)),⟨m.boxes++(bx++[[I w.1,I w.2]]),Lm,m.st,m.ln⟩)] ?_;simp[h87',h85,h86,tO,h15',ah,aa,zL,A0,ho,ho9,qX,hk];refine⟨e1 _ (by simp;omega) (Cu _) _ ⟨rfl,rfl⟩,e2 _ (by simp;omega) (Cu _) _ ⟨rfl,rfl⟩,⟨hGl.symm,by rintro row (h|rfl);exact hG2 row h;rfl,zE⟩,ag ?_,?_,zE⟩
  ·repeat(first|exact Qb _ _|refine Qc _ rfl ?_)
  exact⟨i+1,zE,zE,_,_,⟨rfl,rfl⟩,_,⟨rfl,hG.symm⟩,.inr ⟨zE,k,rfl,by simp[hGl,(zza.1 hk).1]⟩⟩
 obtain rfl:i=U.length:=zE
 rw[zzau zd]at h15';simp[h87',h86,Es];refine hQ _ bx Lm y6 ?_ ?_ ?_
 ·repeat(first|exact Qb _ _|refine Qc _ rfl ?_)
 ·simp[h15']
 obtain⟨h1,h2⟩|⟨h1,k,h2,h3⟩:=aY
 ·exact .inl ⟨h2,zzcd.1 h1⟩
 exact .inr ⟨fun h=>h1 (by rw[h];rfl),k,h2⟩
def KK:∀(l:List Sp)(lo hi:Int),VS l->(∀w∈l,lo<=w.1/\w.2<=hi)->(l.length:Int)<=max 0 (hi-lo)
 |[],lo,hi,_,_=>by simp only[zzcn];omega
 |s::l,lo,hi,h,hb=>by
  obtain⟨h1,h2,h3⟩:=cT.1 h;have:=KK l (s.2+1) hi h3 (fun w hw=>⟨by have:=h2 w hw;omega,(hb w (by simp[hw])).2⟩);have b:=hb s zd;simp only[zzbf];omega
def SJ(lo hi:Int)(l:List Sp):Prop:=∀w∈l,lo<=w.1/\w.1<=hi/\lo<=w.2/\w.2<=hi
def uI{lo hi:Int}{a b:List Sp}(h:SJ lo hi a):SJ lo hi (zQ a b):=by
 obtain⟨⟨h1,_⟩,h2⟩:=ko a b;intro w hw;have ah:=h1 w hw;obtain⟨s,hs,s1,s2⟩:=((h2 w.1).1 ⟨w,hw,zE,ah⟩).1;obtain⟨t,ht,t1,t2⟩:=((h2 (w.2-1)).1 ⟨w,hw,zE,zE⟩).1;have:=h s hs;have:=h t ht;omega
def XY{lo hi:Int}{a b:List Sp}(h:SJ lo hi a):((zQ a b).length:Int)<=max 0 (hi-lo):=
 KK _ _ _ (ko a b).1 (fun w hw=>⟨(uI h w hw).1,(uI h w hw).2.2.2⟩)
def ku{nu de f g:Int}(hv:Vh nu de=true)(h0:0<=f)(hfg:f<=g)(hg:g<=100000000):Yn nu de f<=Yn nu de g/\Yn nu de g<=Yn nu de f+(g-f):=by
 obtain⟨b1,b2,b3,b4,b5⟩:=Jw hv;rw[Yn,Yn,ac ⟨hv,h0,zE⟩,ac ⟨hv,zE,hg⟩];have q0:0<=f*de:=zzej h0 zE;have q1:0<=g*de:=zzej zE zE;rw[zzcj q0,zzcj q1];have m1:f*de<=g*de:=Int.mul_le_mul_of_nonneg_right hfg zE;have m2:(g-f)*de<=(g-f)*nu:=zzgb zE zE
 have m3:g*de<=f*de+(g-f)*nu:=by
  have:g*de=f*de+(g-f)*de:=by rw[<- Int.add_mul];congr 1;omega
  omega
 constructor
 ·exact Int.ediv_le_ediv zE m1
 have:=Int.ediv_le_ediv (c:=nu) zE m3;rw[Int.add_mul_ediv_right _ _ zE]at this;exact this
def QV(s:Sp):Sp:=(max s.1 0,min s.2 100000001)
def uS(p:Pl)(c:Sp):Sp:=(p.ep+Yn p.nu p.de c.1,p.ep+Yn p.nu p.de (c.2-1)+1)
def ir(p:Pl)(x:It)(region:Int)(u:Sp)(i:Nat):List Sp:=((lz p x region u).take i).foldl zQ [u]
def Vt(p:Pl)(id region:Int)(s:Sp):List Sp:=
 let c:=QV s
 match Xk id p.aM with
 |none=>[]
 |some x=>if region<0\/8<=region\/c.2<=c.1\/1000000<c.2-c.1 then[]else if x.ki=5 then[c]else if Kj p=false then[]else
  zQ ((ir p x region (uS p c) (lz p x region (uS p c)).length).map (uH p)) [c]
def qY:P2->Sp
 |[.int _ a,.int _ b]=>(a,b)
 |_=>(0,0)
@[simp] def aez(l:List Sp):(l.map Qe).map qY=l:=by
 induction l with
 |nil=>rfl
 |cons a l ih=>simp only[zzar,ih];rfl
@[simp] def asc(l:List Sp):l.map (qY ∘ Qe)=l:=by rw[<- zzcw];exact aez l
@[simp] theorem asd(a b:Int):qY [I a,I b]=(a,b):=rfl
def zR(p:Pl)(id region:Int)(s:Sp):UV:=fun d f l=>
 if f=999999 then .junk else
 if f=80 then Zr (Xk id p.aM)else
 if f=81 then .bool (Kj p)else
 if f=82 then(match l with|[_,.int _ n]=>I (p.ep+Yn p.nu p.de n)|_=>.junk)else
 if f=83 then(match l with|[_,.agg x,_,.agg u]=>.fn 135 [] [.ep (Qa p) 0,.ep x 0,.ep [I region] 0,.ep u 0]|_=>.junk)else
 if f=84 then(match l with|[.sl _ A,.sl _ B]=>.sl .ro ((zQ (A.map qY) (B.map qY)).map Qe)|_=>.junk)else .gd false .junk
def KL(cs:List Cl)(item region:Int)(h:cs.length<=1000000):(Qck cs item region).length<=2000000:=by
 have h1:=Yx (nj (dD (Wj cs item region)) (wO (Wj cs item region)) (dD (Wj cs item region)).length);have h2:=wQ (dD (Wj cs item region)) (wO (Wj cs item region)) (dD (Wj cs item region)).length;have h3:=NY (Wj cs item region);have h4:(Wj cs item region).length<=cs.length:=zzcf _ _;unfold Qck;omega
def XZ(p:Pl)(x:It)(region:Int)(u:Sp)(h:p.cls.length<=1000000):∀l∈lz p x region u,l.length<=2000000:=by
 intro l hl;rw[lz,zzao,zzan]at hl;obtain rfl|⟨w,_,rfl⟩:=hl
 ·exact KL _ _ _ h
 have:=XX p.of p.sh u w.1 w.2;omega
def C7{lo hi:Int}:∀(ls:List (List Sp))(a:List Sp),SJ lo hi a->SJ lo hi (ls.foldl zQ a)
 |[],a,h=>h
 |l::r,a,h=>C7 r _ (uI h)
def A9{lo hi:Int}:∀(ls:List (List Sp))(a:List Sp),SJ lo hi a->(a.length:Int)<=max 1 (hi-lo)->((ls.foldl zQ a).length:Int)<=max 1 (hi-lo)
 |[],a,_,h=>h
 |l::r,a,h,hl=>A9 r _ (uI h) (by have:=XY (b:=l) h;omega)
def F2(p:Pl)(id region:Int)(s:Sp)(hc:p.cls.length<=1000000)(fC:p.sh.length<=1000000000)(cR:p.aM.length<=1000000000)(h1: -9223372036854775808<=s.1/\s.1<=9223372036854775807)(h2: -9223372036854775808<=s.2/\s.2<=9223372036854775807):
  ∃rt,Pure Tryz.prog aD 40 [.agg (Qa p),I id,I region,.agg [I s.1,I s.2]] (.sl rt ((Vt p id region s).map Qe)):=by
 have sH:=kz p id cR;have k70:=KM p fC;obtain⟨c,hcS⟩:∃c,QV s=c:=⟨_,rfl⟩;have hcb:0<=c.1/\c.2<=100000001/\c.1<=9223372036854775807/\ -9223372036854775808<=c.2:=by rw[<- hcS,QV];simp only;omega
 have hmx:max s.1 0=c.1:=by rw[<- hcS];rfl
 have hmn:min s.2 100000001=c.2:=by rw[<- hcS];rfl
 have F3:(if s.1<0 then 0 else s.1)=c.1:=zE
 have F4:(if 100000001<s.2 then 100000001 else s.2)=c.2:=zE
 cases hfx:Xk id p.aM with
 |none=>
  have hP:Vt p id region s=[]:=by simp[Vt,hfx]
  rw[hP];refine⟨.nil,Qp u7 (zR p id region s) zd ?_⟩;rw[o6];simp[C6,Qa,zR,hfx,Zr,tC,F3,F4];simpa[hfx,Zr,Qa]using sH
 |some x=>
  rw[hfx]at sH;by_cases hb:region<0\/8<=region\/c.2<=c.1\/1000000<c.2-c.1
  ·have hP:Vt p id region s=[]:=by simp only[Vt,hfx,hcS,ac hb]
   rw[hP];refine⟨.nil,Qp u7 (zR p id region s) zd ?_⟩;have KN:Abs.Pure Tryz.prog aD 80 [.agg (Qa p),I id] (.aS [.agg (Qm x),.bool true]):=sH;rw[o6];by_cases b1:region<0
   ·simp[C6,Qa,zR,hfx,Zr,Qm,tC,F3,F4,b1,Qe];exact KN
   by_cases b2:8<=region
   ·simp[C6,Qa,zR,hfx,Zr,Qm,tC,F3,F4,b1,b2,Qe];exact KN
   by_cases b3:c.2<=c.1
   ·simp[C6,Qa,zR,hfx,Zr,Qm,tC,F3,F4,b1,b2,b3,Qe];exact KN
   have b4:1000000<c.2-c.1:=zE
   have hw:IntKind.i64.wrap (c.2-c.1)=c.2-c.1:=by rw[Ql]<;>omega
   simp[C6,Qa,zR,hfx,Zr,Qm,tC,F3,F4,b1,b2,b3,b4,hw,Qe];exact KN
  simp only[not_or]at hb;obtain⟨b1,b2,b3,b4⟩:=hb;have hw:IntKind.i64.wrap (c.2-c.1)=c.2-c.1:=by rw[Ql]<;>omega
  by_cases hk:x.ki=5
  ·have hP:Vt p id region s=[c]:=by simp only[Vt,hfx,hcS,ab (show¬(region<0\/8<=region\/c.2<=c.1\/1000000<c.2-c.1) by omega),ac hk]
   rw[hP];refine⟨.full,Qp u7 (zR p id region s) zd ?_⟩;rw[o6];simp[C6,Qa,zR,hfx,Zr,Qm,tC,F3,F4,b1,b2,b3,b4,hw,hk,Qe];rw[Zr,Qm,hk]at sH;exact sH
  have axr:=oZ p.nu p.de c.1;have avr:=oZ p.nu p.de (c.2-1);have lq:IntKind.i64.wrap (c.2-1)=c.2-1:=by rw[Ql]<;>omega
  have KN:Abs.Pure Tryz.prog aD 80 [.agg (Qa p),I id] (.aS [.agg (Qm x),.bool true]):=sH;by_cases ht:Kj p=true
  ·have hte:Vh p.nu p.de=true/\0<=p.ep/\p.ep<=9000000000:=by
    simp only[Kj,zzac,am]at ht;exact⟨ht.1.1,ht.2⟩
   have fV:IntKind.i64.wrap (p.ep+Yn p.nu p.de (c.2-1)+1)=p.ep+Yn p.nu p.de (c.2-1)+1:=by rw[Ql]<;>omega
   have SK:IntKind.i64.wrap (p.ep+Yn p.nu p.de c.1)=p.ep+Yn p.nu p.de c.1:=by rw[Ql]<;>omega
   have ase:=k70;rw[ht]at ase;have k71:=sF p c.1 hte.2;have axt:=sF p (c.2-1) hte.2;obtain⟨u,hu⟩:∃u,uS p c=u:=⟨_,rfl⟩;have hu1:p.ep+Yn p.nu p.de c.1=u.1:=by rw[<- hu];rfl
   have JM:p.ep+Yn p.nu p.de (c.2-1)+1=u.2:=by rw[<- hu];rfl
   have hu3:IntKind.i64.wrap u.2=u.2:=by rw[<- JM];exact fV
   have hdf:=ku (f:=c.1) (g:=c.2-1) hte.1 zE zE zE;have k72:=F0 p x region u
   have hP:Vt p id region s=zQ ((ir p x region u (lz p x region u).length).map (uH p)) [c]:=by
    simp only[Vt,hfx,hcS,hu,ab (show¬(region<0\/8<=region\/c.2<=c.1\/1000000<c.2-c.1) by omega),ab hk,ht];simp
   rw[hP];refine⟨.ro,Qp u7 (zR p id region s) zd ?_⟩;rw[o6];simp[C6,Qa,zR,hfx,Zr,Qm,F3,F4,b1,b2,b3,b4,hw,hk,Qe,ht,lq,fV,hu1,JM,hu3];rw[hu1]at k71;refine⟨KN,ase,k71,axt,k72,?_⟩;have hub: -9223372036854775808<=u.1/\u.1<=9223372036854775807/\ -9223372036854775808<=u.2/\u.2<=9223372036854775807:=zE
   have hLi:=F1 p x region u hc fC ⟨hub.1,hub.2.1⟩ hub.2.2;have hLl:=XZ p x region u hc;have asf:SJ u.1 u.2 [u]:=by intro w hw;simp at hw;subst hw;omega
   have axu:∀i,SJ u.1 u.2 (ir p x region u i):=fun i=>C7 _ _ asf
   have qj:∀i,(ir p x region u i).length<=2000000:=fun i=>by
    have:=A9 ((lz p x region u).take i) [u] asf (by simp;omega);unfold ir;omega
   have j4:∀i l,(lz p x region u)[i]?=some l->ir p x region u (i+1)=zQ (ir p x region u i) l:=fun i l h=>by
    unfold ir;rw[zzay,h,zzeh];rfl
   have hc0:ir p x region u 0=[u]:=by simp[ir]
   have hps:∀y,uH p y=uH p y:=fun _=>rfl;generalize hXs:lz p x region u=Xs at*
   refine je (xs:=Xs.map FZ) (by simp;exact⟨rfl,rfl⟩) hLi (by intro y hy;simp[FZ]at hy;obtain⟨a,_,rfl⟩:=hy;rfl)
    (fun i m=>∃(bx:T5)(rt:Rt),m.boxes=Qa p::[I c.1,I c.2]::Qm x::[I u.1,I u.2]::[.sl rt ((ir p x region u i).map Qe)]::bx/\(rt=.full\/rt=.ro)) (fun _ _=>False) ?_ ?_ (fun _ _ _ h=>h.elim) ?_ ?_ (fun _ _ h=>h.elim)
   ·refine⟨[],.full,?_,.inl rfl⟩;rw[hc0];rfl
   ·rintro i m m' ⟨bx,rt,hb,aY⟩ ⟨⟨b2,e1⟩,_,_⟩;exact⟨bx++b2,rt,by rw[e1,hb];rfl,aY⟩
   ·rintro l i m y hg hr ⟨bx,rt,hb,aY⟩ hy K' q1 _ _;rw[zzbn,zzca]at hy;obtain⟨y,hy,rfl⟩:=hy;rw[Jp]at hb;have hyl:=hLl y (zzad hy);have k73:=jg (ir p x region u i) y (by have:=qj i;omega) zE;have hn:=j4 i y hy;generalize ir p x region u i=C at*
    obtain rfl|rfl:=aY
    ·have axv:=Zb (l:=[.sl .full (C.map Qe),.sl .ro (y.map Qe)]) k73 ⟨Wk.sl _ _,Ps,trivial⟩;simp[hr,Zt,FZ,hb,zR];refine⟨axv,q1 _ ⟨bx,.ro,?_,.inr rfl⟩⟩;simp[hb,hn]
    simp[hr,Zt,FZ,hb,zR];refine⟨k73,q1 _ ⟨bx,.ro,?_,.inr rfl⟩⟩;simp[hb,hn]
   rintro m ⟨bx,rt,hb,aY⟩;have hcU:=qj Xs.length;have hcI:=axu Xs.length;rw[zzbw]at hb;generalize ir p x region u Xs.length=C at*
   have k73:=jg (C.map (uH p)) [c] (by simp;omega) zd;have dU:∀w∈C,(-1000000000000<=w.1-p.ep/\w.1-p.ep<=1000000000000)/\(-1000000000000<=w.2-p.ep/\w.2-p.ep<=1000000000000):=fun w hw=>by have:=hcI w hw;omega
   have leaf:∀rt,Abs.Pure Tryz.prog aD 84 [.sl rt (C.map (Qe ∘ uH p)),.sl .full [[I c.1,I c.2]]] (.sl .ro ((zQ (C.map (qY ∘ Qe ∘ uH p)) [(c.1,c.2)]).map Qe))/\(zQ (C.map (qY ∘ Qe ∘ uH p)) [(c.1,c.2)]).map Qe=(zQ (C.map (uH p)) [c]).map Qe:=by
    have e1:C.map (qY ∘ Qe ∘ uH p)=C.map (uH p):=zzcs fun _ _=>rfl;intro rt;rw[e1];refine⟨?_,rfl⟩;have:=Zb (l:=[.sl rt ((C.map (uH p)).map Qe),.sl .full ([c].map Qe)]) k73 ⟨Wk.sl _ _,Wk.sl _ _,trivial⟩;rw[zzcw]at this;exact this
   obtain rfl|rfl:=aY
   ·simp[hb];refine A8 Y0 p (zR p id region s) (fun _ _=>rfl) (fun _ _=>rfl) _ _ C .full _ zd zd zd zd zd (by simp[hb]) (by simp[hb]) zE dU ?_;intro E' bx' Lm y6 hA sG X3;have h7:Abs.look E' 7=.ptr 1 0:=by rw[hA 7 (by decide)];simp
    obtain⟨rfl,hC⟩|⟨hC,k,rfl⟩:=X3
    ·simp[h7,sG,hb,zR,tC];exact leaf _
    simp[h7,sG,hb,zR,tC];exact leaf _
   simp[hb];refine A8 Y0 p (zR p id region s) (fun _ _=>rfl) (fun _ _=>rfl) _ _ C .ro _ zd zd zd zd zd (by simp[hb]) (by simp[hb]) zE dU ?_;intro E' bx' Lm y6 hA sG X3;have h7:Abs.look E' 7=.ptr 1 0:=by rw[hA 7 (by decide)];simp
   obtain⟨rfl,hC⟩|⟨hC,k,rfl⟩:=X3
   ·simp[h7,sG,hb,zR,tC];exact leaf _
   simp[h7,sG,hb,zR,tC];exact leaf _
  have X4:Kj p=false:=by simpa using ht
  rw[X4]at k70;have hP:Vt p id region s=[]:=by simp only[Vt,hfx,hcS,ab (show¬(region<0\/8<=region\/c.2<=c.1\/1000000<c.2-c.1) by omega),ab hk,ac X4]
  rw[hP];refine⟨.nil,Qp u7 (zR p id region s) zd ?_⟩;rw[o6];simp[C6,Qa,zR,hfx,Zr,Qm,tC,F3,F4,b1,b2,b3,b4,hw,hk,Qe,X4];exact⟨KN,k70⟩
def nA(p:Pl)(id region:Int)(s:Sp)(hc:p.cls.length<=1000000)(fC:p.sh.length<=1000000000)(cR:p.aM.length<=1000000000)(h1: -9223372036854775808<=s.1/\s.1<=9223372036854775807)(h2: -9223372036854775808<=s.2/\s.2<=9223372036854775807):
  Pure Tryz.prog aD 40 [.agg (Qa p),I id,I region,.agg [I s.1,I s.2]] (.sl .ro ((Vt p id region s).map Qe)):=by
 obtain⟨rt,h⟩:=F2 p id region s hc fC cR h1 h2;exact Zk h (Wk.sl _ _)
def X5{lo hi:Int}{a b:List Sp}(h:SJ lo hi b):SJ lo hi (zQ a b):=by
 obtain⟨⟨h1,_⟩,h2⟩:=ko a b;intro w hw;have ah:=h1 w hw;obtain⟨s,hs,s1,s2⟩:=((h2 w.1).1 ⟨w,hw,zE,ah⟩).2;obtain⟨t,ht,t1,t2⟩:=((h2 (w.2-1)).1 ⟨w,hw,zE,zE⟩).2;have:=h s hs;have:=h t ht;omega
def Qcv(p:Pl)(id region:Int)(s:Sp):(Vt p id region s).length<=1000000:=by
 unfold Vt;simp only;generalize QV s=c;cases Xk id p.aM with
 |none=>simp
 |some x=>
  simp only;split
  ·simp
  rename_i hb;simp only[not_or]at hb;split
  ·simp
  split
  ·simp
  have bP:SJ c.1 c.2 [c]:=by intro w hw;simp at hw;subst hw;omega
  have:=KK _ c.1 c.2 (ko ((ir p x region (uS p c) (lz p x region (uS p c)).length).map (uH p)) [c]).1 (fun w hw=>by have:=X5 bP w hw;omega);omega
def X6(f:Int):Bool:=decide (0<=f/\f<=100000000)
def Xv(p:Pl)(id region f n:Int):Bool:=
 if n<1\/1000000<n\/X6 f=false\/X6 (f+n-1)=false then false else(C8 [(f,f+n)] (Vt p id region (f,f+n))).isEmpty
def Ba(p:Pl)(id region f n:Int):UV:=fun d g l=>
 if g=38 then(match l with|[.int _ n]=>.bool (X6 n)|_=>.junk)else
 if g=40 then .sl .ro ((Vt p id region (f,f+n)).map Qe)else
 if g=39 then .bool (C8 [(f,f+n)] (Vt p id region (f,f+n))).isEmpty else .junk
def Qeo(p:Pl)(id region f n:Int)(hc:p.cls.length<=1000000)(fC:p.sh.length<=1000000000)(cR:p.aM.length<=1000000000):
  Pure Tryz.prog aD 18 [.agg (Qa p),I id,I region,I f,I n] (.bool (Xv p id region f n)):=by
 have k34:=sI f;have aeA:=sI (f+n-1);refine Qp ajY (Ba p id region f n) zd ?_;by_cases b1:n<1
 ·simp[Pm,Qa,Ba,Pn,b1,Xv]
 by_cases b2:1000000<n
 ·simp[Pm,Qa,Ba,Pn,b1,b2,Xv]
 by_cases b3:X6 f=true
 ·have b3':0<=f/\f<=100000000:=by simpa[X6]using b3
  have lq:IntKind.i64.wrap (f+n)=f+n:=by rw[Ql]<;>omega
  have fV:IntKind.i64.wrap (f+n-1)=f+n-1:=by rw[Ql]<;>omega
  rw[show decide (0<=f/\f<=100000000)=true from b3]at k34;by_cases b4:X6 (f+n-1)=true
  ·rw[show decide (0<=f+n-1/\f+n-1<=100000000)=true from b4]at aeA;have k36:=nA p id region (f,f+n) hc fC cR (by simp only;omega) (by simp only;omega);have k35:=F5 (Vt p id region (f,f+n)) (f,f+n) (by have:=Qcv p id region (f,f+n);omega);simp[Pm,Qa,Ba,Pn,b1,b2,b3,b4,lq,fV,Xv];exact⟨k34,aeA,k36,k35⟩
  have b4':X6 (f+n-1)=false:=by simpa using b4
  rw[show decide (0<=f+n-1/\f+n-1<=100000000)=false from b4']at aeA;simp[Pm,Qa,Ba,Pn,b1,b2,b3,b4',lq,fV,Xv];exact⟨k34,aeA⟩
 have b3':X6 f=false:=by simpa using b3
 rw[show decide (0<=f/\f<=100000000)=false from b3']at k34;simp[Pm,Qa,Ba,Pn,b1,b2,b3',Xv];exact k34
def Xn(id:Int):List En->Option En
 |[]=>none
 |x::r=>if x.id=id then some x else Xn id r
def Jo:Option En->AV
 |some x=>.aS [.agg (Qd x),.bool true]
 |none=>.aS [.agg [I 0,I 0,I 0,I 0,I 0,I 0,.sl .nil []],.bool false]
def nB(e:En):Pure Tryz.prog aD 63 [.agg (Qd e)] (I e.id):=by
 refine Qp akB (fun _ _ _=>.junk) zd ?_;simp[apq,Qd,apr]
def KO(L:List En)(id:Int)(hl:L.length<=1000000000):Pure Tryz.prog aD 62 [.sl .ro (L.map Qd),I id,.fn 63 [] []] (Jo (Xn id L)):=by
 refine Qp IW (fun _ f l=>if f=63 then(match l with|[.agg (c::_)]=>c|_=>.junk)else .junk) zd ?_;simp[abU];refine Qj gH (fun f m=>∃(i:Nat)(bx:T5),f 13=I i/\i<=L.length/\Xn id (L.drop i)=Xn id L/\m=⟨[I 0,I 0,I 0,I 0,I 0,I 0,.sl .nil []]::bx,[],fun _=>.gone,0⟩) (fun f _=>L.length-(numOf (f 13)).toNat) ?_ ?_
 ·exact⟨0,[],zd,zE,rfl,rfl⟩
 rintro f m ⟨i,bx,eS,hi,hf,rfl⟩;rcases zzaa i L.length with ah|bu
 ·obtain⟨x,hx⟩:=aV ah;have ai:Qi (L.map Qd) i=Qd x:=Qw (by simp[hx]);have aa:(i:Int)<(L.length:Int):=zE
  have hw:=bO i zE;have hd:L.drop i=x::L.drop (i+1):=by rw[zzai ah,(zza.1 hx).2]
  have hk:=nB x;rw[hd,Xn]at hf;by_cases aK:x.id=id
  ·rw[ac aK]at hf;simp[eS,ah,aa,ai,Qd,aK,gH,IV,<- hf,Jo];simpa[Qd,aK]using hk
  rw[ab aK]at hf;simp[eS,ah,aa,ai,Qd,aK,gH,hw];refine⟨hk,aQ,⟨i+1,zd,zE,hf⟩,zE⟩
 rw[zzam bu]at hf;have bP:¬(i:Int)<(L.length:Int):=zE
 simp[eS,zzbm.2 bu,bP,gH,IV,<- hf,Jo,Xn]
def KP{w:World}{γ:G}{rows:T5}{v:Value}(h:aA w γ (.sl .ro rows) v):aA w γ (.sl .nil rows) v\/aA w γ (.sl .nn rows) v:=by
 cases h with
 |sl b off sz cv hcap hnil ha hsz hc hr aY=>
  rename_i a cap;by_cases e:a=none
  ·exact .inl (.sl b off sz cv hcap hnil ha hsz hc hr e)
  exact .inr (.sl b off sz cv hcap hnil ha hsz hc hr e)
def sJ{P:Program}{gl:Nat->AV}{f:FuncId}{rows:T5}{r:AV}(h:Pure P gl f [.sl .nil rows] r)(k:Pure P gl f [.sl .nn rows] r):Pure P gl f [.sl .ro rows] r:=
 ⟨h.1,fun ro w vs iN hr=>by
  match vs,hr with
  |[v],hr=>
   rcases KP (hr.2 0 _ v rfl rfl)with h1|h1
   ·exact h.2 ro w [v] iN ⟨rfl,fun i x y hx hy=>by
     cases i with
     |zero=>cases hx;cases hy;exact h1
     |succ i=>cases hx⟩
   exact k.2 ro w [v] iN ⟨rfl,fun i x y hx hy=>by
    cases i with
    |zero=>cases hx;cases hy;exact h1
    |succ i=>cases hx⟩
  |[],hr=>exact absurd hr.1 zd
  |_::_::_,hr=>exact absurd hr.1 zd⟩
def C9:Pure Tryz.prog aD 64 [.sl .nn []] (.sl .ro []):=by
 have:∃rt,Pure Tryz.prog aD 64 [.sl .nn []] (.sl rt []):=by
  refine⟨.ro,Qp IX (fun _ _ _=>.junk) zd ?_⟩;simp[abV,abW]
 obtain⟨rt,h⟩:=this;exact Zk h (Wk.sl _ _)
def Qcf(l:List Sp)(hl:l.length<=8796093022208):Pure Tryz.prog aD 64 [.sl .ro (l.map Qe)] (.sl .ro (l.map Qe)):=by
 cases l with
 |nil=>exact sJ (Zk jh (Wk.sl _ _)) C9
 |cons x r=>
  refine Qp IX (fun _ _ _=>.junk) zd ?_;simp[abV,abW];simp at hl;refine⟨⟨rfl,?_⟩,zE⟩;rintro row a b _ rfl;rfl
def xk(p:Pl)(id:Int)(hl:p.ens.length<=1000000000)(ha:∀e∈p.ens,e.al.length<=8796093022208):Pure Tryz.prog aD 29 [.agg (Qa p),I id] (Jo (Xn id p.ens)):=by
 have h59:=KO p.ens id hl;refine Qp Tb (fun _ f l=>if f=62 then Jo (Xn id p.ens)else l.headD .junk) zd ?_;cases hf:Xn id p.ens with
 |none=>
  rw[hf]at h59;simp[abJ,abK,Qa,Jo,hf];exact⟨h59,jh⟩
 |some x=>
  rw[hf]at h59
  have hx:x∈p.ens:=by
   have:∀l:List En,Xn id l=some x->x∈l:=by
    intro l;induction l with
    |nil=>intro h;cases h
    |cons y r ih=>
     intro h;simp only[Xn]at h;split at h
     ·cases h;simp
     simp[ih h]
   exact this _ hf
  have hc:=Qcf x.al (ha x hx);simp[abJ,abK,Qa,Jo,Qd,hf];exact⟨h59,hc⟩
def KQ(e:It):Pure Tryz.prog aD 37 [.agg (Qm e)] (I e.id):=by
 refine Qp Tc (fun _ _ _=>.junk) zd ?_;simp[aka,Qm,akb]
def xm(L:List It)(id:Int)(hl:L.length<=1000000000):Pure Tryz.prog aD 36 [.sl .ro (L.map Qm),I id,.fn 37 [] []] (Zr (Xk id L)):=by
 refine Qp aj9 (fun _ f l=>if f=37 then(match l with|[.agg (c::_)]=>c|_=>.junk)else .junk) zd ?_;simp[ao3];refine Qj MB (fun f m=>∃(i:Nat)(bx:T5),f 13=I i/\i<=L.length/\Xk id (L.drop i)=Xk id L/\m=⟨[I 0,I 0,I 0,I 0,I 0]::bx,[],fun _=>.gone,0⟩) (fun f _=>L.length-(numOf (f 13)).toNat) ?_ ?_
 ·exact⟨0,[],zd,zE,rfl,rfl⟩
 rintro f m ⟨i,bx,eS,hi,hf,rfl⟩;rcases zzaa i L.length with ah|bu
 ·obtain⟨x,hx⟩:=aV ah;have ai:Qi (L.map Qm) i=Qm x:=Qw (by simp[hx]);have aa:(i:Int)<(L.length:Int):=zE
  have hw:=bO i zE;have hd:L.drop i=x::L.drop (i+1):=by rw[zzai ah,(zza.1 hx).2]
  have hk:=KQ x;rw[hd,Xk]at hf;by_cases aK:x.id=id
  ·rw[ac aK]at hf;simp[eS,ah,aa,ai,Qm,aK,MB,aj8,<- hf,Zr];simpa[Qm,aK]using hk
  rw[ab aK]at hf;simp[eS,ah,aa,ai,Qm,aK,MB,hw];refine⟨hk,aQ,⟨i+1,zd,zE,hf⟩,zE⟩
 rw[zzam bu]at hf;have bP:¬(i:Int)<(L.length:Int):=zE
 simp[eS,zzbm.2 bu,bP,MB,aj8,<- hf,Zr,Xk]
def QW(p:Pl)(id:Int)(hl:p.aM.length<=1000000000):Pure Tryz.prog aD 17 [.agg (Qa p),I id] (Zr (Xk id p.aM)):=by
 have h:=xm p.aM id hl;refine Qp S8 (fun _ f l=>if f=36 then Zr (Xk id p.aM)else .junk) zd ?_;cases hf:Xk id p.aM with
 |none=>
  rw[hf]at h;simp[S6,S7,Qa,Zr,hf];exact h
 |some x=>
  rw[hf]at h;simp[S6,S7,Qa,Zr,Qm,hf];exact h
def xq(p:Pl)(f t:Int):Pure Tryz.prog aD 122 [.agg (Qa p),I f,I t] (.fn 175 [] [.ep (Qa p) 0,.ep [I f] 0,.ep [I t] 0]):=by
 refine Qp acq (fun _ _ _=>.junk) zd ?_;simp[ag3,ag4,Qa]
def Ut(b:Nat->Bool):Nat->Int
 |0=>0
 |n+1=>Ut b n+if b n then 2 ^ n else 0
def Da(b:Nat->Bool):∀n,0<=Ut b n/\Ut b n<2 ^ n
 |0=>by simp[Ut]
 |n+1=>by
  have:=Da b n;have h2:(2:Int) ^ (n+1)=2*2 ^ n:=by rw[Int.pow_succ];omega
  rw[Ut,h2];split<;>omega
def X7:∀i:Nat,i<8->∀x:Nat,x<2 ^ i->IntKind.i64.wrap (((((x:Int)%2 ^ IntKind.i64.bits).toNat|||(IntKind.i64.wrap (2 ^ min i IntKind.i64.bits)%2 ^ IntKind.i64.bits).toNat:Nat)):Int)=(x:Int)+2 ^ i:=by
 decide+kernel
def sK(Y:YT)(p:Pl)(h:FuncId)(cap:P2)(b:Nat->Bool)(m:AM)(K:So)
  (hg:∀(i:Nat)(mm:AM),i<8->(i:Int)<p.rg->(∃bx,mm=⟨m.boxes++bx,m.lens,m.st,m.ln⟩)->∀K':So,K' (.bool (b i)) mm->aB Tryz.prog aD Y h ([I i]++cap) mm K')
  (hK:∀bx,K (I (Ut b (min p.rg 8).toNat)) ⟨m.boxes++bx,m.lens,m.st,m.ln⟩):aB Tryz.prog aD Y 176 [.agg (Qa p),.fn h [] cap] m K:=by
 refine Xo ac7 (fun _ _ _=>.gd false .junk) zd ?_;obtain⟨n,hn⟩:∃n,(min p.rg 8).toNat=n:=⟨_,rfl⟩
 have Cu:Qi (m.boxes++[Qa p]) m.boxes.length=Qa p:=by
  simp
 rw[hn]at hK;have hmn:(if 8<p.rg then 8 else p.rg)=min p.rg 8:=zE
 simp only[Qa]at Cu;simp[ahx,Qa,Cu];refine Qj Jx (fun f mm=>∃(i:Nat)(bx:T5),f 10=I i/\(i=0\/i<=n)/\mm=⟨m.boxes++bx,m.lens,m.st,m.ln⟩/\f 5=I (Ut b i)) (fun f _=>n-(numOf (f 10)).toNat) ?_ ?_
 ·exact⟨0,_,zd,.inl rfl,rfl,by simp[Ut]⟩
 rintro f mm ⟨i,bx,ij,hi,rfl,h5⟩;by_cases ah:(i:Int)<min p.rg 8
 ·have bP:i<n:=zE
  have hw:=bO i zE;have gJ:=Da b i;have hg':=hg i ⟨m.boxes++bx,m.lens,m.st,m.ln⟩ zE zE ⟨_,rfl⟩
  have hor:IntKind.i64.wrap ((((Ut b i%2 ^ IntKind.i64.bits).toNat|||(IntKind.i64.wrap (2 ^ min i IntKind.i64.bits)%2 ^ IntKind.i64.bits).toNat:Nat)):Int)=Ut b i+2 ^ i:=by
   obtain⟨x,hx⟩:∃x:Nat,Ut b i=(x:Int):=⟨(Ut b i).toNat,zE⟩
   have N2:x<2 ^ i:=by
    have h2:=gJ.2;rw[hx]at h2
    exact_mod_cast h2
   rw[hx];exact X7 i zE x N2
  have hms:Ut b (i+1)=Ut b i+if b i then 2 ^ i else 0:=rfl;simp[ij,h5,Jx,hmn,ah];refine hg' _ ?_;cases hb:b i with
  |true=>
   rw[hb]at hms;simp[hor,hw];refine⟨aQ,⟨i+1,zE,zE,by rw[hms];rfl⟩,zE⟩
  |false=>
   rw[hb]at hms;simp[hw];refine⟨aQ,⟨i+1,zE,zE,by rw[hms];simp⟩,zE⟩
 have bP:i=n:=zE
 subst bP;simp[ij,h5,Jx,hmn,ah,ahy];exact hK _
def Uf(fr t a:Int):Int:=if 1<=fr then min (t-a) fr else t-a
def Vg(fr t a:Int):List (Int×Int):=if a<t then(a,Uf fr t a)::Vg fr t (a+Uf fr t a)else[]
termination_by(t-a).toNat
decreasing_by simp only[Uf];split<;>omega
def Vv(p:Pl):Int:=match Xk p.fi p.aM with|some x=>x.fr|none=>0
def F6(p:Pl):Int:=Ut (fun _=>true) (min p.rg 8).toNat
def Qav(p:Pl)(x:Int×Int):P2:=[.agg [I 0,I p.fi,I x.1,I x.2,I 0,I (F6 p),.sl .nil []]]
def ash(p:Pl):UV:=fun _ f _=>if f=17 then Zr (Xk p.fi p.aM)else .gd false .junk
def xu(p:Pl)(f t:Int)(hl:p.aM.length<=1000000000)(hb: -1000000000<=f/\t<=1000000000)(hf:f<=1000000000/\ -1000000000<=t):
  XP Tryz.prog aD 175 [] [.ep (Qa p) 0,.ep [I f] 0,.ep [I t] 0] ((Vg (Vv p) t f).map (Qav p)):=by
 intro Y l m K hF;have X8:=QW p p.fi hl;refine Xo ac6 (ash p) zd ?_
 obtain⟨b,row,asi,ai⟩:∃(b:Bool)(y:It),Zr (Xk p.fi p.aM)=.aS [.agg (Qm y),.bool b]/\y.fr=Vv p:=by
  unfold Vv;cases Xk p.fi p.aM with
  |none=>exact⟨false,⟨0,0,0,0,0⟩,rfl,rfl⟩
  |some x=>exact⟨true,x,rfl,rfl⟩
 rw[asi]at X8;simp[UE,Qa,ash,asi,Qm]
 refine⟨X8,sK Y p 177 [] (fun _=>true) _ _ (fun i mm _ _ _ K' h=>by
  show aB _ _ _ _ [I (i:Int)] _ _;refine Xo ac8 (fun _ _ _=>.junk) zd ?_;simp[ahz,ahA];exact h) fun bx=>?_⟩
 obtain⟨B0,gC⟩:∃B0,m.boxes.length=B0:=⟨_,rfl⟩;have QX:=hF.ext (m':=⟨m.boxes++[[I row.id,I row.ki,I row.fr,I row.sp,I row.ra]]++bx,m.lens,m.st,m.ln⟩) ⟨zd,fun j hj _=>by rw[zzbg];exact Qn hj,⟨[],zd⟩,fun _ _=>rfl⟩;simp only[gC];refine Qj Cd (fun g mm=>∃(a:Int)(O:Nat->Prop),g 8=I a/\ -1000000000<=a/\a<=1000000000/\B0<mm.boxes.length/\Qi mm.boxes B0=[I row.id,I row.ki,I row.fr,I row.sp,I row.ra]/\O B0/\sE (Y l) K ((Vg (Vv p) t a).map (Qav p)) O mm) (fun g _=>(t-numOf (g 8)).toNat) ?_ ?_
 ·refine⟨f,_,zd,zE,zE,by simp[gC],?_,.inr ⟨zE,by simp;omega⟩,QX⟩;show Qi (m.boxes++[_]++bx) B0=_;rw[Qn (by simp;omega)];subst gC;simp
 rintro g mm ⟨a,O,h8,a1,a2,hlm,SI,C3,hFo⟩;by_cases ah:a<t
 ·rw[Vg,ac ah]at hFo;simp only[zzar,Qav]at hFo;have lq:IntKind.i64.wrap (t-a)=t-a:=by rw[Ql]<;>omega
  have SF:Uf (Vv p) t a=if 1<=row.fr then min (t-a) row.fr else t-a:=by rw[Uf,ai]
  have IE:1<=Uf (Vv p) t a/\Uf (Vv p) t a<=t-a:=by rw[SF];split<;>omega
  have fV:IntKind.i64.wrap (a+Uf (Vv p) t a)=a+Uf (Vv p) t a:=by rw[Ql]<;>omega
  have hmn:(if row.fr<t-a then row.fr else t-a)=min (t-a) row.fr:=zE
  have hM:Ut (fun _=>true) (min p.rg 8).toNat=F6 p:=rfl;generalize hN:Uf (Vv p) t a=N at*
  have key:∀g1,(1<=row.fr->g1=min (t-a) row.fr)->True:=fun _ _=>trivial;have hwN:IntKind.i64.wrap N=N:=by rw[Ql]<;>omega
  by_cases zF:1<=row.fr
  ·rw[ac zF]at SF;simp[h8,Cd,ah,SI,zF,lq,hmn,<- SF,hwN,hM,hlm];refine hFo _ (bW.refl _ _) _ (fun m2 A3 AW=>?_) (fun m2 hK=>?_)
   ·have q1:Qi m2.boxes B0=[I row.id,I row.ki,I row.fr,I row.sp,I row.ra]:=by rw[A3.2 B0 (.inl C3)];exact SI
    have ze:=A3.1;simp[fV];refine⟨aQ,⟨zE,zE,zE,q1,_,.inl C3,AW⟩,zE⟩
   simp[M6];exact hK _ (bW.refl _ _)
  rw[ab zF]at SF;simp[h8,Cd,ah,SI,zF,lq,<- SF,hwN,hM,hlm];refine hFo _ (bW.refl _ _) _ (fun m2 A3 AW=>?_) (fun m2 hK=>?_)
  ·have q1:Qi m2.boxes B0=[I row.id,I row.ki,I row.fr,I row.sp,I row.ra]:=by rw[A3.2 B0 (.inl C3)];exact SI
   have ze:=A3.1;simp[fV];refine⟨aQ,⟨zE,zE,zE,q1,_,.inl C3,AW⟩,zE⟩
  simp[M6];exact hK _ (bW.refl _ _)
 rw[Vg,ab ah]at hFo;simp only[zzct]at hFo;simp[h8,Cd,ah,M6];exact hFo _ (bW.refl _ _)
def F7(Y:YT)(p:Pl)(e:En)(a r fr:Int)(m:AM)(bp bf be:Nat)(hc:p.cls.length<=1000000)(fC:p.sh.length<=1000000000)(cR:p.aM.length<=1000000000)
  (h1:Qi m.boxes bp=Qa p)(h2:Qi m.boxes bf=[I fr])(h3:Qi m.boxes be=Qd e)(K:So)(hK:K (.bool (Xv p a r fr e.fr)) m):
  aB Tryz.prog aD Y 178 [I a,I r,.ptr bp 0,.ptr bf 0,.ptr be 0] m K:=by
 have k:=Qeo p a r fr e.fr hc fC cR;refine Xo ac9 (fun _ f _=>if f=18 then .bool (Xv p a r fr e.fr)else .junk) zd ?_;simp only[Qa]at h1;simp only[Qd]at h3;simp[ahB,ahC,h1,h2,h3];exact⟨k,hK⟩
def X9(Y:YT)(p:Pl)(e:En)(r fr:Int)(m:AM)(bp bf be bg:Nat)(hc:p.cls.length<=1000000)(fC:p.sh.length<=1000000000)(cR:p.aM.length<=1000000000)
  (h1:Qi m.boxes bp=Qa p)(h2:Qi m.boxes bf=[I fr])(h3:Qi m.boxes be=Qd e)(h4:Qi m.boxes bg=[.fn 178 [] [.ptr bp 0,.ptr bf 0,.ptr be 0]])(K:So)(hK:K (.bool (Xv p e.it r fr e.fr)) m):
  aB Tryz.prog aD Y 179 [I r,.ptr bg 0,.ptr be 0] m K:=by
 have k:=F7 Y p e e.it r fr m bp bf be hc fC cR h1 h2 h3;refine Xo ada (fun _ _ _=>.gd false .junk) zd ?_;simp only[Qd]at h3;simp[ahD,h4,h3];refine k _ ?_;simp[ahE];exact hK
end
