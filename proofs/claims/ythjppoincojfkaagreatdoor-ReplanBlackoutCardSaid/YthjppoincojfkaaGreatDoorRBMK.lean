import Derived.Test.YthjppoincojfkaaGreatDoorRBSpG
set_option linter.all false
set_option maxRecDepth 100000
set_option maxHeartbeats 64000000
namespace Go.Proofs.YthjppoincojfkaaGreatDoor
noncomputable section
open Go Go.Abs
def w9(n:Int):Pure Tryz.prog aD 195 [I n] (.bool (decide (0<=n/\n<86400))):=by
 refine Qp acT (fun _ _ _=>.junk) zd ?_;by_cases h1:0<=n<;>by_cases h2:n<86400<;>simp[ahm,ahn,h1,h2]
def FN(n:Int)(h: -100000000000<=n/\n<=100000000000):Pure Tryz.prog aD 198 [I n] (.aS [I (n/86400),I (n%86400)]):=by
 refine Qp acW (fun _ _ _=>.junk) zd ?_
 have ht:n.tdiv 86400=if 0<=n\/n%86400=0 then n/86400 else n/86400+1:=by
  by_cases h0:0<=n
  ·rw[if_pos (.inl h0),zzck h0]
  rw[Int.tdiv_eq_ediv];by_cases h1:n%86400=0
  ·rw[if_pos (.inr (Int.dvd_of_emod_eq_zero h1)),if_pos (.inr h1)];simp
  rw[if_neg (by rintro(h|h);exact h0 h;exact h1 (Int.emod_eq_zero_of_dvd h)),if_neg (by rintro(h|h);exact h0 h;exact h1 h)];rfl
 have hm:n.tmod 86400=n-n.tdiv 86400*86400:=by have:=Int.mul_tdiv_add_tmod n 86400;omega
 have w1:IntKind.i64.wrap (n.tdiv 86400)=n.tdiv 86400:=by rw[ht];split<;>rw[Ql]<;>omega
 by_cases Cv:n.tmod 86400<0
 ·have e1:n.tdiv 86400=n/86400+1:=by
   rw[ht]at hm |-
   split
   ·rename_i hc;rw[if_pos hc]at hm;omega
   rfl
  have w2:IntKind.i64.wrap (n/86400+1)=n/86400+1:=by rw[Ql]<;>omega
  have w3:IntKind.i64.wrap (n/86400)=n/86400:=by rw[Ql]<;>omega
  have e2:n.tmod 86400=n%86400-86400:=by rw[hm,e1];omega
  have w4:IntKind.i64.wrap (n%86400)=n%86400:=by rw[Ql]<;>omega
  have zn:n%86400<86400:=zE
  have hn3:¬86400<=n%86400:=zE
  simp[TU,TV,e1,e2,w2,w3,w4,zn,hn3]
 have e1:n.tdiv 86400=n/86400:=by
  rw[ht]at hm |-
  split
  ·rfl
  rename_i hc;rw[if_neg hc]at hm;omega
 have e2:n.tmod 86400=n%86400:=by rw[hm,e1];omega
 have w3:IntKind.i64.wrap (n/86400)=n/86400:=by rw[Ql]<;>omega
 have zn:¬n%86400<0:=zE
 simp[TU,TV,e1,e2,w3,zn]
def zJ(fr to:Int):List Sp:=if fr<to then[(fr,to)]else if to<fr then[(0,to),(fr,86400)]else[(0,86400)]
def C3(fr to:Int):Pure Tryz.prog aD 199 [I fr,I to] (.sl .full ((zJ fr to).map Qf)):=by
 refine Qp acX (fun _ _ _=>.junk) zd ?_;by_cases h1:fr<to
 ·simp[MZ,M0,h1,zJ,Qf]
 by_cases h2:to<fr
 ·simp[MZ,M0,h1,h2,zJ,Qf]
 simp[MZ,M0,h1,h2,zJ,Qf]
def uD:Int->Int->List Sp->List (Int×Int×Int)
 |f,o,[]=>[(f,10000000001,o)]
 |f,o,s::r=>(if f<s.1 then[(f,s.1,o)]else[])++uD s.1 s.2 r
def A3(x:Int×Int×Int):P2:=[.agg [I x.1,I x.2.1,I x.2.2]]
def xb(of:Int)(sh:List Sp):Pure Tryz.prog aD 197 [.agg [I of,.sl .ro (sh.map Qf)]] (.fn 236 [] [.ep [I of,.sl .ro (sh.map Qf)] 0]):=by
 refine Qp acV (fun _ _ _=>.junk) zd ?_;simp[aho,ahp]
def bV.put{O:Nat->Prop}{m:AM}{b:Nat}(hb:O b)(v:P2)(x:T5):bV O m {m with boxes:=m.boxes.set b v++x}:=
 ⟨zd,fun j hj ho=>by show Qj (m.boxes.set b v++x) j=_;rw[Qn (Nm hj),Vz v (by rintro rfl;exact ho hb)],⟨[],zd⟩,fun _ _=>rfl⟩
def bV.asu{O:Nat->Prop}{m:AM}{b:Nat}(hb:O b)(v:P2):bV O m {m with boxes:=m.boxes.set b v}:=
 ⟨zd,fun j hj ho=>by show Qj (m.boxes.set b v) j=_;rw[Vz v (by rintro rfl;exact ho hb)],⟨[],zd⟩,fun _ _=>rfl⟩
def xd(of:Int)(sh:List Sp)(hl:sh.length<=1000000000):WW Tryz.prog aD 236 [] [.ep [I of,.sl .ro (sh.map Qf)] 0] ((uD 0 of sh).map A3):=by
 intro Y l m K hF;refine Xn adi (fun _ _ _=>.junk) zd ?_;simp[T7];obtain⟨b,hbe⟩:∃b,m.boxes.length=b:=⟨_,rfl⟩;refine Qk Cd (fun f mm=>∃(i:Nat)(fr t o:Int)(O:Nat->Prop),f 12=I i/\i<=sh.length/\b<mm.boxes.length/\Qj mm.boxes b=[I fr,I t,I o]/\O b/\sC (Y l) K ((uD fr o (sh.drop i)).map A3) O mm) (fun f _=>sh.length-(numOf (f 12)).toNat) ?_ ?_
 ·refine⟨0,0,0,of,OU (fun _=>False) m.boxes.length (m.boxes.length+1),zd,zE,by simp[hbe],by simp[<- hbe],.inr ⟨zE,zE⟩,?_⟩;have:=hF.ext ((fD.box m [[I 0,I 0,I of]]).toO _);simpa using this
 rintro f mm ⟨i,fr,t,o,O,ql,hi,hlm,ah,CX,hF⟩;rcases zzaa i sh.length with ai|bn
 ·obtain⟨s,hs⟩:=aV ai;have zI:=Zv hs;have aa:(i:Int)<(sh.length:Int):=zE
  have hw:=bO i zE;have hd:sh.drop i=s::sh.drop (i+1):=by rw[zzah ai,(zza.1 hs).2]
  rw[hd,uD]at hF;have gY:∀x,Qj (mm.boxes++x) b=[I fr,I t,I o]:=fun x=>by rw[Qn hlm];exact ah
  have lM:∀x y,(mm.boxes++x).set b y=mm.boxes.set b y++x:=fun x y=>Yk y hlm;have oo:∀y x,Qj (mm.boxes.set b y++x) b=y:=fun y x=>by rw[Qn (Nm hlm),Yg _ hlm]
  have iE:∀y x,Qj (mm.boxes.set b y++[x]) mm.boxes.length=x:=fun y x=>by
   have:=Vn (mm.boxes.set b y) [x] 0;rw[zzcg]at this;simpa using this
  have hsc:∀y x z,(mm.boxes.set b y++x).set b z=mm.boxes.set b z++x:=fun y x z=>by rw[Yk z (Nm hlm),List.set_set]
  by_cases hfs:fr<s.1
  ·rw[if_pos hfs]at hF;simp only[zze,zzaz]at hF;simp[ql,ai,aa,zI,gY,lM,oo,iE,Cd,hbe,hfs,hlm];refine⟨zE,hF _ (bV.put CX _ _) _ (fun m2 A1 AW=>?_) (fun m2 hK=>?_)⟩
   ·have ayP:mm.boxes.length+1<=m2.boxes.length:=by have:=A1.1;simpa using this
    have q1:Qj m2.boxes b=[I fr,I s.1,I o]:=by rw[A1.2 b (.inl CX)];exact oo _ _
    have q2:Qj m2.boxes mm.boxes.length=[I s.1,I s.2]:=by
     rw[A1.2 mm.boxes.length (.inr ⟨zzab _,zd⟩)];exact iE _ _
    have fT:b<m2.boxes.length:=zE
    have asv:OU O mm.boxes.length (mm.boxes.length+1) b:=.inl CX;simp at AW;have q3:∀y,Qj (m2.boxes.set b y) b=y:=fun y=>Yg _ fT;simp[q1,q2,q3,fT,hw];refine⟨aQ,⟨i+1,zd,zE,s.1,0,s.2,⟨rfl,rfl,rfl⟩,_,.inl asv,AW.ext (bV.asu asv _)⟩,zE⟩
   simp[Nb];exact hK _ (bV.refl _ _)
  rw[if_neg hfs]at hF;simp only[zzai]at hF;simp[ql,ai,aa,zI,gY,lM,oo,iE,hsc,Cd,hbe,hfs,hlm,hw];refine⟨zE,aQ,⟨i+1,zd,zE,zE,s.1,0,s.2,⟨rfl,rfl,rfl⟩,_,.inl CX,hF.ext (bV.put CX _ _)⟩,zE⟩
 obtain rfl:i=sh.length:=zE
 rw[zzbx,uD]at hF;simp only[zzaz,zzcr]at hF;simp[ql,Cd,hbe,ah,hlm,Yg _ hlm];refine hF _ (bV.asu CX _) _ (fun m2 _ AW=>?_) (fun m2 hK=>?_)
 ·simp[Nb];exact AW _ (bV.refl _ _)
 simp[Nb];exact hK _ (bV.refl _ _)
open Go Go.Abs
def nH(L:List Sp)(f t:Int):List Sp:=
 if f<t then(match L.getLast? with|some s=>if s.2=f then L.dropLast++[(s.1,t)]else L++[(f,t)]|none=>[(f,t)])else L
def iq(m:AM)(id k:Nat)(L:List Sp):Prop:=id<m.boxes.length/\((L=[]/\Qj m.boxes id=[.sl .nil []])\/(L≠[]/\k<m.boxes.length/\k≠id/\Qj m.boxes id=[.bs k 0 L.length 2]/\Qj m.boxes k=cF L))
def aei:UV:=fun d f _=>if f=999999 then(if d=34 then .aJ 0 []else .junk)else .junk
def XJ(Y:YT)(f t:Int)(id k:Nat)(L:List Sp)(m:AM)(hO:iq m id k L)(hl:L.length<=1000000000)(K:So)
  (hK:∀m' k',iq m' id k' (nH L f t)->(k'=k\/m.boxes.length<=k')->bB (fun j=>j=id\/(L≠[]/\j=k)) m.boxes m'.boxes->m'.st=m.st->m'.ln=m.ln->m'.lens=m.lens->K (.aS []) m'):aB Tryz.prog aD Y 196 [I f,I t,.ptr id 0] m K:=by
 obtain⟨h2,h3⟩:=hO;refine Xn acU aei zd ?_;have gY:∀x,Qj (m.boxes++x) id=Qj m.boxes id:=fun x=>Qn h2;have lM:∀x y,(m.boxes++x).set id y=m.boxes.set id y++x:=fun x y=>Yk y h2;by_cases xe:f<t
 ·have XK:¬t<=f:=zE
  obtain⟨rfl,h1⟩|⟨aN,hk,eM,h1,ah⟩:=h3
  ·have ha:nH [] f t=[(f,t)]:=by simp[nH,xe]
   rw[ha]at hK;simp[Eu,Ew,aei,xe,XK,h1,h2,gY,lM];refine⟨zE,hK _ m.boxes.length ⟨by simp;omega,.inr ⟨zd,zd,zE,?_,?_⟩⟩ (.inr (zzab _)) ((bB.set (S:=fun j=>j=id\/(([]:List Sp)≠[]/\j=k)) (bB.refl _ _) (.inl (.inl rfl)) _).app _) rfl rfl rfl⟩
   ·simp only[zzfk];rw[Qn (Nm h2),Yg _ h2]
   have:=Vn (m.boxes.set id [.bs m.boxes.length 0 1 2]) [[I f,I t]] 0;rw[zzcg]at this;simpa using this
  obtain⟨A,s,rfl⟩:∃A s,L=A++[s]:=⟨L.dropLast,L.getLast aN,(zzew aN).symm⟩;have ha:nH (A++[s]) f t=if s.2=f then A++[(s.1,t)]else A++[s]++[(f,t)]:=by simp[nH,xe]
  rw[ha]at hK;have hw:IntKind.i64.wrap (A.length:Int)=(A.length:Int):=by simp at hl;rw[Ql]<;>omega
  have hg:(A++[s])[A.length]?=some s:=zd
  have g0:=uB hg;have g1:=FA hg;have dG:(A++[s]).length=A.length+1:=zd
  rw[dG]at h1;have gl:(cF (A++[s])).length=A.length*2+2:=by rw[Ye,dG];omega
  have hR2:cF (A++[s]++[(f,t)])=cF (A++[s])++[I f,I t]:=by rw[Qcj];rfl
  have hR1:(cF (A++[s])).set (A.length*2+1) (I t)=cF (A++[(s.1,t)]):=by rw[wP _ _ s _ hg];simp
  have hrk:∀x,Qj (m.boxes++x) k=cF (A++[s]):=fun x=>by rw[Qn hk];exact ah
  have hsk:∀x y,(m.boxes++x).set k y=m.boxes.set k y++x:=fun x y=>Yk y hk;generalize hR:cF (A++[s])=R at*
  by_cases hs:s.2=f
  ·rw[if_pos hs]at hK;simp[Eu,Ew,aei,xe,XK,h1,h2,hw,ah,g0,g1,gl,gY,lM,hrk,hsk,hk,hs];refine⟨zE,hK _ k ⟨Nm h2,.inr ⟨zd,Nm hk,eM,?_,?_⟩⟩ (.inl rfl) (bB.set (S:=fun j=>j=id\/(A++[s]≠[]/\j=k)) (bB.refl _ _) (.inl (.inr ⟨zd,rfl⟩)) _) rfl rfl rfl⟩
   ·show Qj (m.boxes.set k _) id=_;rw[Vz _ eM,h1];simp
   show Qj (m.boxes.set k _) k=_;rw[Yg _ hk];exact hR1
  rw[if_neg hs]at hK;simp[Eu,Ew,aei,xe,XK,h1,h2,hw,ah,g0,g1,gl,gY,lM,hrk,hsk,hk,hs];have hRt:List.take ((A.length+1)*2) R=R:=zzas zE;have axc:¬R=[]:=by rintro rfl;simp at gl
  have hri:∀x,Qj (m.boxes.set k []++x) id=[AV.bs k 0 (A.length+1) 2]:=fun x=>by rw[Qn (Nm h2),Vz _ eM,h1]
  simp only[hRt,hri];refine⟨zE,⟨⟨axc,zE⟩,by simp at hl;omega⟩,⟨zd,zE⟩,?_⟩;refine hK _ m.boxes.length ⟨by simp;omega,.inr ⟨zd,zd,zE,?_,?_⟩⟩ (.inr (zzab _)) ?_ rfl rfl rfl
  ·show Qj ((m.boxes.set k []).set id _++_) id=_;rw[Qn (Nm h2),Yg _ (Nm h2)];simp
  ·have:=Vn ((m.boxes.set k []).set id [.bs m.boxes.length 0 (A.length+1+1) 2]) [R++[I f,I t]] 0;simp only[zzcg]at this;rw[hR2];simpa using this
  exact((bB.set (S:=fun j=>j=id\/(A++[s]≠[]/\j=k)) (bB.refl _ _) (.inl (.inr ⟨zd,rfl⟩)) _).set (.inl (.inl rfl)) _).app _
 have ha:nH L f t=L:=by simp[nH,xe]
 rw[ha]at hK;have XK:t<=f:=zE
 simp[Eu,Ew,xe,XK];exact hK m k ⟨h2,h3⟩ (.inl rfl) (bB.refl _ _) rfl rfl rfl
open Go Go.Abs
def FO(L:List Sp)(f t:Int):(nH L f t).length<=L.length+1:=by
 unfold nH;split
 ·split
  ·rename_i s hs;split
   ·have:0<L.length:=by cases L with
     |nil=>simp at hs
     |cons=>simp
    simp<;>omega
   simp
  simp
 omega
def pE(sf st mid:Int):List Sp->List Sp->List Sp
 |[],L=>L
 |w::W,L=>pE sf st mid W (nH L (max sf (mid+w.1)) (min st (mid+w.2)))
def FP(sf st mid:Int):∀(W L:List Sp),(pE sf st mid W L).length<=L.length+W.length
 |[],L=>by simp[pE]
 |w::W,L=>by
  have h1:=FP sf st mid W (nH L (max sf (mid+w.1)) (min st (mid+w.2)));have h2:=FO L (max sf (mid+w.1)) (min st (mid+w.2));simp[pE];omega
def nI(W:List Sp)(sf st mid:Int)(L:List Sp):List Sp:=
 if mid<st then nI W sf st (mid+86400) (pE sf st mid W L)else L
termination_by(st-mid).toNat
decreasing_by omega
def qW(m0:AM)(k0:Nat)(m:AM)(k:Nat)(L:List Sp):Prop:=
 iq m 4 k L/\(k=k0\/m0.boxes.length<=k)/\bB (fun j=>j=4\/j=k0) m0.boxes m.boxes/\m.st=m0.st/\m.ln=m0.ln/\m.lens=m0.lens
def iq.app{m:AM}{id k:Nat}{L:List Sp}(h:iq m id k L)(x:T5):iq {m with boxes:=m.boxes++x} id k L:=by
 obtain⟨h1,h2⟩:=h;refine⟨by simp;omega,?_⟩;obtain⟨h2,h3⟩|⟨h2,h3,h4,h5,h6⟩:=h2
 ·exact .inl ⟨h2,by show Qj (m.boxes++x) id=_;rw[Qn h1];exact h3⟩
 exact .inr ⟨h2,by simp;omega,h4,by show Qj (m.boxes++x) id=_;rw[Qn h1];exact h5,by show Qj (m.boxes++x) k=_;rw[Qn h3];exact h6⟩
def qW.refl{m:AM}{k:Nat}{L:List Sp}(h:iq m 4 k L):qW m k m k L:=⟨h,.inl rfl,bB.refl _ _,rfl,rfl,rfl⟩
def qW.app{m0 m:AM}{k0 k:Nat}{L:List Sp}(h:qW m0 k0 m k L)(x:T5):qW m0 k0 {m with boxes:=m.boxes++x} k L:=
 ⟨h.1.app x,h.2.1,h.2.2.1.app x,h.2.2.2⟩
def qW.step{m0 m m':AM}{k0 k k':Nat}{L L':List Sp}(h:qW m0 k0 m k L)(hO:iq m' 4 k' L')(hk:k'=k\/m.boxes.length<=k')(hK:bB (fun j=>j=4\/(L≠[]/\j=k)) m.boxes m'.boxes)(h1:m'.st=m.st)(h2:m'.ln=m.ln)(h3:m'.lens=m.lens):qW m0 k0 m' k' L':=by
 obtain⟨a1,a2,a3,a4,a5,a6⟩:=h;refine⟨hO,?_,bB.trans a3 (hK.mono ?_),by rw[h1,a4],by rw[h2,a5],by rw[h3,a6]⟩
 ·have:=a3.1;omega
 rintro i (rfl|⟨_,rfl⟩)
 ·exact .inl (.inl rfl)
 obtain a2|a2:=a2
 ·exact .inl (.inr a2)
 exact .inr a2
def Il(s:Sp)(fr to:Int)(m:AM):Prop:=5<m.boxes.length/\Qj m.boxes 1=[I s.1,I s.2]/\Qj m.boxes 2=[I fr]/\Qj m.boxes 3=[I to]/\Qj m.boxes 5=[.fn 196 [] [.ptr 4 0]]
def Il.keep{s:Sp}{fr to:Int}{m m':AM}(h:Il s fr to m){S:Nat->Prop}(hK:bB S m.boxes m'.boxes)(hS:∀j,S j->j=4\/6<=j):Il s fr to m':=by
 obtain⟨h1,h2,h3,h4,h5⟩:=h;have q:∀j,j<6->j≠4->Qj m'.boxes j=Qj m.boxes j:=fun j hj h4=>hK.2 j zE (fun h=>by have:=hS j h;omega);exact⟨zzay h1 hK.1,by rw[q 1 zE zE];exact h2,by rw[q 2 zE zE];exact h3,by rw[q 3 zE zE];exact h4,by rw[q 5 zE zE];exact h5⟩
def Il.day{s:Sp}{fr to:Int}{m0 m:AM}{k0 k:Nat}{L:List Sp}(h:Il s fr to m0)(hD:qW m0 k0 m k L)(hk:k0=4\/6<=k0):Il s fr to m:=
 h.keep hD.2.2.1 (by rintro j (h|h)<;>omega)
def Il.app{s:Sp}{fr to:Int}{m:AM}(h:Il s fr to m)(x:T5):Il s fr to {m with boxes:=m.boxes++x}:=
 h.keep (S:=fun _=>False) ((bB.refl _ _).app x) (fun _ h=>h.elim)
def XL(of:Int)(sh:List Sp)(fr to:Int):UV:=fun d f l=>
 if f=999999 then .junk else
 if f=133 then .bool (Yi of sh)else
 if f=195 then(match l with|[.int _ n]=>.bool (decide (0<=n/\n<86400))|_=>.junk)else
 if f=197 then .fn 236 [] [.ep [I of,.sl .ro (sh.map Qf)] 0]else
 if f=198 then(match l with|[.int _ n]=>.aS [I (n/86400),I (n%86400)]|_=>.junk)else
 if f=199 then .sl .full ((zJ fr to).map Qf)else .gd false .junk
def XM:SC:=(⟨_,by cbv⟩:JT [1,0,1,1,1,1,1,0,1,0,1,0,1,1,1,1,1] Ae).1
def xg:SC->SC:=(⟨_,fun _=>by cbv⟩:Fe [1,0,1,1,1,1,1,0,1,0,1,0,1,1,1,1,1] Ae).1
theorem XN:Ae=xg XM:=rfl
def uE{fr to:Int}(h1:0<=fr/\fr<86400)(h2:0<=to/\to<86400):(zJ fr to).length<=2/\∀w∈zJ fr to,0<=w.1/\w.1<=86400/\0<=w.2/\w.2<=86400:=by
 unfold zJ;split
 ·simp;omega
 split
 ·simp;omega
 simp
def aej(Y:YT)(of:Int)(sh:List Sp)(fr to:Int)(wC:0<=fr/\fr<86400)(hto:0<=to/\to<86400)(E:QQ)(m:AM)(k0:Nat)(L0:List Sp)(sf st KB:Int)(Q:R0)
  (s:Sp)(h6:Abs.look E 6=.ptr 2 0)(h7:Abs.look E 7=.ptr 3 0)(jy:Abs.look E 10=.ptr 5 0)(ql:Abs.look E 12=I sf)(eU:Abs.look E 13=I st)(KC:Abs.look E 16=I KB)
  (hf:Il s fr to m)(hO:iq m 4 k0 L0)(hk:k0=4\/6<=k0)
  (hb: -100000000000<=KB/\KB<=100000000000/\st<=100000000000)(hl:L0.length+2*((st-KB)/86400+1).toNat<=100000)
  (hQ:∀T m' k',qW m k0 m' k' (nI (zJ fr to) sf st KB L0)->Q .normal ⟨T,m'⟩):
  vc Tryz.prog aD (XL of sh fr to) Y XM ⟨Vw 111 E,m⟩ Q:=by
 obtain⟨QC,hWb⟩:=uE wC hto;have axd:=C3 fr to;simp[XM];refine Qk IV (fun f mm=>∃(mid:Int)(k:Nat)(L:List Sp),f 16=I mid/\qW m k0 mm k L/\ -100000000000<=mid/\mid<=100000086400/\L.length+2*((st-mid)/86400+1).toNat<=100000/\nI (zJ fr to) sf st mid L=nI (zJ fr to) sf st KB L0) (fun f _=>(st-numOf (f 16)).toNat) ?_ ?_
 ·exact⟨KB,k0,L0,by simp[KC],qW.refl hO,zE,zE,hl,rfl⟩
 rintro f mm ⟨mid,k,L,hm16,hD,b1,b2,b3,hR⟩;by_cases ai:mid<st
 ·have axe:IntKind.i64.wrap (mid+86400)=mid+86400:=by rw[Ql]<;>omega
  rw[nI,if_pos ai]at hR;obtain⟨f0,f1,f2,f3,f5⟩:=hf.day hD hk;generalize hWe:zJ fr to=W at*
  simp[hm16,h6,h7,jy,ql,eU,IV,ai,XL,hWe,f2,f3];refine⟨axd,?_⟩;refine Qk IW (fun f' m'=>∃(i k':Nat)(L':List Sp),f' 91=I i/\i<=W.length/\qW m k0 m' k' L'/\L'.length<=L.length+i/\pE sf st mid (W.drop i) L'=pE sf st mid W L) (fun f' _=>W.length-(numOf (f' 91)).toNat) ?_ ?_
  ·exact⟨0,k,L,zd,zE,hD,zE,rfl⟩
  rintro f' m' ⟨i,k',L',h91,hi,hD',tP,hR'⟩;obtain⟨g0,g1,g2,g3,g5⟩:=hf.day hD' hk;rcases zzaa i W.length with hiw|bn
  ·obtain⟨w,hw⟩:=aV hiw;have Sk:=Zv hw;obtain⟨c1,c2,c3,c4⟩:=hWb w (zzad hw);have aa:(i:Int)<(W.length:Int):=zE
   have XO:=bO i zE;have dU:IntKind.i64.wrap (mid+w.1)=mid+w.1:=by rw[Ql]<;>omega
   have fE:IntKind.i64.wrap (mid+w.2)=mid+w.2:=by rw[Ql]<;>omega
   have hd:W.drop i=w::W.drop (i+1):=by rw[zzah hiw,(zza.1 hw).2]
   rw[hd,pE]at hR';have gY:∀x,Qj (m'.boxes++x) 5=[.fn 196 [] [.ptr 4 0]]:=fun x=>by rw[Qn g0];exact g5
   have A0:∀x,Qj (m'.boxes++[x]) m'.boxes.length=x:=fun x=>by
    simp
   have hmx:(if sf<mid+w.1 then mid+w.1 else sf)=max sf (mid+w.1):=zE
   have hmn:(if mid+w.2<st then mid+w.2 else st)=min st (mid+w.2):=zE
   have axf:=fun K hK=>XJ Y (max sf (mid+w.1)) (min st (mid+w.2)) 4 k' L' {m' with boxes:=m'.boxes++[[I w.1,I w.2]]} (hD'.1.app _) zE K hK;simp[h91,hiw,aa,Sk,IW,jy,ql,eU,hm16,g5,gY,A0,dU,fE,g0,hmx,hmn,XO,XL];refine axf _ fun m2 k2 e1 e2 e3 e4 e5 e6=>?_;have hD2:=(hD'.app [[I w.1,I w.2]]).step e1 e2 e3 e4 e5 e6;have:=FO L' (max sf (mid+w.1)) (min st (mid+w.2));refine⟨aQ,⟨i+1,zE,zE,k2,_,hD2,zE,hR'⟩,zE⟩
  obtain rfl:i=W.length:=zE
  rw[zzbx,pE]at hR';rw[<- hR']at hR;simp[h91,IW,hm16,axe];refine⟨aQ,⟨k',L',hD',zE,zE,zE,hR⟩,zE⟩
 have hR0:=hR;rw[nI,if_neg ai]at hR;simp[hm16,eU,IV,ai];exact hQ _ _ k (by rw[<- hR];exact hD)
open Go Go.Abs
def stL(s:Sp)(W:List Sp)(x:Int×Int×Int)(L:List Sp):List Sp:=
 if min x.2.1 s.2<=max x.1 s.1 then L else nI W (max x.1 s.1) (min x.2.1 s.2) ((max x.1 s.1+x.2.2)/86400*86400-x.2.2) L
def tT(s:Sp)(W:List Sp):List (Int×Int×Int)->List Sp->List Sp
 |[],L=>L
 |x::r,L=>if s.2<=x.1 then L else tT s W r (stL s W x L)
def zK(n:Int):Bool:=decide (0<=n/\n<86400)
def xh(of:Int)(sh:List Sp)(s:Sp)(fr to:Int):Bool:=Yi of sh&&zK fr&&zK to&&decide (s.1<s.2/\s.2-s.1<=1000000)
def ir(of:Int)(sh:List Sp)(s:Sp)(fr to:Int):List Sp:=if xh of sh s fr to then tT s (zJ fr to) (uD 0 of sh) []else[]
def aek(x:Int×Int×Int):Prop:=0<=x.1/\x.1<=10000000000/\x.2.1<=10000000001/\ -50400<=x.2.2/\x.2.2<=50400
def C4:∀(sh:List Sp)(f o last:Int),0<=f->f<=10000000000-> -1<=last-> -50400<=o->o<=50400->tU last sh=true->(∀x∈uD f o sh,aek x)
 |[],f,o,last,h1,h2,_,h3,h4,_=>by simp[uD,aek];omega
 |s::r,f,o,last,h1,h2,hla,h3,h4,ha=>by
  rw[tU]at ha;split at ha
  ·cases ha
  rename_i hn;simp only[not_or,zzgk,gP,decide_eq_true_eq]at hn;have ih:=C4 r s.1 s.2 s.1 zE zE zE zE zE ha;intro x hx;rw[uD,zzam]at hx;obtain hx|hx:=hx
  ·split at hx
   ·simp at hx;subst hx;simp[aek];omega
   simp at hx
  exact ih x hx
def xk:∀(sh:List Sp)(f o:Int),(uD f o sh).length<=sh.length+1
 |[],f,o=>by simp[uD]
 |s::r,f,o=>by
  have:=xk r s.1 s.2;rw[uD];split<;>simp<;>omega
def FQ(W:List Sp)(hW:W.length<=2)(sf st:Int):∀(n:Nat)(mid:Int)(L:List Sp),(st-mid).toNat<=n->(nI W sf st mid L).length<=L.length+2*((st-mid)/86400+1).toNat:=by
 intro n;induction n with
 |zero=>intro mid L h;rw[nI,if_neg zE];omega
 |succ n ih=>
  intro mid L h;rw[nI];split
  ·have:=ih (mid+86400) (pE sf st mid W L) zE;have:=FP sf st mid W L;omega
  omega
def ael(R:List Sp)(s:Sp)(fr to:Int)(xs:List (Int×Int×Int))(O:Nat->Prop)(i:Nat)(m:AM):Prop:=
 ∃k L,iq m 4 k L/\(k=4\/6<=k)/\¬O k/\k<m.boxes.length/\(∀j,O j->6<=j)/\Il s fr to m/\L.length<=40*i/\tT s (zJ fr to) (xs.drop i) L=R
def aem(R:List Sp)(O:Nat->Prop)(ex:Exit)(m:AM):Prop:=ex=.exit 0/\∃k,iq m 4 k R/\¬O k/\(∀j,O j->6<=j)
def iq.cg{m m':AM}{id k:Nat}{L:List Sp}(h:iq m id k L)(e:m'.boxes=m.boxes):iq m' id k L:=by unfold iq at*;rw[e];exact h
def Il.cg{s:Sp}{fr to:Int}{m m':AM}(h:Il s fr to m)(e:m'.boxes=m.boxes):Il s fr to m':=by unfold Il at*;rw[e];exact h
def iq.XP{O:Nat->Prop}{m m':AM}{k:Nat}{L:List Sp}(h:iq m 4 k L)(e:bV O m m')(h0:¬O 4)(hk:¬O k):iq m' 4 k L:=by
 obtain⟨h1,h2⟩:=h;refine⟨zzay h1 e.1,?_⟩;obtain⟨h2,h3⟩|⟨h2,h3,h4,h5,h6⟩:=h2
 ·exact .inl ⟨h2,by rw[e.2.1 4 h1 h0];exact h3⟩
 exact .inr ⟨h2,zzay h3 e.1,h4,by rw[e.2.1 4 h1 h0];exact h5,by rw[e.2.1 k h3 hk];exact h6⟩
def ael.ext{R:List Sp}{s:Sp}{fr to:Int}{xs:List (Int×Int×Int)}{O:Nat->Prop}{i:Nat}{m m':AM}(h:ael R s fr to xs O i m)(e:bV O m m'):ael R s fr to xs (OU O m.boxes.length m'.boxes.length) i m':=by
 obtain⟨k,L,h1,h2,h3,h4,h5,h6,h8,h9⟩:=h;refine⟨k,L,h1.XP e (fun h=>by have:=h5 4 h;omega) h3,h2,?_,zzay h4 e.1,?_,h6.keep (S:=O) ⟨e.1,e.2.1⟩ (fun j h=>.inr (h5 j h)),h8,h9⟩
 ·rintro(h|h)
  ·exact h3 h
  omega
 have:=h6.1;rintro j (h|h)
 ·exact h5 j h
 omega
def aem.ext{R:List Sp}{O:Nat->Prop}{ex:Exit}{m m':AM}(h:aem R O ex m)(e:bV O m m'):aem R O ex m':=by
 obtain⟨h0,k,h1,h3,h5⟩:=h;exact⟨h0,k,h1.XP e (fun h=>by have:=h5 4 h;omega) h3,h3,h5⟩
def xm(of:Int)(sh:List Sp)(s:Sp)(fr to:Int)(fu:sh.length<=1000000000)(h1: -9223372036854775808<=s.1/\s.1<=9223372036854775807)(h2: -9223372036854775808<=s.2/\s.2<=9223372036854775807):
  Pure Tryz.prog aD 138 [.agg [I of,.sl .ro (sh.map Qf)],.agg [I s.1,I s.2],I fr,I to] (if ir of sh s fr to=[]then .sl .nil []else .sl .ro ((ir of sh s fr to).map Qf)):=by
 have k89:=jH of sh fu;have KD:=w9 fr;have A4:=w9 to;have asw:=xb of sh;refine Qp ab6 (XL of sh fr to) zd ?_;rw[XN];generalize hR:ir of sh s fr to=R;by_cases hv:Yi of sh=true
 ·rw[hv]at k89;by_cases hf:0<=fr/\fr<86400
  ·rw[decide_eq_true hf]at KD;by_cases ht:0<=to/\to<86400
   ·rw[decide_eq_true ht]at A4;by_cases ai:s.1<s.2
    ·have cm:¬s.2<=s.1:=zE
     have hu:IntKind.u64.wrap (IntKind.u64.wrap s.2-IntKind.u64.wrap s.1)=s.2-s.1:=by
      have q:∀z:Int,IntKind.u64.wrap z=z%18446744073709551616:=fun z=>by simp[IntKind.wrap,IntKind.bits,IntKind.signed]
      rw[q,q,q];omega
     by_cases hm:s.2-s.1<=1000000
     ·have y6:¬1000000<s.2-s.1:=zE
      simp[xg,XL,hv,hf,ht,ai,cm,hu,hm,y6];refine⟨k89,KD,A4,asw,?_⟩;have cT:=xd of sh fu;have hz:sh.length<=40/\gP of=true/\tU (-1) sh=true:=by simpa[Yi,and_assoc]using hv
      have hof: -50400<=of/\of<=50400:=by simpa[gP]using hz.2.1
      have bU:=C4 sh 0 of (-1) (by decide) (by decide) (by decide) hof.1 hof.2 hz.2.2;have hxl:=xk sh 0 of;have hRc:tT s (zJ fr to) (uD 0 of sh) []=R:=by rw[<- hR,ir,if_pos (by simp[xh,hv,zK,hf,ht,ai,hm])]
      clear k89 KD A4 asw hu;generalize hX:uD 0 of sh=xs at*
      refine qR (xs:=xs.map A3) zd cT (by intro x hx;simp at hx;obtain⟨a,b,c,_,rfl⟩:=hx;rfl) (ael R s fr to xs) (aem R) ?_ (fun _ _ _ _ h e=>h.ext e) (fun _ _ _ _ h e=>h.ext e) ?_ ?_ ?_
      ·refine⟨4,[],⟨zd,.inl ⟨rfl,zd⟩⟩,.inl rfl,id,zd,fun _ h=>h.elim,⟨zd,zd,zd,zd,zd⟩,zd,Nm hRc⟩
      ·rintro O l i m x hO hle0 WT iE ⟨k,L,i1,i2,i3,i4,i5,i6,i8,i9⟩ hx K' q1 q2 q3;rw[zzbm,zzby]at hx;obtain⟨⟨a,b,o⟩,hx,rfl⟩:=hx;obtain⟨o1,o2,o3,o4,o5⟩:=bU _ (zzad hx);simp only at o1 o2 o3 o4 o5;have iZ:i<xs.length:=(zza.1 hx).1;have hd:xs.drop i=(a,b,o)::xs.drop (i+1):=by rw[zzah iZ,(zza.1 hx).2]
       rw[hd,tT]at i9;simp only[Jm]at i4;have hf6:=i6;obtain⟨f0,f1,f2,f3,f5⟩:=i6;have hOl:∀j,O j->j<m.boxes.length:=fun j h=>(hO j h).2;have akY:xs.length<=41:=zE
       clear hO hle0 WT cT hR hX;simp only[Jm]at f0 f1 f2 f3 f5;have gY:∀x,Qj (m.boxes++x) 1=[I s.1,I s.2]:=fun x=>by rw[Qn zE];exact f1
       have A0:∀x,Qj (m.boxes++[x]) m.boxes.length=x:=fun x=>by
        simp
       by_cases hc:s.2<=a
       ·rw[if_pos hc]at i9;simp[iE,Zp,A3,gY,A0,hc];subst i9;refine q3 0 _ zd ⟨rfl,k,?_,i3,i5⟩;exact(i1.app [[I a,I b,I o]]).cg zd
       rw[if_neg hc]at i9;have hmx:(if a<s.1 then s.1 else a)=max a s.1:=zE
       have hmn:(if s.2<b then s.2 else b)=min b s.2:=zE
       by_cases he:min b s.2<=max a s.1
       ·rw[stL,if_pos he]at i9;simp[iE,Zp,A3,gY,A0,hc,hmx,hmn,he];refine q1 _ ⟨zd,fun j hj=>Qn (hOl j hj)⟩ ⟨k,L,(i1.app [[I a,I b,I o]]).cg zd,i2,i3,by simp;omega,i5,(hf6.app [[I a,I b,I o]]).cg zd,zE,i9⟩
       rw[stL,if_neg he]at i9;have hw0:IntKind.i64.wrap (max a s.1+o)=max a s.1+o:=by rw[Ql]<;>omega
       have hdv:=FN (max a s.1+o) zE;have dU:IntKind.i64.wrap ((max a s.1+o)/86400*86400)=(max a s.1+o)/86400*86400:=by rw[Ql]<;>omega
       have fE:IntKind.i64.wrap ((max a s.1+o)/86400*86400-o)=(max a s.1+o)/86400*86400-o:=by rw[Ql]<;>omega
       simp[iE,Zp,A3,gY,A0,hc,hmx,hmn,he,hw0,dU,fE,XL];refine⟨hdv,?_⟩;refine aej Y0 of sh fr to hf ht _ _ k L (max a s.1) (min b s.2) ((max a s.1+o)/86400*86400-o) _ s zd zd zd zd zd zd ((hf6.app [[I a,I b,I o]]).cg zd) ((i1.app [[I a,I b,I o]]).cg zd) i2 zE zE ?_;intro T m' k' hD;have aH:m.boxes.length+1<=m'.boxes.length:=by have:=hD.2.2.1.1;simpa using this
       have tP:=FQ (zJ fr to) (uE hf ht).1 (max a s.1) (min b s.2) _ ((max a s.1+o)/86400*86400-o) L (zzab _);have hFx:=Il.day (s:=s) (fr:=fr) (to:=to) ((hf6.app [[I a,I b,I o]]).cg zd) hD i2;have Ck:k'=k\/m.boxes.length+1<=k':=by have:=hD.2.1;simpa using this
       have hS:NO O m m':=⟨zE,fun j hj=>by
        have:=hD.2.2.1.2 j (by simp;have:=hOl j hj;omega) (by rintro(rfl|rfl);have:=i5 4 hj;omega;exact i3 hj);rw[this];exact Qn (hOl j hj)⟩
       simp;refine q1 ⟨T,m'⟩ hS ?_;by_cases hLe:nI (zJ fr to) (max a s.1) (min b s.2) ((max a s.1+o)/86400*86400-o) L=[]
       ·rw[hLe]at i9 hD;refine⟨4,[],⟨hD.1.1,?_⟩,.inl rfl,(fun h=>by have:=i5 4 h;omega),(by show 4<m'.boxes.length;omega),i5,hFx,zd,i9⟩;rcases hD.1.2 with h|h
        ·exact .inl h
        exact absurd rfl h.1
       have sj:k'<m'.boxes.length:=by
        rcases hD.1.2 with h|h
        ·exact absurd h.1 hLe
        exact h.2.1
       refine⟨k',_,hD.1,zE,?_,sj,i5,hFx,zE,i9⟩;obtain rfl|Ck:=Ck
       ·exact i3
       intro h;have:=hOl k' h;omega
      ·rintro O m ⟨k,L,i1,i2,i3,i4,i5,i6,i8,i9⟩;rw[zzbt,zzbx,tT]at i9;subst i9;rcases i1.2 with⟨hL0,h⟩|⟨aN,h2,h3,h4,h5⟩
       ·simp[h,lT,i1.1,hL0]
       have gE:=Va m 4 (CW L);have ic:=Qeh L;have fB:=Ye L;simp[h4,lT,aN,h5,gE,ic,fB,i1.1]
      rintro O ex m ⟨rfl,k,i1,i3,i5⟩;rcases i1.2 with⟨hL0,h⟩|⟨aN,h2,h3,h4,h5⟩
      ·simp[h,lT,i1.1,hL0]
      have gE:=Va m 4 (CW R);have ic:=Qeh R;have fB:=Ye R;simp[h4,lT,aN,h5,gE,ic,fB,i1.1]
     have hR0:R=[]:=by rw[<- hR,ir,if_neg (by simp[xh];omega)]
     have y6:1000000<s.2-s.1:=zE
     simp[xg,XL,hv,hf,ht,ai,cm,hu,hm,y6,lT,hR0,k89,KD,A4]
    have hR0:R=[]:=by rw[<- hR,ir,if_neg (by simp[xh];omega)]
    have cm:s.2<=s.1:=zE
    simp[xg,XL,hv,hf,ht,ai,cm,lT,hR0,k89,KD,A4]
   have hR0:R=[]:=by rw[<- hR,ir,if_neg (by simp[xh,zK];omega)]
   simp[xg,XL,hv,hf,ht,lT,hR0,k89,KD];simpa[ht]using A4
  have hR0:R=[]:=by rw[<- hR,ir,if_neg (by simp[xh,zK];omega)]
  simp[xg,XL,hv,hf,lT,hR0,k89];simpa[hf]using KD
 have hR0:R=[]:=by rw[<- hR,ir,if_neg (by simp[xh,hv])]
 simp[xg,XL,hv,lT,hR0];simpa[hv]using k89
def zL(of:Int)(sh:List Sp)(s:Sp)(fr to:Int)(fu:sh.length<=1000000000)(h1: -9223372036854775808<=s.1/\s.1<=9223372036854775807)(h2: -9223372036854775808<=s.2/\s.2<=9223372036854775807):
  Pure Tryz.prog aD 138 [.agg [I of,.sl .ro (sh.map Qf)],.agg [I s.1,I s.2],I fr,I to] (.sl .ro ((ir of sh s fr to).map Qf)):=by
 have h:=xm of sh s fr to fu h1 h2;by_cases hn:ir of sh s fr to=[]
 ·rw[if_pos hn]at h;rw[hn];exact Zk h (Wk.sl _ _)
 rw[if_neg hn]at h;exact h
def FR(s:Sp)(W:List Sp)(hW:W.length<=2)(hs:s.2-s.1<=1000000):∀(xs:List (Int×Int×Int))(L:List Sp),(∀x∈xs,aek x)->(tT s W xs L).length<=L.length+40*xs.length
 |[],L,_=>by simp[tT]
 |x::r,L,h=>by
  rw[tT];split
  ·omega
  have ih:=FR s W hW hs r (stL s W x L) (fun y hy=>h y (by simp[hy]));obtain⟨o1,o2,o3,o4,o5⟩:=h x zd
  have:(stL s W x L).length<=L.length+40:=by
   unfold stL;split
   ·omega
   have:=FQ W hW (max x.1 s.1) (min x.2.1 s.2) _ ((max x.1 s.1+x.2.2)/86400*86400-x.2.2) L (zzab _);omega
  simp only[zzbg];omega
def XQ(of:Int)(sh:List Sp)(s:Sp)(fr to:Int):(ir of sh s fr to).length<=2000:=by
 unfold ir;split
 ·rename_i h;simp only[xh,Yi,zK,gP,zzac,decide_eq_true_eq]at h;obtain⟨⟨⟨⟨⟨a1,a2⟩,a3⟩,a4⟩,a5⟩,a6,a7⟩:=h;have h1:=FR s (zJ fr to) (uE a4 a5).1 a7 (uD 0 of sh) [] (C4 sh 0 of (-1) (by decide) (by decide) (by decide) a2.1 a2.2 a3);have h2:=xk sh 0 of;simp at h1;omega
 simp
end
