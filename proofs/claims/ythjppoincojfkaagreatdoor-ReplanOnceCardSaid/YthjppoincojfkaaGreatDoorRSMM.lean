import Derived.Test.YthjppoincojfkaaGreatDoorRSMJ
set_option linter.all false
set_option maxRecDepth 100000
set_option maxHeartbeats 64000000
namespace Go.Proofs.YthjppoincojfkaaGreatDoor
noncomputable section
open Go Go.Abs
def xm(n:Int):Pure Tryz.prog aD 195 [I n] (.bool (decide (0<=n/\n<86400))):=by
 refine Qp ac4 (fun _ _ _=>.junk) zd ?_;by_cases h1:0<=n<;>by_cases h2:n<86400<;>simp[ahz,ahA,h1,h2]
def FQ(n:Int)(h: -100000000000<=n/\n<=100000000000):Pure Tryz.prog aD 198 [I n] (.aS [I (n/86400),I (n%86400)]):=by
 refine Qp ac7 (fun _ _ _=>.junk) zd ?_
 have ht:n.tdiv 86400=if 0<=n\/n%86400=0 then n/86400 else n/86400+1:=by
  by_cases h0:0<=n
  ·rw[if_pos (.inl h0),zzcl h0]
  rw[Int.tdiv_eq_ediv];by_cases h1:n%86400=0
  ·rw[if_pos (.inr (Int.dvd_of_emod_eq_zero h1)),if_pos (.inr h1)];simp
  rw[if_neg (by rintro(h|h);exact h0 h;exact h1 (Int.emod_eq_zero_of_dvd h)),if_neg (by rintro(h|h);exact h0 h;exact h1 h)];rfl
 have hm:n.tmod 86400=n-n.tdiv 86400*86400:=by have:=Int.mul_tdiv_add_tmod n 86400;omega
 have w1:IntKind.i64.wrap (n.tdiv 86400)=n.tdiv 86400:=by rw[ht];split<;>rw[Ql]<;>omega
 by_cases CG:n.tmod 86400<0
 ·have e1:n.tdiv 86400=n/86400+1:=by
   rw[ht]at hm |-
   split
   ·rename_i hc;rw[if_pos hc]at hm;omega
   rfl
  have w2:IntKind.i64.wrap (n/86400+1)=n/86400+1:=by rw[Ql]<;>omega
  have w3:IntKind.i64.wrap (n/86400)=n/86400:=by rw[Ql]<;>omega
  have e2:n.tmod 86400=n%86400-86400:=by rw[hm,e1];omega
  have w4:IntKind.i64.wrap (n%86400)=n%86400:=by rw[Ql]<;>omega
  have vV:n%86400<86400:=zE
  have hn3:¬86400<=n%86400:=zE
  simp[UE,UF,e1,e2,w2,w3,w4,vV,hn3]
 have e1:n.tdiv 86400=n/86400:=by
  rw[ht]at hm |-
  split
  ·rfl
  rename_i hc;rw[if_neg hc]at hm;omega
 have e2:n.tmod 86400=n%86400:=by rw[hm,e1];omega
 have w3:IntKind.i64.wrap (n/86400)=n/86400:=by rw[Ql]<;>omega
 have vV:¬n%86400<0:=zE
 simp[UE,UF,e1,e2,w3,vV]
def zV(fr to:Int):List Sp:=if fr<to then[(fr,to)]else if to<fr then[(0,to),(fr,86400)]else[(0,86400)]
def C6(fr to:Int):Pure Tryz.prog aD 199 [I fr,I to] (.sl .full ((zV fr to).map Qe)):=by
 refine Qp ac8 (fun _ _ _=>.junk) zd ?_;by_cases h1:fr<to
 ·simp[M9,Na,h1,zV,Qe]
 by_cases h2:to<fr
 ·simp[M9,Na,h1,h2,zV,Qe]
 simp[M9,Na,h1,h2,zV,Qe]
def uJ:Int->Int->List Sp->List (Int×Int×Int)
 |f,o,[]=>[(f,10000000001,o)]
 |f,o,s::r=>(if f<s.1 then[(f,s.1,o)]else[])++uJ s.1 s.2 r
def Ba(x:Int×Int×Int):P2:=[.agg [I x.1,I x.2.1,I x.2.2]]
def xq(of:Int)(sh:List Sp):Pure Tryz.prog aD 197 [.agg [I of,.sl .ro (sh.map Qe)]] (.fn 236 [] [.ep [I of,.sl .ro (sh.map Qe)] 0]):=by
 refine Qp ac6 (fun _ _ _=>.junk) zd ?_;simp[ahB,ahC]
def bU.put{O:Nat->Prop}{m:AM}{b:Nat}(hb:O b)(v:P2)(x:T5):bU O m {m with boxes:=m.boxes.set b v++x}:=
 ⟨zd,fun j hj ho=>by show Qh (m.boxes.set b v++x) j=_;rw[Qn (Nm hj),Ya v (by rintro rfl;exact ho hb)],⟨[],zd⟩,fun _ _=>rfl⟩
def bU.arP{O:Nat->Prop}{m:AM}{b:Nat}(hb:O b)(v:P2):bU O m {m with boxes:=m.boxes.set b v}:=
 ⟨zd,fun j hj ho=>by show Qh (m.boxes.set b v) j=_;rw[Ya v (by rintro rfl;exact ho hb)],⟨[],zd⟩,fun _ _=>rfl⟩
def xu(of:Int)(sh:List Sp)(hl:sh.length<=1000000000):XI Tryz.prog aD 236 [] [.ep [I of,.sl .ro (sh.map Qe)] 0] ((uJ 0 of sh).map Ba):=by
 intro Y l m K hF;refine Xl adt (fun _ _ _=>.junk) zd ?_;simp[UP];obtain⟨b,hbe⟩:∃b,m.boxes.length=b:=⟨_,rfl⟩;refine Qi Cn (fun f mm=>∃(i:Nat)(fr t o:Int)(O:Nat->Prop),f 12=I i/\i<=sh.length/\b<mm.boxes.length/\Qh mm.boxes b=[I fr,I t,I o]/\O b/\sI (Y l) K ((uJ fr o (sh.drop i)).map Ba) O mm) (fun f _=>sh.length-(numOf (f 12)).toNat) ?_ ?_
 ·refine⟨0,0,0,of,OU (fun _=>False) m.boxes.length (m.boxes.length+1),zd,zE,by simp[hbe],by simp[<- hbe],.inr ⟨zE,zE⟩,?_⟩;have:=hF.ext ((fD.box m [[I 0,I 0,I of]]).toO _);simpa using this
 rintro f mm ⟨i,fr,t,o,O,qu,hi,hlm,ai,C7,hF⟩;rcases zzaa i sh.length with ah|bq
 ·obtain⟨s,hs⟩:=aV ah;have zU:=Zw hs;have aa:(i:Int)<(sh.length:Int):=zE
  have hw:=bO i zE;have hd:sh.drop i=s::sh.drop (i+1):=by rw[zzag ah,(zza.1 hs).2]
  rw[hd,uJ]at hF;have iq:∀x,Qh (mm.boxes++x) b=[I fr,I t,I o]:=fun x=>by rw[Qn hlm];exact ai
  have lM:∀x y,(mm.boxes++x).set b y=mm.boxes.set b y++x:=fun x y=>Yi y hlm;have ot:∀y x,Qh (mm.boxes.set b y++x) b=y:=fun y x=>by rw[Qn (Nm hlm),Yf _ hlm]
  have iM:∀y x,Qh (mm.boxes.set b y++[x]) mm.boxes.length=x:=fun y x=>by
   have:=Vm (mm.boxes.set b y) [x] 0;rw[zzch]at this;simpa using this
  have SH:∀y x z,(mm.boxes.set b y++x).set b z=mm.boxes.set b z++x:=fun y x z=>by rw[Yi z (Nm hlm),List.set_set]
  by_cases hfs:fr<s.1
  ·rw[if_pos hfs]at hF;simp only[zzev,zzas]at hF;simp[qu,ah,aa,zU,iq,lM,ot,iM,Cn,hbe,hfs,hlm];refine⟨zE,hF _ (bU.put C7 _ _) _ (fun m2 A8 uH=>?_) (fun m2 hK=>?_)⟩
   ·have ay8:mm.boxes.length+1<=m2.boxes.length:=by have:=A8.1;simpa using this
    have q1:Qh m2.boxes b=[I fr,I s.1,I o]:=by rw[A8.2 b (.inl C7)];exact ot _ _
    have q2:Qh m2.boxes mm.boxes.length=[I s.1,I s.2]:=by
     rw[A8.2 mm.boxes.length (.inr ⟨zzab _,zd⟩)];exact iM _ _
    have fV:b<m2.boxes.length:=zE
    have arQ:OU O mm.boxes.length (mm.boxes.length+1) b:=.inl C7;simp at uH;have q3:∀y,Qh (m2.boxes.set b y) b=y:=fun y=>Yf _ fV;simp[q1,q2,q3,fV,hw];refine⟨aQ,⟨i+1,zd,zE,s.1,0,s.2,⟨rfl,rfl,rfl⟩,_,.inl arQ,uH.ext (bU.arP arQ _)⟩,zE⟩
   simp[Nl];exact hK _ (bU.refl _ _)
  rw[if_neg hfs]at hF;simp only[zzai]at hF;simp[qu,ah,aa,zU,iq,lM,ot,iM,SH,Cn,hbe,hfs,hlm,hw];refine⟨zE,aQ,⟨i+1,zd,zE,zE,s.1,0,s.2,⟨rfl,rfl,rfl⟩,_,.inl C7,hF.ext (bU.put C7 _ _)⟩,zE⟩
 obtain rfl:i=sh.length:=zE
 rw[zzbt,uJ]at hF;simp only[zzas,zzcs]at hF;simp[qu,Cn,hbe,ai,hlm,Yf _ hlm];refine hF _ (bU.arP C7 _) _ (fun m2 _ uH=>?_) (fun m2 hK=>?_)
 ·simp[Nl];exact uH _ (bU.refl _ _)
 simp[Nl];exact hK _ (bU.refl _ _)
open Go Go.Abs
def nH(L:List Sp)(f t:Int):List Sp:=
 if f<t then(match L.getLast? with|some s=>if s.2=f then L.dropLast++[(s.1,t)]else L++[(f,t)]|none=>[(f,t)])else L
def iB(m:AM)(id k:Nat)(L:List Sp):Prop:=id<m.boxes.length/\((L=[]/\Qh m.boxes id=[.sl .nil []])\/(L≠[]/\k<m.boxes.length/\k≠id/\Qh m.boxes id=[.bs k 0 L.length 2]/\Qh m.boxes k=cG L))
def aec:UV:=fun d f _=>if f=999999 then(if d=34 then .aJ 0 []else .junk)else .junk
def XJ(Y:YT)(f t:Int)(id k:Nat)(L:List Sp)(m:AM)(hO:iB m id k L)(hl:L.length<=1000000000)(K:So)
  (hK:∀m' k',iB m' id k' (nH L f t)->(k'=k\/m.boxes.length<=k')->bC (fun j=>j=id\/(L≠[]/\j=k)) m.boxes m'.boxes->m'.st=m.st->m'.ln=m.ln->m'.lens=m.lens->K (.aS []) m'):aB Tryz.prog aD Y 196 [I f,I t,.ptr id 0] m K:=by
 obtain⟨h2,h3⟩:=hO;refine Xl ac5 aec zd ?_;have iq:∀x,Qh (m.boxes++x) id=Qh m.boxes id:=fun x=>Qn h2;have lM:∀x y,(m.boxes++x).set id y=m.boxes.set id y++x:=fun x y=>Yi y h2;by_cases IB:f<t
 ·have XK:¬t<=f:=zE
  obtain⟨rfl,h1⟩|⟨aO,hk,fh,h1,ai⟩:=h3
  ·have ha:nH [] f t=[(f,t)]:=by simp[nH,IB]
   rw[ha]at hK;simp[EH,EI,aec,IB,XK,h1,h2,iq,lM];refine⟨zE,hK _ m.boxes.length ⟨by simp;omega,.inr ⟨zd,zd,zE,?_,?_⟩⟩ (.inr (zzab _)) ((bC.set (S:=fun j=>j=id\/(([]:List Sp)≠[]/\j=k)) (bC.refl _ _) (.inl (.inl rfl)) _).app _) rfl rfl rfl⟩
   ·simp only[zzh];rw[Qn (Nm h2),Yf _ h2]
   have:=Vm (m.boxes.set id [.bs m.boxes.length 0 1 2]) [[I f,I t]] 0;rw[zzch]at this;simpa using this
  obtain⟨A,s,rfl⟩:∃A s,L=A++[s]:=⟨L.dropLast,L.getLast aO,(zzew aO).symm⟩;have ha:nH (A++[s]) f t=if s.2=f then A++[(s.1,t)]else A++[s]++[(f,t)]:=by simp[nH,IB]
  rw[ha]at hK;have hw:IntKind.i64.wrap (A.length:Int)=(A.length:Int):=by simp at hl;rw[Ql]<;>omega
  have hg:(A++[s])[A.length]?=some s:=zd
  have g0:=uK hg;have g1:=FR hg;have dA:(A++[s]).length=A.length+1:=zd
  rw[dA]at h1;have gl:(cG (A++[s])).length=A.length*2+2:=by rw[Yd,dA];omega
  have hR2:cG (A++[s]++[(f,t)])=cG (A++[s])++[I f,I t]:=by rw[Qci];rfl
  have hR1:(cG (A++[s])).set (A.length*2+1) (I t)=cG (A++[(s.1,t)]):=by rw[xw _ _ s _ hg];simp
  have hrk:∀x,Qh (m.boxes++x) k=cG (A++[s]):=fun x=>by rw[Qn hk];exact ai
  have hsk:∀x y,(m.boxes++x).set k y=m.boxes.set k y++x:=fun x y=>Yi y hk;generalize hR:cG (A++[s])=R at*
  by_cases hs:s.2=f
  ·rw[if_pos hs]at hK;simp[EH,EI,aec,IB,XK,h1,h2,hw,ai,g0,g1,gl,iq,lM,hrk,hsk,hk,hs];refine⟨zE,hK _ k ⟨Nm h2,.inr ⟨zd,Nm hk,fh,?_,?_⟩⟩ (.inl rfl) (bC.set (S:=fun j=>j=id\/(A++[s]≠[]/\j=k)) (bC.refl _ _) (.inl (.inr ⟨zd,rfl⟩)) _) rfl rfl rfl⟩
   ·show Qh (m.boxes.set k _) id=_;rw[Ya _ fh,h1];simp
   show Qh (m.boxes.set k _) k=_;rw[Yf _ hk];exact hR1
  rw[if_neg hs]at hK;simp[EH,EI,aec,IB,XK,h1,h2,hw,ai,g0,g1,gl,iq,lM,hrk,hsk,hk,hs];have hRt:List.take ((A.length+1)*2) R=R:=zzau zE;have aw8:¬R=[]:=by rintro rfl;simp at gl
  have hri:∀x,Qh (m.boxes.set k []++x) id=[AV.bs k 0 (A.length+1) 2]:=fun x=>by rw[Qn (Nm h2),Ya _ fh,h1]
  simp only[hRt,hri];refine⟨zE,⟨⟨aw8,zE⟩,by simp at hl;omega⟩,⟨zd,zE⟩,?_⟩;refine hK _ m.boxes.length ⟨by simp;omega,.inr ⟨zd,zd,zE,?_,?_⟩⟩ (.inr (zzab _)) ?_ rfl rfl rfl
  ·show Qh ((m.boxes.set k []).set id _++_) id=_;rw[Qn (Nm h2),Yf _ (Nm h2)];simp
  ·have:=Vm ((m.boxes.set k []).set id [.bs m.boxes.length 0 (A.length+1+1) 2]) [R++[I f,I t]] 0;simp only[zzch]at this;rw[hR2];simpa using this
  exact((bC.set (S:=fun j=>j=id\/(A++[s]≠[]/\j=k)) (bC.refl _ _) (.inl (.inr ⟨zd,rfl⟩)) _).set (.inl (.inl rfl)) _).app _
 have ha:nH L f t=L:=by simp[nH,IB]
 rw[ha]at hK;have XK:t<=f:=zE
 simp[EH,EI,IB,XK];exact hK m k ⟨h2,h3⟩ (.inl rfl) (bC.refl _ _) rfl rfl rfl
open Go Go.Abs
def FT(L:List Sp)(f t:Int):(nH L f t).length<=L.length+1:=by
 unfold nH;split
 ·split
  ·rename_i s hs;split
   ·have:0<L.length:=by cases L with
     |nil=>simp at hs
     |cons=>simp
    simp<;>omega
   simp
  simp
 omega
def pz(sf st mid:Int):List Sp->List Sp->List Sp
 |[],L=>L
 |w::W,L=>pz sf st mid W (nH L (max sf (mid+w.1)) (min st (mid+w.2)))
def FU(sf st mid:Int):∀(W L:List Sp),(pz sf st mid W L).length<=L.length+W.length
 |[],L=>by simp[pz]
 |w::W,L=>by
  have h1:=FU sf st mid W (nH L (max sf (mid+w.1)) (min st (mid+w.2)));have h2:=FT L (max sf (mid+w.1)) (min st (mid+w.2));simp[pz];omega
def nI(W:List Sp)(sf st mid:Int)(L:List Sp):List Sp:=
 if mid<st then nI W sf st (mid+86400) (pz sf st mid W L)else L
termination_by(st-mid).toNat
decreasing_by omega
def qZ(m0:AM)(k0:Nat)(m:AM)(k:Nat)(L:List Sp):Prop:=
 iB m 4 k L/\(k=k0\/m0.boxes.length<=k)/\bC (fun j=>j=4\/j=k0) m0.boxes m.boxes/\m.st=m0.st/\m.ln=m0.ln/\m.lens=m0.lens
def iB.app{m:AM}{id k:Nat}{L:List Sp}(h:iB m id k L)(x:T5):iB {m with boxes:=m.boxes++x} id k L:=by
 obtain⟨h1,h2⟩:=h;refine⟨by simp;omega,?_⟩;obtain⟨h2,h3⟩|⟨h2,h3,h4,h5,h6⟩:=h2
 ·exact .inl ⟨h2,by show Qh (m.boxes++x) id=_;rw[Qn h1];exact h3⟩
 exact .inr ⟨h2,by simp;omega,h4,by show Qh (m.boxes++x) id=_;rw[Qn h1];exact h5,by show Qh (m.boxes++x) k=_;rw[Qn h3];exact h6⟩
def qZ.refl{m:AM}{k:Nat}{L:List Sp}(h:iB m 4 k L):qZ m k m k L:=⟨h,.inl rfl,bC.refl _ _,rfl,rfl,rfl⟩
def qZ.app{m0 m:AM}{k0 k:Nat}{L:List Sp}(h:qZ m0 k0 m k L)(x:T5):qZ m0 k0 {m with boxes:=m.boxes++x} k L:=
 ⟨h.1.app x,h.2.1,h.2.2.1.app x,h.2.2.2⟩
def qZ.step{m0 m m':AM}{k0 k k':Nat}{L L':List Sp}(h:qZ m0 k0 m k L)(hO:iB m' 4 k' L')(hk:k'=k\/m.boxes.length<=k')(hK:bC (fun j=>j=4\/(L≠[]/\j=k)) m.boxes m'.boxes)(h1:m'.st=m.st)(h2:m'.ln=m.ln)(h3:m'.lens=m.lens):qZ m0 k0 m' k' L':=by
 obtain⟨a1,a2,a3,a4,a5,a6⟩:=h;refine⟨hO,?_,bC.trans a3 (hK.mono ?_),by rw[h1,a4],by rw[h2,a5],by rw[h3,a6]⟩
 ·have:=a3.1;omega
 rintro i (rfl|⟨_,rfl⟩)
 ·exact .inl (.inl rfl)
 obtain a2|a2:=a2
 ·exact .inl (.inr a2)
 exact .inr a2
def IC(s:Sp)(fr to:Int)(m:AM):Prop:=5<m.boxes.length/\Qh m.boxes 1=[I s.1,I s.2]/\Qh m.boxes 2=[I fr]/\Qh m.boxes 3=[I to]/\Qh m.boxes 5=[.fn 196 [] [.ptr 4 0]]
def IC.keep{s:Sp}{fr to:Int}{m m':AM}(h:IC s fr to m){S:Nat->Prop}(hK:bC S m.boxes m'.boxes)(hS:∀j,S j->j=4\/6<=j):IC s fr to m':=by
 obtain⟨h1,h2,h3,h4,h5⟩:=h;have q:∀j,j<6->j≠4->Qh m'.boxes j=Qh m.boxes j:=fun j hj h4=>hK.2 j zE (fun h=>by have:=hS j h;omega);exact⟨zzba h1 hK.1,by rw[q 1 zE zE];exact h2,by rw[q 2 zE zE];exact h3,by rw[q 3 zE zE];exact h4,by rw[q 5 zE zE];exact h5⟩
def IC.day{s:Sp}{fr to:Int}{m0 m:AM}{k0 k:Nat}{L:List Sp}(h:IC s fr to m0)(hD:qZ m0 k0 m k L)(hk:k0=4\/6<=k0):IC s fr to m:=
 h.keep hD.2.2.1 (by rintro j (h|h)<;>omega)
def IC.app{s:Sp}{fr to:Int}{m:AM}(h:IC s fr to m)(x:T5):IC s fr to {m with boxes:=m.boxes++x}:=
 h.keep (S:=fun _=>False) ((bC.refl _ _).app x) (fun _ h=>h.elim)
def XL(of:Int)(sh:List Sp)(fr to:Int):UV:=fun d f l=>
 if f=999999 then .junk else
 if f=133 then .bool (Yg of sh)else
 if f=195 then(match l with|[.int _ n]=>.bool (decide (0<=n/\n<86400))|_=>.junk)else
 if f=197 then .fn 236 [] [.ep [I of,.sl .ro (sh.map Qe)] 0]else
 if f=198 then(match l with|[.int _ n]=>.aS [I (n/86400),I (n%86400)]|_=>.junk)else
 if f=199 then .sl .full ((zV fr to).map Qe)else .gd false .junk
def XM:SC:=(⟨_,by cbv⟩:J5 [1,0,1,1,1,1,1,0,1,0,1,0,1,1,1,1,1] Ao).1
def xx:SC->SC:=(⟨_,fun _=>by cbv⟩:Fs [1,0,1,1,1,1,1,0,1,0,1,0,1,1,1,1,1] Ao).1
theorem XN:Ao=xx XM:=rfl
def uL{fr to:Int}(h1:0<=fr/\fr<86400)(h2:0<=to/\to<86400):(zV fr to).length<=2/\∀w∈zV fr to,0<=w.1/\w.1<=86400/\0<=w.2/\w.2<=86400:=by
 unfold zV;split
 ·simp;omega
 split
 ·simp;omega
 simp
def aed(Y:YT)(of:Int)(sh:List Sp)(fr to:Int)(zL:0<=fr/\fr<86400)(hto:0<=to/\to<86400)(E:QQ)(m:AM)(k0:Nat)(L0:List Sp)(sf st KJ:Int)(Q:R0)
  (s:Sp)(h6:Abs.look E 6=.ptr 2 0)(h7:Abs.look E 7=.ptr 3 0)(iC:Abs.look E 10=.ptr 5 0)(qu:Abs.look E 12=I sf)(eT:Abs.look E 13=I st)(KK:Abs.look E 16=I KJ)
  (hf:IC s fr to m)(hO:iB m 4 k0 L0)(hk:k0=4\/6<=k0)
  (hb: -100000000000<=KJ/\KJ<=100000000000/\st<=100000000000)(hl:L0.length+2*((st-KJ)/86400+1).toNat<=100000)
  (hQ:∀T m' k',qZ m k0 m' k' (nI (zV fr to) sf st KJ L0)->Q .normal ⟨T,m'⟩):
  vc Tryz.prog aD (XL of sh fr to) Y XM ⟨Vx 111 E,m⟩ Q:=by
 obtain⟨QG,hWb⟩:=uL zL hto;have aw9:=C6 fr to;simp[XM];refine Qi I8 (fun f mm=>∃(mid:Int)(k:Nat)(L:List Sp),f 16=I mid/\qZ m k0 mm k L/\ -100000000000<=mid/\mid<=100000086400/\L.length+2*((st-mid)/86400+1).toNat<=100000/\nI (zV fr to) sf st mid L=nI (zV fr to) sf st KJ L0) (fun f _=>(st-numOf (f 16)).toNat) ?_ ?_
 ·exact⟨KJ,k0,L0,by simp[KK],qZ.refl hO,zE,zE,hl,rfl⟩
 rintro f mm ⟨mid,k,L,hm16,hD,b1,b2,b3,hR⟩;by_cases ah:mid<st
 ·have axa:IntKind.i64.wrap (mid+86400)=mid+86400:=by rw[Ql]<;>omega
  rw[nI,if_pos ah]at hR;obtain⟨f0,f1,f2,f3,f5⟩:=hf.day hD hk;generalize hWe:zV fr to=W at*
  simp[hm16,h6,h7,iC,qu,eT,I8,ah,XL,hWe,f2,f3];refine⟨aw9,?_⟩;refine Qi I9 (fun f' m'=>∃(i k':Nat)(L':List Sp),f' 91=I i/\i<=W.length/\qZ m k0 m' k' L'/\L'.length<=L.length+i/\pz sf st mid (W.drop i) L'=pz sf st mid W L) (fun f' _=>W.length-(numOf (f' 91)).toNat) ?_ ?_
  ·exact⟨0,k,L,zd,zE,hD,zE,rfl⟩
  rintro f' m' ⟨i,k',L',h91,hi,hD',tU,hR'⟩;obtain⟨g0,g1,g2,g3,g5⟩:=hf.day hD' hk;rcases zzaa i W.length with hiw|bq
  ·obtain⟨w,hw⟩:=aV hiw;have SI:=Zw hw;obtain⟨c1,c2,c3,c4⟩:=hWb w (zzad hw);have aa:(i:Int)<(W.length:Int):=zE
   have XO:=bO i zE;have gU:IntKind.i64.wrap (mid+w.1)=mid+w.1:=by rw[Ql]<;>omega
   have eL:IntKind.i64.wrap (mid+w.2)=mid+w.2:=by rw[Ql]<;>omega
   have hd:W.drop i=w::W.drop (i+1):=by rw[zzag hiw,(zza.1 hw).2]
   rw[hd,pz]at hR';have iq:∀x,Qh (m'.boxes++x) 5=[.fn 196 [] [.ptr 4 0]]:=fun x=>by rw[Qn g0];exact g5
   have A7:∀x,Qh (m'.boxes++[x]) m'.boxes.length=x:=fun x=>by
    simp
   have hmx:(if sf<mid+w.1 then mid+w.1 else sf)=max sf (mid+w.1):=zE
   have hmn:(if mid+w.2<st then mid+w.2 else st)=min st (mid+w.2):=zE
   have axb:=fun K hK=>XJ Y (max sf (mid+w.1)) (min st (mid+w.2)) 4 k' L' {m' with boxes:=m'.boxes++[[I w.1,I w.2]]} (hD'.1.app _) zE K hK;simp[h91,hiw,aa,SI,I9,iC,qu,eT,hm16,g5,iq,A7,gU,eL,g0,hmx,hmn,XO,XL];refine axb _ fun m2 k2 e1 e2 e3 e4 e5 e6=>?_;have hD2:=(hD'.app [[I w.1,I w.2]]).step e1 e2 e3 e4 e5 e6;have:=FT L' (max sf (mid+w.1)) (min st (mid+w.2));refine⟨aQ,⟨i+1,zE,zE,k2,_,hD2,zE,hR'⟩,zE⟩
  obtain rfl:i=W.length:=zE
  rw[zzbt,pz]at hR';rw[<- hR']at hR;simp[h91,I9,hm16,axa];refine⟨aQ,⟨k',L',hD',zE,zE,zE,hR⟩,zE⟩
 have hR0:=hR;rw[nI,if_neg ah]at hR;simp[hm16,eT,I8,ah];exact hQ _ _ k (by rw[<- hR];exact hD)
open Go Go.Abs
def stL(s:Sp)(W:List Sp)(x:Int×Int×Int)(L:List Sp):List Sp:=
 if min x.2.1 s.2<=max x.1 s.1 then L else nI W (max x.1 s.1) (min x.2.1 s.2) ((max x.1 s.1+x.2.2)/86400*86400-x.2.2) L
def tV(s:Sp)(W:List Sp):List (Int×Int×Int)->List Sp->List Sp
 |[],L=>L
 |x::r,L=>if s.2<=x.1 then L else tV s W r (stL s W x L)
def zW(n:Int):Bool:=decide (0<=n/\n<86400)
def xy(of:Int)(sh:List Sp)(s:Sp)(fr to:Int):Bool:=Yg of sh&&zW fr&&zW to&&decide (s.1<s.2/\s.2-s.1<=1000000)
def iD(of:Int)(sh:List Sp)(s:Sp)(fr to:Int):List Sp:=if xy of sh s fr to then tV s (zV fr to) (uJ 0 of sh) []else[]
def aee(x:Int×Int×Int):Prop:=0<=x.1/\x.1<=10000000000/\x.2.1<=10000000001/\ -50400<=x.2.2/\x.2.2<=50400
def C8:∀(sh:List Sp)(f o last:Int),0<=f->f<=10000000000-> -1<=last-> -50400<=o->o<=50400->tW last sh=true->(∀x∈uJ f o sh,aee x)
 |[],f,o,last,h1,h2,_,h3,h4,_=>by simp[uJ,aee];omega
 |s::r,f,o,last,h1,h2,hla,h3,h4,ha=>by
  rw[tW]at ha;split at ha
  ·cases ha
  rename_i hn;simp only[not_or,zzgh,gW,decide_eq_true_eq]at hn;have ih:=C8 r s.1 s.2 s.1 zE zE zE zE zE ha;intro x hx;rw[uJ,zzao]at hx;obtain hx|hx:=hx
  ·split at hx
   ·simp at hx;subst hx;simp[aee];omega
   simp at hx
  exact ih x hx
def xA:∀(sh:List Sp)(f o:Int),(uJ f o sh).length<=sh.length+1
 |[],f,o=>by simp[uJ]
 |s::r,f,o=>by
  have:=xA r s.1 s.2;rw[uJ];split<;>simp<;>omega
def FV(W:List Sp)(hW:W.length<=2)(sf st:Int):∀(n:Nat)(mid:Int)(L:List Sp),(st-mid).toNat<=n->(nI W sf st mid L).length<=L.length+2*((st-mid)/86400+1).toNat:=by
 intro n;induction n with
 |zero=>intro mid L h;rw[nI,if_neg zE];omega
 |succ n ih=>
  intro mid L h;rw[nI];split
  ·have:=ih (mid+86400) (pz sf st mid W L) zE;have:=FU sf st mid W L;omega
  omega
def aef(R:List Sp)(s:Sp)(fr to:Int)(xs:List (Int×Int×Int))(O:Nat->Prop)(i:Nat)(m:AM):Prop:=
 ∃k L,iB m 4 k L/\(k=4\/6<=k)/\¬O k/\k<m.boxes.length/\(∀j,O j->6<=j)/\IC s fr to m/\L.length<=40*i/\tV s (zV fr to) (xs.drop i) L=R
def aeg(R:List Sp)(O:Nat->Prop)(ex:Exit)(m:AM):Prop:=ex=.exit 0/\∃k,iB m 4 k R/\¬O k/\(∀j,O j->6<=j)
def iB.cg{m m':AM}{id k:Nat}{L:List Sp}(h:iB m id k L)(e:m'.boxes=m.boxes):iB m' id k L:=by unfold iB at*;rw[e];exact h
def IC.cg{s:Sp}{fr to:Int}{m m':AM}(h:IC s fr to m)(e:m'.boxes=m.boxes):IC s fr to m':=by unfold IC at*;rw[e];exact h
def iB.XP{O:Nat->Prop}{m m':AM}{k:Nat}{L:List Sp}(h:iB m 4 k L)(e:bU O m m')(h0:¬O 4)(hk:¬O k):iB m' 4 k L:=by
 obtain⟨h1,h2⟩:=h;refine⟨zzba h1 e.1,?_⟩;obtain⟨h2,h3⟩|⟨h2,h3,h4,h5,h6⟩:=h2
 ·exact .inl ⟨h2,by rw[e.2.1 4 h1 h0];exact h3⟩
 exact .inr ⟨h2,zzba h3 e.1,h4,by rw[e.2.1 4 h1 h0];exact h5,by rw[e.2.1 k h3 hk];exact h6⟩
def aef.ext{R:List Sp}{s:Sp}{fr to:Int}{xs:List (Int×Int×Int)}{O:Nat->Prop}{i:Nat}{m m':AM}(h:aef R s fr to xs O i m)(e:bU O m m'):aef R s fr to xs (OU O m.boxes.length m'.boxes.length) i m':=by
 obtain⟨k,L,h1,h2,h3,h4,h5,h6,h8,h9⟩:=h;refine⟨k,L,h1.XP e (fun h=>by have:=h5 4 h;omega) h3,h2,?_,zzba h4 e.1,?_,h6.keep (S:=O) ⟨e.1,e.2.1⟩ (fun j h=>.inr (h5 j h)),h8,h9⟩
 ·rintro(h|h)
  ·exact h3 h
  omega
 have:=h6.1;rintro j (h|h)
 ·exact h5 j h
 omega
def aeg.ext{R:List Sp}{O:Nat->Prop}{ex:Exit}{m m':AM}(h:aeg R O ex m)(e:bU O m m'):aeg R O ex m':=by
 obtain⟨h0,k,h1,h3,h5⟩:=h;exact⟨h0,k,h1.XP e (fun h=>by have:=h5 4 h;omega) h3,h3,h5⟩
def xB(of:Int)(sh:List Sp)(s:Sp)(fr to:Int)(fE:sh.length<=1000000000)(h1: -9223372036854775808<=s.1/\s.1<=9223372036854775807)(h2: -9223372036854775808<=s.2/\s.2<=9223372036854775807):
  Pure Tryz.prog aD 138 [.agg [I of,.sl .ro (sh.map Qe)],.agg [I s.1,I s.2],I fr,I to] (if iD of sh s fr to=[]then .sl .nil []else .sl .ro ((iD of sh s fr to).map Qe)):=by
 have k89:=jy of sh fE;have KL:=xm fr;have Bb:=xm to;have arR:=xq of sh;refine Qp ack (XL of sh fr to) zd ?_;rw[XN];generalize hR:iD of sh s fr to=R;by_cases hv:Yg of sh=true
 ·rw[hv]at k89;by_cases hf:0<=fr/\fr<86400
  ·rw[decide_eq_true hf]at KL;by_cases ht:0<=to/\to<86400
   ·rw[decide_eq_true ht]at Bb;by_cases ah:s.1<s.2
    ·have cE:¬s.2<=s.1:=zE
     have hu:IntKind.u64.wrap (IntKind.u64.wrap s.2-IntKind.u64.wrap s.1)=s.2-s.1:=by
      have q:∀z:Int,IntKind.u64.wrap z=z%18446744073709551616:=fun z=>by simp[IntKind.wrap,IntKind.bits,IntKind.signed]
      rw[q,q,q];omega
     by_cases hm:s.2-s.1<=1000000
     ·have zm:¬1000000<s.2-s.1:=zE
      simp[xx,XL,hv,hf,ht,ah,cE,hu,hm,zm];refine⟨k89,KL,Bb,arR,?_⟩;have cT:=xu of sh fE;have hz:sh.length<=40/\gW of=true/\tW (-1) sh=true:=by simpa[Yg,and_assoc]using hv
      have hof: -50400<=of/\of<=50400:=by simpa[gW]using hz.2.1
      have bV:=C8 sh 0 of (-1) (by decide) (by decide) (by decide) hof.1 hof.2 hz.2.2;have hxl:=xA sh 0 of;have hRc:tV s (zV fr to) (uJ 0 of sh) []=R:=by rw[<- hR,iD,if_pos (by simp[xy,hv,zW,hf,ht,ah,hm])]
      clear k89 KL Bb arR hu;generalize hX:uJ 0 of sh=xs at*
      refine rf (xs:=xs.map Ba) zd cT (by intro x hx;simp at hx;obtain⟨a,b,c,_,rfl⟩:=hx;rfl) (aef R s fr to xs) (aeg R) ?_ (fun _ _ _ _ h e=>h.ext e) (fun _ _ _ _ h e=>h.ext e) ?_ ?_ ?_
      ·refine⟨4,[],⟨zd,.inl ⟨rfl,zd⟩⟩,.inl rfl,id,zd,fun _ h=>h.elim,⟨zd,zd,zd,zd,zd⟩,zd,Nm hRc⟩
      ·rintro O l i m x hO hle0 WW iM ⟨k,L,i1,i2,i3,i4,i5,i6,i8,i9⟩ hx K' q1 q2 q3;rw[zzbm,zzc]at hx;obtain⟨⟨a,b,o⟩,hx,rfl⟩:=hx;obtain⟨o1,o2,o3,o4,o5⟩:=bV _ (zzad hx);simp only at o1 o2 o3 o4 o5;have je:i<xs.length:=(zza.1 hx).1;have hd:xs.drop i=(a,b,o)::xs.drop (i+1):=by rw[zzag je,(zza.1 hx).2]
       rw[hd,tV]at i9;simp only[Jm]at i4;have hf6:=i6;obtain⟨f0,f1,f2,f3,f5⟩:=i6;have hOl:∀j,O j->j<m.boxes.length:=fun j h=>(hO j h).2;have ale:xs.length<=41:=zE
       clear hO hle0 WW cT hR hX;simp only[Jm]at f0 f1 f2 f3 f5;have iq:∀x,Qh (m.boxes++x) 1=[I s.1,I s.2]:=fun x=>by rw[Qn zE];exact f1
       have A7:∀x,Qh (m.boxes++[x]) m.boxes.length=x:=fun x=>by
        simp
       by_cases hc:s.2<=a
       ·rw[if_pos hc]at i9;simp[iM,Zr,Ba,iq,A7,hc];subst i9;refine q3 0 _ zd ⟨rfl,k,?_,i3,i5⟩;exact(i1.app [[I a,I b,I o]]).cg zd
       rw[if_neg hc]at i9;have hmx:(if a<s.1 then s.1 else a)=max a s.1:=zE
       have hmn:(if s.2<b then s.2 else b)=min b s.2:=zE
       by_cases he:min b s.2<=max a s.1
       ·rw[stL,if_pos he]at i9;simp[iM,Zr,Ba,iq,A7,hc,hmx,hmn,he];refine q1 _ ⟨zd,fun j hj=>Qn (hOl j hj)⟩ ⟨k,L,(i1.app [[I a,I b,I o]]).cg zd,i2,i3,by simp;omega,i5,(hf6.app [[I a,I b,I o]]).cg zd,zE,i9⟩
       rw[stL,if_neg he]at i9;have hw0:IntKind.i64.wrap (max a s.1+o)=max a s.1+o:=by rw[Ql]<;>omega
       have hdv:=FQ (max a s.1+o) zE;have gU:IntKind.i64.wrap ((max a s.1+o)/86400*86400)=(max a s.1+o)/86400*86400:=by rw[Ql]<;>omega
       have eL:IntKind.i64.wrap ((max a s.1+o)/86400*86400-o)=(max a s.1+o)/86400*86400-o:=by rw[Ql]<;>omega
       simp[iM,Zr,Ba,iq,A7,hc,hmx,hmn,he,hw0,gU,eL,XL];refine⟨hdv,?_⟩;refine aed Y0 of sh fr to hf ht _ _ k L (max a s.1) (min b s.2) ((max a s.1+o)/86400*86400-o) _ s zd zd zd zd zd zd ((hf6.app [[I a,I b,I o]]).cg zd) ((i1.app [[I a,I b,I o]]).cg zd) i2 zE zE ?_;intro T m' k' hD;have aH:m.boxes.length+1<=m'.boxes.length:=by have:=hD.2.2.1.1;simpa using this
       have tU:=FV (zV fr to) (uL hf ht).1 (max a s.1) (min b s.2) _ ((max a s.1+o)/86400*86400-o) L (zzab _);have hFx:=IC.day (s:=s) (fr:=fr) (to:=to) ((hf6.app [[I a,I b,I o]]).cg zd) hD i2;have Cu:k'=k\/m.boxes.length+1<=k':=by have:=hD.2.1;simpa using this
       have hS:NY O m m':=⟨zE,fun j hj=>by
        have:=hD.2.2.1.2 j (by simp;have:=hOl j hj;omega) (by rintro(rfl|rfl);have:=i5 4 hj;omega;exact i3 hj);rw[this];exact Qn (hOl j hj)⟩
       simp;refine q1 ⟨T,m'⟩ hS ?_;by_cases hLe:nI (zV fr to) (max a s.1) (min b s.2) ((max a s.1+o)/86400*86400-o) L=[]
       ·rw[hLe]at i9 hD;refine⟨4,[],⟨hD.1.1,?_⟩,.inl rfl,(fun h=>by have:=i5 4 h;omega),(by show 4<m'.boxes.length;omega),i5,hFx,zd,i9⟩;rcases hD.1.2 with h|h
        ·exact .inl h
        exact absurd rfl h.1
       have qt:k'<m'.boxes.length:=by
        rcases hD.1.2 with h|h
        ·exact absurd h.1 hLe
        exact h.2.1
       refine⟨k',_,hD.1,zE,?_,qt,i5,hFx,zE,i9⟩;obtain rfl|Cu:=Cu
       ·exact i3
       intro h;have:=hOl k' h;omega
      ·rintro O m ⟨k,L,i1,i2,i3,i4,i5,i6,i8,i9⟩;rw[zzbv,zzbt,tV]at i9;subst i9;rcases i1.2 with⟨hL0,h⟩|⟨aO,h2,h3,h4,h5⟩
       ·simp[h,lU,i1.1,hL0]
       have gE:=Va m 4 (C9 L);have iu:=Qef L;have fu:=Yd L;simp[h4,lU,aO,h5,gE,iu,fu,i1.1]
      rintro O ex m ⟨rfl,k,i1,i3,i5⟩;rcases i1.2 with⟨hL0,h⟩|⟨aO,h2,h3,h4,h5⟩
      ·simp[h,lU,i1.1,hL0]
      have gE:=Va m 4 (C9 R);have iu:=Qef R;have fu:=Yd R;simp[h4,lU,aO,h5,gE,iu,fu,i1.1]
     have hR0:R=[]:=by rw[<- hR,iD,if_neg (by simp[xy];omega)]
     have zm:1000000<s.2-s.1:=zE
     simp[xx,XL,hv,hf,ht,ah,cE,hu,hm,zm,lU,hR0,k89,KL,Bb]
    have hR0:R=[]:=by rw[<- hR,iD,if_neg (by simp[xy];omega)]
    have cE:s.2<=s.1:=zE
    simp[xx,XL,hv,hf,ht,ah,cE,lU,hR0,k89,KL,Bb]
   have hR0:R=[]:=by rw[<- hR,iD,if_neg (by simp[xy,zW];omega)]
   simp[xx,XL,hv,hf,ht,lU,hR0,k89,KL];simpa[ht]using Bb
  have hR0:R=[]:=by rw[<- hR,iD,if_neg (by simp[xy,zW];omega)]
  simp[xx,XL,hv,hf,lU,hR0,k89];simpa[hf]using KL
 have hR0:R=[]:=by rw[<- hR,iD,if_neg (by simp[xy,hv])]
 simp[xx,XL,hv,lU,hR0];simpa[hv]using k89
def zX(of:Int)(sh:List Sp)(s:Sp)(fr to:Int)(fE:sh.length<=1000000000)(h1: -9223372036854775808<=s.1/\s.1<=9223372036854775807)(h2: -9223372036854775808<=s.2/\s.2<=9223372036854775807):
  Pure Tryz.prog aD 138 [.agg [I of,.sl .ro (sh.map Qe)],.agg [I s.1,I s.2],I fr,I to] (.sl .ro ((iD of sh s fr to).map Qe)):=by
 have h:=xB of sh s fr to fE h1 h2;by_cases hn:iD of sh s fr to=[]
 ·rw[if_pos hn]at h;rw[hn];exact Zh h (Wk.sl _ _)
 rw[if_neg hn]at h;exact h
def FX(s:Sp)(W:List Sp)(hW:W.length<=2)(hs:s.2-s.1<=1000000):∀(xs:List (Int×Int×Int))(L:List Sp),(∀x∈xs,aee x)->(tV s W xs L).length<=L.length+40*xs.length
 |[],L,_=>by simp[tV]
 |x::r,L,h=>by
  rw[tV];split
  ·omega
  have ih:=FX s W hW hs r (stL s W x L) (fun y hy=>h y (by simp[hy]));obtain⟨o1,o2,o3,o4,o5⟩:=h x zd
  have:(stL s W x L).length<=L.length+40:=by
   unfold stL;split
   ·omega
   have:=FV W hW (max x.1 s.1) (min x.2.1 s.2) _ ((max x.1 s.1+x.2.2)/86400*86400-x.2.2) L (zzab _);omega
  simp only[zzaz];omega
def XQ(of:Int)(sh:List Sp)(s:Sp)(fr to:Int):(iD of sh s fr to).length<=2000:=by
 unfold iD;split
 ·rename_i h;simp only[xy,Yg,zW,gW,zzac,decide_eq_true_eq]at h;obtain⟨⟨⟨⟨⟨a1,a2⟩,a3⟩,a4⟩,a5⟩,a6,a7⟩:=h;have h1:=FX s (zV fr to) (uL a4 a5).1 a7 (uJ 0 of sh) [] (C8 sh 0 of (-1) (by decide) (by decide) (by decide) a2.1 a2.2 a3);have h2:=xA sh 0 of;simp at h1;omega
 simp
open Go Go.Abs
def pE(nu de f:Int): -1<=Yk nu de f/\Yk nu de f<=100000000:=by
 unfold Yk;split
 ·rename_i h;obtain⟨h1,h2,h3⟩:=h;obtain⟨b1,b2,b3,b4,b5⟩:=Ju h1;have q0:0<=f*de:=zzee h2 zE;have q1:f*de<=f*nu:=zzfs zE h2;have q2:0<=(f*de).tdiv nu:=Int.tdiv_nonneg q0 zE
  have q3:(f*de).tdiv nu<=f:=by
   rw[zzcl q0];exact Int.ediv_le_of_le_mul zE q1
  omega
 omega
def sJ(p:Pl)(f:Int)(ht:0<=p.ep/\p.ep<=9000000000):Pure Tryz.prog aD 82 [.agg (Qa p),I f] (I (p.ep+Yk p.nu p.de f)):=by
 have h:=QH p.nu p.de f;have hb:=pE p.nu p.de f;have hw:IntKind.i64.wrap (p.ep+Yk p.nu p.de f)=p.ep+Yk p.nu p.de f:=by rw[Ql]<;>omega
 refine Qp aky (fun _ f' l=>if f'=134 then I (Yk p.nu p.de f)else .junk) zd ?_;simp[apf,Qa,apg,hw];exact h
def xC(p:Pl)(n:Int)(hn: -1000000000000<=n-p.ep/\n-p.ep<=1000000000000)(Y:YT)(m:AM)(b:Nat)(hb:b<m.boxes.length)(hr:Qh m.boxes b=Qa p)(K:So)(hK:K (I (xD p.nu p.de (n-p.ep))) m):
  aB Tryz.prog aD Y 85 [I n,.ptr b 0] m K:=by
 have h:=Bc p.nu p.de (n-p.ep);have hw:IntKind.i64.wrap (n-p.ep)=n-p.ep:=by rw[Ql]<;>omega
 refine Xl akC (fun _ f' l=>if f'=86 then I (xD p.nu p.de (n-p.ep))else .junk) zd ?_;simp[apk,hr,Qa,apl,hw,hb];exact⟨h,hK⟩
def lN(p:Pl)(x:It)(region:Int)(s:Sp):List (List Sp):=Qcq p.cls x.id region::(uM p.cls x.ra).map fun w=>iD p.of p.sh s w.1 w.2
def FY(l:List Sp):P2:=[.sl .ro (l.map Qe)]
def FZ(p:Pl)(x:It)(region:Int)(s:Sp):Pure Tryz.prog aD 83 [.agg (Qa p),.agg (Qm x),I region,.agg [I s.1,I s.2]] (.fn 135 [] [.ep (Qa p) 0,.ep (Qm x) 0,.ep [I region] 0,.ep [I s.1,I s.2] 0]):=by
 refine Qp akz (fun _ _ _=>.junk) zd ?_;simp[aph,api,Qa,Qm]
def F1(p:Pl)(x:It)(region:Int)(s:Sp)(hc:p.cls.length<=1000000)(fE:p.sh.length<=1000000000)(h1: -9223372036854775808<=s.1/\s.1<=9223372036854775807)(h2: -9223372036854775808<=s.2/\s.2<=9223372036854775807):
  Iter Tryz.prog aD 135 [] [.ep (Qa p) 0,.ep (Qm x) 0,.ep [I region] 0,.ep [I s.1,I s.2] 0] ((lN p x region s).map FY):=by
 intro Y l m K hF;have arS:=KG p.cls x.id region hc;have arT:=tX p.cls x.ra zE
 have hwl:(uM p.cls x.ra).length<=1000000:=by
  unfold uM;rw[zzbv];exact zzbc (zzcc _ _) hc
 refine Xl ach (fun d f' l=>if f'=136 then .sl .ro ((Qcq p.cls x.id region).map Qe)else if f'=137 then .sl .ro ((uM p.cls x.ra).map Qe)else
  if f'=138 then(match l with|[_,_,.int _ a,.int _ b]=>.sl .ro ((iD p.of p.sh s a b).map Qe)|_=>.junk)else .junk) zd ?_
 unfold lN at hF;generalize hS:Qcq p.cls x.id region=S at hF arS;generalize hW:uM p.cls x.ra=W at hF arT hwl;simp only[zzas,FY]at hF;simp[TR,Qa,Qm,hS,hW];refine⟨arS,?_⟩;refine hF _ (fD.refl _) _ (fun m2 uH=>?_) (fun m2 hK=>?_)
 ·rw[zzcu]at uH;simp[hW];refine⟨arT,?_⟩;refine Qi I5 (fun f mm=>∃i:Nat,f 23=I i/\i<=W.length/\wY (Y l) K ((W.drop i).map (FY ∘ fun w=>iD p.of p.sh s w.1 w.2)) mm) (fun f _=>W.length-(numOf (f 23)).toNat) ?_ ?_
  ·exact⟨0,zd,zE,Nm uH⟩
  rintro f mm ⟨i,h23,hi,hF3⟩;rcases zzaa i W.length with ah|bq
  ·obtain⟨w,hw⟩:=aV ah;have zU:=Zw hw;have aa:(i:Int)<(W.length:Int):=zE
   have ri:=bO i zE;have hd:W.drop i=w::W.drop (i+1):=by rw[zzag ah,(zza.1 hw).2]
   rw[hd,zzas]at hF3;simp only[Function.comp_apply,FY]at hF3;have axc:=zX p.of p.sh s w.1 w.2 fE h1 h2
   have iM:∀x,Qh (mm.boxes++[x]) mm.boxes.length=x:=fun x=>by
    simp
   simp[h23,I5,ah,aa,zU,iM];refine⟨axc,?_⟩;refine hF3 _ (fD.box mm [[I w.1,I w.2]]) _ (fun m3 hF4=>?_) (fun m3 hK=>?_)
   ·simp[ri];refine⟨aQ,⟨i+1,zE,zE,by rw[<- zzgc];exact hF4⟩,zE⟩
   simp[MS];exact hK _ (fD.refl _)
  obtain rfl:i=W.length:=zE
  rw[zzbt,zzcs]at hF3;simp[h23,I5,MS];exact hF3 _ (fD.refl _)
 simp[MS];exact hK _ (fD.refl _)
open Go Go.Abs
def alI:SC:=(⟨_,by cbv⟩:J5 [1,1,1,1,1,1,1,1,1,1,1,1,0,1] S8).1
def Da:SC->SC:=(⟨_,fun _=>by cbv⟩:Fs [1,1,1,1,1,1,1,1,1,1,1,1,0,1] S8).1
theorem pF:S8=Da alI:=rfl
def uN(p:Pl)(w:Sp):Sp:=(xD p.nu p.de (w.1-p.ep),xD p.nu p.de (w.2-p.ep))
def Be(Y:YT)(p:Pl)(orc:UV)(ho:∀d l,orc d 74 l=.gd false .junk)(ho9:∀d l,orc d 999999 l=.junk)(E:QQ)(m:AM)(U:List Sp)(rt:Rt)(Q:R0)
  (h85:Abs.look E 85=.sl rt (U.map Qe))(h86:Abs.look E 86=I U.length)(h87:Abs.look E 87=I 0)(tY:Abs.look E 14=.fn 85 [] [.ptr 0 0])(sK:Abs.look E 15=.sl .nil [])
  (h0:0<m.boxes.length)(hr:Qh m.boxes 0=Qa p)(hU:U.length<=10000000)(hUb:∀w∈U,(-1000000000000<=w.1-p.ep/\w.1-p.ep<=1000000000000)/\(-1000000000000<=w.2-p.ep/\w.2-p.ep<=1000000000000))
  (hQ:∀E' bx Lm zi,fN Eo E' E->Abs.look E' 15=.sl zi ((U.map (uN p)).map Qe)->(zi=.nil/\U=[]\/U≠[]/\∃k,zi=.own k 2)->Q .normal ⟨Vx 108 E',⟨m.boxes++bx,Lm,m.st,m.ln⟩⟩):
  vc Tryz.prog aD orc Y alI ⟨Vx 108 E,m⟩ Q:=by
 simp[alI];refine Qi Eo (fun f mm=>∃(i:Nat)(bx:T5)(Lm:Pa)(zi:Rt),f 87=I i/\i<=U.length/\mm=⟨m.boxes++bx,Lm,m.st,m.ln⟩/\f 15=.sl zi ((U.map (Qe ∘ uN p)).take i)/\(i=0/\zi=.nil\/i≠0/\∃k,zi=.own k 2/\Lm[k]?=some i)) (fun f _=>U.length-(numOf (f 87)).toNat) ?_ ?_
 ·exact⟨0,[],m.lens,.nil,by simp[h87],zE,zd,by simp[sK],.inl ⟨rfl,rfl⟩⟩
 rintro f mm ⟨i,bx,Lm,zi,h87',hi,rfl,h15',aX⟩;rcases zzaa i U.length with ah|bq
 ·obtain⟨w,hw⟩:=aV ah;have zU:=Zw hw;obtain⟨c1,c2⟩:=hUb w (zzad hw);have aa:(i:Int)<(U.length:Int):=zE
  have ri:=bO i zE;have gU:IntKind.i64.wrap 1=1:=by rw[Ql]<;>omega
  have bB:U.take (i+1)=U.take i++[w]:=by rw[zzb,hw];rfl
  have lZ:(U.take i).length=i:=by rw[zzaq];omega
  have A7:∀x,Qh (m.boxes++(bx++[x])) (m.boxes.length+bx.length)=x:=fun x=>by
   simp
  have Cz:∀x,Qh (m.boxes++x) 0=Qa p:=fun x=>by rw[Qn h0];exact hr
  have e1:=fun m' h1 h2 K hK=>xC p w.1 c1 Y m' 0 h1 h2 K hK;have e2:=fun m' h1 h2 K hK=>xC p w.2 c2 Y m' 0 h1 h2 K hK;have hG:(U.map (Qe ∘ uN p)).take (i+1)=(U.map (Qe ∘ uN p)).take i++[[I (xD p.nu p.de (w.1-p.ep)),I (xD p.nu p.de (w.2-p.ep))]]:=by rw[zzb,zzbm,hw];rfl
  have hGl:((U.map (Qe ∘ uN p)).take i).length=i:=by rw[zzaq,zzbv];omega
  have hG2:∀row∈(U.map (Qe ∘ uN p)).take i,row.length=2:=by
   intro row h;obtain⟨a,_,rfl⟩:=zzav.1 (zzce h);rfl
  generalize hGG:(U.map (Qe ∘ uN p)).take i=G at*
  obtain⟨rfl,rfl⟩|⟨aO,k,rfl,hk⟩:=aX
  ·simp[h87',h85,h86,tY,h15',Eo,ah,aa,zU,A7,ho,ho9];refine Qbj [(I (xD p.nu p.de (w.1-p.ep)),⟨m.boxes++(bx++[[I w.1,I w.2]]),Lm,m.st,m.ln⟩),(I (xD p.nu p.de (w.2-p.ep)),⟨m.boxes++(bx++[[I w.1,I w.2]]),Lm,m.st,m.ln⟩)] ?_;simp[h87',h85,h86,tY,h15',ah,aa,zU,A7,ho,ho9,ri,gU];refine⟨e1 _ (by simp;omega) (Cz _) _ ⟨rfl,rfl⟩,e2 _ (by simp;omega) (Cz _) _ ⟨rfl,rfl⟩,⟨by rintro row (h|rfl);exact hG2 row h;rfl,zE⟩,ag ?_,?_,zE⟩
   ·repeat(first|exact Qb _ _|refine Qc _ rfl ?_)
   exact⟨1,rfl,zE,_,_,⟨rfl,rfl⟩,_,⟨rfl,hG.symm⟩,.inr ⟨zE,Lm.length,rfl,by simp[hGl]⟩⟩
  simp[h87',h85,h86,tY,h15',Eo,ah,aa,zU,A7,ho,ho9];refine Qbj [(I (xD p.nu p.de (w.1-p.ep)),⟨m.boxes++(bx++[[I w.1,I w.2]]),Lm,m.st,m.ln⟩),(I (xD p.nu p.de (w.2-p.ep)),⟨m.boxes++(bx++[[I w.1,I w.2]]),Lm,m.st,m.ln⟩)] ?_;simp[h87',h85,h86,tY,h15',ah,aa,zU,A7,ho,ho9,ri,hk];refine⟨e1 _ (by simp;omega) (Cz _) _ ⟨rfl,rfl⟩,e2 _ (by simp;omega) (Cz _) _ ⟨rfl,rfl⟩,⟨hGl.symm,by rintro row (h|rfl);exact hG2 row h;rfl,zE⟩,ag ?_,?_,zE⟩
  ·repeat(first|exact Qb _ _|refine Qc _ rfl ?_)
  exact⟨i+1,zE,zE,_,_,⟨rfl,rfl⟩,_,⟨rfl,hG.symm⟩,.inr ⟨zE,k,rfl,by simp[hGl,(zza.1 hk).1]⟩⟩
 obtain rfl:i=U.length:=zE
 rw[zzau zd]at h15';simp[h87',h86,Eo];refine hQ _ bx Lm zi ?_ ?_ ?_
 ·repeat(first|exact Qb _ _|refine Qc _ rfl ?_)
 ·simp[h15']
 obtain⟨h1,h2⟩|⟨h1,k,h2,h3⟩:=aX
 ·exact .inl ⟨h2,zzbx.1 h1⟩
 exact .inr ⟨fun h=>h1 (by rw[h];rfl),k,h2⟩
open Go Go.Abs
def KM:∀(l:List Sp)(lo hi:Int),VS l->(∀w∈l,lo<=w.1/\w.2<=hi)->(l.length:Int)<=max 0 (hi-lo)
 |[],lo,hi,_,_=>by simp only[zzco];omega
 |s::l,lo,hi,h,hb=>by
  obtain⟨h1,h2,h3⟩:=cV.1 h;have:=KM l (s.2+1) hi h3 (fun w hw=>⟨by have:=h2 w hw;omega,(hb w (by simp[hw])).2⟩);have b:=hb s zd;simp only[zzaz];omega
def SJ(lo hi:Int)(l:List Sp):Prop:=∀w∈l,lo<=w.1/\w.1<=hi/\lo<=w.2/\w.2<=hi
def uO{lo hi:Int}{a b:List Sp}(h:SJ lo hi a):SJ lo hi (zY a b):=by
 obtain⟨⟨h1,_⟩,h2⟩:=kQ a b;intro w hw;have ah:=h1 w hw;obtain⟨s,hs,s1,s2⟩:=((h2 w.1).1 ⟨w,hw,zE,ah⟩).1;obtain⟨t,ht,t1,t2⟩:=((h2 (w.2-1)).1 ⟨w,hw,zE,zE⟩).1;have:=h s hs;have:=h t ht;omega
def XR{lo hi:Int}{a b:List Sp}(h:SJ lo hi a):((zY a b).length:Int)<=max 0 (hi-lo):=
 KM _ _ _ (kQ a b).1 (fun w hw=>⟨(uO h w hw).1,(uO h w hw).2.2.2⟩)
def kR{nu de f g:Int}(hv:Ve nu de=true)(h0:0<=f)(hfg:f<=g)(hg:g<=100000000):Yk nu de f<=Yk nu de g/\Yk nu de g<=Yk nu de f+(g-f):=by
 obtain⟨b1,b2,b3,b4,b5⟩:=Ju hv;rw[Yk,Yk,if_pos ⟨hv,h0,zE⟩,if_pos ⟨hv,zE,hg⟩];have q0:0<=f*de:=zzee h0 zE;have q1:0<=g*de:=zzee zE zE;rw[zzcl q0,zzcl q1];have m1:f*de<=g*de:=Int.mul_le_mul_of_nonneg_right hfg zE;have m2:(g-f)*de<=(g-f)*nu:=zzfs zE zE
 have m3:g*de<=f*de+(g-f)*nu:=by
  have:g*de=f*de+(g-f)*de:=by rw[<- Int.add_mul];congr 1;omega
  omega
 constructor
 ·exact Int.ediv_le_ediv zE m1
 have:=Int.ediv_le_ediv (c:=nu) zE m3;rw[Int.add_mul_ediv_right _ _ zE]at this;exact this
def QI(s:Sp):Sp:=(max s.1 0,min s.2 100000001)
def uS(p:Pl)(c:Sp):Sp:=(p.ep+Yk p.nu p.de c.1,p.ep+Yk p.nu p.de (c.2-1)+1)
def iE(p:Pl)(x:It)(region:Int)(u:Sp)(i:Nat):List Sp:=((lN p x region u).take i).foldl zY [u]
def Vu(p:Pl)(id region:Int)(s:Sp):List Sp:=
 let c:=QI s
 match Xj id p.aN with
 |none=>[]
 |some x=>if region<0\/8<=region\/c.2<=c.1\/1000000<c.2-c.1 then[]else if x.ki=5 then[c]else if Kj p=false then[]else
  zY ((iE p x region (uS p c) (lN p x region (uS p c)).length).map (uN p)) [c]
def rj:P2->Sp
 |[.int _ a,.int _ b]=>(a,b)
 |_=>(0,0)
@[simp] def aeh(l:List Sp):(l.map Qe).map rj=l:=by
 induction l with
 |nil=>rfl
 |cons a l ih=>simp only[zzas,ih];rfl
@[simp] def arU(l:List Sp):l.map (rj ∘ Qe)=l:=by rw[<- zzcu];exact aeh l
@[simp] theorem arV(a b:Int):rj [I a,I b]=(a,b):=rfl
def zZ(p:Pl)(id region:Int)(s:Sp):UV:=fun d f l=>
 if f=999999 then .junk else
 if f=80 then Zq (Xj id p.aN)else
 if f=81 then .bool (Kj p)else
 if f=82 then(match l with|[_,.int _ n]=>I (p.ep+Yk p.nu p.de n)|_=>.junk)else
 if f=83 then(match l with|[_,.agg x,_,.agg u]=>.fn 135 [] [.ep (Qa p) 0,.ep x 0,.ep [I region] 0,.ep u 0]|_=>.junk)else
 if f=84 then(match l with|[.sl _ A,.sl _ B]=>.sl .ro ((zY (A.map rj) (B.map rj)).map Qe)|_=>.junk)else .gd false .junk
def KN(cs:List Cl)(item region:Int)(h:cs.length<=1000000):(Qcq cs item region).length<=2000000:=by
 have h1:=Yu (nD (dK (Wo cs item region)) (w9 (Wo cs item region)) (dK (Wo cs item region)).length);have h2:=xd (dK (Wo cs item region)) (w9 (Wo cs item region)) (dK (Wo cs item region)).length;have h3:=NV (Wo cs item region);have h4:(Wo cs item region).length<=cs.length:=zzcc _ _;unfold Qcq;omega
def XS(p:Pl)(x:It)(region:Int)(u:Sp)(h:p.cls.length<=1000000):∀l∈lN p x region u,l.length<=2000000:=by
 intro l hl;rw[lN,zzam,zzav]at hl;obtain rfl|⟨w,_,rfl⟩:=hl
 ·exact KN _ _ _ h
 have:=XQ p.of p.sh u w.1 w.2;omega
def Db{lo hi:Int}:∀(ls:List (List Sp))(a:List Sp),SJ lo hi a->SJ lo hi (ls.foldl zY a)
 |[],a,h=>h
 |l::r,a,h=>Db r _ (uO h)
def Bf{lo hi:Int}:∀(ls:List (List Sp))(a:List Sp),SJ lo hi a->(a.length:Int)<=max 1 (hi-lo)->((ls.foldl zY a).length:Int)<=max 1 (hi-lo)
 |[],a,_,h=>h
 |l::r,a,h,hl=>Bf r _ (uO h) (by have:=XR (b:=l) h;omega)
def F2(p:Pl)(id region:Int)(s:Sp)(hc:p.cls.length<=1000000)(fE:p.sh.length<=1000000000)(cT:p.aN.length<=1000000000)(h1: -9223372036854775808<=s.1/\s.1<=9223372036854775807)(h2: -9223372036854775808<=s.2/\s.2<=9223372036854775807):
  ∃rt,Pure Tryz.prog aD 40 [.agg (Qa p),I id,I region,.agg [I s.1,I s.2]] (.sl rt ((Vu p id region s).map Qe)):=by
 have sL:=kS p id cT;have k70:=KO p fE;obtain⟨c,hcS⟩:∃c,QI s=c:=⟨_,rfl⟩;have hcb:0<=c.1/\c.2<=100000001/\c.1<=9223372036854775807/\ -9223372036854775808<=c.2:=by rw[<- hcS,QI];simp only;omega
 have hmx:max s.1 0=c.1:=by rw[<- hcS];rfl
 have hmn:min s.2 100000001=c.2:=by rw[<- hcS];rfl
 have F3:(if s.1<0 then 0 else s.1)=c.1:=zE
 have F4:(if 100000001<s.2 then 100000001 else s.2)=c.2:=zE
 cases hfx:Xj id p.aN with
 |none=>
  have hP:Vu p id region s=[]:=by simp[Vu,hfx]
  rw[hP];refine⟨.nil,Qp vm (zZ p id region s) zd ?_⟩;rw[pF];simp[Da,Qa,zZ,hfx,Zq,tH,F3,F4];simpa[hfx,Zq,Qa]using sL
 |some x=>
  rw[hfx]at sL;by_cases hb:region<0\/8<=region\/c.2<=c.1\/1000000<c.2-c.1
  ·have hP:Vu p id region s=[]:=by simp only[Vu,hfx,hcS,if_pos hb]
   rw[hP];refine⟨.nil,Qp vm (zZ p id region s) zd ?_⟩;have KP:Abs.Pure Tryz.prog aD 80 [.agg (Qa p),I id] (.aS [.agg (Qm x),.bool true]):=sL;rw[pF];by_cases b1:region<0
   ·simp[Da,Qa,zZ,hfx,Zq,Qm,tH,F3,F4,b1,Qe];exact KP
   by_cases b2:8<=region
   ·simp[Da,Qa,zZ,hfx,Zq,Qm,tH,F3,F4,b1,b2,Qe];exact KP
   by_cases b3:c.2<=c.1
   ·simp[Da,Qa,zZ,hfx,Zq,Qm,tH,F3,F4,b1,b2,b3,Qe];exact KP
   have b4:1000000<c.2-c.1:=zE
   have hw:IntKind.i64.wrap (c.2-c.1)=c.2-c.1:=by rw[Ql]<;>omega
   simp[Da,Qa,zZ,hfx,Zq,Qm,tH,F3,F4,b1,b2,b3,b4,hw,Qe];exact KP
  simp only[not_or]at hb;obtain⟨b1,b2,b3,b4⟩:=hb;have hw:IntKind.i64.wrap (c.2-c.1)=c.2-c.1:=by rw[Ql]<;>omega
  by_cases hk:x.ki=5
  ·have hP:Vu p id region s=[c]:=by simp only[Vu,hfx,hcS,if_neg (show¬(region<0\/8<=region\/c.2<=c.1\/1000000<c.2-c.1) by omega),if_pos hk]
   rw[hP];refine⟨.full,Qp vm (zZ p id region s) zd ?_⟩;rw[pF];simp[Da,Qa,zZ,hfx,Zq,Qm,tH,F3,F4,b1,b2,b3,b4,hw,hk,Qe];rw[Zq,Qm,hk]at sL;exact sL
  have axd:=pE p.nu p.de c.1;have avd:=pE p.nu p.de (c.2-1);have gU:IntKind.i64.wrap (c.2-1)=c.2-1:=by rw[Ql]<;>omega
  have KP:Abs.Pure Tryz.prog aD 80 [.agg (Qa p),I id] (.aS [.agg (Qm x),.bool true]):=sL;by_cases ht:Kj p=true
  ·have hte:Ve p.nu p.de=true/\0<=p.ep/\p.ep<=9000000000:=by
    simp only[Kj,zzac,decide_eq_true_eq]at ht;exact⟨ht.1.1,ht.2⟩
   have eL:IntKind.i64.wrap (p.ep+Yk p.nu p.de (c.2-1)+1)=p.ep+Yk p.nu p.de (c.2-1)+1:=by rw[Ql]<;>omega
   have SK:IntKind.i64.wrap (p.ep+Yk p.nu p.de c.1)=p.ep+Yk p.nu p.de c.1:=by rw[Ql]<;>omega
   have arW:=k70;rw[ht]at arW;have k71:=sJ p c.1 hte.2;have axe:=sJ p (c.2-1) hte.2;obtain⟨u,hu⟩:∃u,uS p c=u:=⟨_,rfl⟩;have hu1:p.ep+Yk p.nu p.de c.1=u.1:=by rw[<- hu];rfl
   have JL:p.ep+Yk p.nu p.de (c.2-1)+1=u.2:=by rw[<- hu];rfl
   have hu3:IntKind.i64.wrap u.2=u.2:=by rw[<- JL];exact eL
   have hdf:=kR (f:=c.1) (g:=c.2-1) hte.1 zE zE zE;have k72:=FZ p x region u
   have hP:Vu p id region s=zY ((iE p x region u (lN p x region u).length).map (uN p)) [c]:=by
    simp only[Vu,hfx,hcS,hu,if_neg (show¬(region<0\/8<=region\/c.2<=c.1\/1000000<c.2-c.1) by omega),if_neg hk,ht];simp
   rw[hP];refine⟨.ro,Qp vm (zZ p id region s) zd ?_⟩;rw[pF];simp[Da,Qa,zZ,hfx,Zq,Qm,F3,F4,b1,b2,b3,b4,hw,hk,Qe,ht,gU,eL,hu1,JL,hu3];rw[hu1]at k71;refine⟨KP,arW,k71,axe,k72,?_⟩;have hub: -9223372036854775808<=u.1/\u.1<=9223372036854775807/\ -9223372036854775808<=u.2/\u.2<=9223372036854775807:=zE
   have hLi:=F1 p x region u hc fE ⟨hub.1,hub.2.1⟩ hub.2.2;have hLl:=XS p x region u hc;have arX:SJ u.1 u.2 [u]:=by intro w hw;simp at hw;subst hw;omega
   have axf:∀i,SJ u.1 u.2 (iE p x region u i):=fun i=>Db _ _ arX
   have qs:∀i,(iE p x region u i).length<=2000000:=fun i=>by
    have:=Bf ((lN p x region u).take i) [u] arX (by simp;omega);unfold iE;omega
   have fC:∀i l,(lN p x region u)[i]?=some l->iE p x region u (i+1)=zY (iE p x region u i) l:=fun i l h=>by
    unfold iE;rw[zzb,h,zzgg];rfl
   have hc0:iE p x region u 0=[u]:=by simp[iE]
   have hps:∀y,uN p y=uN p y:=fun _=>rfl;generalize hXs:lN p x region u=Xs at*
   refine jx (xs:=Xs.map FY) (by simp;exact⟨rfl,rfl⟩) hLi (by intro y hy;simp[FY]at hy;obtain⟨a,_,rfl⟩:=hy;rfl)
    (fun i m=>∃(bx:T5)(rt:Rt),m.boxes=Qa p::[I c.1,I c.2]::Qm x::[I u.1,I u.2]::[.sl rt ((iE p x region u i).map Qe)]::bx/\(rt=.full\/rt=.ro)) (fun _ _=>False) ?_ ?_ (fun _ _ _ h=>h.elim) ?_ ?_ (fun _ _ h=>h.elim)
   ·refine⟨[],.full,?_,.inl rfl⟩;rw[hc0];rfl
   ·rintro i m m' ⟨bx,rt,hb,aX⟩ ⟨⟨b2,e1⟩,_,_⟩;exact⟨bx++b2,rt,by rw[e1,hb];rfl,aX⟩
   ·rintro l i m y hg hr ⟨bx,rt,hb,aX⟩ hy K' q1 _ _;rw[zzbm,zzc]at hy;obtain⟨y,hy,rfl⟩:=hy;rw[Jm]at hb;have hyl:=hLl y (zzad hy);have k73:=jH (iE p x region u i) y (by have:=qs i;omega) zE;have hn:=fC i y hy;generalize iE p x region u i=C at*
    obtain rfl|rfl:=aX
    ·have axg:=Xz (l:=[.sl .full (C.map Qe),.sl .ro (y.map Qe)]) k73 ⟨Wk.sl _ _,Ps,trivial⟩;simp[hr,Zr,FY,hb,zZ];refine⟨axg,q1 _ ⟨bx,.ro,?_,.inr rfl⟩⟩;simp[hb,hn]
    simp[hr,Zr,FY,hb,zZ];refine⟨k73,q1 _ ⟨bx,.ro,?_,.inr rfl⟩⟩;simp[hb,hn]
   rintro m ⟨bx,rt,hb,aX⟩;have hcU:=qs Xs.length;have hcI:=axf Xs.length;rw[zzbv]at hb;generalize iE p x region u Xs.length=C at*
   have k73:=jH (C.map (uN p)) [c] (by simp;omega) zd;have ek:∀w∈C,(-1000000000000<=w.1-p.ep/\w.1-p.ep<=1000000000000)/\(-1000000000000<=w.2-p.ep/\w.2-p.ep<=1000000000000):=fun w hw=>by have:=hcI w hw;omega
   have leaf:∀rt,Abs.Pure Tryz.prog aD 84 [.sl rt (C.map (Qe ∘ uN p)),.sl .full [[I c.1,I c.2]]] (.sl .ro ((zY (C.map (rj ∘ Qe ∘ uN p)) [(c.1,c.2)]).map Qe))/\(zY (C.map (rj ∘ Qe ∘ uN p)) [(c.1,c.2)]).map Qe=(zY (C.map (uN p)) [c]).map Qe:=by
    have e1:C.map (rj ∘ Qe ∘ uN p)=C.map (uN p):=zzcr fun _ _=>rfl;intro rt;rw[e1];refine⟨?_,rfl⟩;have:=Xz (l:=[.sl rt ((C.map (uN p)).map Qe),.sl .full ([c].map Qe)]) k73 ⟨Wk.sl _ _,Wk.sl _ _,trivial⟩;rw[zzcu]at this;exact this
   obtain rfl|rfl:=aX
   ·simp[hb];refine Be Y0 p (zZ p id region s) (fun _ _=>rfl) (fun _ _=>rfl) _ _ C .full _ zd zd zd zd zd (by simp[hb]) (by simp[hb]) zE ek ?_;intro E' bx' Lm zi hA sK XT;have h7:Abs.look E' 7=.ptr 1 0:=by rw[hA 7 (by decide)];simp
    obtain⟨rfl,hC⟩|⟨hC,k,rfl⟩:=XT
    ·simp[h7,sK,hb,zZ,tH];exact leaf _
    simp[h7,sK,hb,zZ,tH];exact leaf _
   simp[hb];refine Be Y0 p (zZ p id region s) (fun _ _=>rfl) (fun _ _=>rfl) _ _ C .ro _ zd zd zd zd zd (by simp[hb]) (by simp[hb]) zE ek ?_;intro E' bx' Lm zi hA sK XT;have h7:Abs.look E' 7=.ptr 1 0:=by rw[hA 7 (by decide)];simp
   obtain⟨rfl,hC⟩|⟨hC,k,rfl⟩:=XT
   ·simp[h7,sK,hb,zZ,tH];exact leaf _
   simp[h7,sK,hb,zZ,tH];exact leaf _
  have XU:Kj p=false:=by simpa using ht
  rw[XU]at k70;have hP:Vu p id region s=[]:=by simp only[Vu,hfx,hcS,if_neg (show¬(region<0\/8<=region\/c.2<=c.1\/1000000<c.2-c.1) by omega),if_neg hk,if_pos XU]
  rw[hP];refine⟨.nil,Qp vm (zZ p id region s) zd ?_⟩;rw[pF];simp[Da,Qa,zZ,hfx,Zq,Qm,tH,F3,F4,b1,b2,b3,b4,hw,hk,Qe,XU];exact⟨KP,k70⟩
def nJ(p:Pl)(id region:Int)(s:Sp)(hc:p.cls.length<=1000000)(fE:p.sh.length<=1000000000)(cT:p.aN.length<=1000000000)(h1: -9223372036854775808<=s.1/\s.1<=9223372036854775807)(h2: -9223372036854775808<=s.2/\s.2<=9223372036854775807):
  Pure Tryz.prog aD 40 [.agg (Qa p),I id,I region,.agg [I s.1,I s.2]] (.sl .ro ((Vu p id region s).map Qe)):=by
 obtain⟨rt,h⟩:=F2 p id region s hc fE cT h1 h2;exact Zh h (Wk.sl _ _)
open Go Go.Abs
def XV{lo hi:Int}{a b:List Sp}(h:SJ lo hi b):SJ lo hi (zY a b):=by
 obtain⟨⟨h1,_⟩,h2⟩:=kQ a b;intro w hw;have ah:=h1 w hw;obtain⟨s,hs,s1,s2⟩:=((h2 w.1).1 ⟨w,hw,zE,ah⟩).2;obtain⟨t,ht,t1,t2⟩:=((h2 (w.2-1)).1 ⟨w,hw,zE,zE⟩).2;have:=h s hs;have:=h t ht;omega
def Qdb(p:Pl)(id region:Int)(s:Sp):(Vu p id region s).length<=1000000:=by
 unfold Vu;simp only;generalize QI s=c;cases Xj id p.aN with
 |none=>simp
 |some x=>
  simp only;split
  ·simp
  rename_i hb;simp only[not_or]at hb;split
  ·simp
  split
  ·simp
  have bQ:SJ c.1 c.2 [c]:=by intro w hw;simp at hw;subst hw;omega
  have:=KM _ c.1 c.2 (kQ ((iE p x region (uS p c) (lN p x region (uS p c)).length).map (uN p)) [c]).1 (fun w hw=>by have:=XV bQ w hw;omega);omega
def XW(f:Int):Bool:=decide (0<=f/\f<=100000000)
def Xt(p:Pl)(id region f n:Int):Bool:=
 if n<1\/1000000<n\/XW f=false\/XW (f+n-1)=false then false else(Dc [(f,f+n)] (Vu p id region (f,f+n))).isEmpty
def Bg(p:Pl)(id region f n:Int):UV:=fun d g l=>
 if g=38 then(match l with|[.int _ n]=>.bool (XW n)|_=>.junk)else
 if g=40 then .sl .ro ((Vu p id region (f,f+n)).map Qe)else
 if g=39 then .bool (Dc [(f,f+n)] (Vu p id region (f,f+n))).isEmpty else .junk
def Qep(p:Pl)(id region f n:Int)(hc:p.cls.length<=1000000)(fE:p.sh.length<=1000000000)(cT:p.aN.length<=1000000000):
  Pure Tryz.prog aD 18 [.agg (Qa p),I id,I region,I f,I n] (.bool (Xt p id region f n)):=by
 have k34:=sM f;have aei:=sM (f+n-1);refine Qp ajF (Bg p id region f n) zd ?_;by_cases b1:n<1
 ·simp[O9,Qa,Bg,Pb,b1,Xt]
 by_cases b2:1000000<n
 ·simp[O9,Qa,Bg,Pb,b1,b2,Xt]
 by_cases b3:XW f=true
 ·have b3':0<=f/\f<=100000000:=by simpa[XW]using b3
  have gU:IntKind.i64.wrap (f+n)=f+n:=by rw[Ql]<;>omega
  have eL:IntKind.i64.wrap (f+n-1)=f+n-1:=by rw[Ql]<;>omega
  rw[show decide (0<=f/\f<=100000000)=true from b3]at k34;by_cases b4:XW (f+n-1)=true
  ·rw[show decide (0<=f+n-1/\f+n-1<=100000000)=true from b4]at aei;have k36:=nJ p id region (f,f+n) hc fE cT (by simp only;omega) (by simp only;omega);have k35:=F5 (Vu p id region (f,f+n)) (f,f+n) (by have:=Qdb p id region (f,f+n);omega);simp[O9,Qa,Bg,Pb,b1,b2,b3,b4,gU,eL,Xt];exact⟨k34,aei,k36,k35⟩
  have b4':XW (f+n-1)=false:=by simpa using b4
  rw[show decide (0<=f+n-1/\f+n-1<=100000000)=false from b4']at aei;simp[O9,Qa,Bg,Pb,b1,b2,b3,b4',gU,eL,Xt];exact⟨k34,aei⟩
 have b3':XW f=false:=by simpa using b3
 rw[show decide (0<=f/\f<=100000000)=false from b3']at k34;simp[O9,Qa,Bg,Pb,b1,b2,b3',Xt];exact k34
open Go Go.Abs
def Xw(id:Int):List En->Option En
 |[]=>none
 |x::r=>if x.id=id then some x else Xw id r
def sN:Option En->AV
 |some x=>.aS [.agg (Qd x),.bool true]
 |none=>.aS [.agg [I 0,I 0,I 0,I 0,I 0,I 0,.sl .nil []],.bool false]
def nK(e:En):Pure Tryz.prog aD 63 [.agg (Qd e)] (I e.id):=by
 refine Qp akk (fun _ _ _=>.junk) zd ?_;simp[ao7,Qd,ao8]
def KQ(L:List En)(id:Int)(hl:L.length<=1000000000):Pure Tryz.prog aD 62 [.sl .ro (L.map Qd),I id,.fn 63 [] []] (sN (Xw id L)):=by
 refine Qp IW (fun _ f l=>if f=63 then(match l with|[.agg (c::_)]=>c|_=>.junk)else .junk) zd ?_;simp[abC];refine Qi gM (fun f m=>∃(i:Nat)(bx:T5),f 13=I i/\i<=L.length/\Xw id (L.drop i)=Xw id L/\m=⟨[I 0,I 0,I 0,I 0,I 0,I 0,.sl .nil []]::bx,[],fun _=>.gone,0⟩) (fun f _=>L.length-(numOf (f 13)).toNat) ?_ ?_
 ·exact⟨0,[],zd,zE,rfl,rfl⟩
 rintro f m ⟨i,bx,eT,hi,hf,rfl⟩;rcases zzaa i L.length with ah|bq
 ·obtain⟨x,hx⟩:=aV ah;have ai:Qh (L.map Qd) i=Qd x:=Qu (by simp[hx]);have aa:(i:Int)<(L.length:Int):=zE
  have hw:=bO i zE;have hd:L.drop i=x::L.drop (i+1):=by rw[zzag ah,(zza.1 hx).2]
  have hk:=nK x;rw[hd,Xw]at hf;by_cases aL:x.id=id
  ·rw[if_pos aL]at hf;simp[eT,ah,aa,ai,Qd,aL,gM,IV,<- hf,sN];simpa[Qd,aL]using hk
  rw[if_neg aL]at hf;simp[eT,ah,aa,ai,Qd,aL,gM,hw];refine⟨hk,aQ,⟨i+1,zd,zE,hf⟩,zE⟩
 rw[zzal bq]at hf;have bQ:¬(i:Int)<(L.length:Int):=zE
 simp[eT,zzbk.2 bq,bQ,gM,IV,<- hf,sN,Xw]
open Go Go.Abs
def KR{w:World}{γ:G}{rows:T5}{v:Value}(h:aA w γ (.sl .ro rows) v):aA w γ (.sl .nil rows) v\/aA w γ (.sl .nn rows) v:=by
 cases h with
 |sl b off sz cv hcap hnil ha hsz hc hr aX=>
  rename_i a cap;by_cases e:a=none
  ·exact .inl (.sl b off sz cv hcap hnil ha hsz hc hr e)
  exact .inr (.sl b off sz cv hcap hnil ha hsz hc hr e)
def sO{P:Program}{gl:Nat->AV}{f:FuncId}{rows:T5}{r:AV}(h:Pure P gl f [.sl .nil rows] r)(k:Pure P gl f [.sl .nn rows] r):Pure P gl f [.sl .ro rows] r:=
 ⟨h.1,fun ro w vs lG hr=>by
  match vs,hr with
  |[v],hr=>
   rcases KR (hr.2 0 _ v rfl rfl)with h1|h1
   ·exact h.2 ro w [v] lG ⟨rfl,fun i x y hx hy=>by
     cases i with
     |zero=>cases hx;cases hy;exact h1
     |succ i=>cases hx⟩
   exact k.2 ro w [v] lG ⟨rfl,fun i x y hx hy=>by
    cases i with
    |zero=>cases hx;cases hy;exact h1
    |succ i=>cases hx⟩
  |[],hr=>exact absurd hr.1 zd
  |_::_::_,hr=>exact absurd hr.1 zd⟩
def Dd:Pure Tryz.prog aD 64 [.sl .nn []] (.sl .ro []):=by
 have:∃rt,Pure Tryz.prog aD 64 [.sl .nn []] (.sl rt []):=by
  refine⟨.ro,Qp IX (fun _ _ _=>.junk) zd ?_⟩;simp[abD,abE]
 obtain⟨rt,h⟩:=this;exact Zh h (Wk.sl _ _)
def Qck(l:List Sp)(hl:l.length<=8796093022208):Pure Tryz.prog aD 64 [.sl .ro (l.map Qe)] (.sl .ro (l.map Qe)):=by
 cases l with
 |nil=>exact sO (Zh jI (Wk.sl _ _)) Dd
 |cons x r=>
  refine Qp IX (fun _ _ _=>.junk) zd ?_;simp[abD,abE];simp at hl;refine⟨⟨rfl,?_⟩,zE⟩;rintro row a b _ rfl;rfl
def KS(p:Pl)(id:Int)(hl:p.ens.length<=1000000000)(ha:∀e∈p.ens,e.al.length<=8796093022208):Pure Tryz.prog aD 29 [.agg (Qa p),I id] (sN (Xw id p.ens)):=by
 have h59:=KQ p.ens id hl;refine Qp S6 (fun _ f l=>if f=62 then sN (Xw id p.ens)else l.headD .junk) zd ?_;cases hf:Xw id p.ens with
 |none=>
  rw[hf]at h59;simp[abq,abr,Qa,sN,hf];exact⟨h59,jI⟩
 |some x=>
  rw[hf]at h59
  have hx:x∈p.ens:=by
   have:∀l:List En,Xw id l=some x->x∈l:=by
    intro l;induction l with
    |nil=>intro h;cases h
    |cons y r ih=>
     intro h;simp only[Xw]at h;split at h
     ·cases h;simp
     simp[ih h]
   exact this _ hf
  have hc:=Qck x.al (ha x hx);simp[abq,abr,Qa,sN,Qd,hf];exact⟨h59,hc⟩
open Go Go.Abs
def KT(e:It):Pure Tryz.prog aD 37 [.agg (Qm e)] (I e.id):=by
 refine Qp S7 (fun _ _ _=>.junk) zd ?_;simp[ajT,Qm,ajU]
def xE(L:List It)(id:Int)(hl:L.length<=1000000000):Pure Tryz.prog aD 36 [.sl .ro (L.map Qm),I id,.fn 37 [] []] (Zq (Xj id L)):=by
 refine Qp ajS (fun _ f l=>if f=37 then(match l with|[.agg (c::_)]=>c|_=>.junk)else .junk) zd ?_;simp[aoL];refine Qi Mz (fun f m=>∃(i:Nat)(bx:T5),f 13=I i/\i<=L.length/\Xj id (L.drop i)=Xj id L/\m=⟨[I 0,I 0,I 0,I 0,I 0]::bx,[],fun _=>.gone,0⟩) (fun f _=>L.length-(numOf (f 13)).toNat) ?_ ?_
 ·exact⟨0,[],zd,zE,rfl,rfl⟩
 rintro f m ⟨i,bx,eT,hi,hf,rfl⟩;rcases zzaa i L.length with ah|bq
 ·obtain⟨x,hx⟩:=aV ah;have ai:Qh (L.map Qm) i=Qm x:=Qu (by simp[hx]);have aa:(i:Int)<(L.length:Int):=zE
  have hw:=bO i zE;have hd:L.drop i=x::L.drop (i+1):=by rw[zzag ah,(zza.1 hx).2]
  have hk:=KT x;rw[hd,Xj]at hf;by_cases aL:x.id=id
  ·rw[if_pos aL]at hf;simp[eT,ah,aa,ai,Qm,aL,Mz,ajR,<- hf,Zq];simpa[Qm,aL]using hk
  rw[if_neg aL]at hf;simp[eT,ah,aa,ai,Qm,aL,Mz,hw];refine⟨hk,aQ,⟨i+1,zd,zE,hf⟩,zE⟩
 rw[zzal bq]at hf;have bQ:¬(i:Int)<(L.length:Int):=zE
 simp[eT,zzbk.2 bq,bQ,Mz,ajR,<- hf,Zq,Xj]
def QJ(p:Pl)(id:Int)(hl:p.aN.length<=1000000000):Pure Tryz.prog aD 17 [.agg (Qa p),I id] (Zq (Xj id p.aN)):=by
 have h:=xE p.aN id hl;refine Qp S3 (fun _ f l=>if f=36 then Zq (Xj id p.aN)else .junk) zd ?_;cases hf:Xj id p.aN with
 |none=>
  rw[hf]at h;simp[S1,S2,Qa,Zq,hf];exact h
 |some x=>
  rw[hf]at h;simp[S1,S2,Qa,Zq,Qm,hf];exact h
def xF(p:Pl)(f t:Int):Pure Tryz.prog aD 122 [.agg (Qa p),I f,I t] (.fn 175 [] [.ep (Qa p) 0,.ep [I f] 0,.ep [I t] 0]):=by
 refine Qp ab4 (fun _ _ _=>.junk) zd ?_;simp[agI,agJ,Qa]
open Go Go.Abs
def Uq(b:Nat->Bool):Nat->Int
 |0=>0
 |n+1=>Uq b n+if b n then 2 ^ n else 0
def De(b:Nat->Bool):∀n,0<=Uq b n/\Uq b n<2 ^ n
 |0=>by simp[Uq]
 |n+1=>by
  have:=De b n;have h2:(2:Int) ^ (n+1)=2*2 ^ n:=by rw[Int.pow_succ];omega
  rw[Uq,h2];split<;>omega
def XX:∀i:Nat,i<8->∀x:Nat,x<2 ^ i->IntKind.i64.wrap (((((x:Int)%2 ^ IntKind.i64.bits).toNat|||(IntKind.i64.wrap (2 ^ min i IntKind.i64.bits)%2 ^ IntKind.i64.bits).toNat:Nat)):Int)=(x:Int)+2 ^ i:=by
 decide+kernel
def sP(Y:YT)(p:Pl)(h:FuncId)(cap:P2)(b:Nat->Bool)(m:AM)(K:So)
  (hg:∀(i:Nat)(mm:AM),i<8->(i:Int)<p.rg->(∃bx,mm=⟨m.boxes++bx,m.lens,m.st,m.ln⟩)->∀K':So,K' (.bool (b i)) mm->aB Tryz.prog aD Y h ([I i]++cap) mm K')
  (hK:∀bx,K (I (Uq b (min p.rg 8).toNat)) ⟨m.boxes++bx,m.lens,m.st,m.ln⟩):aB Tryz.prog aD Y 176 [.agg (Qa p),.fn h [] cap] m K:=by
 refine Xl acP (fun _ _ _=>.gd false .junk) zd ?_;obtain⟨n,hn⟩:∃n,(min p.rg 8).toNat=n:=⟨_,rfl⟩
 have Cz:Qh (m.boxes++[Qa p]) m.boxes.length=Qa p:=by
  simp
 rw[hn]at hK;have hmn:(if 8<p.rg then 8 else p.rg)=min p.rg 8:=zE
 simp only[Qa]at Cz;simp[ahc,Qa,Cz];refine Qi Jx (fun f mm=>∃(i:Nat)(bx:T5),f 10=I i/\(i=0\/i<=n)/\mm=⟨m.boxes++bx,m.lens,m.st,m.ln⟩/\f 5=I (Uq b i)) (fun f _=>n-(numOf (f 10)).toNat) ?_ ?_
 ·exact⟨0,_,zd,.inl rfl,rfl,by simp[Uq]⟩
 rintro f mm ⟨i,bx,iC,hi,rfl,h5⟩;by_cases ah:(i:Int)<min p.rg 8
 ·have bQ:i<n:=zE
  have hw:=bO i zE;have gO:=De b i;have hg':=hg i ⟨m.boxes++bx,m.lens,m.st,m.ln⟩ zE zE ⟨_,rfl⟩
  have hor:IntKind.i64.wrap ((((Uq b i%2 ^ IntKind.i64.bits).toNat|||(IntKind.i64.wrap (2 ^ min i IntKind.i64.bits)%2 ^ IntKind.i64.bits).toNat:Nat)):Int)=Uq b i+2 ^ i:=by
   obtain⟨x,hx⟩:∃x:Nat,Uq b i=(x:Int):=⟨(Uq b i).toNat,zE⟩
   have QK:x<2 ^ i:=by
    have h2:=gO.2;rw[hx]at h2
    exact_mod_cast h2
   rw[hx];exact XX i zE x QK
  have hms:Uq b (i+1)=Uq b i+if b i then 2 ^ i else 0:=rfl;simp[iC,h5,Jx,hmn,ah];refine hg' _ ?_;cases hb:b i with
  |true=>
   rw[hb]at hms;simp[hor,hw];refine⟨aQ,⟨i+1,zE,zE,by rw[hms];rfl⟩,zE⟩
  |false=>
   rw[hb]at hms;simp[hw];refine⟨aQ,⟨i+1,zE,zE,by rw[hms];simp⟩,zE⟩
 have bQ:i=n:=zE
 subst bQ;simp[iC,h5,Jx,hmn,ah,ahd];exact hK _
open Go Go.Abs
def Ub(fr t a:Int):Int:=if 1<=fr then min (t-a) fr else t-a
def Vp(fr t a:Int):List (Int×Int):=if a<t then(a,Ub fr t a)::Vp fr t (a+Ub fr t a)else[]
termination_by(t-a).toNat
decreasing_by simp only[Ub];split<;>omega
def Ye(p:Pl):Int:=match Xj p.fi p.aN with|some x=>x.fr|none=>0
def F6(p:Pl):Int:=Uq (fun _=>true) (min p.rg 8).toNat
def Qbc(p:Pl)(x:Int×Int):P2:=[.agg [I 0,I p.fi,I x.1,I x.2,I 0,I (F6 p),.sl .nil []]]
def arY(p:Pl):UV:=fun _ f _=>if f=17 then Zq (Xj p.fi p.aN)else .gd false .junk
def xG(p:Pl)(f t:Int)(hl:p.aN.length<=1000000000)(hb: -1000000000<=f/\t<=1000000000)(hf:f<=1000000000/\ -1000000000<=t):
  XI Tryz.prog aD 175 [] [.ep (Qa p) 0,.ep [I f] 0,.ep [I t] 0] ((Vp (Ye p) t f).map (Qbc p)):=by
 intro Y l m K hF;have XY:=QJ p p.fi hl;refine Xl acO (arY p) zd ?_
 obtain⟨b,row,arZ,ai⟩:∃(b:Bool)(y:It),Zq (Xj p.fi p.aN)=.aS [.agg (Qm y),.bool b]/\y.fr=Ye p:=by
  unfold Ye;cases Xj p.fi p.aN with
  |none=>exact⟨false,⟨0,0,0,0,0⟩,rfl,rfl⟩
  |some x=>exact⟨true,x,rfl,rfl⟩
 rw[arZ]at XY;simp[Up,Qa,arY,arZ,Qm]
 refine⟨XY,sP Y p 177 [] (fun _=>true) _ _ (fun i mm _ _ _ K' h=>by
  show aB _ _ _ _ [I (i:Int)] _ _;refine Xl acQ (fun _ _ _=>.junk) zd ?_;simp[ahe,ahf];exact h) fun bx=>?_⟩
 obtain⟨B0,gF⟩:∃B0,m.boxes.length=B0:=⟨_,rfl⟩;have QL:=hF.ext (m':=⟨m.boxes++[[I row.id,I row.ki,I row.fr,I row.sp,I row.ra]]++bx,m.lens,m.st,m.ln⟩) ⟨zd,fun j hj _=>by rw[zzbf];exact Qn hj,⟨[],zd⟩,fun _ _=>rfl⟩;simp only[gF];refine Qi Ci (fun g mm=>∃(a:Int)(O:Nat->Prop),g 8=I a/\ -1000000000<=a/\a<=1000000000/\B0<mm.boxes.length/\Qh mm.boxes B0=[I row.id,I row.ki,I row.fr,I row.sp,I row.ra]/\O B0/\sI (Y l) K ((Vp (Ye p) t a).map (Qbc p)) O mm) (fun g _=>(t-numOf (g 8)).toNat) ?_ ?_
 ·refine⟨f,_,zd,zE,zE,by simp[gF],?_,.inr ⟨zE,by simp;omega⟩,QL⟩;show Qh (m.boxes++[_]++bx) B0=_;rw[Qn (by simp;omega)];subst gF;simp
 rintro g mm ⟨a,O,h8,a1,a2,hlm,SI,C7,hFo⟩;by_cases ah:a<t
 ·rw[Vp,if_pos ah]at hFo;simp only[zzas,Qbc]at hFo;have gU:IntKind.i64.wrap (t-a)=t-a:=by rw[Ql]<;>omega
  have SE:Ub (Ye p) t a=if 1<=row.fr then min (t-a) row.fr else t-a:=by rw[Ub,ai]
  have IE:1<=Ub (Ye p) t a/\Ub (Ye p) t a<=t-a:=by rw[SE];split<;>omega
  have eL:IntKind.i64.wrap (a+Ub (Ye p) t a)=a+Ub (Ye p) t a:=by rw[Ql]<;>omega
  have hmn:(if row.fr<t-a then row.fr else t-a)=min (t-a) row.fr:=zE
  have hM:Uq (fun _=>true) (min p.rg 8).toNat=F6 p:=rfl;generalize hN:Ub (Ye p) t a=N at*
  have key:∀g1,(1<=row.fr->g1=min (t-a) row.fr)->True:=fun _ _=>trivial;have hwN:IntKind.i64.wrap N=N:=by rw[Ql]<;>omega
  by_cases zL:1<=row.fr
  ·rw[if_pos zL]at SE;simp[h8,Ci,ah,SI,zL,gU,hmn,<- SE,hwN,hM,hlm];refine hFo _ (bU.refl _ _) _ (fun m2 A8 uH=>?_) (fun m2 hK=>?_)
   ·have q1:Qh m2.boxes B0=[I row.id,I row.ki,I row.fr,I row.sp,I row.ra]:=by rw[A8.2 B0 (.inl C7)];exact SI
    have CT:=A8.1;simp[eL];refine⟨aQ,⟨zE,zE,zE,q1,_,.inl C7,uH⟩,zE⟩
   simp[M4];exact hK _ (bU.refl _ _)
  rw[if_neg zL]at SE;simp[h8,Ci,ah,SI,zL,gU,<- SE,hwN,hM,hlm];refine hFo _ (bU.refl _ _) _ (fun m2 A8 uH=>?_) (fun m2 hK=>?_)
  ·have q1:Qh m2.boxes B0=[I row.id,I row.ki,I row.fr,I row.sp,I row.ra]:=by rw[A8.2 B0 (.inl C7)];exact SI
   have CT:=A8.1;simp[eL];refine⟨aQ,⟨zE,zE,zE,q1,_,.inl C7,uH⟩,zE⟩
  simp[M4];exact hK _ (bU.refl _ _)
 rw[Vp,if_neg ah]at hFo;simp only[zzcs]at hFo;simp[h8,Ci,ah,M4];exact hFo _ (bU.refl _ _)
open Go Go.Abs
def F7(Y:YT)(p:Pl)(e:En)(a r fr:Int)(m:AM)(bp bf be:Nat)(hc:p.cls.length<=1000000)(fE:p.sh.length<=1000000000)(cT:p.aN.length<=1000000000)
  (h1:Qh m.boxes bp=Qa p)(h2:Qh m.boxes bf=[I fr])(h3:Qh m.boxes be=Qd e)(K:So)(hK:K (.bool (Xt p a r fr e.fr)) m):
  aB Tryz.prog aD Y 178 [I a,I r,.ptr bp 0,.ptr bf 0,.ptr be 0] m K:=by
 have k:=Qep p a r fr e.fr hc fE cT;refine Xl acR (fun _ f _=>if f=18 then .bool (Xt p a r fr e.fr)else .junk) zd ?_;simp only[Qa]at h1;simp only[Qd]at h3;simp[ahg,ahh,h1,h2,h3];exact⟨k,hK⟩
def XZ(Y:YT)(p:Pl)(e:En)(r fr:Int)(m:AM)(bp bf be bg:Nat)(hc:p.cls.length<=1000000)(fE:p.sh.length<=1000000000)(cT:p.aN.length<=1000000000)
  (h1:Qh m.boxes bp=Qa p)(h2:Qh m.boxes bf=[I fr])(h3:Qh m.boxes be=Qd e)(h4:Qh m.boxes bg=[.fn 178 [] [.ptr bp 0,.ptr bf 0,.ptr be 0]])(K:So)(hK:K (.bool (Xt p e.it r fr e.fr)) m):
  aB Tryz.prog aD Y 179 [I r,.ptr bg 0,.ptr be 0] m K:=by
 have k:=F7 Y p e e.it r fr m bp bf be hc fE cT h1 h2 h3;refine Xl acS (fun _ _ _=>.gd false .junk) zd ?_;simp only[Qd]at h3;simp[ahi,h4,h3];refine k _ ?_;simp[ahj];exact hK
end
