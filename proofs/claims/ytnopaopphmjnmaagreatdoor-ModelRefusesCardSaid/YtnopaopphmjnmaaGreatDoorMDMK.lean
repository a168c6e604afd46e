import Derived.Test.YtnopaopphmjnmaaGreatDoorMDSpG
set_option linter.all false
set_option maxRecDepth 100000
set_option maxHeartbeats 64000000
namespace Go.Proofs.YtnopaopphmjnmaaGreatDoor
noncomputable section
open Go Go.Abs
def wL(n:Int):Pure Tryz.prog aq 259 [I n] (.bool (decide (0<=n/\n<86400))):=by
 refine Qn aec (fun _ _ _=>.junk) (by simp) ?_;by_cases h1:0<=n<;>by_cases h2:n<86400<;>simp[ajd,aje,h1,h2]
def FM(n:Int)(h: -100000000000<=n/\n<=100000000000):Pure Tryz.prog aq 262 [I n] (.aU [I (n/86400),I (n%86400)]):=by
 refine Qn aef (fun _ _ _=>.junk) (by simp) ?_
 have ht:n.tdiv 86400=if 0<=n\/n%86400=0 then n/86400 else n/86400+1:=by
  by_cases h0:0<=n
  ·rw[if_pos (.inl h0),zzcl h0]
  rw[Int.tdiv_eq_ediv];by_cases h1:n%86400=0
  ·rw[if_pos (.inr (Int.dvd_of_emod_eq_zero h1)),if_pos (.inr h1)];simp
  rw[if_neg (by rintro(h|h);exact h0 h;exact h1 (Int.emod_eq_zero_of_dvd h)),if_neg (by rintro(h|h);exact h0 h;exact h1 h)];rfl
 have hm:n.tmod 86400=n-n.tdiv 86400*86400:=by have:=Int.mul_tdiv_add_tmod n 86400;omega
 have w1:IntKind.i64.wrap (n.tdiv 86400)=n.tdiv 86400:=by rw[ht];split<;>rw[Qk]<;>omega
 by_cases Cx:n.tmod 86400<0
 ·have e1:n.tdiv 86400=n/86400+1:=by
   rw[ht]at hm |-
   split
   ·rename_i hc;rw[if_pos hc]at hm;omega
   rfl
  have w2:IntKind.i64.wrap (n/86400+1)=n/86400+1:=by rw[Qk]<;>omega
  have w3:IntKind.i64.wrap (n/86400)=n/86400:=by rw[Qk]<;>omega
  have e2:n.tmod 86400=n%86400-86400:=by rw[hm,e1];omega
  have w4:IntKind.i64.wrap (n%86400)=n%86400:=by rw[Qk]<;>omega
  have r6:n%86400<86400:=by omega
  have hn3:¬86400<=n%86400:=by omega
  simp[VH,VI,e1,e2,w2,w3,w4,hn3]
 have e1:n.tdiv 86400=n/86400:=by
  rw[ht]at hm |-
  split
  ·rfl
  rename_i hc;rw[if_neg hc]at hm;omega
 have e2:n.tmod 86400=n%86400:=by rw[hm,e1];omega
 have w3:IntKind.i64.wrap (n/86400)=n/86400:=by rw[Qk]<;>omega
 have r6:¬n%86400<0:=by omega
 simp[VH,VI,e1,e2,w3,r6]
def zq(fr to:Int):List Sp:=if fr<to then[(fr,to)]else if to<fr then[(0,to),(fr,86400)]else[(0,86400)]
def CR(fr to:Int):Pure Tryz.prog aq 263 [I fr,I to] (.sl .full ((zq fr to).map Qe)):=by
 refine Qn aeg (fun _ _ _=>.junk) (by simp) ?_;by_cases h1:fr<to
 ·simp[NG,NH,h1,zq,Qe]
 by_cases h2:to<fr
 ·simp[NG,NH,h1,h2,zq,Qe]
 simp[NG,NH,h1,h2,zq,Qe]
def ur:Int->Int->List Sp->List (Int×Int×Int)
 |f,o,[]=>[(f,10000000001,o)]
 |f,o,s::r=>(if f<s.1 then[(f,s.1,o)]else[])++ur s.1 s.2 r
def AU(x:Int×Int×Int):List AV:=[.agg [I x.1,I x.2.1,I x.2.2]]
def wM(of:Int)(sh:List Sp):Pure Tryz.prog aq 261 [.agg [I of,.sl .ro (sh.map Qe)]] (.fn 312 [] [.ep [I of,.sl .ro (sh.map Qe)] 0]):=by
 refine Qn aee (fun _ _ _=>.junk) (by simp) ?_;simp[ajf,ajg]
def bM.put{O:Nat->Prop}{m:AM}{b:Nat}(hb:O b)(v:List AV)(x:List (List AV)):bM O m {m with boxes:=m.boxes.set b v++x}:=
 ⟨by simp,fun j hj ho=>by show Qh (m.boxes.set b v++x) j=_;rw[Ql (by simpa using hj),Zu v (by rintro rfl;exact ho hb)],⟨[],by simp⟩,fun _ _=>rfl⟩
def bM.as5{O:Nat->Prop}{m:AM}{b:Nat}(hb:O b)(v:List AV):bM O m {m with boxes:=m.boxes.set b v}:=
 ⟨by simp,fun j hj ho=>by show Qh (m.boxes.set b v) j=_;rw[Zu v (by rintro rfl;exact ho hb)],⟨[],by simp⟩,fun _ _=>rfl⟩
def wN(of:Int)(sh:List Sp)(hl:sh.length<=1000000000):YO Tryz.prog aq 312 [] [.ep [I of,.sl .ro (sh.map Qe)] 0] ((ur 0 of sh).map AU):=by
 intro Y l m K hF;refine Xe aeA (fun _ _ _=>.junk) (by simp) ?_;simp[VU];obtain⟨b,hbe⟩:∃b,m.boxes.length=b:=⟨_,rfl⟩;refine Qi Cf (fun f mm=>∃(i:Nat)(fr t o:Int)(O:Nat->Prop),f 12=I i/\i<=sh.length/\b<mm.boxes.length/\Qh mm.boxes b=[I fr,I t,I o]/\O b/\jr (Y l) K ((ur fr o (sh.drop i)).map AU) O mm) (fun f _=>sh.length-(numOf (f 12)).toNat) ?_ ?_
 ·refine⟨0,0,0,of,OU (fun _=>False) m.boxes.length (m.boxes.length+1),by simp,by omega,by simp[hbe],by simp[<- hbe],.inr ⟨by omega,by omega⟩,?_⟩;have:=hF.ext ((fF.box m [[I 0,I 0,I of]]).toO _);simpa using this
 rintro f mm ⟨i,fr,t,o,O,qZ,hi,hlm,aa,tL,hF⟩;rcases zzaa i sh.length with ai|bw
 ·obtain⟨s,hs⟩:=aP ai;have yW:=Zd hs;have ah:(i:Int)<(sh.length:Int):=by omega
  have hw:=bH i (by omega);have hd:sh.drop i=s::sh.drop (i+1):=by rw[zzaf ai,(zza.1 hs).2]
  rw[hd,ur]at hF;have lI:∀x,Qh (mm.boxes++x) b=[I fr,I t,I o]:=fun x=>by rw[Ql hlm];exact aa
  have qn:∀x y,(mm.boxes++x).set b y=mm.boxes.set b y++x:=fun x y=>Yf y hlm;have oe:∀y x,Qh (mm.boxes.set b y++x) b=y:=fun y x=>by rw[Ql (by simpa using hlm),Vn _ hlm]
  have gG:∀y x,Qh (mm.boxes.set b y++[x]) mm.boxes.length=x:=fun y x=>by
   have:=Vi (mm.boxes.set b y) [x] 0;rw[zzcg]at this;simpa using this
  have hsc:∀y x z,(mm.boxes.set b y++x).set b z=mm.boxes.set b z++x:=fun y x z=>by rw[Yf z (by simpa using hlm),List.set_set]
  by_cases hfs:fr<s.1
  ·rw[if_pos hfs]at hF;simp only[zzdw,zzay]at hF;simp[qZ,ah,yW,lI,qn,oe,Cf,hbe,hfs];refine⟨by omega,hF _ (bM.put tL _ _) _ (fun m2 wI qm=>?_) (fun m2 hK=>?_)⟩
   ·have azn:mm.boxes.length+1<=m2.boxes.length:=by have:=wI.1;simpa using this
    have q1:Qh m2.boxes b=[I fr,I s.1,I o]:=by rw[wI.2 b (.inl tL)];exact oe _ _
    have q2:Qh m2.boxes mm.boxes.length=[I s.1,I s.2]:=by
     rw[wI.2 mm.boxes.length (.inr ⟨zzab _,by simp⟩)];exact gG _ _
    have og:b<m2.boxes.length:=by omega
    have as6:OU O mm.boxes.length (mm.boxes.length+1) b:=.inl tL;simp at qm;have q3:∀y,Qh (m2.boxes.set b y) b=y:=fun y=>Vn _ og;simp[q1,q2,q3,og,hw];refine⟨aN,⟨i+1,by simp,by omega,s.1,0,s.2,⟨rfl,rfl,rfl⟩,_,.inl as6,qm.ext (bM.as5 as6 _)⟩,by omega⟩
   simp[NP];exact hK _ (bM.refl _ _)
  rw[if_neg hfs]at hF;simp only[zzah]at hF;simp[qZ,ah,yW,lI,qn,oe,gG,hsc,Cf,hbe,hfs,hw];refine⟨by omega,aN,⟨i+1,by simp,by omega,by omega,s.1,0,s.2,⟨rfl,rfl,rfl⟩,_,.inl tL,hF.ext (bM.put tL _ _)⟩,by omega⟩
 obtain rfl:i=sh.length:=by omega
 rw[zzbo,ur]at hF;simp only[zzay,zzce]at hF;simp[qZ,Cf,hbe,aa,hlm,Vn _ hlm];refine hF _ (bM.as5 tL _) _ (fun m2 _ qm=>?_) (fun m2 hK=>?_)
 ·simp[NP];exact qm _ (bM.refl _ _)
 simp[NP];exact hK _ (bM.refl _ _)
open Go Go.Abs
def nG(L:List Sp)(f t:Int):List Sp:=
 if f<t then(match L.getLast? with|some s=>if s.2=f then L.dropLast++[(s.1,t)]else L++[(f,t)]|none=>[(f,t)])else L
def iB(m:AM)(id k:Nat)(L:List Sp):Prop:=id<m.boxes.length/\((L=[]/\Qh m.boxes id=[.sl .nil []])\/(L≠[]/\k<m.boxes.length/\k≠id/\Qh m.boxes id=[.bs k 0 L.length 2]/\Qh m.boxes k=cC L))
def ant:Nat->FuncId->List AV->AV:=fun d f _=>if f=999999 then(if d=34 then .aK 0 []else .junk)else .junk
def YP(Y:YT)(f t:Int)(id k:Nat)(L:List Sp)(m:AM)(hO:iB m id k L)(hl:L.length<=1000000000)(K:AV->AM->Prop)
  (hK:∀m' k',iB m' id k' (nG L f t)->(k'=k\/m.boxes.length<=k')->aZ (fun j=>j=id\/(L≠[]/\j=k)) m.boxes m'.boxes->m'.st=m.st->m'.ln=m.ln->m'.lens=m.lens->K (.aU []) m'):an Tryz.prog aq Y 260 [I f,I t,.ptr id 0] m K:=by
 obtain⟨h2,h3⟩:=hO;refine Xe aed ant (by simp) ?_;have lI:∀x,Qh (m.boxes++x) id=Qh m.boxes id:=fun x=>Ql h2;have qn:∀x y,(m.boxes++x).set id y=m.boxes.set id y++x:=fun x y=>Yf y h2;by_cases Ti:f<t
 ·have YQ:¬t<=f:=by omega
  obtain⟨rfl,h1⟩|⟨aJ,hk,eT,h1,aa⟩:=h3
  ·have ha:nG [] f t=[(f,t)]:=by simp[nG,Ti]
   rw[ha]at hK;simp[EJ,EK,ant,YQ,h1,lI,qn];refine⟨by omega,hK _ m.boxes.length ⟨by simp;omega,.inr ⟨by simp,by simp,by omega,?_,?_⟩⟩ (.inr (zzab _)) ((aZ.set (S:=fun j=>j=id\/(([]:List Sp)≠[]/\j=k)) (aZ.refl _ _) (.inl (.inl rfl)) _).app _) rfl rfl rfl⟩
   ·simp only[zzdx];rw[Ql (by simpa using h2),Vn _ h2]
   have:=Vi (m.boxes.set id [.bs m.boxes.length 0 1 2]) [[I f,I t]] 0;rw[zzcg]at this;simpa using this
  obtain⟨A,s,rfl⟩:∃A s,L=A++[s]:=⟨L.dropLast,L.getLast aJ,(zzer aJ).symm⟩;have ha:nG (A++[s]) f t=if s.2=f then A++[(s.1,t)]else A++[s]++[(f,t)]:=by simp[nG,Ti]
  rw[ha]at hK;have hw:IntKind.i64.wrap (A.length:Int)=(A.length:Int):=by simp at hl;rw[Qk]<;>omega
  have hg:(A++[s])[A.length]?=some s:=by simp
  have g0:=uu hg;have g1:=FN hg;have dx:(A++[s]).length=A.length+1:=by simp
  rw[dx]at h1;have gl:(cC (A++[s])).length=A.length*2+2:=by rw[Vv,dx];omega
  have hR2:cC (A++[s]++[(f,t)])=cC (A++[s])++[I f,I t]:=by rw[Qbu];rfl
  have hR1:(cC (A++[s])).set (A.length*2+1) (I t)=cC (A++[(s.1,t)]):=by rw[wO _ _ s _ hg];simp
  have hrk:∀x,Qh (m.boxes++x) k=cC (A++[s]):=fun x=>by rw[Ql hk];exact aa
  have hsk:∀x y,(m.boxes++x).set k y=m.boxes.set k y++x:=fun x y=>Yf y hk;generalize hR:cC (A++[s])=R at*
  by_cases hs:s.2=f
  ·rw[if_pos hs]at hK;simp[EJ,EK,YQ,h1,hw,aa,g1,gl,hk,hs];refine⟨by omega,hK _ k ⟨by simpa using h2,.inr ⟨by simp,by simpa using hk,eT,?_,?_⟩⟩ (.inl rfl) (aZ.set (S:=fun j=>j=id\/(A++[s]≠[]/\j=k)) (aZ.refl _ _) (.inl (.inr ⟨by simp,rfl⟩)) _) rfl rfl rfl⟩
   ·show Qh (m.boxes.set k _) id=_;rw[Zu _ eT,h1];simp
   show Qh (m.boxes.set k _) k=_;rw[Vn _ hk];exact hR1
  rw[if_neg hs]at hK;simp[EJ,EK,ant,YQ,h1,h2,hw,aa,g1,gl,hk,hs];have hRt:List.take ((A.length+1)*2) R=R:=zzam (by omega);have axI:¬R=[]:=by rintro rfl;simp at gl
  have hri:∀x,Qh (m.boxes.set k []++x) id=[AV.bs k 0 (A.length+1) 2]:=fun x=>by rw[Ql (by simpa using h2),Zu _ eT,h1]
  simp only[hRt,hri];refine⟨by omega,⟨⟨axI,by omega⟩,by simp at hl;omega⟩,⟨by simp,by omega⟩,?_⟩;refine hK _ m.boxes.length ⟨by simp;omega,.inr ⟨by simp,by simp,by omega,?_,?_⟩⟩ (.inr (zzab _)) ?_ rfl rfl rfl
  ·show Qh ((m.boxes.set k []).set id _++_) id=_;rw[Ql (by simpa using h2),Vn _ (by simpa using h2)];simp
  ·have:=Vi ((m.boxes.set k []).set id [.bs m.boxes.length 0 (A.length+1+1) 2]) [R++[I f,I t]] 0;simp only[zzcg]at this;rw[hR2];simpa using this
  exact((aZ.set (S:=fun j=>j=id\/(A++[s]≠[]/\j=k)) (aZ.refl _ _) (.inl (.inr ⟨by simp,rfl⟩)) _).set (.inl (.inl rfl)) _).app _
 have ha:nG L f t=L:=by simp[nG,Ti]
 rw[ha]at hK;have YQ:t<=f:=by omega
 simp[EJ,EK,YQ];exact hK m k ⟨h2,h3⟩ (.inl rfl) (aZ.refl _ _) rfl rfl rfl
open Go Go.Abs
def FO(L:List Sp)(f t:Int):(nG L f t).length<=L.length+1:=by
 unfold nG;split
 ·split
  ·rename_i s hs;split
   ·have:0<L.length:=by cases L with
     |nil=>simp at hs
     |cons=>simp
    simp<;>omega
   simp
  simp
 omega
def o6(sf st mid:Int):List Sp->List Sp->List Sp
 |[],L=>L
 |w::W,L=>o6 sf st mid W (nG L (max sf (mid+w.1)) (min st (mid+w.2)))
def FP(sf st mid:Int):∀(W L:List Sp),(o6 sf st mid W L).length<=L.length+W.length
 |[],L=>by simp[o6]
 |w::W,L=>by
  have h1:=FP sf st mid W (nG L (max sf (mid+w.1)) (min st (mid+w.2)));have h2:=FO L (max sf (mid+w.1)) (min st (mid+w.2));simp[o6];omega
def nH(W:List Sp)(sf st mid:Int)(L:List Sp):List Sp:=
 if mid<st then nH W sf st (mid+86400) (o6 sf st mid W L)else L
termination_by(st-mid).toNat
decreasing_by omega
def ri(m0:AM)(k0:Nat)(m:AM)(k:Nat)(L:List Sp):Prop:=
 iB m 4 k L/\(k=k0\/m0.boxes.length<=k)/\aZ (fun j=>j=4\/j=k0) m0.boxes m.boxes/\m.st=m0.st/\m.ln=m0.ln/\m.lens=m0.lens
def iB.app{m:AM}{id k:Nat}{L:List Sp}(h:iB m id k L)(x:List (List AV)):iB {m with boxes:=m.boxes++x} id k L:=by
 obtain⟨h1,h2⟩:=h;refine⟨by simp;omega,?_⟩;obtain⟨h2,h3⟩|⟨h2,h3,h4,h5,h6⟩:=h2
 ·exact .inl ⟨h2,by show Qh (m.boxes++x) id=_;rw[Ql h1];exact h3⟩
 exact .inr ⟨h2,by simp;omega,h4,by show Qh (m.boxes++x) id=_;rw[Ql h1];exact h5,by show Qh (m.boxes++x) k=_;rw[Ql h3];exact h6⟩
def ri.refl{m:AM}{k:Nat}{L:List Sp}(h:iB m 4 k L):ri m k m k L:=⟨h,.inl rfl,aZ.refl _ _,rfl,rfl,rfl⟩
def ri.app{m0 m:AM}{k0 k:Nat}{L:List Sp}(h:ri m0 k0 m k L)(x:List (List AV)):ri m0 k0 {m with boxes:=m.boxes++x} k L:=
 ⟨h.1.app x,h.2.1,h.2.2.1.app x,h.2.2.2⟩
def ri.step{m0 m m':AM}{k0 k k':Nat}{L L':List Sp}(h:ri m0 k0 m k L)(hO:iB m' 4 k' L')(hk:k'=k\/m.boxes.length<=k')(hK:aZ (fun j=>j=4\/(L≠[]/\j=k)) m.boxes m'.boxes)(h1:m'.st=m.st)(h2:m'.ln=m.ln)(h3:m'.lens=m.lens):ri m0 k0 m' k' L':=by
 obtain⟨a1,a2,a3,a4,a5,a6⟩:=h;refine⟨hO,?_,aZ.trans a3 (hK.mono ?_),by rw[h1,a4],by rw[h2,a5],by rw[h3,a6]⟩
 ·have:=a3.1;omega
 rintro i (rfl|⟨_,rfl⟩)
 ·exact .inl (.inl rfl)
 obtain a2|a2:=a2
 ·exact .inl (.inr a2)
 exact .inr a2
def Iw(s:Sp)(fr to:Int)(m:AM):Prop:=5<m.boxes.length/\Qh m.boxes 1=[I s.1,I s.2]/\Qh m.boxes 2=[I fr]/\Qh m.boxes 3=[I to]/\Qh m.boxes 5=[.fn 260 [] [.ptr 4 0]]
def Iw.keep{s:Sp}{fr to:Int}{m m':AM}(h:Iw s fr to m){S:Nat->Prop}(hK:aZ S m.boxes m'.boxes)(hS:∀j,S j->j=4\/6<=j):Iw s fr to m':=by
 obtain⟨h1,h2,h3,h4,h5⟩:=h;have q:∀j,j<6->j≠4->Qh m'.boxes j=Qh m.boxes j:=fun j hj h4=>hK.2 j (by omega) (fun h=>by have:=hS j h;omega);exact⟨zzbb h1 hK.1,by rw[q 1 (by omega) (by omega)];exact h2,by rw[q 2 (by omega) (by omega)];exact h3,by rw[q 3 (by omega) (by omega)];exact h4,by rw[q 5 (by omega) (by omega)];exact h5⟩
def Iw.day{s:Sp}{fr to:Int}{m0 m:AM}{k0 k:Nat}{L:List Sp}(h:Iw s fr to m0)(hD:ri m0 k0 m k L)(hk:k0=4\/6<=k0):Iw s fr to m:=
 h.keep hD.2.2.1 (by rintro j (h|h)<;>omega)
def Iw.app{s:Sp}{fr to:Int}{m:AM}(h:Iw s fr to m)(x:List (List AV)):Iw s fr to {m with boxes:=m.boxes++x}:=
 h.keep (S:=fun _=>False) ((aZ.refl _ _).app x) (fun _ h=>h.elim)
def YR(of:Int)(sh:List Sp)(fr to:Int):Nat->FuncId->List AV->AV:=fun d f l=>
 if f=999999 then .junk else
 if f=184 then .bool (Vy of sh)else
 if f=259 then(match l with|[.int _ n]=>.bool (decide (0<=n/\n<86400))|_=>.junk)else
 if f=261 then .fn 312 [] [.ep [I of,.sl .ro (sh.map Qe)] 0]else
 if f=262 then(match l with|[.int _ n]=>.aU [I (n/86400),I (n%86400)]|_=>.junk)else
 if f=263 then .sl .full ((zq fr to).map Qe)else .gd false .junk
def YS:SC:=(⟨_,by cbv⟩:tJ [1,0,1,1,1,1,1,0,1,0,1,0,1,1,1,1,1] zZ).1
def wP:SC->SC:=(⟨_,fun _=>by cbv⟩:Kt [1,0,1,1,1,1,1,0,1,0,1,0,1,1,1,1,1] zZ).1
theorem YU:zZ=wP YS:=rfl
def uv{fr to:Int}(h1:0<=fr/\fr<86400)(h2:0<=to/\to<86400):(zq fr to).length<=2/\∀w∈zq fr to,0<=w.1/\w.1<=86400/\0<=w.2/\w.2<=86400:=by
 unfold zq;split
 ·simp;omega
 split
 ·simp;omega
 simp
def afr(Y:YT)(of:Int)(sh:List Sp)(fr to:Int)(sE:0<=fr/\fr<86400)(hto:0<=to/\to<86400)(E:List (Nat×AV))(m:AM)(k0:Nat)(L0:List Sp)(sf st KX:Int)(Q:Exit->AS->Prop)
  (s:Sp)(h6:Abs.look E 6=.ptr 2 0)(h7:Abs.look E 7=.ptr 3 0)(kS:Abs.look E 10=.ptr 5 0)(qZ:Abs.look E 12=I sf)(eW:Abs.look E 13=I st)(zu:Abs.look E 16=I KX)
  (hf:Iw s fr to m)(hO:iB m 4 k0 L0)(hk:k0=4\/6<=k0)
  (hb: -100000000000<=KX/\KX<=100000000000/\st<=100000000000)(hl:L0.length+2*((st-KX)/86400+1).toNat<=100000)
  (hQ:∀T m' k',ri m k0 m' k' (nH (zq fr to) sf st KX L0)->Q .normal ⟨T,m'⟩):
  vc Tryz.prog aq (YR of sh fr to) Y YS ⟨Zb 111 E,m⟩ Q:=by
 obtain⟨FK,hWb⟩:=uv sE hto;have axJ:=CR fr to;simp[YS];refine Qi JL (fun f mm=>∃(mid:Int)(k:Nat)(L:List Sp),f 16=I mid/\ri m k0 mm k L/\ -100000000000<=mid/\mid<=100000086400/\L.length+2*((st-mid)/86400+1).toNat<=100000/\nH (zq fr to) sf st mid L=nH (zq fr to) sf st KX L0) (fun f _=>(st-numOf (f 16)).toNat) ?_ ?_
 ·exact⟨KX,k0,L0,by simp[zu],ri.refl hO,by omega,by omega,hl,rfl⟩
 rintro f mm ⟨mid,k,L,hm16,hD,b1,b2,b3,hR⟩;by_cases ai:mid<st
 ·have axK:IntKind.i64.wrap (mid+86400)=mid+86400:=by rw[Qk]<;>omega
  rw[nH,if_pos ai]at hR;obtain⟨f0,f1,f2,f3,f5⟩:=hf.day hD hk;generalize hWe:zq fr to=W at*
  simp[hm16,h6,h7,eW,JL,ai,YR,hWe,f2,f3];refine⟨axJ,?_⟩;refine Qi JM (fun f' m'=>∃(i k':Nat)(L':List Sp),f' 91=I i/\i<=W.length/\ri m k0 m' k' L'/\L'.length<=L.length+i/\o6 sf st mid (W.drop i) L'=o6 sf st mid W L) (fun f' _=>W.length-(numOf (f' 91)).toNat) ?_ ?_
  ·exact⟨0,k,L,by simp,by omega,hD,by omega,rfl⟩
  rintro f' m' ⟨i,k',L',h91,hi,hD',tK,hR'⟩;obtain⟨g0,g1,g2,g3,g5⟩:=hf.day hD' hk;rcases zzaa i W.length with hiw|bw
  ·obtain⟨w,hw⟩:=aP hiw;have Om:=Zd hw;obtain⟨c1,c2,c3,c4⟩:=hWb w (zzac hw);have ah:(i:Int)<(W.length:Int):=by omega
   have On:=bH i (by omega);have eO:IntKind.i64.wrap (mid+w.1)=mid+w.1:=by rw[Qk]<;>omega
   have eC:IntKind.i64.wrap (mid+w.2)=mid+w.2:=by rw[Qk]<;>omega
   have hd:W.drop i=w::W.drop (i+1):=by rw[zzaf hiw,(zza.1 hw).2]
   rw[hd,o6]at hR';have lI:∀x,Qh (m'.boxes++x) 5=[.fn 260 [] [.ptr 4 0]]:=fun x=>by rw[Ql g0];exact g5
   have uq:∀x,Qh (m'.boxes++[x]) m'.boxes.length=x:=fun x=>by
    simp
   have Tj:(if sf<mid+w.1 then mid+w.1 else sf)=max sf (mid+w.1):=by omega
   have Ra:(if mid+w.2<st then mid+w.2 else st)=min st (mid+w.2):=by omega
   have axL:=fun K hK=>YP Y (max sf (mid+w.1)) (min st (mid+w.2)) 4 k' L' {m' with boxes:=m'.boxes++[[I w.1,I w.2]]} (hD'.1.app _) (by omega) K hK;simp[h91,ah,Om,JM,kS,qZ,eW,lI,uq,eO,eC,Tj,Ra,On,YR];refine axL _ fun m2 k2 e1 e2 e3 e4 e5 e6=>?_;have hD2:=(hD'.app [[I w.1,I w.2]]).step e1 e2 e3 e4 e5 e6;have:=FO L' (max sf (mid+w.1)) (min st (mid+w.2));refine⟨aN,⟨i+1,by omega,by omega,k2,_,hD2,by omega,hR'⟩,by omega⟩
  obtain rfl:i=W.length:=by omega
  rw[zzbo,o6]at hR';rw[<- hR']at hR;simp[h91,JM,hm16,axK];refine⟨aN,⟨k',L',hD',by omega,by omega,by omega,hR⟩,by omega⟩
 have hR0:=hR;rw[nH,if_neg ai]at hR;simp[hm16,eW,JL,ai];exact hQ _ _ k (by rw[<- hR];exact hD)
open Go Go.Abs
def stL(s:Sp)(W:List Sp)(x:Int×Int×Int)(L:List Sp):List Sp:=
 if min x.2.1 s.2<=max x.1 s.1 then L else nH W (max x.1 s.1) (min x.2.1 s.2) ((max x.1 s.1+x.2.2)/86400*86400-x.2.2) L
def tM(s:Sp)(W:List Sp):List (Int×Int×Int)->List Sp->List Sp
 |[],L=>L
 |x::r,L=>if s.2<=x.1 then L else tM s W r (stL s W x L)
def zw(n:Int):Bool:=decide (0<=n/\n<86400)
def wQ(of:Int)(sh:List Sp)(s:Sp)(fr to:Int):Bool:=Vy of sh&&zw fr&&zw to&&decide (s.1<s.2/\s.2-s.1<=1000000)
def iC(of:Int)(sh:List Sp)(s:Sp)(fr to:Int):List Sp:=if wQ of sh s fr to then tM s (zq fr to) (ur 0 of sh) []else[]
def afs(x:Int×Int×Int):Prop:=0<=x.1/\x.1<=10000000000/\x.2.1<=10000000001/\ -50400<=x.2.2/\x.2.2<=50400
def CS:∀(sh:List Sp)(f o last:Int),0<=f->f<=10000000000-> -1<=last-> -50400<=o->o<=50400->tN last sh=true->(∀x∈ur f o sh,afs x)
 |[],f,o,last,h1,h2,_,h3,h4,_=>by simp[ur,afs];omega
 |s::r,f,o,last,h1,h2,hla,h3,h4,ha=>by
  rw[tN]at ha;split at ha
  ·cases ha
  rename_i hn;simp only[not_or,zzgf,gQ,decide_eq_true_eq]at hn;have ih:=CS r s.1 s.2 s.1 (by omega) (by omega) (by omega) (by omega) (by omega) ha;intro x hx;rw[ur,zzap]at hx;obtain hx|hx:=hx
  ·split at hx
   ·simp at hx;subst hx;simp[afs];omega
   simp at hx
  exact ih x hx
def wR:∀(sh:List Sp)(f o:Int),(ur f o sh).length<=sh.length+1
 |[],f,o=>by simp[ur]
 |s::r,f,o=>by
  have:=wR r s.1 s.2;rw[ur];split<;>simp<;>omega
def FQ(W:List Sp)(hW:W.length<=2)(sf st:Int):∀(n:Nat)(mid:Int)(L:List Sp),(st-mid).toNat<=n->(nH W sf st mid L).length<=L.length+2*((st-mid)/86400+1).toNat:=by
 intro n;induction n with
 |zero=>intro mid L h;rw[nH,if_neg (by omega)];omega
 |succ n ih=>
  intro mid L h;rw[nH];split
  ·have:=ih (mid+86400) (o6 sf st mid W L) (by omega);have:=FP sf st mid W L;omega
  omega
def aft(R:List Sp)(s:Sp)(fr to:Int)(xs:List (Int×Int×Int))(O:Nat->Prop)(i:Nat)(m:AM):Prop:=
 ∃k L,iB m 4 k L/\(k=4\/6<=k)/\¬O k/\k<m.boxes.length/\(∀j,O j->6<=j)/\Iw s fr to m/\L.length<=40*i/\tM s (zq fr to) (xs.drop i) L=R
def afu(R:List Sp)(O:Nat->Prop)(ex:Exit)(m:AM):Prop:=ex=.exit 0/\∃k,iB m 4 k R/\¬O k/\(∀j,O j->6<=j)
def iB.cg{m m':AM}{id k:Nat}{L:List Sp}(h:iB m id k L)(e:m'.boxes=m.boxes):iB m' id k L:=by unfold iB at*;rw[e];exact h
def Iw.cg{s:Sp}{fr to:Int}{m m':AM}(h:Iw s fr to m)(e:m'.boxes=m.boxes):Iw s fr to m':=by unfold Iw at*;rw[e];exact h
def iB.YV{O:Nat->Prop}{m m':AM}{k:Nat}{L:List Sp}(h:iB m 4 k L)(e:bM O m m')(h0:¬O 4)(hk:¬O k):iB m' 4 k L:=by
 obtain⟨h1,h2⟩:=h;refine⟨zzbb h1 e.1,?_⟩;obtain⟨h2,h3⟩|⟨h2,h3,h4,h5,h6⟩:=h2
 ·exact .inl ⟨h2,by rw[e.2.1 4 h1 h0];exact h3⟩
 exact .inr ⟨h2,zzbb h3 e.1,h4,by rw[e.2.1 4 h1 h0];exact h5,by rw[e.2.1 k h3 hk];exact h6⟩
def aft.ext{R:List Sp}{s:Sp}{fr to:Int}{xs:List (Int×Int×Int)}{O:Nat->Prop}{i:Nat}{m m':AM}(h:aft R s fr to xs O i m)(e:bM O m m'):aft R s fr to xs (OU O m.boxes.length m'.boxes.length) i m':=by
 obtain⟨k,L,h1,h2,h3,h4,h5,h6,h8,h9⟩:=h;refine⟨k,L,h1.YV e (fun h=>by have:=h5 4 h;omega) h3,h2,?_,zzbb h4 e.1,?_,h6.keep (S:=O) ⟨e.1,e.2.1⟩ (fun j h=>.inr (h5 j h)),h8,h9⟩
 ·rintro(h|h)
  ·exact h3 h
  omega
 have:=h6.1;rintro j (h|h)
 ·exact h5 j h
 omega
def afu.ext{R:List Sp}{O:Nat->Prop}{ex:Exit}{m m':AM}(h:afu R O ex m)(e:bM O m m'):afu R O ex m':=by
 obtain⟨h0,k,h1,h3,h5⟩:=h;exact⟨h0,k,h1.YV e (fun h=>by have:=h5 4 h;omega) h3,h3,h5⟩
def wU(of:Int)(sh:List Sp)(s:Sp)(fr to:Int)(gH:sh.length<=1000000000)(h1: -9223372036854775808<=s.1/\s.1<=9223372036854775807)(h2: -9223372036854775808<=s.2/\s.2<=9223372036854775807):
  Pure Tryz.prog aq 189 [.agg [I of,.sl .ro (sh.map Qe)],.agg [I s.1,I s.2],I fr,I to] (if iC of sh s fr to=[]then .sl .nil []else .sl .ro ((iC of sh s fr to).map Qe)):=by
 have Rb:=jt of sh gH;have KY:=wL fr;have AW:=wL to;have as7:=wM of sh;refine Qn adr (YR of sh fr to) (by simp) ?_;rw[YU];generalize hR:iC of sh s fr to=R;by_cases hv:Vy of sh=true
 ·rw[hv]at Rb;by_cases hf:0<=fr/\fr<86400
  ·rw[decide_eq_true hf]at KY;by_cases ht:0<=to/\to<86400
   ·rw[decide_eq_true ht]at AW;by_cases ai:s.1<s.2
    ·have bX:¬s.2<=s.1:=by omega
     have hu:IntKind.u64.wrap (IntKind.u64.wrap s.2-IntKind.u64.wrap s.1)=s.2-s.1:=by
      have q:∀z:Int,IntKind.u64.wrap z=z%18446744073709551616:=fun z=>by simp[IntKind.wrap,IntKind.bits,IntKind.signed]
      rw[q,q,q];omega
     by_cases hm:s.2-s.1<=1000000
     ·have AA:¬1000000<s.2-s.1:=by omega
      simp[wP,YR,hv,hf,ht,bX,hu,AA];refine⟨Rb,KY,AW,as7,?_⟩;have cH:=wN of sh gH;have hz:sh.length<=40/\gQ of=true/\tN (-1) sh=true:=by simpa[Vy,and_assoc]using hv
      have hof: -50400<=of/\of<=50400:=by simpa[gQ]using hz.2.1
      have bT:=CS sh 0 of (-1) (by decide) (by decide) (by decide) hof.1 hof.2 hz.2.2;have hxl:=wR sh 0 of;have hRc:tM s (zq fr to) (ur 0 of sh) []=R:=by rw[<- hR,iC,if_pos (by simp[wQ,hv,zw,hf,ht,ai,hm])]
      clear Rb KY AW as7 hu;generalize hX:ur 0 of sh=xs at*
      refine rj (xs:=xs.map AU) (by simp) cH (by intro x hx;simp at hx;obtain⟨a,b,c,_,rfl⟩:=hx;rfl) (aft R s fr to xs) (afu R) ?_ (fun _ _ _ _ h e=>h.ext e) (fun _ _ _ _ h e=>h.ext e) ?_ ?_ ?_
      ·refine⟨4,[],⟨by simp,.inl ⟨rfl,by simp⟩⟩,.inl rfl,id,by simp,fun _ h=>h.elim,⟨by simp,by simp,by simp,by simp,by simp⟩,by simp,by simpa using hRc⟩
      ·rintro O l i m x hO hle0 hg0 gG ⟨k,L,i1,i2,i3,i4,i5,i6,i8,i9⟩ hx K' q1 q2 q3;rw[zzbl,zzcd]at hx;obtain⟨⟨a,b,o⟩,hx,rfl⟩:=hx;obtain⟨o1,o2,o3,o4,o5⟩:=bT _ (zzac hx);simp only at o1 o2 o3 o4 o5;have gL:i<xs.length:=(zza.1 hx).1;have hd:xs.drop i=(a,b,o)::xs.drop (i+1):=by rw[zzaf gL,(zza.1 hx).2]
       rw[hd,tM]at i9;simp only[Uc]at i4;have hf6:=i6;obtain⟨f0,f1,f2,f3,f5⟩:=i6;have hOl:∀j,O j->j<m.boxes.length:=fun j h=>(hO j h).2;have azo:xs.length<=41:=by omega
       clear hO hle0 hg0 cH hR hX;simp only[Uc]at f0 f1 f2 f3 f5;have lI:∀x,Qh (m.boxes++x) 1=[I s.1,I s.2]:=fun x=>by rw[Ql (by omega)];exact f1
       have uq:∀x,Qh (m.boxes++[x]) m.boxes.length=x:=fun x=>by
        simp
       by_cases hc:s.2<=a
       ·rw[if_pos hc]at i9;simp[gG,Zi,AU,lI,uq,hc];subst i9;refine q3 0 _ (by simp) ⟨rfl,k,?_,i3,i5⟩;exact(i1.app [[I a,I b,I o]]).cg (by simp)
       rw[if_neg hc]at i9;have Tj:(if a<s.1 then s.1 else a)=max a s.1:=by omega
       have Ra:(if s.2<b then s.2 else b)=min b s.2:=by omega
       by_cases he:min b s.2<=max a s.1
       ·rw[stL,if_pos he]at i9;simp[gG,Zi,AU,lI,uq,hc,Tj,Ra,he];refine q1 _ ⟨by simp,fun j hj=>Ql (hOl j hj)⟩ ⟨k,L,(i1.app [[I a,I b,I o]]).cg (by simp),i2,i3,by simp;omega,i5,(hf6.app [[I a,I b,I o]]).cg (by simp),by omega,i9⟩
       rw[stL,if_neg he]at i9;have hw0:IntKind.i64.wrap (max a s.1+o)=max a s.1+o:=by rw[Qk]<;>omega
       have hdv:=FM (max a s.1+o) (by omega);have eO:IntKind.i64.wrap ((max a s.1+o)/86400*86400)=(max a s.1+o)/86400*86400:=by rw[Qk]<;>omega
       have eC:IntKind.i64.wrap ((max a s.1+o)/86400*86400-o)=(max a s.1+o)/86400*86400-o:=by rw[Qk]<;>omega
       simp[gG,Zi,AU,lI,uq,hc,Tj,Ra,he,hw0,eO,eC,YR];refine⟨hdv,?_⟩;refine afr Y0 of sh fr to hf ht _ _ k L (max a s.1) (min b s.2) ((max a s.1+o)/86400*86400-o) _ s (by simp) (by simp) (by simp) (by simp) (by simp) (by simp) ((hf6.app [[I a,I b,I o]]).cg (by simp)) ((i1.app [[I a,I b,I o]]).cg (by simp)) i2 (by omega) (by omega) ?_;intro T m' k' hD;have aI:m.boxes.length+1<=m'.boxes.length:=by have:=hD.2.2.1.1;simpa using this
       have tK:=FQ (zq fr to) (uv hf ht).1 (max a s.1) (min b s.2) _ ((max a s.1+o)/86400*86400-o) L (zzab _);have hFx:=Iw.day (s:=s) (fr:=fr) (to:=to) ((hf6.app [[I a,I b,I o]]).cg (by simp)) hD i2;have y9:k'=k\/m.boxes.length+1<=k':=by have:=hD.2.1;simpa using this
       have hS:AX O m m':=⟨by omega,fun j hj=>by
        have:=hD.2.2.1.2 j (by simp;have:=hOl j hj;omega) (by rintro(rfl|rfl);have:=i5 4 hj;omega;exact i3 hj);rw[this];exact Ql (hOl j hj)⟩
       simp;refine q1 ⟨T,m'⟩ hS ?_;by_cases hLe:nH (zq fr to) (max a s.1) (min b s.2) ((max a s.1+o)/86400*86400-o) L=[]
       ·rw[hLe]at i9 hD;refine⟨4,[],⟨hD.1.1,?_⟩,.inl rfl,(fun h=>by have:=i5 4 h;omega),(by show 4<m'.boxes.length;omega),i5,hFx,by simp,i9⟩;rcases hD.1.2 with h|h
        ·exact .inl h
        exact absurd rfl h.1
       have zj:k'<m'.boxes.length:=by
        rcases hD.1.2 with h|h
        ·exact absurd h.1 hLe
        exact h.2.1
       refine⟨k',_,hD.1,by omega,?_,zj,i5,hFx,by omega,i9⟩;obtain rfl|y9:=y9
       ·exact i3
       intro h;have:=hOl k' h;omega
      ·rintro O m ⟨k,L,i1,i2,i3,i4,i5,i6,i8,i9⟩;rw[zzbg,zzbo,tM]at i9;subst i9;rcases i1.2 with⟨hL0,h⟩|⟨aJ,h2,h3,h4,h5⟩
       ·simp[h,lX,hL0]
       have fG:=Zk m 4 (CT L);have jg:=Qds L;have gr:=Vv L;simp[h4,lX,aJ,h5,fG,jg,gr]
      rintro O ex m ⟨rfl,k,i1,i3,i5⟩;rcases i1.2 with⟨hL0,h⟩|⟨aJ,h2,h3,h4,h5⟩
      ·simp[h,lX,hL0]
      have fG:=Zk m 4 (CT R);have jg:=Qds R;have gr:=Vv R;simp[h4,lX,aJ,h5,fG,jg,gr]
     have hR0:R=[]:=by rw[<- hR,iC,if_neg (by simp[wQ];omega)]
     have AA:1000000<s.2-s.1:=by omega
     simp[wP,YR,hv,hf,ht,bX,hu,AA,lX,hR0,Rb,KY,AW]
    have hR0:R=[]:=by rw[<- hR,iC,if_neg (by simp[wQ];omega)]
    have bX:s.2<=s.1:=by omega
    simp[wP,YR,hv,hf,ht,bX,lX,hR0,Rb,KY,AW]
   have hR0:R=[]:=by rw[<- hR,iC,if_neg (by simp[wQ,zw];omega)]
   simp[wP,YR,hv,hf,ht,lX,hR0,Rb,KY];simpa[ht]using AW
  have hR0:R=[]:=by rw[<- hR,iC,if_neg (by simp[wQ,zw];omega)]
  simp[wP,YR,hv,hf,lX,hR0,Rb];simpa[hf]using KY
 have hR0:R=[]:=by rw[<- hR,iC,if_neg (by simp[wQ,hv])]
 simp[wP,YR,hv,lX,hR0];simpa[hv]using Rb
def zx(of:Int)(sh:List Sp)(s:Sp)(fr to:Int)(gH:sh.length<=1000000000)(h1: -9223372036854775808<=s.1/\s.1<=9223372036854775807)(h2: -9223372036854775808<=s.2/\s.2<=9223372036854775807):
  Pure Tryz.prog aq 189 [.agg [I of,.sl .ro (sh.map Qe)],.agg [I s.1,I s.2],I fr,I to] (.sl .ro ((iC of sh s fr to).map Qe)):=by
 have h:=wU of sh s fr to gH h1 h2;by_cases hn:iC of sh s fr to=[]
 ·rw[if_pos hn]at h;rw[hn];exact Qz h (Wk.sl _ _)
 rw[if_neg hn]at h;exact h
def FR(s:Sp)(W:List Sp)(hW:W.length<=2)(hs:s.2-s.1<=1000000):∀(xs:List (Int×Int×Int))(L:List Sp),(∀x∈xs,afs x)->(tM s W xs L).length<=L.length+40*xs.length
 |[],L,_=>by simp[tM]
 |x::r,L,h=>by
  rw[tM];split
  ·omega
  have ih:=FR s W hW hs r (stL s W x L) (fun y hy=>h y (by simp[hy]));obtain⟨o1,o2,o3,o4,o5⟩:=h x (by simp)
  have:(stL s W x L).length<=L.length+40:=by
   unfold stL;split
   ·omega
   have:=FQ W hW (max x.1 s.1) (min x.2.1 s.2) _ ((max x.1 s.1+x.2.2)/86400*86400-x.2.2) L (zzab _);omega
  simp only[zzbd];omega
def YW(of:Int)(sh:List Sp)(s:Sp)(fr to:Int):(iC of sh s fr to).length<=2000:=by
 unfold iC;split
 ·rename_i h;simp only[wQ,Vy,zw,gQ,zzak,decide_eq_true_eq]at h;obtain⟨⟨⟨⟨⟨a1,a2⟩,a3⟩,a4⟩,a5⟩,a6,a7⟩:=h;have h1:=FR s (zq fr to) (uv a4 a5).1 a7 (ur 0 of sh) [] (CS sh 0 of (-1) (by decide) (by decide) (by decide) a2.1 a2.2 a3);have h2:=wR sh 0 of;simp at h1;omega
 simp
end
end Go.Proofs.YtnopaopphmjnmaaGreatDoor
