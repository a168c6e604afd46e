import Derived.Test.YtnopaopphmjnmaaGreatDoorMLSpG
set_option linter.all false
set_option maxRecDepth 100000
set_option maxHeartbeats 64000000
namespace Go.Proofs.YtnopaopphmjnmaaGreatDoor
noncomputable section
open Go Go.Abs
def w9(n:Int):Pure Tryz.prog az 259 [I n] (.bool (decide (0<=n/\n<86400))):=by
 refine Qn adR (fun _ _ _=>.junk) (by simp) ?_;by_cases h1:0<=n<;>by_cases h2:n<86400<;>simp[aiD,aiE,h1,h2]
def FK(n:Int)(h: -100000000000<=n/\n<=100000000000):Pure Tryz.prog az 262 [I n] (.aW [I (n/86400),I (n%86400)]):=by
 refine Qn adU (fun _ _ _=>.junk) (by simp) ?_
 have ht:n.tdiv 86400=if 0<=n\/n%86400=0 then n/86400 else n/86400+1:=by
  by_cases h0:0<=n
  ·rw[if_pos (.inl h0),zzco h0]
  rw[Int.tdiv_eq_ediv];by_cases h1:n%86400=0
  ·rw[if_pos (.inr (Int.dvd_of_emod_eq_zero h1)),if_pos (.inr h1)];simp
  rw[if_neg (by rintro(h|h);exact h0 h;exact h1 (Int.emod_eq_zero_of_dvd h)),if_neg (by rintro(h|h);exact h0 h;exact h1 h)];rfl
 have hm:n.tmod 86400=n-n.tdiv 86400*86400:=by have:=Int.mul_tdiv_add_tmod n 86400;omega
 have w1:IntKind.i64.wrap (n.tdiv 86400)=n.tdiv 86400:=by rw[ht];split<;>rw[Qk]<;>omega
 by_cases CF:n.tmod 86400<0
 ·have e1:n.tdiv 86400=n/86400+1:=by
   rw[ht]at hm |-
   split
   ·rename_i hc;rw[if_pos hc]at hm;omega
   rfl
  have w2:IntKind.i64.wrap (n/86400+1)=n/86400+1:=by rw[Qk]<;>omega
  have w3:IntKind.i64.wrap (n/86400)=n/86400:=by rw[Qk]<;>omega
  have e2:n.tmod 86400=n%86400-86400:=by rw[hm,e1];omega
  have w4:IntKind.i64.wrap (n%86400)=n%86400:=by rw[Qk]<;>omega
  have qL:n%86400<86400:=by omega
  have hn3:¬86400<=n%86400:=by omega
  simp[U9,Vc,e1,e2,w2,w3,w4,qL,hn3]
 have e1:n.tdiv 86400=n/86400:=by
  rw[ht]at hm |-
  split
  ·rfl
  rename_i hc;rw[if_neg hc]at hm;omega
 have e2:n.tmod 86400=n%86400:=by rw[hm,e1];omega
 have w3:IntKind.i64.wrap (n/86400)=n/86400:=by rw[Qk]<;>omega
 have qL:¬n%86400<0:=by omega
 simp[U9,Vc,e1,e2,w3,qL]
def zD(fr to:Int):List Sp:=if fr<to then[(fr,to)]else if to<fr then[(0,to),(fr,86400)]else[(0,86400)]
def C0(fr to:Int):Pure Tryz.prog az 263 [I fr,I to] (.sl .full ((zD fr to).map Qe)):=by
 refine Qn adV (fun _ _ _=>.junk) (by simp) ?_;by_cases h1:fr<to
 ·simp[Nz,NA,h1,zD,Qe]
 by_cases h2:to<fr
 ·simp[Nz,NA,h1,h2,zD,Qe]
 simp[Nz,NA,h1,h2,zD,Qe]
def uA:Int->Int->List Sp->List (Int×Int×Int)
 |f,o,[]=>[(f,10000000001,o)]
 |f,o,s::r=>(if f<s.1 then[(f,s.1,o)]else[])++uA s.1 s.2 r
def A0(x:Int×Int×Int):List AV:=[.agg [I x.1,I x.2.1,I x.2.2]]
def xb(of:Int)(sh:List Sp):Pure Tryz.prog az 261 [.agg [I of,.sl .ro (sh.map Qe)]] (.fn 312 [] [.ep [I of,.sl .ro (sh.map Qe)] 0]):=by
 refine Qn adT (fun _ _ _=>.junk) (by simp) ?_;simp[aiF,aiG]
def bN.put{O:Nat->Prop}{m:AM}{b:Nat}(hb:O b)(v:List AV)(x:List (List AV)):bN O m {m with boxes:=m.boxes.set b v++x}:=
 ⟨by simp,fun j hj ho=>by show Qh (m.boxes.set b v++x) j=_;rw[Ql (by simpa using hj),Zy v (by rintro rfl;exact ho hb)],⟨[],by simp⟩,fun _ _=>rfl⟩
def bN.ar6{O:Nat->Prop}{m:AM}{b:Nat}(hb:O b)(v:List AV):bN O m {m with boxes:=m.boxes.set b v}:=
 ⟨by simp,fun j hj ho=>by show Qh (m.boxes.set b v) j=_;rw[Zy v (by rintro rfl;exact ho hb)],⟨[],by simp⟩,fun _ _=>rfl⟩
def xd(of:Int)(sh:List Sp)(hl:sh.length<=1000000000):YD Tryz.prog az 312 [] [.ep [I of,.sl .ro (sh.map Qe)] 0] ((uA 0 of sh).map A0):=by
 intro Y l m K hF;refine Xe aef (fun _ _ _=>.junk) (by simp) ?_;simp[VJ];obtain⟨b,hbe⟩:∃b,m.boxes.length=b:=⟨_,rfl⟩;refine Qi Cj (fun f mm=>∃(i:Nat)(fr t o:Int)(O:Nat->Prop),f 12=I i/\i<=sh.length/\b<mm.boxes.length/\Qh mm.boxes b=[I fr,I t,I o]/\O b/\jx (Y l) K ((uA fr o (sh.drop i)).map A0) O mm) (fun f _=>sh.length-(numOf (f 12)).toNat) ?_ ?_
 ·refine⟨0,0,0,of,OU (fun _=>False) m.boxes.length (m.boxes.length+1),by simp,by omega,by simp[hbe],by simp[<- hbe],.inr ⟨by omega,by omega⟩,?_⟩;have:=hF.ext ((fF.box m [[I 0,I 0,I of]]).toO _);simpa using this
 rintro f mm ⟨i,fr,t,o,O,qt,hi,hlm,ah,tO,hF⟩;rcases zzaa i sh.length with ai|bu
 ·obtain⟨s,hs⟩:=aS ai;have sF:=Zc hs;have aa:(i:Int)<(sh.length:Int):=by omega
  have hw:=bJ i (by omega);have hd:sh.drop i=s::sh.drop (i+1):=by rw[zzaf ai,(zza.1 hs).2]
  rw[hd,uA]at hF;have gI:∀x,Qh (mm.boxes++x) b=[I fr,I t,I o]:=fun x=>by rw[Ql hlm];exact ah
  have lV:∀x y,(mm.boxes++x).set b y=mm.boxes.set b y++x:=fun x y=>Yk y hlm;have ow:∀y x,Qh (mm.boxes.set b y++x) b=y:=fun y x=>by rw[Ql (by simpa using hlm),Vp _ hlm]
  have fB:∀y x,Qh (mm.boxes.set b y++[x]) mm.boxes.length=x:=fun y x=>by
   have:=Vj (mm.boxes.set b y) [x] 0;rw[zzci]at this;simpa using this
  have hsc:∀y x z,(mm.boxes.set b y++x).set b z=mm.boxes.set b z++x:=fun y x z=>by rw[Yk z (by simpa using hlm),List.set_set]
  by_cases Tm:fr<s.1
  ·rw[if_pos Tm]at hF;simp only[zzdy,zzaz]at hF;simp[qt,ai,aa,sF,gI,lV,ow,fB,Cj,hbe,Tm,hlm];refine⟨by omega,hF _ (bN.put tO _ _) _ (fun m2 wY qs=>?_) (fun m2 hK=>?_)⟩
   ·have ayh:mm.boxes.length+1<=m2.boxes.length:=by have:=wY.1;simpa using this
    have q1:Qh m2.boxes b=[I fr,I s.1,I o]:=by rw[wY.2 b (.inl tO)];exact ow _ _
    have q2:Qh m2.boxes mm.boxes.length=[I s.1,I s.2]:=by
     rw[wY.2 mm.boxes.length (.inr ⟨zzab _,by simp⟩)];exact fB _ _
    have mM:b<m2.boxes.length:=by omega
    have ar7:OU O mm.boxes.length (mm.boxes.length+1) b:=.inl tO;simp at qs;have q3:∀y,Qh (m2.boxes.set b y) b=y:=fun y=>Vp _ mM;simp[q1,q2,q3,mM,hw];refine⟨aO,⟨i+1,by simp,by omega,s.1,0,s.2,⟨rfl,rfl,rfl⟩,_,.inl ar7,qs.ext (bN.ar6 ar7 _)⟩,by omega⟩
   simp[NJ];exact hK _ (bN.refl _ _)
  rw[if_neg Tm]at hF;simp only[zzai]at hF;simp[qt,ai,aa,sF,gI,lV,ow,fB,hsc,Cj,hbe,Tm,hlm,hw];refine⟨by omega,aO,⟨i+1,by simp,by omega,by omega,s.1,0,s.2,⟨rfl,rfl,rfl⟩,_,.inl tO,hF.ext (bN.put tO _ _)⟩,by omega⟩
 obtain rfl:i=sh.length:=by omega
 rw[zzbo,uA]at hF;simp only[zzaz,zzcf]at hF;simp[qt,Cj,hbe,ah,hlm,Vp _ hlm];refine hF _ (bN.ar6 tO _) _ (fun m2 _ qs=>?_) (fun m2 hK=>?_)
 ·simp[NJ];exact qs _ (bN.refl _ _)
 simp[NJ];exact hK _ (bN.refl _ _)
open Go Go.Abs
def nM(L:List Sp)(f t:Int):List Sp:=
 if f<t then(match L.getLast? with|some s=>if s.2=f then L.dropLast++[(s.1,t)]else L++[(f,t)]|none=>[(f,t)])else L
def iz(m:AM)(id k:Nat)(L:List Sp):Prop:=id<m.boxes.length/\((L=[]/\Qh m.boxes id=[.sl .nil []])\/(L≠[]/\k<m.boxes.length/\k≠id/\Qh m.boxes id=[.bs k 0 L.length 2]/\Qh m.boxes k=cC L))
def ae5:Nat->FuncId->List AV->AV:=fun d f _=>if f=999999 then(if d=34 then .aJ 0 []else .junk)else .junk
def YF(Y:YT)(f t:Int)(id k:Nat)(L:List Sp)(m:AM)(hO:iz m id k L)(hl:L.length<=1000000000)(K:AV->AM->Prop)
  (hK:∀m' k',iz m' id k' (nM L f t)->(k'=k\/m.boxes.length<=k')->bn (fun j=>j=id\/(L≠[]/\j=k)) m.boxes m'.boxes->m'.st=m.st->m'.ln=m.ln->m'.lens=m.lens->K (.aW []) m'):an Tryz.prog az Y 260 [I f,I t,.ptr id 0] m K:=by
 obtain⟨h2,h3⟩:=hO;refine Xe adS ae5 (by simp) ?_;have gI:∀x,Qh (m.boxes++x) id=Qh m.boxes id:=fun x=>Ql h2;have lV:∀x y,(m.boxes++x).set id y=m.boxes.set id y++x:=fun x y=>Yk y h2;by_cases IB:f<t
 ·have YG:¬t<=f:=by omega
  obtain⟨rfl,h1⟩|⟨aK,hk,fR,h1,ah⟩:=h3
  ·have ha:nM [] f t=[(f,t)]:=by simp[nM,IB]
   rw[ha]at hK;simp[EJ,EK,ae5,IB,YG,h1,h2,gI,lV];refine⟨by omega,hK _ m.boxes.length ⟨by simp;omega,.inr ⟨by simp,by simp,by omega,?_,?_⟩⟩ (.inr (zzab _)) ((bn.set (S:=fun j=>j=id\/(([]:List Sp)≠[]/\j=k)) (bn.refl _ _) (.inl (.inl rfl)) _).app _) rfl rfl rfl⟩
   ·simp only[zzdz];rw[Ql (by simpa using h2),Vp _ h2]
   have:=Vj (m.boxes.set id [.bs m.boxes.length 0 1 2]) [[I f,I t]] 0;rw[zzci]at this;simpa using this
  obtain⟨A,s,rfl⟩:∃A s,L=A++[s]:=⟨L.dropLast,L.getLast aK,(zzeq aK).symm⟩;have ha:nM (A++[s]) f t=if s.2=f then A++[(s.1,t)]else A++[s]++[(f,t)]:=by simp[nM,IB]
  rw[ha]at hK;have hw:IntKind.i64.wrap (A.length:Int)=(A.length:Int):=by simp at hl;rw[Qk]<;>omega
  have hg:(A++[s])[A.length]?=some s:=by simp
  have g0:=uB hg;have g1:=FL hg;have dg:(A++[s]).length=A.length+1:=by simp
  rw[dg]at h1;have gl:(cC (A++[s])).length=A.length*2+2:=by rw[Vy,dg];omega
  have hR2:cC (A++[s]++[(f,t)])=cC (A++[s])++[I f,I t]:=by rw[Qcd];rfl
  have hR1:(cC (A++[s])).set (A.length*2+1) (I t)=cC (A++[(s.1,t)]):=by rw[xe _ _ s _ hg];simp
  have hrk:∀x,Qh (m.boxes++x) k=cC (A++[s]):=fun x=>by rw[Ql hk];exact ah
  have hsk:∀x y,(m.boxes++x).set k y=m.boxes.set k y++x:=fun x y=>Yk y hk;generalize hR:cC (A++[s])=R at*
  by_cases hs:s.2=f
  ·rw[if_pos hs]at hK;simp[EJ,EK,ae5,IB,YG,h1,h2,hw,ah,g0,g1,gl,gI,lV,hrk,hsk,hk,hs];refine⟨by omega,hK _ k ⟨by simpa using h2,.inr ⟨by simp,by simpa using hk,fR,?_,?_⟩⟩ (.inl rfl) (bn.set (S:=fun j=>j=id\/(A++[s]≠[]/\j=k)) (bn.refl _ _) (.inl (.inr ⟨by simp,rfl⟩)) _) rfl rfl rfl⟩
   ·show Qh (m.boxes.set k _) id=_;rw[Zy _ fR,h1];simp
   show Qh (m.boxes.set k _) k=_;rw[Vp _ hk];exact hR1
  rw[if_neg hs]at hK;simp[EJ,EK,ae5,IB,YG,h1,h2,hw,ah,g0,g1,gl,gI,lV,hrk,hsk,hk,hs];have hRt:List.take ((A.length+1)*2) R=R:=zzap (by omega);have awH:¬R=[]:=by rintro rfl;simp at gl
  have hri:∀x,Qh (m.boxes.set k []++x) id=[AV.bs k 0 (A.length+1) 2]:=fun x=>by rw[Ql (by simpa using h2),Zy _ fR,h1]
  simp only[hRt,hri];refine⟨by omega,⟨⟨awH,by omega⟩,by simp at hl;omega⟩,⟨by simp,by omega⟩,?_⟩;refine hK _ m.boxes.length ⟨by simp;omega,.inr ⟨by simp,by simp,by omega,?_,?_⟩⟩ (.inr (zzab _)) ?_ rfl rfl rfl
  ·show Qh ((m.boxes.set k []).set id _++_) id=_;rw[Ql (by simpa using h2),Vp _ (by simpa using h2)];simp
  ·have:=Vj ((m.boxes.set k []).set id [.bs m.boxes.length 0 (A.length+1+1) 2]) [R++[I f,I t]] 0;simp only[zzci]at this;rw[hR2];simpa using this
  exact((bn.set (S:=fun j=>j=id\/(A++[s]≠[]/\j=k)) (bn.refl _ _) (.inl (.inr ⟨by simp,rfl⟩)) _).set (.inl (.inl rfl)) _).app _
 have ha:nM L f t=L:=by simp[nM,IB]
 rw[ha]at hK;have YG:t<=f:=by omega
 simp[EJ,EK,IB,YG];exact hK m k ⟨h2,h3⟩ (.inl rfl) (bn.refl _ _) rfl rfl rfl
open Go Go.Abs
def FM(L:List Sp)(f t:Int):(nM L f t).length<=L.length+1:=by
 unfold nM;split
 ·split
  ·rename_i s hs;split
   ·have:0<L.length:=by cases L with
     |nil=>simp at hs
     |cons=>simp
    simp<;>omega
   simp
  simp
 omega
def pE(sf st mid:Int):List Sp->List Sp->List Sp
 |[],L=>L
 |w::W,L=>pE sf st mid W (nM L (max sf (mid+w.1)) (min st (mid+w.2)))
def FN(sf st mid:Int):∀(W L:List Sp),(pE sf st mid W L).length<=L.length+W.length
 |[],L=>by simp[pE]
 |w::W,L=>by
  have h1:=FN sf st mid W (nM L (max sf (mid+w.1)) (min st (mid+w.2)));have h2:=FM L (max sf (mid+w.1)) (min st (mid+w.2));simp[pE];omega
def nN(W:List Sp)(sf st mid:Int)(L:List Sp):List Sp:=
 if mid<st then nN W sf st (mid+86400) (pE sf st mid W L)else L
termination_by(st-mid).toNat
decreasing_by omega
def rj(m0:AM)(k0:Nat)(m:AM)(k:Nat)(L:List Sp):Prop:=
 iz m 4 k L/\(k=k0\/m0.boxes.length<=k)/\bn (fun j=>j=4\/j=k0) m0.boxes m.boxes/\m.st=m0.st/\m.ln=m0.ln/\m.lens=m0.lens
def iz.app{m:AM}{id k:Nat}{L:List Sp}(h:iz m id k L)(x:List (List AV)):iz {m with boxes:=m.boxes++x} id k L:=by
 obtain⟨h1,h2⟩:=h;refine⟨by simp;omega,?_⟩;obtain⟨h2,h3⟩|⟨h2,h3,h4,h5,h6⟩:=h2
 ·exact .inl ⟨h2,by show Qh (m.boxes++x) id=_;rw[Ql h1];exact h3⟩
 exact .inr ⟨h2,by simp;omega,h4,by show Qh (m.boxes++x) id=_;rw[Ql h1];exact h5,by show Qh (m.boxes++x) k=_;rw[Ql h3];exact h6⟩
def rj.refl{m:AM}{k:Nat}{L:List Sp}(h:iz m 4 k L):rj m k m k L:=⟨h,.inl rfl,bn.refl _ _,rfl,rfl,rfl⟩
def rj.app{m0 m:AM}{k0 k:Nat}{L:List Sp}(h:rj m0 k0 m k L)(x:List (List AV)):rj m0 k0 {m with boxes:=m.boxes++x} k L:=
 ⟨h.1.app x,h.2.1,h.2.2.1.app x,h.2.2.2⟩
def rj.step{m0 m m':AM}{k0 k k':Nat}{L L':List Sp}(h:rj m0 k0 m k L)(hO:iz m' 4 k' L')(hk:k'=k\/m.boxes.length<=k')(hK:bn (fun j=>j=4\/(L≠[]/\j=k)) m.boxes m'.boxes)(h1:m'.st=m.st)(h2:m'.ln=m.ln)(h3:m'.lens=m.lens):rj m0 k0 m' k' L':=by
 obtain⟨a1,a2,a3,a4,a5,a6⟩:=h;refine⟨hO,?_,bn.trans a3 (hK.mono ?_),by rw[h1,a4],by rw[h2,a5],by rw[h3,a6]⟩
 ·have:=a3.1;omega
 rintro i (rfl|⟨_,rfl⟩)
 ·exact .inl (.inl rfl)
 obtain a2|a2:=a2
 ·exact .inl (.inr a2)
 exact .inr a2
def IC(s:Sp)(fr to:Int)(m:AM):Prop:=5<m.boxes.length/\Qh m.boxes 1=[I s.1,I s.2]/\Qh m.boxes 2=[I fr]/\Qh m.boxes 3=[I to]/\Qh m.boxes 5=[.fn 260 [] [.ptr 4 0]]
def IC.keep{s:Sp}{fr to:Int}{m m':AM}(h:IC s fr to m){S:Nat->Prop}(hK:bn S m.boxes m'.boxes)(hS:∀j,S j->j=4\/6<=j):IC s fr to m':=by
 obtain⟨h1,h2,h3,h4,h5⟩:=h;have q:∀j,j<6->j≠4->Qh m'.boxes j=Qh m.boxes j:=fun j hj h4=>hK.2 j (by omega) (fun h=>by have:=hS j h;omega);exact⟨zzbc h1 hK.1,by rw[q 1 (by omega) (by omega)];exact h2,by rw[q 2 (by omega) (by omega)];exact h3,by rw[q 3 (by omega) (by omega)];exact h4,by rw[q 5 (by omega) (by omega)];exact h5⟩
def IC.day{s:Sp}{fr to:Int}{m0 m:AM}{k0 k:Nat}{L:List Sp}(h:IC s fr to m0)(hD:rj m0 k0 m k L)(hk:k0=4\/6<=k0):IC s fr to m:=
 h.keep hD.2.2.1 (by rintro j (h|h)<;>omega)
def IC.app{s:Sp}{fr to:Int}{m:AM}(h:IC s fr to m)(x:List (List AV)):IC s fr to {m with boxes:=m.boxes++x}:=
 h.keep (S:=fun _=>False) ((bn.refl _ _).app x) (fun _ h=>h.elim)
def YH(of:Int)(sh:List Sp)(fr to:Int):Nat->FuncId->List AV->AV:=fun d f l=>
 if f=999999 then .junk else
 if f=184 then .bool (Yd of sh)else
 if f=259 then(match l with|[.int _ n]=>.bool (decide (0<=n/\n<86400))|_=>.junk)else
 if f=261 then .fn 312 [] [.ep [I of,.sl .ro (sh.map Qe)] 0]else
 if f=262 then(match l with|[.int _ n]=>.aW [I (n/86400),I (n%86400)]|_=>.junk)else
 if f=263 then .sl .full ((zD fr to).map Qe)else .gd false .junk
def YI:SC:=(⟨_,by cbv⟩:tM [1,0,1,1,1,1,1,0,1,0,1,0,1,1,1,1,1] Ag).1
def xg:SC->SC:=(⟨_,fun _=>by cbv⟩:uw [1,0,1,1,1,1,1,0,1,0,1,0,1,1,1,1,1] Ag).1
theorem YJ:Ag=xg YI:=rfl
def uC{fr to:Int}(h1:0<=fr/\fr<86400)(h2:0<=to/\to<86400):(zD fr to).length<=2/\∀w∈zD fr to,0<=w.1/\w.1<=86400/\0<=w.2/\w.2<=86400:=by
 unfold zD;split
 ·simp;omega
 split
 ·simp;omega
 simp
def ae6(Y:YT)(of:Int)(sh:List Sp)(fr to:Int)(uv:0<=fr/\fr<86400)(hto:0<=to/\to<86400)(E:List (Nat×AV))(m:AM)(k0:Nat)(L0:List Sp)(sf st KQ:Int)(Q:Exit->AS->Prop)
  (s:Sp)(h6:Abs.look E 6=.ptr 2 0)(h7:Abs.look E 7=.ptr 3 0)(fU:Abs.look E 10=.ptr 5 0)(qt:Abs.look E 12=I sf)(rq:Abs.look E 13=I st)(KR:Abs.look E 16=I KQ)
  (hf:IC s fr to m)(hO:iz m 4 k0 L0)(hk:k0=4\/6<=k0)
  (hb: -100000000000<=KQ/\KQ<=100000000000/\st<=100000000000)(hl:L0.length+2*((st-KQ)/86400+1).toNat<=100000)
  (hQ:∀T m' k',rj m k0 m' k' (nN (zD fr to) sf st KQ L0)->Q .normal ⟨T,m'⟩):
  vc Tryz.prog az (YH of sh fr to) Y YI ⟨Zf 111 E,m⟩ Q:=by
 obtain⟨FJ,hWb⟩:=uC uv hto;have awI:=C0 fr to;simp[YI];refine Qi JJ (fun f mm=>∃(mid:Int)(k:Nat)(L:List Sp),f 16=I mid/\rj m k0 mm k L/\ -100000000000<=mid/\mid<=100000086400/\L.length+2*((st-mid)/86400+1).toNat<=100000/\nN (zD fr to) sf st mid L=nN (zD fr to) sf st KQ L0) (fun f _=>(st-numOf (f 16)).toNat) ?_ ?_
 ·exact⟨KQ,k0,L0,by simp[KR],rj.refl hO,by omega,by omega,hl,rfl⟩
 rintro f mm ⟨mid,k,L,hm16,hD,b1,b2,b3,hR⟩;by_cases ai:mid<st
 ·have awJ:IntKind.i64.wrap (mid+86400)=mid+86400:=by rw[Qk]<;>omega
  rw[nN,if_pos ai]at hR;obtain⟨f0,f1,f2,f3,f5⟩:=hf.day hD hk;generalize hWe:zD fr to=W at*
  simp[hm16,h6,h7,fU,qt,rq,JJ,ai,YH,hWe,f2,f3];refine⟨awI,?_⟩;refine Qi JK (fun f' m'=>∃(i k':Nat)(L':List Sp),f' 91=I i/\i<=W.length/\rj m k0 m' k' L'/\L'.length<=L.length+i/\pE sf st mid (W.drop i) L'=pE sf st mid W L) (fun f' _=>W.length-(numOf (f' 91)).toNat) ?_ ?_
  ·exact⟨0,k,L,by simp,by omega,hD,by omega,rfl⟩
  rintro f' m' ⟨i,k',L',h91,hi,hD',tN,hR'⟩;obtain⟨g0,g1,g2,g3,g5⟩:=hf.day hD' hk;rcases zzaa i W.length with hiw|bu
  ·obtain⟨w,hw⟩:=aS hiw;have Tn:=Zc hw;obtain⟨c1,c2,c3,c4⟩:=hWb w (zzad hw);have aa:(i:Int)<(W.length:Int):=by omega
   have KS:=bJ i (by omega);have fC:IntKind.i64.wrap (mid+w.1)=mid+w.1:=by rw[Qk]<;>omega
   have ee:IntKind.i64.wrap (mid+w.2)=mid+w.2:=by rw[Qk]<;>omega
   have hd:W.drop i=w::W.drop (i+1):=by rw[zzaf hiw,(zza.1 hw).2]
   rw[hd,pE]at hR';have gI:∀x,Qh (m'.boxes++x) 5=[.fn 260 [] [.ptr 4 0]]:=fun x=>by rw[Ql g0];exact g5
   have uy:∀x,Qh (m'.boxes++[x]) m'.boxes.length=x:=fun x=>by
    simp
   have Tp:(if sf<mid+w.1 then mid+w.1 else sf)=max sf (mid+w.1):=by omega
   have Q8:(if mid+w.2<st then mid+w.2 else st)=min st (mid+w.2):=by omega
   have awK:=fun K hK=>YF Y (max sf (mid+w.1)) (min st (mid+w.2)) 4 k' L' {m' with boxes:=m'.boxes++[[I w.1,I w.2]]} (hD'.1.app _) (by omega) K hK;simp[h91,hiw,aa,Tn,JK,fU,qt,rq,hm16,g5,gI,uy,fC,ee,g0,Tp,Q8,KS,YH];refine awK _ fun m2 k2 e1 e2 e3 e4 e5 e6=>?_;have hD2:=(hD'.app [[I w.1,I w.2]]).step e1 e2 e3 e4 e5 e6;have:=FM L' (max sf (mid+w.1)) (min st (mid+w.2));refine⟨aO,⟨i+1,by omega,by omega,k2,_,hD2,by omega,hR'⟩,by omega⟩
  obtain rfl:i=W.length:=by omega
  rw[zzbo,pE]at hR';rw[<- hR']at hR;simp[h91,JK,hm16,awJ];refine⟨aO,⟨k',L',hD',by omega,by omega,by omega,hR⟩,by omega⟩
 have hR0:=hR;rw[nN,if_neg ai]at hR;simp[hm16,rq,JJ,ai];exact hQ _ _ k (by rw[<- hR];exact hD)
open Go Go.Abs
def stL(s:Sp)(W:List Sp)(x:Int×Int×Int)(L:List Sp):List Sp:=
 if min x.2.1 s.2<=max x.1 s.1 then L else nN W (max x.1 s.1) (min x.2.1 s.2) ((max x.1 s.1+x.2.2)/86400*86400-x.2.2) L
def tP(s:Sp)(W:List Sp):List (Int×Int×Int)->List Sp->List Sp
 |[],L=>L
 |x::r,L=>if s.2<=x.1 then L else tP s W r (stL s W x L)
def zF(n:Int):Bool:=decide (0<=n/\n<86400)
def xh(of:Int)(sh:List Sp)(s:Sp)(fr to:Int):Bool:=Yd of sh&&zF fr&&zF to&&decide (s.1<s.2/\s.2-s.1<=1000000)
def iB(of:Int)(sh:List Sp)(s:Sp)(fr to:Int):List Sp:=if xh of sh s fr to then tP s (zD fr to) (uA 0 of sh) []else[]
def ae7(x:Int×Int×Int):Prop:=0<=x.1/\x.1<=10000000000/\x.2.1<=10000000001/\ -50400<=x.2.2/\x.2.2<=50400
def C1:∀(sh:List Sp)(f o last:Int),0<=f->f<=10000000000-> -1<=last-> -50400<=o->o<=50400->tQ last sh=true->(∀x∈uA f o sh,ae7 x)
 |[],f,o,last,h1,h2,_,h3,h4,_=>by simp[uA,ae7];omega
 |s::r,f,o,last,h1,h2,hla,h3,h4,ha=>by
  rw[tQ]at ha;split at ha
  ·cases ha
  rename_i hn;simp only[not_or,zzgp,gT,decide_eq_true_eq]at hn;have ih:=C1 r s.1 s.2 s.1 (by omega) (by omega) (by omega) (by omega) (by omega) ha;intro x hx;rw[uA,zzao]at hx;obtain hx|hx:=hx
  ·split at hx
   ·simp at hx;subst hx;simp[ae7];omega
   simp at hx
  exact ih x hx
def xk:∀(sh:List Sp)(f o:Int),(uA f o sh).length<=sh.length+1
 |[],f,o=>by simp[uA]
 |s::r,f,o=>by
  have:=xk r s.1 s.2;rw[uA];split<;>simp<;>omega
def FO(W:List Sp)(hW:W.length<=2)(sf st:Int):∀(n:Nat)(mid:Int)(L:List Sp),(st-mid).toNat<=n->(nN W sf st mid L).length<=L.length+2*((st-mid)/86400+1).toNat:=by
 intro n;induction n with
 |zero=>intro mid L h;rw[nN,if_neg (by omega)];omega
 |succ n ih=>
  intro mid L h;rw[nN];split
  ·have:=ih (mid+86400) (pE sf st mid W L) (by omega);have:=FN sf st mid W L;omega
  omega
def ae8(R:List Sp)(s:Sp)(fr to:Int)(xs:List (Int×Int×Int))(O:Nat->Prop)(i:Nat)(m:AM):Prop:=
 ∃k L,iz m 4 k L/\(k=4\/6<=k)/\¬O k/\k<m.boxes.length/\(∀j,O j->6<=j)/\IC s fr to m/\L.length<=40*i/\tP s (zD fr to) (xs.drop i) L=R
def ae9(R:List Sp)(O:Nat->Prop)(ex:Exit)(m:AM):Prop:=ex=.exit 0/\∃k,iz m 4 k R/\¬O k/\(∀j,O j->6<=j)
def iz.cg{m m':AM}{id k:Nat}{L:List Sp}(h:iz m id k L)(e:m'.boxes=m.boxes):iz m' id k L:=by unfold iz at*;rw[e];exact h
def IC.cg{s:Sp}{fr to:Int}{m m':AM}(h:IC s fr to m)(e:m'.boxes=m.boxes):IC s fr to m':=by unfold IC at*;rw[e];exact h
def iz.YK{O:Nat->Prop}{m m':AM}{k:Nat}{L:List Sp}(h:iz m 4 k L)(e:bN O m m')(h0:¬O 4)(hk:¬O k):iz m' 4 k L:=by
 obtain⟨h1,h2⟩:=h;refine⟨zzbc h1 e.1,?_⟩;obtain⟨h2,h3⟩|⟨h2,h3,h4,h5,h6⟩:=h2
 ·exact .inl ⟨h2,by rw[e.2.1 4 h1 h0];exact h3⟩
 exact .inr ⟨h2,zzbc h3 e.1,h4,by rw[e.2.1 4 h1 h0];exact h5,by rw[e.2.1 k h3 hk];exact h6⟩
def ae8.ext{R:List Sp}{s:Sp}{fr to:Int}{xs:List (Int×Int×Int)}{O:Nat->Prop}{i:Nat}{m m':AM}(h:ae8 R s fr to xs O i m)(e:bN O m m'):ae8 R s fr to xs (OU O m.boxes.length m'.boxes.length) i m':=by
 obtain⟨k,L,h1,h2,h3,h4,h5,h6,h8,h9⟩:=h;refine⟨k,L,h1.YK e (fun h=>by have:=h5 4 h;omega) h3,h2,?_,zzbc h4 e.1,?_,h6.keep (S:=O) ⟨e.1,e.2.1⟩ (fun j h=>.inr (h5 j h)),h8,h9⟩
 ·rintro(h|h)
  ·exact h3 h
  omega
 have:=h6.1;rintro j (h|h)
 ·exact h5 j h
 omega
def ae9.ext{R:List Sp}{O:Nat->Prop}{ex:Exit}{m m':AM}(h:ae9 R O ex m)(e:bN O m m'):ae9 R O ex m':=by
 obtain⟨h0,k,h1,h3,h5⟩:=h;exact⟨h0,k,h1.YK e (fun h=>by have:=h5 4 h;omega) h3,h3,h5⟩
def xm(of:Int)(sh:List Sp)(s:Sp)(fr to:Int)(gK:sh.length<=1000000000)(h1: -9223372036854775808<=s.1/\s.1<=9223372036854775807)(h2: -9223372036854775808<=s.2/\s.2<=9223372036854775807):
  Pure Tryz.prog az 189 [.agg [I of,.sl .ro (sh.map Qe)],.agg [I s.1,I s.2],I fr,I to] (if iB of sh s fr to=[]then .sl .nil []else .sl .ro ((iB of sh s fr to).map Qe)):=by
 have Q9:=jy of sh gK;have KT:=w9 fr;have A1:=w9 to;have ar8:=xb of sh;refine Qn ac5 (YH of sh fr to) (by simp) ?_;rw[YJ];generalize hR:iB of sh s fr to=R;by_cases hv:Yd of sh=true
 ·rw[hv]at Q9;by_cases hf:0<=fr/\fr<86400
  ·rw[decide_eq_true hf]at KT;by_cases ht:0<=to/\to<86400
   ·rw[decide_eq_true ht]at A1;by_cases ai:s.1<s.2
    ·have ck:¬s.2<=s.1:=by omega
     have hu:IntKind.u64.wrap (IntKind.u64.wrap s.2-IntKind.u64.wrap s.1)=s.2-s.1:=by
      have q:∀z:Int,IntKind.u64.wrap z=z%18446744073709551616:=fun z=>by simp[IntKind.wrap,IntKind.bits,IntKind.signed]
      rw[q,q,q];omega
     by_cases hm:s.2-s.1<=1000000
     ·have CB:¬1000000<s.2-s.1:=by omega
      simp[xg,YH,hv,hf,ht,ai,ck,hu,hm,CB];refine⟨Q9,KT,A1,ar8,?_⟩;have cm:=xd of sh gK;have hz:sh.length<=40/\gT of=true/\tQ (-1) sh=true:=by simpa[Yd,and_assoc]using hv
      have hof: -50400<=of/\of<=50400:=by simpa[gT]using hz.2.1
      have bQ:=C1 sh 0 of (-1) (by decide) (by decide) (by decide) hof.1 hof.2 hz.2.2;have hxl:=xk sh 0 of;have hRc:tP s (zD fr to) (uA 0 of sh) []=R:=by rw[<- hR,iB,if_pos (by simp[xh,hv,zF,hf,ht,ai,hm])]
      clear Q9 KT A1 ar8 hu;generalize hX:uA 0 of sh=xs at*
      refine ru (xs:=xs.map A0) (by simp) cm (by intro x hx;simp at hx;obtain⟨a,b,c,_,rfl⟩:=hx;rfl) (ae8 R s fr to xs) (ae9 R) ?_ (fun _ _ _ _ h e=>h.ext e) (fun _ _ _ _ h e=>h.ext e) ?_ ?_ ?_
      ·refine⟨4,[],⟨by simp,.inl ⟨rfl,by simp⟩⟩,.inl rfl,id,by simp,fun _ h=>h.elim,⟨by simp,by simp,by simp,by simp,by simp⟩,by simp,by simpa using hRc⟩
      ·rintro O l i m x hO hle0 hg0 fB ⟨k,L,i1,i2,i3,i4,i5,i6,i8,i9⟩ hx K' q1 q2 q3;rw[zzbl,zzce]at hx;obtain⟨⟨a,b,o⟩,hx,rfl⟩:=hx;obtain⟨o1,o2,o3,o4,o5⟩:=bQ _ (zzad hx);simp only at o1 o2 o3 o4 o5;have eS:i<xs.length:=(zza.1 hx).1;have hd:xs.drop i=(a,b,o)::xs.drop (i+1):=by rw[zzaf eS,(zza.1 hx).2]
       rw[hd,tP]at i9;simp only[Ue]at i4;have hf6:=i6;obtain⟨f0,f1,f2,f3,f5⟩:=i6;have hOl:∀j,O j->j<m.boxes.length:=fun j h=>(hO j h).2;have ayi:xs.length<=41:=by omega
       clear hO hle0 hg0 cm hR hX;simp only[Ue]at f0 f1 f2 f3 f5;have gI:∀x,Qh (m.boxes++x) 1=[I s.1,I s.2]:=fun x=>by rw[Ql (by omega)];exact f1
       have uy:∀x,Qh (m.boxes++[x]) m.boxes.length=x:=fun x=>by
        simp
       by_cases hc:s.2<=a
       ·rw[if_pos hc]at i9;simp[fB,Zj,A0,gI,uy,hc];subst i9;refine q3 0 _ (by simp) ⟨rfl,k,?_,i3,i5⟩;exact(i1.app [[I a,I b,I o]]).cg (by simp)
       rw[if_neg hc]at i9;have Tp:(if a<s.1 then s.1 else a)=max a s.1:=by omega
       have Q8:(if s.2<b then s.2 else b)=min b s.2:=by omega
       by_cases he:min b s.2<=max a s.1
       ·rw[stL,if_pos he]at i9;simp[fB,Zj,A0,gI,uy,hc,Tp,Q8,he];refine q1 _ ⟨by simp,fun j hj=>Ql (hOl j hj)⟩ ⟨k,L,(i1.app [[I a,I b,I o]]).cg (by simp),i2,i3,by simp;omega,i5,(hf6.app [[I a,I b,I o]]).cg (by simp),by omega,i9⟩
       rw[stL,if_neg he]at i9;have hw0:IntKind.i64.wrap (max a s.1+o)=max a s.1+o:=by rw[Qk]<;>omega
       have hdv:=FK (max a s.1+o) (by omega);have fC:IntKind.i64.wrap ((max a s.1+o)/86400*86400)=(max a s.1+o)/86400*86400:=by rw[Qk]<;>omega
       have ee:IntKind.i64.wrap ((max a s.1+o)/86400*86400-o)=(max a s.1+o)/86400*86400-o:=by rw[Qk]<;>omega
       simp[fB,Zj,A0,gI,uy,hc,Tp,Q8,he,hw0,fC,ee,YH];refine⟨hdv,?_⟩;refine ae6 Y0 of sh fr to hf ht _ _ k L (max a s.1) (min b s.2) ((max a s.1+o)/86400*86400-o) _ s (by simp) (by simp) (by simp) (by simp) (by simp) (by simp) ((hf6.app [[I a,I b,I o]]).cg (by simp)) ((i1.app [[I a,I b,I o]]).cg (by simp)) i2 (by omega) (by omega) ?_;intro T m' k' hD;have aH:m.boxes.length+1<=m'.boxes.length:=by have:=hD.2.2.1.1;simpa using this
       have tN:=FO (zD fr to) (uC hf ht).1 (max a s.1) (min b s.2) _ ((max a s.1+o)/86400*86400-o) L (zzab _);have hFx:=IC.day (s:=s) (fr:=fr) (to:=to) ((hf6.app [[I a,I b,I o]]).cg (by simp)) hD i2;have zk:k'=k\/m.boxes.length+1<=k':=by have:=hD.2.1;simpa using this
       have hS:A2 O m m':=⟨by omega,fun j hj=>by
        have:=hD.2.2.1.2 j (by simp;have:=hOl j hj;omega) (by rintro(rfl|rfl);have:=i5 4 hj;omega;exact i3 hj);rw[this];exact Ql (hOl j hj)⟩
       simp;refine q1 ⟨T,m'⟩ hS ?_;by_cases hLe:nN (zD fr to) (max a s.1) (min b s.2) ((max a s.1+o)/86400*86400-o) L=[]
       ·rw[hLe]at i9 hD;refine⟨4,[],⟨hD.1.1,?_⟩,.inl rfl,(fun h=>by have:=i5 4 h;omega),(by show 4<m'.boxes.length;omega),i5,hFx,by simp,i9⟩;rcases hD.1.2 with h|h
        ·exact .inl h
        exact absurd rfl h.1
       have oz:k'<m'.boxes.length:=by
        rcases hD.1.2 with h|h
        ·exact absurd h.1 hLe
        exact h.2.1
       refine⟨k',_,hD.1,by omega,?_,oz,i5,hFx,by omega,i9⟩;obtain rfl|zk:=zk
       ·exact i3
       intro h;have:=hOl k' h;omega
      ·rintro O m ⟨k,L,i1,i2,i3,i4,i5,i6,i8,i9⟩;rw[zzbg,zzbo,tP]at i9;subst i9;rcases i1.2 with⟨hL0,h⟩|⟨aK,h2,h3,h4,h5⟩
       ·simp[h,mq,i1.1,hL0]
       have fH:=Zk m 4 (C3 L);have lS:=Qea L;have gh:=Vy L;simp[h4,mq,aK,h5,fH,lS,gh,i1.1]
      rintro O ex m ⟨rfl,k,i1,i3,i5⟩;rcases i1.2 with⟨hL0,h⟩|⟨aK,h2,h3,h4,h5⟩
      ·simp[h,mq,i1.1,hL0]
      have fH:=Zk m 4 (C3 R);have lS:=Qea R;have gh:=Vy R;simp[h4,mq,aK,h5,fH,lS,gh,i1.1]
     have hR0:R=[]:=by rw[<- hR,iB,if_neg (by simp[xh];omega)]
     have CB:1000000<s.2-s.1:=by omega
     simp[xg,YH,hv,hf,ht,ai,ck,hu,hm,CB,mq,hR0,Q9,KT,A1]
    have hR0:R=[]:=by rw[<- hR,iB,if_neg (by simp[xh];omega)]
    have ck:s.2<=s.1:=by omega
    simp[xg,YH,hv,hf,ht,ai,ck,mq,hR0,Q9,KT,A1]
   have hR0:R=[]:=by rw[<- hR,iB,if_neg (by simp[xh,zF];omega)]
   simp[xg,YH,hv,hf,ht,mq,hR0,Q9,KT];simpa[ht]using A1
  have hR0:R=[]:=by rw[<- hR,iB,if_neg (by simp[xh,zF];omega)]
  simp[xg,YH,hv,hf,mq,hR0,Q9];simpa[hf]using KT
 have hR0:R=[]:=by rw[<- hR,iB,if_neg (by simp[xh,hv])]
 simp[xg,YH,hv,mq,hR0];simpa[hv]using Q9
def zG(of:Int)(sh:List Sp)(s:Sp)(fr to:Int)(gK:sh.length<=1000000000)(h1: -9223372036854775808<=s.1/\s.1<=9223372036854775807)(h2: -9223372036854775808<=s.2/\s.2<=9223372036854775807):
  Pure Tryz.prog az 189 [.agg [I of,.sl .ro (sh.map Qe)],.agg [I s.1,I s.2],I fr,I to] (.sl .ro ((iB of sh s fr to).map Qe)):=by
 have h:=xm of sh s fr to gK h1 h2;by_cases hn:iB of sh s fr to=[]
 ·rw[if_pos hn]at h;rw[hn];exact Qz h (Wk.sl _ _)
 rw[if_neg hn]at h;exact h
def FP(s:Sp)(W:List Sp)(hW:W.length<=2)(hs:s.2-s.1<=1000000):∀(xs:List (Int×Int×Int))(L:List Sp),(∀x∈xs,ae7 x)->(tP s W xs L).length<=L.length+40*xs.length
 |[],L,_=>by simp[tP]
 |x::r,L,h=>by
  rw[tP];split
  ·omega
  have ih:=FP s W hW hs r (stL s W x L) (fun y hy=>h y (by simp[hy]));obtain⟨o1,o2,o3,o4,o5⟩:=h x (by simp)
  have:(stL s W x L).length<=L.length+40:=by
   unfold stL;split
   ·omega
   have:=FO W hW (max x.1 s.1) (min x.2.1 s.2) _ ((max x.1 s.1+x.2.2)/86400*86400-x.2.2) L (zzab _);omega
  simp only[zzbb];omega
def YL(of:Int)(sh:List Sp)(s:Sp)(fr to:Int):(iB of sh s fr to).length<=2000:=by
 unfold iB;split
 ·rename_i h;simp only[xh,Yd,zF,gT,zzak,decide_eq_true_eq]at h;obtain⟨⟨⟨⟨⟨a1,a2⟩,a3⟩,a4⟩,a5⟩,a6,a7⟩:=h;have h1:=FP s (zD fr to) (uC a4 a5).1 a7 (uA 0 of sh) [] (C1 sh 0 of (-1) (by decide) (by decide) (by decide) a2.1 a2.2 a3);have h2:=xk sh 0 of;simp at h1;omega
 simp
end
end Go.Proofs.YtnopaopphmjnmaaGreatDoor
