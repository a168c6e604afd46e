import Derived.Test.YtnopaopphmjnmaaGreatDoorMESpG
set_option linter.all false
set_option maxRecDepth 100000
set_option maxHeartbeats 64000000
namespace Go.Proofs.YtnopaopphmjnmaaGreatDoor
noncomputable section
open Go Go.Abs
def xg(n:Int):Pure Tryz.prog az 259 [I n] (.bool (decide (0<=n/\n<86400))):=by
 refine Qn adT (fun _ _ _=>.junk) (by simp) ?_;by_cases h1:0<=n<;>by_cases h2:n<86400<;>simp[aiB,aiC,h1,h2]
def FT(n:Int)(h: -100000000000<=n/\n<=100000000000):Pure Tryz.prog az 262 [I n] (.aW [I (n/86400),I (n%86400)]):=by
 refine Qn adW (fun _ _ _=>.junk) (by simp) ?_
 have ht:n.tdiv 86400=if 0<=n\/n%86400=0 then n/86400 else n/86400+1:=by
  by_cases h0:0<=n
  ·rw[if_pos (.inl h0),zzcm h0]
  rw[Int.tdiv_eq_ediv];by_cases h1:n%86400=0
  ·rw[if_pos (.inr (Int.dvd_of_emod_eq_zero h1)),if_pos (.inr h1)];simp
  rw[if_neg (by rintro(h|h);exact h0 h;exact h1 (Int.emod_eq_zero_of_dvd h)),if_neg (by rintro(h|h);exact h0 h;exact h1 h)];rfl
 have hm:n.tmod 86400=n-n.tdiv 86400*86400:=by have:=Int.mul_tdiv_add_tmod n 86400;omega
 have w1:IntKind.i64.wrap (n.tdiv 86400)=n.tdiv 86400:=by rw[ht];split<;>rw[Qk]<;>omega
 by_cases CI:n.tmod 86400<0
 ·have e1:n.tdiv 86400=n/86400+1:=by
   rw[ht]at hm |-
   split
   ·rename_i hc;rw[if_pos hc]at hm;omega
   rfl
  have w2:IntKind.i64.wrap (n/86400+1)=n/86400+1:=by rw[Qk]<;>omega
  have w3:IntKind.i64.wrap (n/86400)=n/86400:=by rw[Qk]<;>omega
  have e2:n.tmod 86400=n%86400-86400:=by rw[hm,e1];omega
  have w4:IntKind.i64.wrap (n%86400)=n%86400:=by rw[Qk]<;>omega
  have nA:n%86400<86400:=by omega
  have hn3:¬86400<=n%86400:=by omega
  simp[U7,U8,e1,e2,w2,w3,w4,nA,hn3]
 have e1:n.tdiv 86400=n/86400:=by
  rw[ht]at hm |-
  split
  ·rfl
  rename_i hc;rw[if_neg hc]at hm;omega
 have e2:n.tmod 86400=n%86400:=by rw[hm,e1];omega
 have w3:IntKind.i64.wrap (n/86400)=n/86400:=by rw[Qk]<;>omega
 have nA:¬n%86400<0:=by omega
 simp[U7,U8,e1,e2,w3,nA]
def zH(fr to:Int):List Sp:=if fr<to then[(fr,to)]else if to<fr then[(0,to),(fr,86400)]else[(0,86400)]
def C3(fr to:Int):Pure Tryz.prog az 263 [I fr,I to] (.sl .full ((zH fr to).map Qe)):=by
 refine Qn adX (fun _ _ _=>.junk) (by simp) ?_;by_cases h1:fr<to
 ·simp[NN,NO,h1,zH,Qe]
 by_cases h2:to<fr
 ·simp[NN,NO,h1,h2,zH,Qe]
 simp[NN,NO,h1,h2,zH,Qe]
def uH:Int->Int->List Sp->List (Int×Int×Int)
 |f,o,[]=>[(f,10000000001,o)]
 |f,o,s::r=>(if f<s.1 then[(f,s.1,o)]else[])++uH s.1 s.2 r
def A2(x:Int×Int×Int):List AV:=[.agg [I x.1,I x.2.1,I x.2.2]]
def xh(of:Int)(sh:List Sp):Pure Tryz.prog az 261 [.agg [I of,.sl .ro (sh.map Qe)]] (.fn 312 [] [.ep [I of,.sl .ro (sh.map Qe)] 0]):=by
 refine Qn adV (fun _ _ _=>.junk) (by simp) ?_;simp[aiD,aiE]
def bO.put{O:Nat->Prop}{m:AM}{b:Nat}(hb:O b)(v:List AV)(x:List (List AV)):bO O m {m with boxes:=m.boxes.set b v++x}:=
 ⟨by simp,fun j hj ho=>by show Qh (m.boxes.set b v++x) j=_;rw[Ql (by simpa using hj),Zy v (by rintro rfl;exact ho hb)],⟨[],by simp⟩,fun _ _=>rfl⟩
def bO.asf{O:Nat->Prop}{m:AM}{b:Nat}(hb:O b)(v:List AV):bO O m {m with boxes:=m.boxes.set b v}:=
 ⟨by simp,fun j hj ho=>by show Qh (m.boxes.set b v) j=_;rw[Zy v (by rintro rfl;exact ho hb)],⟨[],by simp⟩,fun _ _=>rfl⟩
def xk(of:Int)(sh:List Sp)(hl:sh.length<=1000000000):YB Tryz.prog az 312 [] [.ep [I of,.sl .ro (sh.map Qe)] 0] ((uH 0 of sh).map A2):=by
 intro Y l m K hF;refine Xe aeh (fun _ _ _=>.junk) (by simp) ?_;simp[VH];obtain⟨b,hbe⟩:∃b,m.boxes.length=b:=⟨_,rfl⟩;refine Qj Cm (fun f mm=>∃(i:Nat)(fr t o:Int)(O:Nat->Prop),f 12=I i/\i<=sh.length/\b<mm.boxes.length/\Qh mm.boxes b=[I fr,I t,I o]/\O b/\jN (Y l) K ((uH fr o (sh.drop i)).map A2) O mm) (fun f _=>sh.length-(numOf (f 12)).toNat) ?_ ?_
 ·refine⟨0,0,0,of,OU (fun _=>False) m.boxes.length (m.boxes.length+1),by simp,by omega,by simp[hbe],by simp[<- hbe],.inr ⟨by omega,by omega⟩,?_⟩;have:=hF.ext ((fM.box m [[I 0,I 0,I of]]).toO _);simpa using this
 rintro f mm ⟨i,fr,t,o,O,qy,hi,hlm,ah,tY,hF⟩;rcases zzaa i sh.length with ai|bu
 ·obtain⟨s,hs⟩:=aR ai;have sG:=Zc hs;have aa:(i:Int)<(sh.length:Int):=by omega
  have hw:=bK i (by omega);have hd:sh.drop i=s::sh.drop (i+1):=by rw[zzaf ai,(zza.1 hs).2]
  rw[hd,uH]at hF;have fq:∀x,Qh (mm.boxes++x) b=[I fr,I t,I o]:=fun x=>by rw[Ql hlm];exact ah
  have mg:∀x y,(mm.boxes++x).set b y=mm.boxes.set b y++x:=fun x y=>Yn y hlm;have oz:∀y x,Qh (mm.boxes.set b y++x) b=y:=fun y x=>by rw[Ql (by simpa using hlm),Vr _ hlm]
  have fI:∀y x,Qh (mm.boxes.set b y++[x]) mm.boxes.length=x:=fun y x=>by
   have:=Vk (mm.boxes.set b y) [x] 0;rw[zzca]at this;simpa using this
  have hsc:∀y x z,(mm.boxes.set b y++x).set b z=mm.boxes.set b z++x:=fun y x z=>by rw[Yn z (by simpa using hlm),List.set_set]
  by_cases Ti:fr<s.1
  ·rw[if_pos Ti]at hF;simp only[zzet,zzay]at hF;simp[qy,ai,aa,sG,fq,mg,oz,fI,Cm,hbe,Ti,hlm];refine⟨by omega,hF _ (bO.put tY _ _) _ (fun m2 xb qx=>?_) (fun m2 hK=>?_)⟩
   ·have ayj:mm.boxes.length+1<=m2.boxes.length:=by have:=xb.1;simpa using this
    have q1:Qh m2.boxes b=[I fr,I s.1,I o]:=by rw[xb.2 b (.inl tY)];exact oz _ _
    have q2:Qh m2.boxes mm.boxes.length=[I s.1,I s.2]:=by
     rw[xb.2 mm.boxes.length (.inr ⟨zzab _,by simp⟩)];exact fI _ _
    have mP:b<m2.boxes.length:=by omega
    have ash:OU O mm.boxes.length (mm.boxes.length+1) b:=.inl tY;simp at qx;have q3:∀y,Qh (m2.boxes.set b y) b=y:=fun y=>Vr _ mP;simp[q1,q2,q3,mP,hw];refine⟨aO,⟨i+1,by simp,by omega,s.1,0,s.2,⟨rfl,rfl,rfl⟩,_,.inl ash,qx.ext (bO.asf ash _)⟩,by omega⟩
   simp[NW];exact hK _ (bO.refl _ _)
  rw[if_neg Ti]at hF;simp only[zzaj]at hF;simp[qy,ai,aa,sG,fq,mg,oz,fI,hsc,Cm,hbe,Ti,hlm,hw];refine⟨by omega,aO,⟨i+1,by simp,by omega,by omega,s.1,0,s.2,⟨rfl,rfl,rfl⟩,_,.inl tY,hF.ext (bO.put tY _ _)⟩,by omega⟩
 obtain rfl:i=sh.length:=by omega
 rw[zzbo,uH]at hF;simp only[zzay,zzcg]at hF;simp[qy,Cm,hbe,ah,hlm,Vr _ hlm];refine hF _ (bO.asf tY _) _ (fun m2 _ qx=>?_) (fun m2 hK=>?_)
 ·simp[NW];exact qx _ (bO.refl _ _)
 simp[NW];exact hK _ (bO.refl _ _)
open Go Go.Abs
def nS(L:List Sp)(f t:Int):List Sp:=
 if f<t then(match L.getLast? with|some s=>if s.2=f then L.dropLast++[(s.1,t)]else L++[(f,t)]|none=>[(f,t)])else L
def iD(m:AM)(id k:Nat)(L:List Sp):Prop:=id<m.boxes.length/\((L=[]/\Qh m.boxes id=[.sl .nil []])\/(L≠[]/\k<m.boxes.length/\k≠id/\Qh m.boxes id=[.bs k 0 L.length 2]/\Qh m.boxes k=cE L))
def ae6:Nat->FuncId->List AV->AV:=fun d f _=>if f=999999 then(if d=34 then .aJ 0 []else .junk)else .junk
def YC(Y:YT)(f t:Int)(id k:Nat)(L:List Sp)(m:AM)(hO:iD m id k L)(hl:L.length<=1000000000)(K:AV->AM->Prop)
  (hK:∀m' k',iD m' id k' (nS L f t)->(k'=k\/m.boxes.length<=k')->bh (fun j=>j=id\/(L≠[]/\j=k)) m.boxes m'.boxes->m'.st=m.st->m'.ln=m.ln->m'.lens=m.lens->K (.aW []) m'):an Tryz.prog az Y 260 [I f,I t,.ptr id 0] m K:=by
 obtain⟨h2,h3⟩:=hO;refine Xe adU ae6 (by simp) ?_;have fq:∀x,Qh (m.boxes++x) id=Qh m.boxes id:=fun x=>Ql h2;have mg:∀x y,(m.boxes++x).set id y=m.boxes.set id y++x:=fun x y=>Yn y h2;by_cases IK:f<t
 ·have YD:¬t<=f:=by omega
  obtain⟨rfl,h1⟩|⟨aK,hk,fH,h1,ah⟩:=h3
  ·have ha:nS [] f t=[(f,t)]:=by simp[nS,IK]
   rw[ha]at hK;simp[EN,EO,ae6,IK,YD,h1,h2,fq,mg];refine⟨by omega,hK _ m.boxes.length ⟨by simp;omega,.inr ⟨by simp,by simp,by omega,?_,?_⟩⟩ (.inr (zzab _)) ((bh.set (S:=fun j=>j=id\/(([]:List Sp)≠[]/\j=k)) (bh.refl _ _) (.inl (.inl rfl)) _).app _) rfl rfl rfl⟩
   ·simp only[zze];rw[Ql (by simpa using h2),Vr _ h2]
   have:=Vk (m.boxes.set id [.bs m.boxes.length 0 1 2]) [[I f,I t]] 0;rw[zzca]at this;simpa using this
  obtain⟨A,s,rfl⟩:∃A s,L=A++[s]:=⟨L.dropLast,L.getLast aK,(zzeu aK).symm⟩;have ha:nS (A++[s]) f t=if s.2=f then A++[(s.1,t)]else A++[s]++[(f,t)]:=by simp[nS,IK]
  rw[ha]at hK;have hw:IntKind.i64.wrap (A.length:Int)=(A.length:Int):=by simp at hl;rw[Qk]<;>omega
  have hg:(A++[s])[A.length]?=some s:=by simp
  have g0:=uI hg;have g1:=FU hg;have cS:(A++[s]).length=A.length+1:=by simp
  rw[cS]at h1;have gl:(cE (A++[s])).length=A.length*2+2:=by rw[Yc,cS];omega
  have hR2:cE (A++[s]++[(f,t)])=cE (A++[s])++[I f,I t]:=by rw[Qck];rfl
  have hR1:(cE (A++[s])).set (A.length*2+1) (I t)=cE (A++[(s.1,t)]):=by rw[xm _ _ s _ hg];simp
  have hrk:∀x,Qh (m.boxes++x) k=cE (A++[s]):=fun x=>by rw[Ql hk];exact ah
  have hsk:∀x y,(m.boxes++x).set k y=m.boxes.set k y++x:=fun x y=>Yn y hk;generalize hR:cE (A++[s])=R at*
  by_cases hs:s.2=f
  ·rw[if_pos hs]at hK;simp[EN,EO,ae6,IK,YD,h1,h2,hw,ah,g0,g1,gl,fq,mg,hrk,hsk,hk,hs];refine⟨by omega,hK _ k ⟨by simpa using h2,.inr ⟨by simp,by simpa using hk,fH,?_,?_⟩⟩ (.inl rfl) (bh.set (S:=fun j=>j=id\/(A++[s]≠[]/\j=k)) (bh.refl _ _) (.inl (.inr ⟨by simp,rfl⟩)) _) rfl rfl rfl⟩
   ·show Qh (m.boxes.set k _) id=_;rw[Zy _ fH,h1];simp
   show Qh (m.boxes.set k _) k=_;rw[Vr _ hk];exact hR1
  rw[if_neg hs]at hK;simp[EN,EO,ae6,IK,YD,h1,h2,hw,ah,g0,g1,gl,fq,mg,hrk,hsk,hk,hs];have hRt:List.take ((A.length+1)*2) R=R:=zzap (by omega);have awM:¬R=[]:=by rintro rfl;simp at gl
  have hri:∀x,Qh (m.boxes.set k []++x) id=[AV.bs k 0 (A.length+1) 2]:=fun x=>by rw[Ql (by simpa using h2),Zy _ fH,h1]
  simp only[hRt,hri];refine⟨by omega,⟨⟨awM,by omega⟩,by simp at hl;omega⟩,⟨by simp,by omega⟩,?_⟩;refine hK _ m.boxes.length ⟨by simp;omega,.inr ⟨by simp,by simp,by omega,?_,?_⟩⟩ (.inr (zzab _)) ?_ rfl rfl rfl
  ·show Qh ((m.boxes.set k []).set id _++_) id=_;rw[Ql (by simpa using h2),Vr _ (by simpa using h2)];simp
  ·have:=Vk ((m.boxes.set k []).set id [.bs m.boxes.length 0 (A.length+1+1) 2]) [R++[I f,I t]] 0;simp only[zzca]at this;rw[hR2];simpa using this
  exact((bh.set (S:=fun j=>j=id\/(A++[s]≠[]/\j=k)) (bh.refl _ _) (.inl (.inr ⟨by simp,rfl⟩)) _).set (.inl (.inl rfl)) _).app _
 have ha:nS L f t=L:=by simp[nS,IK]
 rw[ha]at hK;have YD:t<=f:=by omega
 simp[EN,EO,IK,YD];exact hK m k ⟨h2,h3⟩ (.inl rfl) (bh.refl _ _) rfl rfl rfl
open Go Go.Abs
def FV(L:List Sp)(f t:Int):(nS L f t).length<=L.length+1:=by
 unfold nS;split
 ·split
  ·rename_i s hs;split
   ·have:0<L.length:=by cases L with
     |nil=>simp at hs
     |cons=>simp
    simp<;>omega
   simp
  simp
 omega
def pE(sf st mid:Int):List Sp->List Sp->List Sp
 |[],L=>L
 |w::W,L=>pE sf st mid W (nS L (max sf (mid+w.1)) (min st (mid+w.2)))
def FX(sf st mid:Int):∀(W L:List Sp),(pE sf st mid W L).length<=L.length+W.length
 |[],L=>by simp[pE]
 |w::W,L=>by
  have h1:=FX sf st mid W (nS L (max sf (mid+w.1)) (min st (mid+w.2)));have h2:=FV L (max sf (mid+w.1)) (min st (mid+w.2));simp[pE];omega
def nT(W:List Sp)(sf st mid:Int)(L:List Sp):List Sp:=
 if mid<st then nT W sf st (mid+86400) (pE sf st mid W L)else L
termination_by(st-mid).toNat
decreasing_by omega
def ru(m0:AM)(k0:Nat)(m:AM)(k:Nat)(L:List Sp):Prop:=
 iD m 4 k L/\(k=k0\/m0.boxes.length<=k)/\bh (fun j=>j=4\/j=k0) m0.boxes m.boxes/\m.st=m0.st/\m.ln=m0.ln/\m.lens=m0.lens
def iD.app{m:AM}{id k:Nat}{L:List Sp}(h:iD m id k L)(x:List (List AV)):iD {m with boxes:=m.boxes++x} id k L:=by
 obtain⟨h1,h2⟩:=h;refine⟨by simp;omega,?_⟩;obtain⟨h2,h3⟩|⟨h2,h3,h4,h5,h6⟩:=h2
 ·exact .inl ⟨h2,by show Qh (m.boxes++x) id=_;rw[Ql h1];exact h3⟩
 exact .inr ⟨h2,by simp;omega,h4,by show Qh (m.boxes++x) id=_;rw[Ql h1];exact h5,by show Qh (m.boxes++x) k=_;rw[Ql h3];exact h6⟩
def ru.refl{m:AM}{k:Nat}{L:List Sp}(h:iD m 4 k L):ru m k m k L:=⟨h,.inl rfl,bh.refl _ _,rfl,rfl,rfl⟩
def ru.app{m0 m:AM}{k0 k:Nat}{L:List Sp}(h:ru m0 k0 m k L)(x:List (List AV)):ru m0 k0 {m with boxes:=m.boxes++x} k L:=
 ⟨h.1.app x,h.2.1,h.2.2.1.app x,h.2.2.2⟩
def ru.step{m0 m m':AM}{k0 k k':Nat}{L L':List Sp}(h:ru m0 k0 m k L)(hO:iD m' 4 k' L')(hk:k'=k\/m.boxes.length<=k')(hK:bh (fun j=>j=4\/(L≠[]/\j=k)) m.boxes m'.boxes)(h1:m'.st=m.st)(h2:m'.ln=m.ln)(h3:m'.lens=m.lens):ru m0 k0 m' k' L':=by
 obtain⟨a1,a2,a3,a4,a5,a6⟩:=h;refine⟨hO,?_,bh.trans a3 (hK.mono ?_),by rw[h1,a4],by rw[h2,a5],by rw[h3,a6]⟩
 ·have:=a3.1;omega
 rintro i (rfl|⟨_,rfl⟩)
 ·exact .inl (.inl rfl)
 obtain a2|a2:=a2
 ·exact .inl (.inr a2)
 exact .inr a2
def IL(s:Sp)(fr to:Int)(m:AM):Prop:=5<m.boxes.length/\Qh m.boxes 1=[I s.1,I s.2]/\Qh m.boxes 2=[I fr]/\Qh m.boxes 3=[I to]/\Qh m.boxes 5=[.fn 260 [] [.ptr 4 0]]
def IL.keep{s:Sp}{fr to:Int}{m m':AM}(h:IL s fr to m){S:Nat->Prop}(hK:bh S m.boxes m'.boxes)(hS:∀j,S j->j=4\/6<=j):IL s fr to m':=by
 obtain⟨h1,h2,h3,h4,h5⟩:=h;have q:∀j,j<6->j≠4->Qh m'.boxes j=Qh m.boxes j:=fun j hj h4=>hK.2 j (by omega) (fun h=>by have:=hS j h;omega);exact⟨zzbb h1 hK.1,by rw[q 1 (by omega) (by omega)];exact h2,by rw[q 2 (by omega) (by omega)];exact h3,by rw[q 3 (by omega) (by omega)];exact h4,by rw[q 5 (by omega) (by omega)];exact h5⟩
def IL.day{s:Sp}{fr to:Int}{m0 m:AM}{k0 k:Nat}{L:List Sp}(h:IL s fr to m0)(hD:ru m0 k0 m k L)(hk:k0=4\/6<=k0):IL s fr to m:=
 h.keep hD.2.2.1 (by rintro j (h|h)<;>omega)
def IL.app{s:Sp}{fr to:Int}{m:AM}(h:IL s fr to m)(x:List (List AV)):IL s fr to {m with boxes:=m.boxes++x}:=
 h.keep (S:=fun _=>False) ((bh.refl _ _).app x) (fun _ h=>h.elim)
def YF(of:Int)(sh:List Sp)(fr to:Int):Nat->FuncId->List AV->AV:=fun d f l=>
 if f=999999 then .junk else
 if f=184 then .bool (Yg of sh)else
 if f=259 then(match l with|[.int _ n]=>.bool (decide (0<=n/\n<86400))|_=>.junk)else
 if f=261 then .fn 312 [] [.ep [I of,.sl .ro (sh.map Qe)] 0]else
 if f=262 then(match l with|[.int _ n]=>.aW [I (n/86400),I (n%86400)]|_=>.junk)else
 if f=263 then .sl .full ((zH fr to).map Qe)else .gd false .junk
def YG:SC:=(⟨_,by cbv⟩:tW [1,0,1,1,1,1,1,0,1,0,1,0,1,1,1,1,1] Ai).1
def xq:SC->SC:=(⟨_,fun _=>by cbv⟩:uE [1,0,1,1,1,1,1,0,1,0,1,0,1,1,1,1,1] Ai).1
theorem YH:Ai=xq YG:=rfl
def uJ{fr to:Int}(h1:0<=fr/\fr<86400)(h2:0<=to/\to<86400):(zH fr to).length<=2/\∀w∈zH fr to,0<=w.1/\w.1<=86400/\0<=w.2/\w.2<=86400:=by
 unfold zH;split
 ·simp;omega
 split
 ·simp;omega
 simp
def ae7(Y:YT)(of:Int)(sh:List Sp)(fr to:Int)(uD:0<=fr/\fr<86400)(hto:0<=to/\to<86400)(E:List (Nat×AV))(m:AM)(k0:Nat)(L0:List Sp)(sf st K3:Int)(Q:Exit->AS->Prop)
  (s:Sp)(h6:Abs.look E 6=.ptr 2 0)(h7:Abs.look E 7=.ptr 3 0)(gi:Abs.look E 10=.ptr 5 0)(qy:Abs.look E 12=I sf)(xu:Abs.look E 13=I st)(K4:Abs.look E 16=I K3)
  (hf:IL s fr to m)(hO:iD m 4 k0 L0)(hk:k0=4\/6<=k0)
  (hb: -100000000000<=K3/\K3<=100000000000/\st<=100000000000)(hl:L0.length+2*((st-K3)/86400+1).toNat<=100000)
  (hQ:∀T m' k',ru m k0 m' k' (nT (zH fr to) sf st K3 L0)->Q .normal ⟨T,m'⟩):
  vc Tryz.prog az (YF of sh fr to) Y YG ⟨Ze 111 E,m⟩ Q:=by
 obtain⟨FR,hWb⟩:=uJ uD hto;have awN:=C3 fr to;simp[YG];refine Qj JR (fun f mm=>∃(mid:Int)(k:Nat)(L:List Sp),f 16=I mid/\ru m k0 mm k L/\ -100000000000<=mid/\mid<=100000086400/\L.length+2*((st-mid)/86400+1).toNat<=100000/\nT (zH fr to) sf st mid L=nT (zH fr to) sf st K3 L0) (fun f _=>(st-numOf (f 16)).toNat) ?_ ?_
 ·exact⟨K3,k0,L0,by simp[K4],ru.refl hO,by omega,by omega,hl,rfl⟩
 rintro f mm ⟨mid,k,L,hm16,hD,b1,b2,b3,hR⟩;by_cases ai:mid<st
 ·have awO:IntKind.i64.wrap (mid+86400)=mid+86400:=by rw[Qk]<;>omega
  rw[nT,if_pos ai]at hR;obtain⟨f0,f1,f2,f3,f5⟩:=hf.day hD hk;generalize hWe:zH fr to=W at*
  simp[hm16,h6,h7,gi,qy,xu,JR,ai,YF,hWe,f2,f3];refine⟨awN,?_⟩;refine Qj JS (fun f' m'=>∃(i k':Nat)(L':List Sp),f' 91=I i/\i<=W.length/\ru m k0 m' k' L'/\L'.length<=L.length+i/\pE sf st mid (W.drop i) L'=pE sf st mid W L) (fun f' _=>W.length-(numOf (f' 91)).toNat) ?_ ?_
  ·exact⟨0,k,L,by simp,by omega,hD,by omega,rfl⟩
  rintro f' m' ⟨i,k',L',h91,hi,hD',tX,hR'⟩;obtain⟨g0,g1,g2,g3,g5⟩:=hf.day hD' hk;rcases zzaa i W.length with hiw|bu
  ·obtain⟨w,hw⟩:=aR hiw;have Tj:=Zc hw;obtain⟨c1,c2,c3,c4⟩:=hWb w (zzac hw);have aa:(i:Int)<(W.length:Int):=by omega
   have K5:=bK i (by omega);have eX:IntKind.i64.wrap (mid+w.1)=mid+w.1:=by rw[Qk]<;>omega
   have dG:IntKind.i64.wrap (mid+w.2)=mid+w.2:=by rw[Qk]<;>omega
   have hd:W.drop i=w::W.drop (i+1):=by rw[zzaf hiw,(zza.1 hw).2]
   rw[hd,pE]at hR';have fq:∀x,Qh (m'.boxes++x) 5=[.fn 260 [] [.ptr 4 0]]:=fun x=>by rw[Ql g0];exact g5
   have nP:∀x,Qh (m'.boxes++[x]) m'.boxes.length=x:=fun x=>by
    simp
   have Tk:(if sf<mid+w.1 then mid+w.1 else sf)=max sf (mid+w.1):=by omega
   have Rh:(if mid+w.2<st then mid+w.2 else st)=min st (mid+w.2):=by omega
   have awP:=fun K hK=>YC Y (max sf (mid+w.1)) (min st (mid+w.2)) 4 k' L' {m' with boxes:=m'.boxes++[[I w.1,I w.2]]} (hD'.1.app _) (by omega) K hK;simp[h91,hiw,aa,Tj,JS,gi,qy,xu,hm16,g5,fq,nP,eX,dG,g0,Tk,Rh,K5,YF];refine awP _ fun m2 k2 e1 e2 e3 e4 e5 e6=>?_;have hD2:=(hD'.app [[I w.1,I w.2]]).step e1 e2 e3 e4 e5 e6;have:=FV L' (max sf (mid+w.1)) (min st (mid+w.2));refine⟨aO,⟨i+1,by omega,by omega,k2,_,hD2,by omega,hR'⟩,by omega⟩
  obtain rfl:i=W.length:=by omega
  rw[zzbo,pE]at hR';rw[<- hR']at hR;simp[h91,JS,hm16,awO];refine⟨aO,⟨k',L',hD',by omega,by omega,by omega,hR⟩,by omega⟩
 have hR0:=hR;rw[nT,if_neg ai]at hR;simp[hm16,xu,JR,ai];exact hQ _ _ k (by rw[<- hR];exact hD)
open Go Go.Abs
def stL(s:Sp)(W:List Sp)(x:Int×Int×Int)(L:List Sp):List Sp:=
 if min x.2.1 s.2<=max x.1 s.1 then L else nT W (max x.1 s.1) (min x.2.1 s.2) ((max x.1 s.1+x.2.2)/86400*86400-x.2.2) L
def tZ(s:Sp)(W:List Sp):List (Int×Int×Int)->List Sp->List Sp
 |[],L=>L
 |x::r,L=>if s.2<=x.1 then L else tZ s W r (stL s W x L)
def zI(n:Int):Bool:=decide (0<=n/\n<86400)
def xw(of:Int)(sh:List Sp)(s:Sp)(fr to:Int):Bool:=Yg of sh&&zI fr&&zI to&&decide (s.1<s.2/\s.2-s.1<=1000000)
def iE(of:Int)(sh:List Sp)(s:Sp)(fr to:Int):List Sp:=if xw of sh s fr to then tZ s (zH fr to) (uH 0 of sh) []else[]
def ae8(x:Int×Int×Int):Prop:=0<=x.1/\x.1<=10000000000/\x.2.1<=10000000001/\ -50400<=x.2.2/\x.2.2<=50400
def C4:∀(sh:List Sp)(f o last:Int),0<=f->f<=10000000000-> -1<=last-> -50400<=o->o<=50400->ua last sh=true->(∀x∈uH f o sh,ae8 x)
 |[],f,o,last,h1,h2,_,h3,h4,_=>by simp[uH,ae8];omega
 |s::r,f,o,last,h1,h2,hla,h3,h4,ha=>by
  rw[ua]at ha;split at ha
  ·cases ha
  rename_i hn;simp only[not_or,zzgj,gX,decide_eq_true_eq]at hn;have ih:=C4 r s.1 s.2 s.1 (by omega) (by omega) (by omega) (by omega) (by omega) ha;intro x hx;rw[uH,zzao]at hx;obtain hx|hx:=hx
  ·split at hx
   ·simp at hx;subst hx;simp[ae8];omega
   simp at hx
  exact ih x hx
def xx:∀(sh:List Sp)(f o:Int),(uH f o sh).length<=sh.length+1
 |[],f,o=>by simp[uH]
 |s::r,f,o=>by
  have:=xx r s.1 s.2;rw[uH];split<;>simp<;>omega
def FY(W:List Sp)(hW:W.length<=2)(sf st:Int):∀(n:Nat)(mid:Int)(L:List Sp),(st-mid).toNat<=n->(nT W sf st mid L).length<=L.length+2*((st-mid)/86400+1).toNat:=by
 intro n;induction n with
 |zero=>intro mid L h;rw[nT,if_neg (by omega)];omega
 |succ n ih=>
  intro mid L h;rw[nT];split
  ·have:=ih (mid+86400) (pE sf st mid W L) (by omega);have:=FX sf st mid W L;omega
  omega
def ae9(R:List Sp)(s:Sp)(fr to:Int)(xs:List (Int×Int×Int))(O:Nat->Prop)(i:Nat)(m:AM):Prop:=
 ∃k L,iD m 4 k L/\(k=4\/6<=k)/\¬O k/\k<m.boxes.length/\(∀j,O j->6<=j)/\IL s fr to m/\L.length<=40*i/\tZ s (zH fr to) (xs.drop i) L=R
def afa(R:List Sp)(O:Nat->Prop)(ex:Exit)(m:AM):Prop:=ex=.exit 0/\∃k,iD m 4 k R/\¬O k/\(∀j,O j->6<=j)
def iD.cg{m m':AM}{id k:Nat}{L:List Sp}(h:iD m id k L)(e:m'.boxes=m.boxes):iD m' id k L:=by unfold iD at*;rw[e];exact h
def IL.cg{s:Sp}{fr to:Int}{m m':AM}(h:IL s fr to m)(e:m'.boxes=m.boxes):IL s fr to m':=by unfold IL at*;rw[e];exact h
def iD.YI{O:Nat->Prop}{m m':AM}{k:Nat}{L:List Sp}(h:iD m 4 k L)(e:bO O m m')(h0:¬O 4)(hk:¬O k):iD m' 4 k L:=by
 obtain⟨h1,h2⟩:=h;refine⟨zzbb h1 e.1,?_⟩;obtain⟨h2,h3⟩|⟨h2,h3,h4,h5,h6⟩:=h2
 ·exact .inl ⟨h2,by rw[e.2.1 4 h1 h0];exact h3⟩
 exact .inr ⟨h2,zzbb h3 e.1,h4,by rw[e.2.1 4 h1 h0];exact h5,by rw[e.2.1 k h3 hk];exact h6⟩
def ae9.ext{R:List Sp}{s:Sp}{fr to:Int}{xs:List (Int×Int×Int)}{O:Nat->Prop}{i:Nat}{m m':AM}(h:ae9 R s fr to xs O i m)(e:bO O m m'):ae9 R s fr to xs (OU O m.boxes.length m'.boxes.length) i m':=by
 obtain⟨k,L,h1,h2,h3,h4,h5,h6,h8,h9⟩:=h;refine⟨k,L,h1.YI e (fun h=>by have:=h5 4 h;omega) h3,h2,?_,zzbb h4 e.1,?_,h6.keep (S:=O) ⟨e.1,e.2.1⟩ (fun j h=>.inr (h5 j h)),h8,h9⟩
 ·rintro(h|h)
  ·exact h3 h
  omega
 have:=h6.1;rintro j (h|h)
 ·exact h5 j h
 omega
def afa.ext{R:List Sp}{O:Nat->Prop}{ex:Exit}{m m':AM}(h:afa R O ex m)(e:bO O m m'):afa R O ex m':=by
 obtain⟨h0,k,h1,h3,h5⟩:=h;exact⟨h0,k,h1.YI e (fun h=>by have:=h5 4 h;omega) h3,h3,h5⟩
def xy(of:Int)(sh:List Sp)(s:Sp)(fr to:Int)(gO:sh.length<=1000000000)(h1: -9223372036854775808<=s.1/\s.1<=9223372036854775807)(h2: -9223372036854775808<=s.2/\s.2<=9223372036854775807):
  Pure Tryz.prog az 189 [.agg [I of,.sl .ro (sh.map Qe)],.agg [I s.1,I s.2],I fr,I to] (if iE of sh s fr to=[]then .sl .nil []else .sl .ro ((iE of sh s fr to).map Qe)):=by
 have Ri:=jO of sh gO;have K6:=xg fr;have A3:=xg to;have asi:=xh of sh;refine Qn ac7 (YF of sh fr to) (by simp) ?_;rw[YH];generalize hR:iE of sh s fr to=R;by_cases hv:Yg of sh=true
 ·rw[hv]at Ri;by_cases hf:0<=fr/\fr<86400
  ·rw[decide_eq_true hf]at K6;by_cases ht:0<=to/\to<86400
   ·rw[decide_eq_true ht]at A3;by_cases ai:s.1<s.2
    ·have bZ:¬s.2<=s.1:=by omega
     have hu:IntKind.u64.wrap (IntKind.u64.wrap s.2-IntKind.u64.wrap s.1)=s.2-s.1:=by
      have q:∀z:Int,IntKind.u64.wrap z=z%18446744073709551616:=fun z=>by simp[IntKind.wrap,IntKind.bits,IntKind.signed]
      rw[q,q,q];omega
     by_cases hm:s.2-s.1<=1000000
     ·have CF:¬1000000<s.2-s.1:=by omega
      simp[xq,YF,hv,hf,ht,ai,bZ,hu,hm,CF];refine⟨Ri,K6,A3,asi,?_⟩;have cI:=xk of sh gO;have hz:sh.length<=40/\gX of=true/\ua (-1) sh=true:=by simpa[Yg,and_assoc]using hv
      have hof: -50400<=of/\of<=50400:=by simpa[gX]using hz.2.1
      have bV:=C4 sh 0 of (-1) (by decide) (by decide) (by decide) hof.1 hof.2 hz.2.2;have hxl:=xx sh 0 of;have hRc:tZ s (zH fr to) (uH 0 of sh) []=R:=by rw[<- hR,iE,if_pos (by simp[xw,hv,zI,hf,ht,ai,hm])]
      clear Ri K6 A3 asi hu;generalize hX:uH 0 of sh=xs at*
      refine ry (xs:=xs.map A2) (by simp) cI (by intro x hx;simp at hx;obtain⟨a,b,c,_,rfl⟩:=hx;rfl) (ae9 R s fr to xs) (afa R) ?_ (fun _ _ _ _ h e=>h.ext e) (fun _ _ _ _ h e=>h.ext e) ?_ ?_ ?_
      ·refine⟨4,[],⟨by simp,.inl ⟨rfl,by simp⟩⟩,.inl rfl,id,by simp,fun _ h=>h.elim,⟨by simp,by simp,by simp,by simp,by simp⟩,by simp,by simpa using hRc⟩
      ·rintro O l i m x hO hle0 hg0 fI ⟨k,L,i1,i2,i3,i4,i5,i6,i8,i9⟩ hx K' q1 q2 q3;rw[zzbm,zzcf]at hx;obtain⟨⟨a,b,o⟩,hx,rfl⟩:=hx;obtain⟨o1,o2,o3,o4,o5⟩:=bV _ (zzac hx);simp only at o1 o2 o3 o4 o5;have gr:i<xs.length:=(zza.1 hx).1;have hd:xs.drop i=(a,b,o)::xs.drop (i+1):=by rw[zzaf gr,(zza.1 hx).2]
       rw[hd,tZ]at i9;simp only[Ui]at i4;have hf6:=i6;obtain⟨f0,f1,f2,f3,f5⟩:=i6;have hOl:∀j,O j->j<m.boxes.length:=fun j h=>(hO j h).2;have ayk:xs.length<=41:=by omega
       clear hO hle0 hg0 cI hR hX;simp only[Ui]at f0 f1 f2 f3 f5;have fq:∀x,Qh (m.boxes++x) 1=[I s.1,I s.2]:=fun x=>by rw[Ql (by omega)];exact f1
       have nP:∀x,Qh (m.boxes++[x]) m.boxes.length=x:=fun x=>by
        simp
       by_cases hc:s.2<=a
       ·rw[if_pos hc]at i9;simp[fI,Zl,A2,fq,nP,hc];subst i9;refine q3 0 _ (by simp) ⟨rfl,k,?_,i3,i5⟩;exact(i1.app [[I a,I b,I o]]).cg (by simp)
       rw[if_neg hc]at i9;have Tk:(if a<s.1 then s.1 else a)=max a s.1:=by omega
       have Rh:(if s.2<b then s.2 else b)=min b s.2:=by omega
       by_cases he:min b s.2<=max a s.1
       ·rw[stL,if_pos he]at i9;simp[fI,Zl,A2,fq,nP,hc,Tk,Rh,he];refine q1 _ ⟨by simp,fun j hj=>Ql (hOl j hj)⟩ ⟨k,L,(i1.app [[I a,I b,I o]]).cg (by simp),i2,i3,by simp;omega,i5,(hf6.app [[I a,I b,I o]]).cg (by simp),by omega,i9⟩
       rw[stL,if_neg he]at i9;have hw0:IntKind.i64.wrap (max a s.1+o)=max a s.1+o:=by rw[Qk]<;>omega
       have hdv:=FT (max a s.1+o) (by omega);have eX:IntKind.i64.wrap ((max a s.1+o)/86400*86400)=(max a s.1+o)/86400*86400:=by rw[Qk]<;>omega
       have dG:IntKind.i64.wrap ((max a s.1+o)/86400*86400-o)=(max a s.1+o)/86400*86400-o:=by rw[Qk]<;>omega
       simp[fI,Zl,A2,fq,nP,hc,Tk,Rh,he,hw0,eX,dG,YF];refine⟨hdv,?_⟩;refine ae7 Y0 of sh fr to hf ht _ _ k L (max a s.1) (min b s.2) ((max a s.1+o)/86400*86400-o) _ s (by simp) (by simp) (by simp) (by simp) (by simp) (by simp) ((hf6.app [[I a,I b,I o]]).cg (by simp)) ((i1.app [[I a,I b,I o]]).cg (by simp)) i2 (by omega) (by omega) ?_;intro T m' k' hD;have aH:m.boxes.length+1<=m'.boxes.length:=by have:=hD.2.2.1.1;simpa using this
       have tX:=FY (zH fr to) (uJ hf ht).1 (max a s.1) (min b s.2) _ ((max a s.1+o)/86400*86400-o) L (zzab _);have hFx:=IL.day (s:=s) (fr:=fr) (to:=to) ((hf6.app [[I a,I b,I o]]).cg (by simp)) hD i2;have zn:k'=k\/m.boxes.length+1<=k':=by have:=hD.2.1;simpa using this
       have hS:A4 O m m':=⟨by omega,fun j hj=>by
        have:=hD.2.2.1.2 j (by simp;have:=hOl j hj;omega) (by rintro(rfl|rfl);have:=i5 4 hj;omega;exact i3 hj);rw[this];exact Ql (hOl j hj)⟩
       simp;refine q1 ⟨T,m'⟩ hS ?_;by_cases hLe:nT (zH fr to) (max a s.1) (min b s.2) ((max a s.1+o)/86400*86400-o) L=[]
       ·rw[hLe]at i9 hD;refine⟨4,[],⟨hD.1.1,?_⟩,.inl rfl,(fun h=>by have:=i5 4 h;omega),(by show 4<m'.boxes.length;omega),i5,hFx,by simp,i9⟩;rcases hD.1.2 with h|h
        ·exact .inl h
        exact absurd rfl h.1
       have qv:k'<m'.boxes.length:=by
        rcases hD.1.2 with h|h
        ·exact absurd h.1 hLe
        exact h.2.1
       refine⟨k',_,hD.1,by omega,?_,qv,i5,hFx,by omega,i9⟩;obtain rfl|zn:=zn
       ·exact i3
       intro h;have:=hOl k' h;omega
      ·rintro O m ⟨k,L,i1,i2,i3,i4,i5,i6,i8,i9⟩;rw[zzbf,zzbo,tZ]at i9;subst i9;rcases i1.2 with⟨hL0,h⟩|⟨aK,h2,h3,h4,h5⟩
       ·simp[h,mB,i1.1,hL0]
       have fO:=Zm m 4 (C5 L);have lX:=Qek L;have fK:=Yc L;simp[h4,mB,aK,h5,fO,lX,fK,i1.1]
      rintro O ex m ⟨rfl,k,i1,i3,i5⟩;rcases i1.2 with⟨hL0,h⟩|⟨aK,h2,h3,h4,h5⟩
      ·simp[h,mB,i1.1,hL0]
      have fO:=Zm m 4 (C5 R);have lX:=Qek R;have fK:=Yc R;simp[h4,mB,aK,h5,fO,lX,fK,i1.1]
     have hR0:R=[]:=by rw[<- hR,iE,if_neg (by simp[xw];omega)]
     have CF:1000000<s.2-s.1:=by omega
     simp[xq,YF,hv,hf,ht,ai,bZ,hu,hm,CF,mB,hR0,Ri,K6,A3]
    have hR0:R=[]:=by rw[<- hR,iE,if_neg (by simp[xw];omega)]
    have bZ:s.2<=s.1:=by omega
    simp[xq,YF,hv,hf,ht,ai,bZ,mB,hR0,Ri,K6,A3]
   have hR0:R=[]:=by rw[<- hR,iE,if_neg (by simp[xw,zI];omega)]
   simp[xq,YF,hv,hf,ht,mB,hR0,Ri,K6];simpa[ht]using A3
  have hR0:R=[]:=by rw[<- hR,iE,if_neg (by simp[xw,zI];omega)]
  simp[xq,YF,hv,hf,mB,hR0,Ri];simpa[hf]using K6
 have hR0:R=[]:=by rw[<- hR,iE,if_neg (by simp[xw,hv])]
 simp[xq,YF,hv,mB,hR0];simpa[hv]using Ri
def zJ(of:Int)(sh:List Sp)(s:Sp)(fr to:Int)(gO:sh.length<=1000000000)(h1: -9223372036854775808<=s.1/\s.1<=9223372036854775807)(h2: -9223372036854775808<=s.2/\s.2<=9223372036854775807):
  Pure Tryz.prog az 189 [.agg [I of,.sl .ro (sh.map Qe)],.agg [I s.1,I s.2],I fr,I to] (.sl .ro ((iE of sh s fr to).map Qe)):=by
 have h:=xy of sh s fr to gO h1 h2;by_cases hn:iE of sh s fr to=[]
 ·rw[if_pos hn]at h;rw[hn];exact Xa h (Wk.sl _ _)
 rw[if_neg hn]at h;exact h
def FZ(s:Sp)(W:List Sp)(hW:W.length<=2)(hs:s.2-s.1<=1000000):∀(xs:List (Int×Int×Int))(L:List Sp),(∀x∈xs,ae8 x)->(tZ s W xs L).length<=L.length+40*xs.length
 |[],L,_=>by simp[tZ]
 |x::r,L,h=>by
  rw[tZ];split
  ·omega
  have ih:=FZ s W hW hs r (stL s W x L) (fun y hy=>h y (by simp[hy]));obtain⟨o1,o2,o3,o4,o5⟩:=h x (by simp)
  have:(stL s W x L).length<=L.length+40:=by
   unfold stL;split
   ·omega
   have:=FY W hW (max x.1 s.1) (min x.2.1 s.2) _ ((max x.1 s.1+x.2.2)/86400*86400-x.2.2) L (zzab _);omega
  simp only[zzba];omega
def YJ(of:Int)(sh:List Sp)(s:Sp)(fr to:Int):(iE of sh s fr to).length<=2000:=by
 unfold iE;split
 ·rename_i h;simp only[xw,Yg,zI,gX,zzak,decide_eq_true_eq]at h;obtain⟨⟨⟨⟨⟨a1,a2⟩,a3⟩,a4⟩,a5⟩,a6,a7⟩:=h;have h1:=FZ s (zH fr to) (uJ a4 a5).1 a7 (uH 0 of sh) [] (C4 sh 0 of (-1) (by decide) (by decide) (by decide) a2.1 a2.2 a3);have h2:=xx sh 0 of;simp at h1;omega
 simp
end
end Go.Proofs.YtnopaopphmjnmaaGreatDoor
