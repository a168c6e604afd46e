import Derived.Test.YtnopaopphmjnmaaGreatDoorMBSpG
set_option linter.all false
set_option maxRecDepth 100000
set_option maxHeartbeats 64000000
namespace Go.Proofs.YtnopaopphmjnmaaGreatDoor
noncomputable section
open Go Go.Abs
def wq(n:Int):Pure Tryz.prog az 259 [I n] (.bool (decide (0<=n/\n<86400))):=by
 refine Qn adt (fun _ _ _=>.junk) (by simp) ?_;by_cases h1:0<=n<;>by_cases h2:n<86400<;>simp[aib,aic,h1,h2]
def FC(n:Int)(h: -100000000000<=n/\n<=100000000000):Pure Tryz.prog az 262 [I n] (.aV [I (n/86400),I (n%86400)]):=by
 refine Qn adw (fun _ _ _=>.junk) (by simp) ?_
 have ht:n.tdiv 86400=if 0<=n\/n%86400=0 then n/86400 else n/86400+1:=by
  by_cases h0:0<=n
  ·rw[if_pos (.inl h0),zzck h0]
  rw[Int.tdiv_eq_ediv];by_cases h1:n%86400=0
  ·rw[if_pos (.inr (Int.dvd_of_emod_eq_zero h1)),if_pos (.inr h1)];simp
  rw[if_neg (by rintro(h|h);exact h0 h;exact h1 (Int.emod_eq_zero_of_dvd h)),if_neg (by rintro(h|h);exact h0 h;exact h1 h)];rfl
 have hm:n.tmod 86400=n-n.tdiv 86400*86400:=by have:=Int.mul_tdiv_add_tmod n 86400;omega
 have w1:IntKind.i64.wrap (n.tdiv 86400)=n.tdiv 86400:=by rw[ht];split<;>rw[Qi]<;>omega
 by_cases Cg:n.tmod 86400<0
 ·have e1:n.tdiv 86400=n/86400+1:=by
   rw[ht]at hm |-
   split
   ·rename_i hc;rw[if_pos hc]at hm;omega
   rfl
  have w2:IntKind.i64.wrap (n/86400+1)=n/86400+1:=by rw[Qi]<;>omega
  have w3:IntKind.i64.wrap (n/86400)=n/86400:=by rw[Qi]<;>omega
  have e2:n.tmod 86400=n%86400-86400:=by rw[hm,e1];omega
  have w4:IntKind.i64.wrap (n%86400)=n%86400:=by rw[Qi]<;>omega
  have rO:n%86400<86400:=by omega
  have hn3:¬86400<=n%86400:=by omega
  simp[UK,UL,e1,e2,w2,w3,w4,hn3]
 have e1:n.tdiv 86400=n/86400:=by
  rw[ht]at hm |-
  split
  ·rfl
  rename_i hc;rw[if_neg hc]at hm;omega
 have e2:n.tmod 86400=n%86400:=by rw[hm,e1];omega
 have w3:IntKind.i64.wrap (n/86400)=n/86400:=by rw[Qi]<;>omega
 have rO:¬n%86400<0:=by omega
 simp[UK,UL,e1,e2,w3,rO]
def zb(fr to:Int):List Sp:=if fr<to then[(fr,to)]else if to<fr then[(0,to),(fr,86400)]else[(0,86400)]
def CA(fr to:Int):Pure Tryz.prog az 263 [I fr,I to] (.sl .full ((zb fr to).map Qe)):=by
 refine Qn adx (fun _ _ _=>.junk) (by simp) ?_;by_cases h1:fr<to
 ·simp[Nh,Ni,h1,zb,Qe]
 by_cases h2:to<fr
 ·simp[Nh,Ni,h1,h2,zb,Qe]
 simp[Nh,Ni,h1,h2,zb,Qe]
def tW:Int->Int->List Sp->List (Int×Int×Int)
 |f,o,[]=>[(f,10000000001,o)]
 |f,o,s::r=>(if f<s.1 then[(f,s.1,o)]else[])++tW s.1 s.2 r
def AG(x:Int×Int×Int):List AV:=[.agg [I x.1,I x.2.1,I x.2.2]]
def wz(of:Int)(sh:List Sp):Pure Tryz.prog az 261 [.agg [I of,.sl .ro (sh.map Qe)]] (.fn 312 [] [.ep [I of,.sl .ro (sh.map Qe)] 0]):=by
 refine Qn adv (fun _ _ _=>.junk) (by simp) ?_;simp[aid,aie]
def bM.put{O:Nat->Prop}{m:AM}{b:Nat}(hb:O b)(v:List AV)(x:List (List AV)):bM O m {m with boxes:=m.boxes.set b v++x}:=
 ⟨by simp,fun j hj ho=>by show Qh (m.boxes.set b v++x) j=_;rw[Ql (by simpa using hj),Zv v (by rintro rfl;exact ho hb)],⟨[],by simp⟩,fun _ _=>rfl⟩
def bM.arA{O:Nat->Prop}{m:AM}{b:Nat}(hb:O b)(v:List AV):bM O m {m with boxes:=m.boxes.set b v}:=
 ⟨by simp,fun j hj ho=>by show Qh (m.boxes.set b v) j=_;rw[Zv v (by rintro rfl;exact ho hb)],⟨[],by simp⟩,fun _ _=>rfl⟩
def wA(of:Int)(sh:List Sp)(hl:sh.length<=1000000000):XQ Tryz.prog az 312 [] [.ep [I of,.sl .ro (sh.map Qe)] 0] ((tW 0 of sh).map AG):=by
 intro Y l m K hF;refine Xd adT (fun _ _ _=>.junk) (by simp) ?_;simp[UW];obtain⟨b,hbe⟩:∃b,m.boxes.length=b:=⟨_,rfl⟩;refine Qj BQ (fun f mm=>∃(i:Nat)(fr t o:Int)(O:Nat->Prop),f 12=I i/\i<=sh.length/\b<mm.boxes.length/\Qh mm.boxes b=[I fr,I t,I o]/\O b/\jj (Y l) K ((tW fr o (sh.drop i)).map AG) O mm) (fun f _=>sh.length-(numOf (f 12)).toNat) ?_ ?_
 ·refine⟨0,0,0,of,OU (fun _=>False) m.boxes.length (m.boxes.length+1),by simp,by omega,by simp[hbe],by simp[<- hbe],.inr ⟨by omega,by omega⟩,?_⟩;have:=hF.ext ((fk.box m [[I 0,I 0,I of]]).toO _);simpa using this
 rintro f mm ⟨i,fr,t,o,O,qO,hi,hlm,aa,tj,hF⟩;rcases zzaa i sh.length with ai|bB
 ·obtain⟨s,hs⟩:=aR ai;have yN:=Zd hs;have ah:(i:Int)<(sh.length:Int):=by omega
  have hw:=bJ i (by omega);have hd:sh.drop i=s::sh.drop (i+1):=by rw[zzaf ai,(zza.1 hs).2]
  rw[hd,tW]at hF;have lD:∀x,Qh (mm.boxes++x) b=[I fr,I t,I o]:=fun x=>by rw[Ql hlm];exact aa
  have qb:∀x y,(mm.boxes++x).set b y=mm.boxes.set b y++x:=fun x y=>Yf y hlm;have nW:∀y x,Qh (mm.boxes.set b y++x) b=y:=fun y x=>by rw[Ql (by simpa using hlm),Vp _ hlm]
  have gC:∀y x,Qh (mm.boxes.set b y++[x]) mm.boxes.length=x:=fun y x=>by
   have:=Vk (mm.boxes.set b y) [x] 0;rw[zzcg]at this;simpa using this
  have hsc:∀y x z,(mm.boxes.set b y++x).set b z=mm.boxes.set b z++x:=fun y x z=>by rw[Yf z (by simpa using hlm),List.set_set]
  by_cases hfs:fr<s.1
  ·rw[if_pos hfs]at hF;simp only[zzen,zzaw]at hF;simp[qO,ah,yN,lD,qb,nW,BQ,hbe,hfs];refine⟨by omega,hF _ (bM.put tj _ _) _ (fun m2 wj p9=>?_) (fun m2 hK=>?_)⟩
   ·have axB:mm.boxes.length+1<=m2.boxes.length:=by have:=wj.1;simpa using this
    have q1:Qh m2.boxes b=[I fr,I s.1,I o]:=by rw[wj.2 b (.inl tj)];exact nW _ _
    have q2:Qh m2.boxes mm.boxes.length=[I s.1,I s.2]:=by
     rw[wj.2 mm.boxes.length (.inr ⟨zzab _,by simp⟩)];exact gC _ _
    have lK:b<m2.boxes.length:=by omega
    have arB:OU O mm.boxes.length (mm.boxes.length+1) b:=.inl tj;simp at p9;have q3:∀y,Qh (m2.boxes.set b y) b=y:=fun y=>Vp _ lK;simp[q1,q2,q3,lK,hw];refine⟨aN,⟨i+1,by simp,by omega,s.1,0,s.2,⟨rfl,rfl,rfl⟩,_,.inl arB,p9.ext (bM.arA arB _)⟩,by omega⟩
   simp[Nr];exact hK _ (bM.refl _ _)
  rw[if_neg hfs]at hF;simp only[zzai]at hF;simp[qO,ah,yN,lD,qb,nW,gC,hsc,BQ,hbe,hfs,hw];refine⟨by omega,aN,⟨i+1,by simp,by omega,by omega,s.1,0,s.2,⟨rfl,rfl,rfl⟩,_,.inl tj,hF.ext (bM.put tj _ _)⟩,by omega⟩
 obtain rfl:i=sh.length:=by omega
 rw[zzbr,tW]at hF;simp only[zzaw,zzce]at hF;simp[qO,BQ,hbe,aa,hlm,Vp _ hlm];refine hF _ (bM.arA tj _) _ (fun m2 _ p9=>?_) (fun m2 hK=>?_)
 ·simp[Nr];exact p9 _ (bM.refl _ _)
 simp[Nr];exact hK _ (bM.refl _ _)
open Go Go.Abs
def nA(L:List Sp)(f t:Int):List Sp:=
 if f<t then(match L.getLast? with|some s=>if s.2=f then L.dropLast++[(s.1,t)]else L++[(f,t)]|none=>[(f,t)])else L
def ig(m:AM)(id k:Nat)(L:List Sp):Prop:=id<m.boxes.length/\((L=[]/\Qh m.boxes id=[.sl .nil []])\/(L≠[]/\k<m.boxes.length/\k≠id/\Qh m.boxes id=[.bs k 0 L.length 2]/\Qh m.boxes k=cC L))
def ami:Nat->FuncId->List AV->AV:=fun d f _=>if f=999999 then(if d=34 then .aK 0 []else .junk)else .junk
def XR(Y:YT)(f t:Int)(id k:Nat)(L:List Sp)(m:AM)(hO:ig m id k L)(hl:L.length<=1000000000)(K:AV->AM->Prop)
  (hK:∀m' k',ig m' id k' (nA L f t)->(k'=k\/m.boxes.length<=k')->aZ (fun j=>j=id\/(L≠[]/\j=k)) m.boxes m'.boxes->m'.st=m.st->m'.ln=m.ln->m'.lens=m.lens->K (.aV []) m'):an Tryz.prog az Y 260 [I f,I t,.ptr id 0] m K:=by
 obtain⟨h2,h3⟩:=hO;refine Xd adu ami (by simp) ?_;have lD:∀x,Qh (m.boxes++x) id=Qh m.boxes id:=fun x=>Ql h2;have qb:∀x y,(m.boxes++x).set id y=m.boxes.set id y++x:=fun x y=>Yf y h2;by_cases SX:f<t
 ·have XS:¬t<=f:=by omega
  obtain⟨rfl,h1⟩|⟨aJ,hk,fL,h1,aa⟩:=h3
  ·have ha:nA [] f t=[(f,t)]:=by simp[nA,SX]
   rw[ha]at hK;simp[Eu,Ew,ami,XS,h1,lD,qb];refine⟨by omega,hK _ m.boxes.length ⟨by simp;omega,.inr ⟨by simp,by simp,by omega,?_,?_⟩⟩ (.inr (zzab _)) ((aZ.set (S:=fun j=>j=id\/(([]:List Sp)≠[]/\j=k)) (aZ.refl _ _) (.inl (.inl rfl)) _).app _) rfl rfl rfl⟩
   ·simp only[zzdv];rw[Ql (by simpa using h2),Vp _ h2]
   have:=Vk (m.boxes.set id [.bs m.boxes.length 0 1 2]) [[I f,I t]] 0;rw[zzcg]at this;simpa using this
  obtain⟨A,s,rfl⟩:∃A s,L=A++[s]:=⟨L.dropLast,L.getLast aJ,(zzeo aJ).symm⟩;have ha:nA (A++[s]) f t=if s.2=f then A++[(s.1,t)]else A++[s]++[(f,t)]:=by simp[nA,SX]
  rw[ha]at hK;have hw:IntKind.i64.wrap (A.length:Int)=(A.length:Int):=by simp at hl;rw[Qi]<;>omega
  have hg:(A++[s])[A.length]?=some s:=by simp
  have g0:=tX hg;have g1:=FD hg;have dm:(A++[s]).length=A.length+1:=by simp
  rw[dm]at h1;have gl:(cC (A++[s])).length=A.length*2+2:=by rw[Vv,dm];omega
  have hR2:cC (A++[s]++[(f,t)])=cC (A++[s])++[I f,I t]:=by rw[Qbv];rfl
  have hR1:(cC (A++[s])).set (A.length*2+1) (I t)=cC (A++[(s.1,t)]):=by rw[wB _ _ s _ hg];simp
  have hrk:∀x,Qh (m.boxes++x) k=cC (A++[s]):=fun x=>by rw[Ql hk];exact aa
  have hsk:∀x y,(m.boxes++x).set k y=m.boxes.set k y++x:=fun x y=>Yf y hk;generalize hR:cC (A++[s])=R at*
  by_cases hs:s.2=f
  ·rw[if_pos hs]at hK;simp[Eu,Ew,XS,h1,hw,aa,g1,gl,hk,hs];refine⟨by omega,hK _ k ⟨by simpa using h2,.inr ⟨by simp,by simpa using hk,fL,?_,?_⟩⟩ (.inl rfl) (aZ.set (S:=fun j=>j=id\/(A++[s]≠[]/\j=k)) (aZ.refl _ _) (.inl (.inr ⟨by simp,rfl⟩)) _) rfl rfl rfl⟩
   ·show Qh (m.boxes.set k _) id=_;rw[Zv _ fL,h1];simp
   show Qh (m.boxes.set k _) k=_;rw[Vp _ hk];exact hR1
  rw[if_neg hs]at hK;simp[Eu,Ew,ami,XS,h1,h2,hw,aa,g1,gl,hk,hs];have hRt:List.take ((A.length+1)*2) R=R:=zzam (by omega);have av2:¬R=[]:=by rintro rfl;simp at gl
  have hri:∀x,Qh (m.boxes.set k []++x) id=[AV.bs k 0 (A.length+1) 2]:=fun x=>by rw[Ql (by simpa using h2),Zv _ fL,h1]
  simp only[hRt,hri];refine⟨by omega,⟨⟨av2,by omega⟩,by simp at hl;omega⟩,⟨by simp,by omega⟩,?_⟩;refine hK _ m.boxes.length ⟨by simp;omega,.inr ⟨by simp,by simp,by omega,?_,?_⟩⟩ (.inr (zzab _)) ?_ rfl rfl rfl
  ·show Qh ((m.boxes.set k []).set id _++_) id=_;rw[Ql (by simpa using h2),Vp _ (by simpa using h2)];simp
  ·have:=Vk ((m.boxes.set k []).set id [.bs m.boxes.length 0 (A.length+1+1) 2]) [R++[I f,I t]] 0;simp only[zzcg]at this;rw[hR2];simpa using this
  exact((aZ.set (S:=fun j=>j=id\/(A++[s]≠[]/\j=k)) (aZ.refl _ _) (.inl (.inr ⟨by simp,rfl⟩)) _).set (.inl (.inl rfl)) _).app _
 have ha:nA L f t=L:=by simp[nA,SX]
 rw[ha]at hK;have XS:t<=f:=by omega
 simp[Eu,Ew,XS];exact hK m k ⟨h2,h3⟩ (.inl rfl) (aZ.refl _ _) rfl rfl rfl
open Go Go.Abs
def FE(L:List Sp)(f t:Int):(nA L f t).length<=L.length+1:=by
 unfold nA;split
 ·split
  ·rename_i s hs;split
   ·have:0<L.length:=by cases L with
     |nil=>simp at hs
     |cons=>simp
    simp<;>omega
   simp
  simp
 omega
def oQ(sf st mid:Int):List Sp->List Sp->List Sp
 |[],L=>L
 |w::W,L=>oQ sf st mid W (nA L (max sf (mid+w.1)) (min st (mid+w.2)))
def FF(sf st mid:Int):∀(W L:List Sp),(oQ sf st mid W L).length<=L.length+W.length
 |[],L=>by simp[oQ]
 |w::W,L=>by
  have h1:=FF sf st mid W (nA L (max sf (mid+w.1)) (min st (mid+w.2)));have h2:=FE L (max sf (mid+w.1)) (min st (mid+w.2));simp[oQ];omega
def nB(W:List Sp)(sf st mid:Int)(L:List Sp):List Sp:=
 if mid<st then nB W sf st (mid+86400) (oQ sf st mid W L)else L
termination_by(st-mid).toNat
decreasing_by omega
def qQ(m0:AM)(k0:Nat)(m:AM)(k:Nat)(L:List Sp):Prop:=
 ig m 4 k L/\(k=k0\/m0.boxes.length<=k)/\aZ (fun j=>j=4\/j=k0) m0.boxes m.boxes/\m.st=m0.st/\m.ln=m0.ln/\m.lens=m0.lens
def ig.app{m:AM}{id k:Nat}{L:List Sp}(h:ig m id k L)(x:List (List AV)):ig {m with boxes:=m.boxes++x} id k L:=by
 obtain⟨h1,h2⟩:=h;refine⟨by simp;omega,?_⟩;obtain⟨h2,h3⟩|⟨h2,h3,h4,h5,h6⟩:=h2
 ·exact .inl ⟨h2,by show Qh (m.boxes++x) id=_;rw[Ql h1];exact h3⟩
 exact .inr ⟨h2,by simp;omega,h4,by show Qh (m.boxes++x) id=_;rw[Ql h1];exact h5,by show Qh (m.boxes++x) k=_;rw[Ql h3];exact h6⟩
def qQ.refl{m:AM}{k:Nat}{L:List Sp}(h:ig m 4 k L):qQ m k m k L:=⟨h,.inl rfl,aZ.refl _ _,rfl,rfl,rfl⟩
def qQ.app{m0 m:AM}{k0 k:Nat}{L:List Sp}(h:qQ m0 k0 m k L)(x:List (List AV)):qQ m0 k0 {m with boxes:=m.boxes++x} k L:=
 ⟨h.1.app x,h.2.1,h.2.2.1.app x,h.2.2.2⟩
def qQ.step{m0 m m':AM}{k0 k k':Nat}{L L':List Sp}(h:qQ m0 k0 m k L)(hO:ig m' 4 k' L')(hk:k'=k\/m.boxes.length<=k')(hK:aZ (fun j=>j=4\/(L≠[]/\j=k)) m.boxes m'.boxes)(h1:m'.st=m.st)(h2:m'.ln=m.ln)(h3:m'.lens=m.lens):qQ m0 k0 m' k' L':=by
 obtain⟨a1,a2,a3,a4,a5,a6⟩:=h;refine⟨hO,?_,aZ.trans a3 (hK.mono ?_),by rw[h1,a4],by rw[h2,a5],by rw[h3,a6]⟩
 ·have:=a3.1;omega
 rintro i (rfl|⟨_,rfl⟩)
 ·exact .inl (.inl rfl)
 obtain a2|a2:=a2
 ·exact .inl (.inr a2)
 exact .inr a2
def Io(s:Sp)(fr to:Int)(m:AM):Prop:=5<m.boxes.length/\Qh m.boxes 1=[I s.1,I s.2]/\Qh m.boxes 2=[I fr]/\Qh m.boxes 3=[I to]/\Qh m.boxes 5=[.fn 260 [] [.ptr 4 0]]
def Io.keep{s:Sp}{fr to:Int}{m m':AM}(h:Io s fr to m){S:Nat->Prop}(hK:aZ S m.boxes m'.boxes)(hS:∀j,S j->j=4\/6<=j):Io s fr to m':=by
 obtain⟨h1,h2,h3,h4,h5⟩:=h;have q:∀j,j<6->j≠4->Qh m'.boxes j=Qh m.boxes j:=fun j hj h4=>hK.2 j (by omega) (fun h=>by have:=hS j h;omega);exact⟨zzbb h1 hK.1,by rw[q 1 (by omega) (by omega)];exact h2,by rw[q 2 (by omega) (by omega)];exact h3,by rw[q 3 (by omega) (by omega)];exact h4,by rw[q 5 (by omega) (by omega)];exact h5⟩
def Io.day{s:Sp}{fr to:Int}{m0 m:AM}{k0 k:Nat}{L:List Sp}(h:Io s fr to m0)(hD:qQ m0 k0 m k L)(hk:k0=4\/6<=k0):Io s fr to m:=
 h.keep hD.2.2.1 (by rintro j (h|h)<;>omega)
def Io.app{s:Sp}{fr to:Int}{m:AM}(h:Io s fr to m)(x:List (List AV)):Io s fr to {m with boxes:=m.boxes++x}:=
 h.keep (S:=fun _=>False) ((aZ.refl _ _).app x) (fun _ h=>h.elim)
def XT(of:Int)(sh:List Sp)(fr to:Int):Nat->FuncId->List AV->AV:=fun d f l=>
 if f=999999 then .junk else
 if f=184 then .bool (Vy of sh)else
 if f=259 then(match l with|[.int _ n]=>.bool (decide (0<=n/\n<86400))|_=>.junk)else
 if f=261 then .fn 312 [] [.ep [I of,.sl .ro (sh.map Qe)] 0]else
 if f=262 then(match l with|[.int _ n]=>.aV [I (n/86400),I (n%86400)]|_=>.junk)else
 if f=263 then .sl .full ((zb fr to).map Qe)else .gd false .junk
def XU:SC:=(⟨_,by cbv⟩:vO [1,0,1,1,1,1,1,0,1,0,1,0,1,1,1,1,1] zO).1
def wC:SC->SC:=(⟨_,fun _=>by cbv⟩:vP [1,0,1,1,1,1,1,0,1,0,1,0,1,1,1,1,1] zO).1
theorem XV:zO=wC XU:=rfl
def tY{fr to:Int}(h1:0<=fr/\fr<86400)(h2:0<=to/\to<86400):(zb fr to).length<=2/\∀w∈zb fr to,0<=w.1/\w.1<=86400/\0<=w.2/\w.2<=86400:=by
 unfold zb;split
 ·simp;omega
 split
 ·simp;omega
 simp
def aeK(Y:YT)(of:Int)(sh:List Sp)(fr to:Int)(wD:0<=fr/\fr<86400)(hto:0<=to/\to<86400)(E:List (Nat×AV))(m:AM)(k0:Nat)(L0:List Sp)(sf st KH:Int)(Q:Exit->AS->Prop)
  (s:Sp)(h6:Abs.look E 6=.ptr 2 0)(h7:Abs.look E 7=.ptr 3 0)(nY:Abs.look E 10=.ptr 5 0)(qO:Abs.look E 12=I sf)(jk:Abs.look E 13=I st)(CB:Abs.look E 16=I KH)
  (hf:Io s fr to m)(hO:ig m 4 k0 L0)(hk:k0=4\/6<=k0)
  (hb: -100000000000<=KH/\KH<=100000000000/\st<=100000000000)(hl:L0.length+2*((st-KH)/86400+1).toNat<=100000)
  (hQ:∀T m' k',qQ m k0 m' k' (nB (zb fr to) sf st KH L0)->Q .normal ⟨T,m'⟩):
  vc Tryz.prog az (XT of sh fr to) Y XU ⟨Zi 111 E,m⟩ Q:=by
 obtain⟨Fz,hWb⟩:=tY wD hto;have av3:=CA fr to;simp[XU];refine Qj I7 (fun f mm=>∃(mid:Int)(k:Nat)(L:List Sp),f 16=I mid/\qQ m k0 mm k L/\ -100000000000<=mid/\mid<=100000086400/\L.length+2*((st-mid)/86400+1).toNat<=100000/\nB (zb fr to) sf st mid L=nB (zb fr to) sf st KH L0) (fun f _=>(st-numOf (f 16)).toNat) ?_ ?_
 ·exact⟨KH,k0,L0,by simp[CB],qQ.refl hO,by omega,by omega,hl,rfl⟩
 rintro f mm ⟨mid,k,L,hm16,hD,b1,b2,b3,hR⟩;by_cases ai:mid<st
 ·have av4:IntKind.i64.wrap (mid+86400)=mid+86400:=by rw[Qi]<;>omega
  rw[nB,if_pos ai]at hR;obtain⟨f0,f1,f2,f3,f5⟩:=hf.day hD hk;generalize hWe:zb fr to=W at*
  simp[hm16,h6,h7,jk,I7,ai,XT,hWe,f2,f3];refine⟨av3,?_⟩;refine Qj I8 (fun f' m'=>∃(i k':Nat)(L':List Sp),f' 91=I i/\i<=W.length/\qQ m k0 m' k' L'/\L'.length<=L.length+i/\oQ sf st mid (W.drop i) L'=oQ sf st mid W L) (fun f' _=>W.length-(numOf (f' 91)).toNat) ?_ ?_
  ·exact⟨0,k,L,by simp,by omega,hD,by omega,rfl⟩
  rintro f' m' ⟨i,k',L',h91,hi,hD',tg,hR'⟩;obtain⟨g0,g1,g2,g3,g5⟩:=hf.day hD' hk;rcases zzaa i W.length with hiw|bB
  ·obtain⟨w,hw⟩:=aR hiw;have NX:=Zd hw;obtain⟨c1,c2,c3,c4⟩:=hWb w (zzac hw);have ah:(i:Int)<(W.length:Int):=by omega
   have NY:=bJ i (by omega);have eU:IntKind.i64.wrap (mid+w.1)=mid+w.1:=by rw[Qi]<;>omega
   have ee:IntKind.i64.wrap (mid+w.2)=mid+w.2:=by rw[Qi]<;>omega
   have hd:W.drop i=w::W.drop (i+1):=by rw[zzaf hiw,(zza.1 hw).2]
   rw[hd,oQ]at hR';have lD:∀x,Qh (m'.boxes++x) 5=[.fn 260 [] [.ptr 4 0]]:=fun x=>by rw[Ql g0];exact g5
   have tV:∀x,Qh (m'.boxes++[x]) m'.boxes.length=x:=fun x=>by
    simp
   have SY:(if sf<mid+w.1 then mid+w.1 else sf)=max sf (mid+w.1):=by omega
   have QJ:(if mid+w.2<st then mid+w.2 else st)=min st (mid+w.2):=by omega
   have av5:=fun K hK=>XR Y (max sf (mid+w.1)) (min st (mid+w.2)) 4 k' L' {m' with boxes:=m'.boxes++[[I w.1,I w.2]]} (hD'.1.app _) (by omega) K hK;simp[h91,ah,NX,I8,nY,qO,jk,lD,tV,eU,ee,SY,QJ,NY,XT];refine av5 _ fun m2 k2 e1 e2 e3 e4 e5 e6=>?_;have hD2:=(hD'.app [[I w.1,I w.2]]).step e1 e2 e3 e4 e5 e6;have:=FE L' (max sf (mid+w.1)) (min st (mid+w.2));refine⟨aN,⟨i+1,by omega,by omega,k2,_,hD2,by omega,hR'⟩,by omega⟩
  obtain rfl:i=W.length:=by omega
  rw[zzbr,oQ]at hR';rw[<- hR']at hR;simp[h91,I8,hm16,av4];refine⟨aN,⟨k',L',hD',by omega,by omega,by omega,hR⟩,by omega⟩
 have hR0:=hR;rw[nB,if_neg ai]at hR;simp[hm16,jk,I7,ai];exact hQ _ _ k (by rw[<- hR];exact hD)
open Go Go.Abs
def stL(s:Sp)(W:List Sp)(x:Int×Int×Int)(L:List Sp):List Sp:=
 if min x.2.1 s.2<=max x.1 s.1 then L else nB W (max x.1 s.1) (min x.2.1 s.2) ((max x.1 s.1+x.2.2)/86400*86400-x.2.2) L
def tq(s:Sp)(W:List Sp):List (Int×Int×Int)->List Sp->List Sp
 |[],L=>L
 |x::r,L=>if s.2<=x.1 then L else tq s W r (stL s W x L)
def ze(n:Int):Bool:=decide (0<=n/\n<86400)
def wE(of:Int)(sh:List Sp)(s:Sp)(fr to:Int):Bool:=Vy of sh&&ze fr&&ze to&&decide (s.1<s.2/\s.2-s.1<=1000000)
def ij(of:Int)(sh:List Sp)(s:Sp)(fr to:Int):List Sp:=if wE of sh s fr to then tq s (zb fr to) (tW 0 of sh) []else[]
def aeL(x:Int×Int×Int):Prop:=0<=x.1/\x.1<=10000000000/\x.2.1<=10000000001/\ -50400<=x.2.2/\x.2.2<=50400
def CD:∀(sh:List Sp)(f o last:Int),0<=f->f<=10000000000-> -1<=last-> -50400<=o->o<=50400->tu last sh=true->(∀x∈tW f o sh,aeL x)
 |[],f,o,last,h1,h2,_,h3,h4,_=>by simp[tW,aeL];omega
 |s::r,f,o,last,h1,h2,hla,h3,h4,ha=>by
  rw[tu]at ha;split at ha
  ·cases ha
  rename_i hn;simp only[not_or,zzgh,gM,decide_eq_true_eq]at hn;have ih:=CD r s.1 s.2 s.1 (by omega) (by omega) (by omega) (by omega) (by omega) ha;intro x hx;rw[tW,zzal]at hx;obtain hx|hx:=hx
  ·split at hx
   ·simp at hx;subst hx;simp[aeL];omega
   simp at hx
  exact ih x hx
def wG:∀(sh:List Sp)(f o:Int),(tW f o sh).length<=sh.length+1
 |[],f,o=>by simp[tW]
 |s::r,f,o=>by
  have:=wG r s.1 s.2;rw[tW];split<;>simp<;>omega
def FG(W:List Sp)(hW:W.length<=2)(sf st:Int):∀(n:Nat)(mid:Int)(L:List Sp),(st-mid).toNat<=n->(nB W sf st mid L).length<=L.length+2*((st-mid)/86400+1).toNat:=by
 intro n;induction n with
 |zero=>intro mid L h;rw[nB,if_neg (by omega)];omega
 |succ n ih=>
  intro mid L h;rw[nB];split
  ·have:=ih (mid+86400) (oQ sf st mid W L) (by omega);have:=FF sf st mid W L;omega
  omega
def aeM(R:List Sp)(s:Sp)(fr to:Int)(xs:List (Int×Int×Int))(O:Nat->Prop)(i:Nat)(m:AM):Prop:=
 ∃k L,ig m 4 k L/\(k=4\/6<=k)/\¬O k/\k<m.boxes.length/\(∀j,O j->6<=j)/\Io s fr to m/\L.length<=40*i/\tq s (zb fr to) (xs.drop i) L=R
def aeN(R:List Sp)(O:Nat->Prop)(ex:Exit)(m:AM):Prop:=ex=.exit 0/\∃k,ig m 4 k R/\¬O k/\(∀j,O j->6<=j)
def ig.cg{m m':AM}{id k:Nat}{L:List Sp}(h:ig m id k L)(e:m'.boxes=m.boxes):ig m' id k L:=by unfold ig at*;rw[e];exact h
def Io.cg{s:Sp}{fr to:Int}{m m':AM}(h:Io s fr to m)(e:m'.boxes=m.boxes):Io s fr to m':=by unfold Io at*;rw[e];exact h
def ig.XW{O:Nat->Prop}{m m':AM}{k:Nat}{L:List Sp}(h:ig m 4 k L)(e:bM O m m')(h0:¬O 4)(hk:¬O k):ig m' 4 k L:=by
 obtain⟨h1,h2⟩:=h;refine⟨zzbb h1 e.1,?_⟩;obtain⟨h2,h3⟩|⟨h2,h3,h4,h5,h6⟩:=h2
 ·exact .inl ⟨h2,by rw[e.2.1 4 h1 h0];exact h3⟩
 exact .inr ⟨h2,zzbb h3 e.1,h4,by rw[e.2.1 4 h1 h0];exact h5,by rw[e.2.1 k h3 hk];exact h6⟩
def aeM.ext{R:List Sp}{s:Sp}{fr to:Int}{xs:List (Int×Int×Int)}{O:Nat->Prop}{i:Nat}{m m':AM}(h:aeM R s fr to xs O i m)(e:bM O m m'):aeM R s fr to xs (OU O m.boxes.length m'.boxes.length) i m':=by
 obtain⟨k,L,h1,h2,h3,h4,h5,h6,h8,h9⟩:=h;refine⟨k,L,h1.XW e (fun h=>by have:=h5 4 h;omega) h3,h2,?_,zzbb h4 e.1,?_,h6.keep (S:=O) ⟨e.1,e.2.1⟩ (fun j h=>.inr (h5 j h)),h8,h9⟩
 ·rintro(h|h)
  ·exact h3 h
  omega
 have:=h6.1;rintro j (h|h)
 ·exact h5 j h
 omega
def aeN.ext{R:List Sp}{O:Nat->Prop}{ex:Exit}{m m':AM}(h:aeN R O ex m)(e:bM O m m'):aeN R O ex m':=by
 obtain⟨h0,k,h1,h3,h5⟩:=h;exact⟨h0,k,h1.XW e (fun h=>by have:=h5 4 h;omega) h3,h3,h5⟩
def wH(of:Int)(sh:List Sp)(s:Sp)(fr to:Int)(gD:sh.length<=1000000000)(h1: -9223372036854775808<=s.1/\s.1<=9223372036854775807)(h2: -9223372036854775808<=s.2/\s.2<=9223372036854775807):
  Pure Tryz.prog az 189 [.agg [I of,.sl .ro (sh.map Qe)],.agg [I s.1,I s.2],I fr,I to] (if ij of sh s fr to=[]then .sl .nil []else .sl .ro ((ij of sh s fr to).map Qe)):=by
 have QK:=jm of sh gD;have KI:=wq fr;have AH:=wq to;have arC:=wz of sh;refine Qn acJ (XT of sh fr to) (by simp) ?_;rw[XV];generalize hR:ij of sh s fr to=R;by_cases hv:Vy of sh=true
 ·rw[hv]at QK;by_cases hf:0<=fr/\fr<86400
  ·rw[decide_eq_true hf]at KI;by_cases ht:0<=to/\to<86400
   ·rw[decide_eq_true ht]at AH;by_cases ai:s.1<s.2
    ·have cc:¬s.2<=s.1:=by omega
     have hu:IntKind.u64.wrap (IntKind.u64.wrap s.2-IntKind.u64.wrap s.1)=s.2-s.1:=by
      have q:∀z:Int,IntKind.u64.wrap z=z%18446744073709551616:=fun z=>by simp[IntKind.wrap,IntKind.bits,IntKind.signed]
      rw[q,q,q];omega
     by_cases hm:s.2-s.1<=1000000
     ·have Cd:¬1000000<s.2-s.1:=by omega
      simp[wC,XT,hv,hf,ht,cc,hu,Cd];refine⟨QK,KI,AH,arC,?_⟩;have cH:=wA of sh gD;have hz:sh.length<=40/\gM of=true/\tu (-1) sh=true:=by simpa[Vy,and_assoc]using hv
      have hof: -50400<=of/\of<=50400:=by simpa[gM]using hz.2.1
      have bT:=CD sh 0 of (-1) (by decide) (by decide) (by decide) hof.1 hof.2 hz.2.2;have hxl:=wG sh 0 of;have hRc:tq s (zb fr to) (tW 0 of sh) []=R:=by rw[<- hR,ij,if_pos (by simp[wE,hv,ze,hf,ht,ai,hm])]
      clear QK KI AH arC hu;generalize hX:tW 0 of sh=xs at*
      refine qR (xs:=xs.map AG) (by simp) cH (by intro x hx;simp at hx;obtain⟨a,b,c,_,rfl⟩:=hx;rfl) (aeM R s fr to xs) (aeN R) ?_ (fun _ _ _ _ h e=>h.ext e) (fun _ _ _ _ h e=>h.ext e) ?_ ?_ ?_
      ·refine⟨4,[],⟨by simp,.inl ⟨rfl,by simp⟩⟩,.inl rfl,id,by simp,fun _ h=>h.elim,⟨by simp,by simp,by simp,by simp,by simp⟩,by simp,by simpa using hRc⟩
      ·rintro O l i m x hO hle0 hg0 gC ⟨k,L,i1,i2,i3,i4,i5,i6,i8,i9⟩ hx K' q1 q2 q3;rw[zzbp,zzcd]at hx;obtain⟨⟨a,b,o⟩,hx,rfl⟩:=hx;obtain⟨o1,o2,o3,o4,o5⟩:=bT _ (zzac hx);simp only at o1 o2 o3 o4 o5;have fR:i<xs.length:=(zza.1 hx).1;have hd:xs.drop i=(a,b,o)::xs.drop (i+1):=by rw[zzaf fR,(zza.1 hx).2]
       rw[hd,tq]at i9;simp only[Ub]at i4;have hf6:=i6;obtain⟨f0,f1,f2,f3,f5⟩:=i6;have hOl:∀j,O j->j<m.boxes.length:=fun j h=>(hO j h).2;have axC:xs.length<=41:=by omega
       clear hO hle0 hg0 cH hR hX;simp only[Ub]at f0 f1 f2 f3 f5;have lD:∀x,Qh (m.boxes++x) 1=[I s.1,I s.2]:=fun x=>by rw[Ql (by omega)];exact f1
       have tV:∀x,Qh (m.boxes++[x]) m.boxes.length=x:=fun x=>by
        simp
       by_cases hc:s.2<=a
       ·rw[if_pos hc]at i9;simp[gC,Zj,AG,lD,tV,hc];subst i9;refine q3 0 _ (by simp) ⟨rfl,k,?_,i3,i5⟩;exact(i1.app [[I a,I b,I o]]).cg (by simp)
       rw[if_neg hc]at i9;have SY:(if a<s.1 then s.1 else a)=max a s.1:=by omega
       have QJ:(if s.2<b then s.2 else b)=min b s.2:=by omega
       by_cases he:min b s.2<=max a s.1
       ·rw[stL,if_pos he]at i9;simp[gC,Zj,AG,lD,tV,hc,SY,QJ,he];refine q1 _ ⟨by simp,fun j hj=>Ql (hOl j hj)⟩ ⟨k,L,(i1.app [[I a,I b,I o]]).cg (by simp),i2,i3,by simp;omega,i5,(hf6.app [[I a,I b,I o]]).cg (by simp),by omega,i9⟩
       rw[stL,if_neg he]at i9;have hw0:IntKind.i64.wrap (max a s.1+o)=max a s.1+o:=by rw[Qi]<;>omega
       have hdv:=FC (max a s.1+o) (by omega);have eU:IntKind.i64.wrap ((max a s.1+o)/86400*86400)=(max a s.1+o)/86400*86400:=by rw[Qi]<;>omega
       have ee:IntKind.i64.wrap ((max a s.1+o)/86400*86400-o)=(max a s.1+o)/86400*86400-o:=by rw[Qi]<;>omega
       simp[gC,Zj,AG,lD,tV,hc,SY,QJ,he,hw0,eU,ee,XT];refine⟨hdv,?_⟩;refine aeK Y0 of sh fr to hf ht _ _ k L (max a s.1) (min b s.2) ((max a s.1+o)/86400*86400-o) _ s (by simp) (by simp) (by simp) (by simp) (by simp) (by simp) ((hf6.app [[I a,I b,I o]]).cg (by simp)) ((i1.app [[I a,I b,I o]]).cg (by simp)) i2 (by omega) (by omega) ?_;intro T m' k' hD;have aH:m.boxes.length+1<=m'.boxes.length:=by have:=hD.2.2.1.1;simpa using this
       have tg:=FG (zb fr to) (tY hf ht).1 (max a s.1) (min b s.2) _ ((max a s.1+o)/86400*86400-o) L (zzab _);have hFx:=Io.day (s:=s) (fr:=fr) (to:=to) ((hf6.app [[I a,I b,I o]]).cg (by simp)) hD i2;have yU:k'=k\/m.boxes.length+1<=k':=by have:=hD.2.1;simpa using this
       have hS:AI O m m':=⟨by omega,fun j hj=>by
        have:=hD.2.2.1.2 j (by simp;have:=hOl j hj;omega) (by rintro(rfl|rfl);have:=i5 4 hj;omega;exact i3 hj);rw[this];exact Ql (hOl j hj)⟩
       simp;refine q1 ⟨T,m'⟩ hS ?_;by_cases hLe:nB (zb fr to) (max a s.1) (min b s.2) ((max a s.1+o)/86400*86400-o) L=[]
       ·rw[hLe]at i9 hD;refine⟨4,[],⟨hD.1.1,?_⟩,.inl rfl,(fun h=>by have:=i5 4 h;omega),(by show 4<m'.boxes.length;omega),i5,hFx,by simp,i9⟩;rcases hD.1.2 with h|h
        ·exact .inl h
        exact absurd rfl h.1
       have DQ:k'<m'.boxes.length:=by
        rcases hD.1.2 with h|h
        ·exact absurd h.1 hLe
        exact h.2.1
       refine⟨k',_,hD.1,by omega,?_,DQ,i5,hFx,by omega,i9⟩;obtain rfl|yU:=yU
       ·exact i3
       intro h;have:=hOl k' h;omega
      ·rintro O m ⟨k,L,i1,i2,i3,i4,i5,i6,i8,i9⟩;rw[zzbe,zzbr,tq]at i9;subst i9;rcases i1.2 with⟨hL0,h⟩|⟨aJ,h2,h3,h4,h5⟩
       ·simp[h,lT,hL0]
       have fu:=Zl m 4 (CE L);have lF:=Qdq L;have gj:=Vv L;simp[h4,lT,aJ,h5,fu,lF,gj]
      rintro O ex m ⟨rfl,k,i1,i3,i5⟩;rcases i1.2 with⟨hL0,h⟩|⟨aJ,h2,h3,h4,h5⟩
      ·simp[h,lT,hL0]
      have fu:=Zl m 4 (CE R);have lF:=Qdq R;have gj:=Vv R;simp[h4,lT,aJ,h5,fu,lF,gj]
     have hR0:R=[]:=by rw[<- hR,ij,if_neg (by simp[wE];omega)]
     have Cd:1000000<s.2-s.1:=by omega
     simp[wC,XT,hv,hf,ht,cc,hu,Cd,lT,hR0,QK,KI,AH]
    have hR0:R=[]:=by rw[<- hR,ij,if_neg (by simp[wE];omega)]
    have cc:s.2<=s.1:=by omega
    simp[wC,XT,hv,hf,ht,cc,lT,hR0,QK,KI,AH]
   have hR0:R=[]:=by rw[<- hR,ij,if_neg (by simp[wE,ze];omega)]
   simp[wC,XT,hv,hf,ht,lT,hR0,QK,KI];simpa[ht]using AH
  have hR0:R=[]:=by rw[<- hR,ij,if_neg (by simp[wE,ze];omega)]
  simp[wC,XT,hv,hf,lT,hR0,QK];simpa[hf]using KI
 have hR0:R=[]:=by rw[<- hR,ij,if_neg (by simp[wE,hv])]
 simp[wC,XT,hv,lT,hR0];simpa[hv]using QK
def zf(of:Int)(sh:List Sp)(s:Sp)(fr to:Int)(gD:sh.length<=1000000000)(h1: -9223372036854775808<=s.1/\s.1<=9223372036854775807)(h2: -9223372036854775808<=s.2/\s.2<=9223372036854775807):
  Pure Tryz.prog az 189 [.agg [I of,.sl .ro (sh.map Qe)],.agg [I s.1,I s.2],I fr,I to] (.sl .ro ((ij of sh s fr to).map Qe)):=by
 have h:=wH of sh s fr to gD h1 h2;by_cases hn:ij of sh s fr to=[]
 ·rw[if_pos hn]at h;rw[hn];exact Qy h (Wk.sl _ _)
 rw[if_neg hn]at h;exact h
def FH(s:Sp)(W:List Sp)(hW:W.length<=2)(hs:s.2-s.1<=1000000):∀(xs:List (Int×Int×Int))(L:List Sp),(∀x∈xs,aeL x)->(tq s W xs L).length<=L.length+40*xs.length
 |[],L,_=>by simp[tq]
 |x::r,L,h=>by
  rw[tq];split
  ·omega
  have ih:=FH s W hW hs r (stL s W x L) (fun y hy=>h y (by simp[hy]));obtain⟨o1,o2,o3,o4,o5⟩:=h x (by simp)
  have:(stL s W x L).length<=L.length+40:=by
   unfold stL;split
   ·omega
   have:=FG W hW (max x.1 s.1) (min x.2.1 s.2) _ ((max x.1 s.1+x.2.2)/86400*86400-x.2.2) L (zzab _);omega
  simp only[zzba];omega
def XX(of:Int)(sh:List Sp)(s:Sp)(fr to:Int):(ij of sh s fr to).length<=2000:=by
 unfold ij;split
 ·rename_i h;simp only[wE,Vy,ze,gM,zzak,decide_eq_true_eq]at h;obtain⟨⟨⟨⟨⟨a1,a2⟩,a3⟩,a4⟩,a5⟩,a6,a7⟩:=h;have h1:=FH s (zb fr to) (tY a4 a5).1 a7 (tW 0 of sh) [] (CD sh 0 of (-1) (by decide) (by decide) (by decide) a2.1 a2.2 a3);have h2:=wG sh 0 of;simp at h1;omega
 simp
end
end Go.Proofs.YtnopaopphmjnmaaGreatDoor
