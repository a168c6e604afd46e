import Derived.Test.YthjppoincojfkaaGreatDoorRPSpG
set_option linter.all false
set_option maxRecDepth 100000
set_option maxHeartbeats 64000000
namespace Go.Proofs.YthjppoincojfkaaGreatDoor
noncomputable section
open Go Go.Abs
def wV(n:Int):Pure Tryz.prog aD 195 [I n] (.bool (decide (0<=n/\n<86400))):=by
 refine Qp ac7 (fun _ _ _=>.junk) zd ?_;by_cases h1:0<=n<;>by_cases h2:n<86400<;>simp[ahG,ahH,h1,h2]
def FO(n:Int)(h: -100000000000<=n/\n<=100000000000):Pure Tryz.prog aD 198 [I n] (.aS [I (n/86400),I (n%86400)]):=by
 refine Qp ada (fun _ _ _=>.junk) zd ?_
 have ht:n.tdiv 86400=if 0<=n\/n%86400=0 then n/86400 else n/86400+1:=by
  by_cases h0:0<=n
  ·rw[if_pos (.inl h0),zzcl h0]
  rw[Int.tdiv_eq_ediv];by_cases h1:n%86400=0
  ·rw[if_pos (.inr (Int.dvd_of_emod_eq_zero h1)),if_pos (.inr h1)];simp
  rw[if_neg (by rintro(h|h);exact h0 h;exact h1 (Int.emod_eq_zero_of_dvd h)),if_neg (by rintro(h|h);exact h0 h;exact h1 h)];rfl
 have hm:n.tmod 86400=n-n.tdiv 86400*86400:=by have:=Int.mul_tdiv_add_tmod n 86400;omega
 have w1:IntKind.i64.wrap (n.tdiv 86400)=n.tdiv 86400:=by rw[ht];split<;>rw[Ql]<;>omega
 by_cases Cz:n.tmod 86400<0
 ·have e1:n.tdiv 86400=n/86400+1:=by
   rw[ht]at hm |-
   split
   ·rename_i hc;rw[if_pos hc]at hm;omega
   rfl
  have w2:IntKind.i64.wrap (n/86400+1)=n/86400+1:=by rw[Ql]<;>omega
  have w3:IntKind.i64.wrap (n/86400)=n/86400:=by rw[Ql]<;>omega
  have e2:n.tmod 86400=n%86400-86400:=by rw[hm,e1];omega
  have w4:IntKind.i64.wrap (n%86400)=n%86400:=by rw[Ql]<;>omega
  have y6:n%86400<86400:=zE
  have hn3:¬86400<=n%86400:=zE
  simp[T2,T3,e1,e2,w2,w3,w4,y6,hn3]
 have e1:n.tdiv 86400=n/86400:=by
  rw[ht]at hm |-
  split
  ·rfl
  rename_i hc;rw[if_neg hc]at hm;omega
 have e2:n.tmod 86400=n%86400:=by rw[hm,e1];omega
 have w3:IntKind.i64.wrap (n/86400)=n/86400:=by rw[Ql]<;>omega
 have y6:¬n%86400<0:=zE
 simp[T2,T3,e1,e2,w3,y6]
def zG(fr to:Int):List Sp:=if fr<to then[(fr,to)]else if to<fr then[(0,to),(fr,86400)]else[(0,86400)]
def C4(fr to:Int):Pure Tryz.prog aD 199 [I fr,I to] (.sl .full ((zG fr to).map Qf)):=by
 refine Qp adb (fun _ _ _=>.junk) zd ?_;by_cases h1:fr<to
 ·simp[Nb,Nc,h1,zG,Qf]
 by_cases h2:to<fr
 ·simp[Nb,Nc,h1,h2,zG,Qf]
 simp[Nb,Nc,h1,h2,zG,Qf]
def uA:Int->Int->List Sp->List (Int×Int×Int)
 |f,o,[]=>[(f,10000000001,o)]
 |f,o,s::r=>(if f<s.1 then[(f,s.1,o)]else[])++uA s.1 s.2 r
def AY(x:Int×Int×Int):P2:=[.agg [I x.1,I x.2.1,I x.2.2]]
def wW(of:Int)(sh:List Sp):Pure Tryz.prog aD 197 [.agg [I of,.sl .ro (sh.map Qf)]] (.fn 236 [] [.ep [I of,.sl .ro (sh.map Qf)] 0]):=by
 refine Qp ac9 (fun _ _ _=>.junk) zd ?_;simp[ahI,ahJ]
def bV.put{O:Nat->Prop}{m:AM}{b:Nat}(hb:O b)(v:P2)(x:T5):bV O m {m with boxes:=m.boxes.set b v++x}:=
 ⟨zd,fun j hj ho=>by show Qh (m.boxes.set b v++x) j=_;rw[Qn (Nm hj),Ya v (by rintro rfl;exact ho hb)],⟨[],zd⟩,fun _ _=>rfl⟩
def bV.asA{O:Nat->Prop}{m:AM}{b:Nat}(hb:O b)(v:P2):bV O m {m with boxes:=m.boxes.set b v}:=
 ⟨zd,fun j hj ho=>by show Qh (m.boxes.set b v) j=_;rw[Ya v (by rintro rfl;exact ho hb)],⟨[],zd⟩,fun _ _=>rfl⟩
def wX(of:Int)(sh:List Sp)(hl:sh.length<=1000000000):XE Tryz.prog aD 236 [] [.ep [I of,.sl .ro (sh.map Qf)] 0] ((uA 0 of sh).map AY):=by
 intro Y l m K hF;refine Xn adw (fun _ _ _=>.junk) zd ?_;simp[UD];obtain⟨b,hbe⟩:∃b,m.boxes.length=b:=⟨_,rfl⟩;refine Qi Cg (fun f mm=>∃(i:Nat)(fr t o:Int)(O:Nat->Prop),f 12=I i/\i<=sh.length/\b<mm.boxes.length/\Qh mm.boxes b=[I fr,I t,I o]/\O b/\sF (Y l) K ((uA fr o (sh.drop i)).map AY) O mm) (fun f _=>sh.length-(numOf (f 12)).toNat) ?_ ?_
 ·refine⟨0,0,0,of,OU (fun _=>False) m.boxes.length (m.boxes.length+1),zd,zE,by simp[hbe],by simp[<- hbe],.inr ⟨zE,zE⟩,?_⟩;have:=hF.ext ((fu.box m [[I 0,I 0,I of]]).toO _);simpa using this
 rintro f mm ⟨i,fr,t,o,O,qw,hi,hlm,ah,C5,hF⟩;rcases zzaa i sh.length with ai|bq
 ·obtain⟨s,hs⟩:=aV ai;have zH:=Zv hs;have aa:(i:Int)<(sh.length:Int):=zE
  have hw:=bP i zE;have hd:sh.drop i=s::sh.drop (i+1):=by rw[zzag ai,(zza.1 hs).2]
  rw[hd,uA]at hF;have gV:∀x,Qh (mm.boxes++x) b=[I fr,I t,I o]:=fun x=>by rw[Qn hlm];exact ah
  have lN:∀x y,(mm.boxes++x).set b y=mm.boxes.set b y++x:=fun x y=>Yk y hlm;have ow:∀y x,Qh (mm.boxes.set b y++x) b=y:=fun y x=>by rw[Qn (Nm hlm),Yg _ hlm]
  have iC:∀y x,Qh (mm.boxes.set b y++[x]) mm.boxes.length=x:=fun y x=>by
   have:=Vl (mm.boxes.set b y) [x] 0;rw[zzch]at this;simpa using this
  have hsc:∀y x z,(mm.boxes.set b y++x).set b z=mm.boxes.set b z++x:=fun y x z=>by rw[Yk z (Nm hlm),List.set_set]
  by_cases hfs:fr<s.1
  ·rw[if_pos hfs]at hF;simp only[zzeu,zzbb]at hF;simp[qw,ai,aa,zH,gV,lN,ow,iC,Cg,hbe,hfs,hlm];refine⟨zE,hF _ (bV.put C5 _ _) _ (fun m2 AZ AW=>?_) (fun m2 hK=>?_)⟩
   ·have azb:mm.boxes.length+1<=m2.boxes.length:=by have:=AZ.1;simpa using this
    have q1:Qh m2.boxes b=[I fr,I s.1,I o]:=by rw[AZ.2 b (.inl C5)];exact ow _ _
    have q2:Qh m2.boxes mm.boxes.length=[I s.1,I s.2]:=by
     rw[AZ.2 mm.boxes.length (.inr ⟨zzab _,zd⟩)];exact iC _ _
    have fR:b<m2.boxes.length:=zE
    have asC:OU O mm.boxes.length (mm.boxes.length+1) b:=.inl C5;simp at AW;have q3:∀y,Qh (m2.boxes.set b y) b=y:=fun y=>Yg _ fR;simp[q1,q2,q3,fR,hw];refine⟨aQ,⟨i+1,zd,zE,s.1,0,s.2,⟨rfl,rfl,rfl⟩,_,.inl asC,AW.ext (bV.asA asC _)⟩,zE⟩
   simp[No];exact hK _ (bV.refl _ _)
  rw[if_neg hfs]at hF;simp only[zzai]at hF;simp[qw,ai,aa,zH,gV,lN,ow,iC,hsc,Cg,hbe,hfs,hlm,hw];refine⟨zE,aQ,⟨i+1,zd,zE,zE,s.1,0,s.2,⟨rfl,rfl,rfl⟩,_,.inl C5,hF.ext (bV.put C5 _ _)⟩,zE⟩
 obtain rfl:i=sh.length:=zE
 rw[zzbu,uA]at hF;simp only[zzbb,zzcs]at hF;simp[qw,Cg,hbe,ah,hlm,Yg _ hlm];refine hF _ (bV.asA C5 _) _ (fun m2 _ AW=>?_) (fun m2 hK=>?_)
 ·simp[No];exact AW _ (bV.refl _ _)
 simp[No];exact hK _ (bV.refl _ _)
open Go Go.Abs
def nI(L:List Sp)(f t:Int):List Sp:=
 if f<t then(match L.getLast? with|some s=>if s.2=f then L.dropLast++[(s.1,t)]else L++[(f,t)]|none=>[(f,t)])else L
def ic(m:AM)(id k:Nat)(L:List Sp):Prop:=id<m.boxes.length/\((L=[]/\Qh m.boxes id=[.sl .nil []])\/(L≠[]/\k<m.boxes.length/\k≠id/\Qh m.boxes id=[.bs k 0 L.length 2]/\Qh m.boxes k=cF L))
def aes:UV:=fun d f _=>if f=999999 then(if d=34 then .aJ 0 []else .junk)else .junk
def XF(Y:YT)(f t:Int)(id k:Nat)(L:List Sp)(m:AM)(hO:ic m id k L)(hl:L.length<=1000000000)(K:So)
  (hK:∀m' k',ic m' id k' (nI L f t)->(k'=k\/m.boxes.length<=k')->bB (fun j=>j=id\/(L≠[]/\j=k)) m.boxes m'.boxes->m'.st=m.st->m'.ln=m.ln->m'.lens=m.lens->K (.aS []) m'):aB Tryz.prog aD Y 196 [I f,I t,.ptr id 0] m K:=by
 obtain⟨h2,h3⟩:=hO;refine Xn ac8 aes zd ?_;have gV:∀x,Qh (m.boxes++x) id=Qh m.boxes id:=fun x=>Qn h2;have lN:∀x y,(m.boxes++x).set id y=m.boxes.set id y++x:=fun x y=>Yk y h2;by_cases IA:f<t
 ·have XG:¬t<=f:=zE
  obtain⟨rfl,h1⟩|⟨aO,hk,eO,h1,ah⟩:=h3
  ·have ha:nI [] f t=[(f,t)]:=by simp[nI,IA]
   rw[ha]at hK;simp[ED,EE,aes,IA,XG,h1,h2,gV,lN];refine⟨zE,hK _ m.boxes.length ⟨by simp;omega,.inr ⟨zd,zd,zE,?_,?_⟩⟩ (.inr (zzab _)) ((bB.set (S:=fun j=>j=id\/(([]:List Sp)≠[]/\j=k)) (bB.refl _ _) (.inl (.inl rfl)) _).app _) rfl rfl rfl⟩
   ·simp only[zzhc];rw[Qn (Nm h2),Yg _ h2]
   have:=Vl (m.boxes.set id [.bs m.boxes.length 0 1 2]) [[I f,I t]] 0;rw[zzch]at this;simpa using this
  obtain⟨A,s,rfl⟩:∃A s,L=A++[s]:=⟨L.dropLast,L.getLast aO,(zzev aO).symm⟩;have ha:nI (A++[s]) f t=if s.2=f then A++[(s.1,t)]else A++[s]++[(f,t)]:=by simp[nI,IA]
  rw[ha]at hK;have hw:IntKind.i64.wrap (A.length:Int)=(A.length:Int):=by simp at hl;rw[Ql]<;>omega
  have hg:(A++[s])[A.length]?=some s:=zd
  have g0:=uB hg;have g1:=FP hg;have dD:(A++[s]).length=A.length+1:=zd
  rw[dD]at h1;have gl:(cF (A++[s])).length=A.length*2+2:=by rw[Ye,dD];omega
  have hR2:cF (A++[s]++[(f,t)])=cF (A++[s])++[I f,I t]:=by rw[Qcl];rfl
  have hR1:(cF (A++[s])).set (A.length*2+1) (I t)=cF (A++[(s.1,t)]):=by rw[wY _ _ s _ hg];simp
  have hrk:∀x,Qh (m.boxes++x) k=cF (A++[s]):=fun x=>by rw[Qn hk];exact ah
  have hsk:∀x y,(m.boxes++x).set k y=m.boxes.set k y++x:=fun x y=>Yk y hk;generalize hR:cF (A++[s])=R at*
  by_cases hs:s.2=f
  ·rw[if_pos hs]at hK;simp[ED,EE,aes,IA,XG,h1,h2,hw,ah,g0,g1,gl,gV,lN,hrk,hsk,hk,hs];refine⟨zE,hK _ k ⟨Nm h2,.inr ⟨zd,Nm hk,eO,?_,?_⟩⟩ (.inl rfl) (bB.set (S:=fun j=>j=id\/(A++[s]≠[]/\j=k)) (bB.refl _ _) (.inl (.inr ⟨zd,rfl⟩)) _) rfl rfl rfl⟩
   ·show Qh (m.boxes.set k _) id=_;rw[Ya _ eO,h1];simp
   show Qh (m.boxes.set k _) k=_;rw[Yg _ hk];exact hR1
  rw[if_neg hs]at hK;simp[ED,EE,aes,IA,XG,h1,h2,hw,ah,g0,g1,gl,gV,lN,hrk,hsk,hk,hs];have hRt:List.take ((A.length+1)*2) R=R:=zzat zE;have axc:¬R=[]:=by rintro rfl;simp at gl
  have hri:∀x,Qh (m.boxes.set k []++x) id=[AV.bs k 0 (A.length+1) 2]:=fun x=>by rw[Qn (Nm h2),Ya _ eO,h1]
  simp only[hRt,hri];refine⟨zE,⟨⟨axc,zE⟩,by simp at hl;omega⟩,⟨zd,zE⟩,?_⟩;refine hK _ m.boxes.length ⟨by simp;omega,.inr ⟨zd,zd,zE,?_,?_⟩⟩ (.inr (zzab _)) ?_ rfl rfl rfl
  ·show Qh ((m.boxes.set k []).set id _++_) id=_;rw[Qn (Nm h2),Yg _ (Nm h2)];simp
  ·have:=Vl ((m.boxes.set k []).set id [.bs m.boxes.length 0 (A.length+1+1) 2]) [R++[I f,I t]] 0;simp only[zzch]at this;rw[hR2];simpa using this
  exact((bB.set (S:=fun j=>j=id\/(A++[s]≠[]/\j=k)) (bB.refl _ _) (.inl (.inr ⟨zd,rfl⟩)) _).set (.inl (.inl rfl)) _).app _
 have ha:nI L f t=L:=by simp[nI,IA]
 rw[ha]at hK;have XG:t<=f:=zE
 simp[ED,EE,IA,XG];exact hK m k ⟨h2,h3⟩ (.inl rfl) (bB.refl _ _) rfl rfl rfl
open Go Go.Abs
def FQ(L:List Sp)(f t:Int):(nI L f t).length<=L.length+1:=by
 unfold nI;split
 ·split
  ·rename_i s hs;split
   ·have:0<L.length:=by cases L with
     |nil=>simp at hs
     |cons=>simp
    simp<;>omega
   simp
  simp
 omega
def pH(sf st mid:Int):List Sp->List Sp->List Sp
 |[],L=>L
 |w::W,L=>pH sf st mid W (nI L (max sf (mid+w.1)) (min st (mid+w.2)))
def FR(sf st mid:Int):∀(W L:List Sp),(pH sf st mid W L).length<=L.length+W.length
 |[],L=>by simp[pH]
 |w::W,L=>by
  have h1:=FR sf st mid W (nI L (max sf (mid+w.1)) (min st (mid+w.2)));have h2:=FQ L (max sf (mid+w.1)) (min st (mid+w.2));simp[pH];omega
def nJ(W:List Sp)(sf st mid:Int)(L:List Sp):List Sp:=
 if mid<st then nJ W sf st (mid+86400) (pH sf st mid W L)else L
termination_by(st-mid).toNat
decreasing_by omega
def rf(m0:AM)(k0:Nat)(m:AM)(k:Nat)(L:List Sp):Prop:=
 ic m 4 k L/\(k=k0\/m0.boxes.length<=k)/\bB (fun j=>j=4\/j=k0) m0.boxes m.boxes/\m.st=m0.st/\m.ln=m0.ln/\m.lens=m0.lens
def ic.app{m:AM}{id k:Nat}{L:List Sp}(h:ic m id k L)(x:T5):ic {m with boxes:=m.boxes++x} id k L:=by
 obtain⟨h1,h2⟩:=h;refine⟨by simp;omega,?_⟩;obtain⟨h2,h3⟩|⟨h2,h3,h4,h5,h6⟩:=h2
 ·exact .inl ⟨h2,by show Qh (m.boxes++x) id=_;rw[Qn h1];exact h3⟩
 exact .inr ⟨h2,by simp;omega,h4,by show Qh (m.boxes++x) id=_;rw[Qn h1];exact h5,by show Qh (m.boxes++x) k=_;rw[Qn h3];exact h6⟩
def rf.refl{m:AM}{k:Nat}{L:List Sp}(h:ic m 4 k L):rf m k m k L:=⟨h,.inl rfl,bB.refl _ _,rfl,rfl,rfl⟩
def rf.app{m0 m:AM}{k0 k:Nat}{L:List Sp}(h:rf m0 k0 m k L)(x:T5):rf m0 k0 {m with boxes:=m.boxes++x} k L:=
 ⟨h.1.app x,h.2.1,h.2.2.1.app x,h.2.2.2⟩
def rf.step{m0 m m':AM}{k0 k k':Nat}{L L':List Sp}(h:rf m0 k0 m k L)(hO:ic m' 4 k' L')(hk:k'=k\/m.boxes.length<=k')(hK:bB (fun j=>j=4\/(L≠[]/\j=k)) m.boxes m'.boxes)(h1:m'.st=m.st)(h2:m'.ln=m.ln)(h3:m'.lens=m.lens):rf m0 k0 m' k' L':=by
 obtain⟨a1,a2,a3,a4,a5,a6⟩:=h;refine⟨hO,?_,bB.trans a3 (hK.mono ?_),by rw[h1,a4],by rw[h2,a5],by rw[h3,a6]⟩
 ·have:=a3.1;omega
 rintro i (rfl|⟨_,rfl⟩)
 ·exact .inl (.inl rfl)
 obtain a2|a2:=a2
 ·exact .inl (.inr a2)
 exact .inr a2
def IB(s:Sp)(fr to:Int)(m:AM):Prop:=5<m.boxes.length/\Qh m.boxes 1=[I s.1,I s.2]/\Qh m.boxes 2=[I fr]/\Qh m.boxes 3=[I to]/\Qh m.boxes 5=[.fn 196 [] [.ptr 4 0]]
def IB.keep{s:Sp}{fr to:Int}{m m':AM}(h:IB s fr to m){S:Nat->Prop}(hK:bB S m.boxes m'.boxes)(hS:∀j,S j->j=4\/6<=j):IB s fr to m':=by
 obtain⟨h1,h2,h3,h4,h5⟩:=h;have q:∀j,j<6->j≠4->Qh m'.boxes j=Qh m.boxes j:=fun j hj h4=>hK.2 j zE (fun h=>by have:=hS j h;omega);exact⟨zzba h1 hK.1,by rw[q 1 zE zE];exact h2,by rw[q 2 zE zE];exact h3,by rw[q 3 zE zE];exact h4,by rw[q 5 zE zE];exact h5⟩
def IB.day{s:Sp}{fr to:Int}{m0 m:AM}{k0 k:Nat}{L:List Sp}(h:IB s fr to m0)(hD:rf m0 k0 m k L)(hk:k0=4\/6<=k0):IB s fr to m:=
 h.keep hD.2.2.1 (by rintro j (h|h)<;>omega)
def IB.app{s:Sp}{fr to:Int}{m:AM}(h:IB s fr to m)(x:T5):IB s fr to {m with boxes:=m.boxes++x}:=
 h.keep (S:=fun _=>False) ((bB.refl _ _).app x) (fun _ h=>h.elim)
def XH(of:Int)(sh:List Sp)(fr to:Int):UV:=fun d f l=>
 if f=999999 then .junk else
 if f=133 then .bool (Yh of sh)else
 if f=195 then(match l with|[.int _ n]=>.bool (decide (0<=n/\n<86400))|_=>.junk)else
 if f=197 then .fn 236 [] [.ep [I of,.sl .ro (sh.map Qf)] 0]else
 if f=198 then(match l with|[.int _ n]=>.aS [I (n/86400),I (n%86400)]|_=>.junk)else
 if f=199 then .sl .full ((zG fr to).map Qf)else .gd false .junk
def XI:SC:=(⟨_,by cbv⟩:J4 [1,0,1,1,1,1,1,0,1,0,1,0,1,1,1,1,1] Ae).1
def wZ:SC->SC:=(⟨_,fun _=>by cbv⟩:Fm [1,0,1,1,1,1,1,0,1,0,1,0,1,1,1,1,1] Ae).1
theorem XJ:Ae=wZ XI:=rfl
def uC{fr to:Int}(h1:0<=fr/\fr<86400)(h2:0<=to/\to<86400):(zG fr to).length<=2/\∀w∈zG fr to,0<=w.1/\w.1<=86400/\0<=w.2/\w.2<=86400:=by
 unfold zG;split
 ·simp;omega
 split
 ·simp;omega
 simp
def aet(Y:YT)(of:Int)(sh:List Sp)(fr to:Int)(zx:0<=fr/\fr<86400)(hto:0<=to/\to<86400)(E:QQ)(m:AM)(k0:Nat)(L0:List Sp)(sf st KI:Int)(Q:R0)
  (s:Sp)(h6:Abs.look E 6=.ptr 2 0)(h7:Abs.look E 7=.ptr 3 0)(jq:Abs.look E 10=.ptr 5 0)(qw:Abs.look E 12=I sf)(eR:Abs.look E 13=I st)(KJ:Abs.look E 16=I KI)
  (hf:IB s fr to m)(hO:ic m 4 k0 L0)(hk:k0=4\/6<=k0)
  (hb: -100000000000<=KI/\KI<=100000000000/\st<=100000000000)(hl:L0.length+2*((st-KI)/86400+1).toNat<=100000)
  (hQ:∀T m' k',rf m k0 m' k' (nJ (zG fr to) sf st KI L0)->Q .normal ⟨T,m'⟩):
  vc Tryz.prog aD (XH of sh fr to) Y XI ⟨Vw 111 E,m⟩ Q:=by
 obtain⟨P9,hWb⟩:=uC zx hto;have axd:=C4 fr to;simp[XI];refine Qi I8 (fun f mm=>∃(mid:Int)(k:Nat)(L:List Sp),f 16=I mid/\rf m k0 mm k L/\ -100000000000<=mid/\mid<=100000086400/\L.length+2*((st-mid)/86400+1).toNat<=100000/\nJ (zG fr to) sf st mid L=nJ (zG fr to) sf st KI L0) (fun f _=>(st-numOf (f 16)).toNat) ?_ ?_
 ·exact⟨KI,k0,L0,by simp[KJ],rf.refl hO,zE,zE,hl,rfl⟩
 rintro f mm ⟨mid,k,L,hm16,hD,b1,b2,b3,hR⟩;by_cases ai:mid<st
 ·have axe:IntKind.i64.wrap (mid+86400)=mid+86400:=by rw[Ql]<;>omega
  rw[nJ,if_pos ai]at hR;obtain⟨f0,f1,f2,f3,f5⟩:=hf.day hD hk;generalize hWe:zG fr to=W at*
  simp[hm16,h6,h7,jq,qw,eR,I8,ai,XH,hWe,f2,f3];refine⟨axd,?_⟩;refine Qi I9 (fun f' m'=>∃(i k':Nat)(L':List Sp),f' 91=I i/\i<=W.length/\rf m k0 m' k' L'/\L'.length<=L.length+i/\pH sf st mid (W.drop i) L'=pH sf st mid W L) (fun f' _=>W.length-(numOf (f' 91)).toNat) ?_ ?_
  ·exact⟨0,k,L,zd,zE,hD,zE,rfl⟩
  rintro f' m' ⟨i,k',L',h91,hi,hD',tN,hR'⟩;obtain⟨g0,g1,g2,g3,g5⟩:=hf.day hD' hk;rcases zzaa i W.length with hiw|bq
  ·obtain⟨w,hw⟩:=aV hiw;have Ss:=Zv hw;obtain⟨c1,c2,c3,c4⟩:=hWb w (zzad hw);have aa:(i:Int)<(W.length:Int):=zE
   have XK:=bP i zE;have lM:IntKind.i64.wrap (mid+w.1)=mid+w.1:=by rw[Ql]<;>omega
   have fQ:IntKind.i64.wrap (mid+w.2)=mid+w.2:=by rw[Ql]<;>omega
   have hd:W.drop i=w::W.drop (i+1):=by rw[zzag hiw,(zza.1 hw).2]
   rw[hd,pH]at hR';have gV:∀x,Qh (m'.boxes++x) 5=[.fn 196 [] [.ptr 4 0]]:=fun x=>by rw[Qn g0];exact g5
   have A0:∀x,Qh (m'.boxes++[x]) m'.boxes.length=x:=fun x=>by
    simp
   have hmx:(if sf<mid+w.1 then mid+w.1 else sf)=max sf (mid+w.1):=zE
   have hmn:(if mid+w.2<st then mid+w.2 else st)=min st (mid+w.2):=zE
   have axf:=fun K hK=>XF Y (max sf (mid+w.1)) (min st (mid+w.2)) 4 k' L' {m' with boxes:=m'.boxes++[[I w.1,I w.2]]} (hD'.1.app _) zE K hK;simp[h91,hiw,aa,Ss,I9,jq,qw,eR,hm16,g5,gV,A0,lM,fQ,g0,hmx,hmn,XK,XH];refine axf _ fun m2 k2 e1 e2 e3 e4 e5 e6=>?_;have hD2:=(hD'.app [[I w.1,I w.2]]).step e1 e2 e3 e4 e5 e6;have:=FQ L' (max sf (mid+w.1)) (min st (mid+w.2));refine⟨aQ,⟨i+1,zE,zE,k2,_,hD2,zE,hR'⟩,zE⟩
  obtain rfl:i=W.length:=zE
  rw[zzbu,pH]at hR';rw[<- hR']at hR;simp[h91,I9,hm16,axe];refine⟨aQ,⟨k',L',hD',zE,zE,zE,hR⟩,zE⟩
 have hR0:=hR;rw[nJ,if_neg ai]at hR;simp[hm16,eR,I8,ai];exact hQ _ _ k (by rw[<- hR];exact hD)
open Go Go.Abs
def stL(s:Sp)(W:List Sp)(x:Int×Int×Int)(L:List Sp):List Sp:=
 if min x.2.1 s.2<=max x.1 s.1 then L else nJ W (max x.1 s.1) (min x.2.1 s.2) ((max x.1 s.1+x.2.2)/86400*86400-x.2.2) L
def tO(s:Sp)(W:List Sp):List (Int×Int×Int)->List Sp->List Sp
 |[],L=>L
 |x::r,L=>if s.2<=x.1 then L else tO s W r (stL s W x L)
def zI(n:Int):Bool:=decide (0<=n/\n<86400)
def w8(of:Int)(sh:List Sp)(s:Sp)(fr to:Int):Bool:=Yh of sh&&zI fr&&zI to&&decide (s.1<s.2/\s.2-s.1<=1000000)
def ig(of:Int)(sh:List Sp)(s:Sp)(fr to:Int):List Sp:=if w8 of sh s fr to then tO s (zG fr to) (uA 0 of sh) []else[]
def aeu(x:Int×Int×Int):Prop:=0<=x.1/\x.1<=10000000000/\x.2.1<=10000000001/\ -50400<=x.2.2/\x.2.2<=50400
def C6:∀(sh:List Sp)(f o last:Int),0<=f->f<=10000000000-> -1<=last-> -50400<=o->o<=50400->tP last sh=true->(∀x∈uA f o sh,aeu x)
 |[],f,o,last,h1,h2,_,h3,h4,_=>by simp[uA,aeu];omega
 |s::r,f,o,last,h1,h2,hla,h3,h4,ha=>by
  rw[tP]at ha;split at ha
  ·cases ha
  rename_i hn;simp only[not_or,zzgj,gO,decide_eq_true_eq]at hn;have ih:=C6 r s.1 s.2 s.1 zE zE zE zE zE ha;intro x hx;rw[uA,zzam]at hx;obtain hx|hx:=hx
  ·split at hx
   ·simp at hx;subst hx;simp[aeu];omega
   simp at hx
  exact ih x hx
def w9:∀(sh:List Sp)(f o:Int),(uA f o sh).length<=sh.length+1
 |[],f,o=>by simp[uA]
 |s::r,f,o=>by
  have:=w9 r s.1 s.2;rw[uA];split<;>simp<;>omega
def FT(W:List Sp)(hW:W.length<=2)(sf st:Int):∀(n:Nat)(mid:Int)(L:List Sp),(st-mid).toNat<=n->(nJ W sf st mid L).length<=L.length+2*((st-mid)/86400+1).toNat:=by
 intro n;induction n with
 |zero=>intro mid L h;rw[nJ,if_neg zE];omega
 |succ n ih=>
  intro mid L h;rw[nJ];split
  ·have:=ih (mid+86400) (pH sf st mid W L) zE;have:=FR sf st mid W L;omega
  omega
def aev(R:List Sp)(s:Sp)(fr to:Int)(xs:List (Int×Int×Int))(O:Nat->Prop)(i:Nat)(m:AM):Prop:=
 ∃k L,ic m 4 k L/\(k=4\/6<=k)/\¬O k/\k<m.boxes.length/\(∀j,O j->6<=j)/\IB s fr to m/\L.length<=40*i/\tO s (zG fr to) (xs.drop i) L=R
def aew(R:List Sp)(O:Nat->Prop)(ex:Exit)(m:AM):Prop:=ex=.exit 0/\∃k,ic m 4 k R/\¬O k/\(∀j,O j->6<=j)
def ic.cg{m m':AM}{id k:Nat}{L:List Sp}(h:ic m id k L)(e:m'.boxes=m.boxes):ic m' id k L:=by unfold ic at*;rw[e];exact h
def IB.cg{s:Sp}{fr to:Int}{m m':AM}(h:IB s fr to m)(e:m'.boxes=m.boxes):IB s fr to m':=by unfold IB at*;rw[e];exact h
def ic.XL{O:Nat->Prop}{m m':AM}{k:Nat}{L:List Sp}(h:ic m 4 k L)(e:bV O m m')(h0:¬O 4)(hk:¬O k):ic m' 4 k L:=by
 obtain⟨h1,h2⟩:=h;refine⟨zzba h1 e.1,?_⟩;obtain⟨h2,h3⟩|⟨h2,h3,h4,h5,h6⟩:=h2
 ·exact .inl ⟨h2,by rw[e.2.1 4 h1 h0];exact h3⟩
 exact .inr ⟨h2,zzba h3 e.1,h4,by rw[e.2.1 4 h1 h0];exact h5,by rw[e.2.1 k h3 hk];exact h6⟩
def aev.ext{R:List Sp}{s:Sp}{fr to:Int}{xs:List (Int×Int×Int)}{O:Nat->Prop}{i:Nat}{m m':AM}(h:aev R s fr to xs O i m)(e:bV O m m'):aev R s fr to xs (OU O m.boxes.length m'.boxes.length) i m':=by
 obtain⟨k,L,h1,h2,h3,h4,h5,h6,h8,h9⟩:=h;refine⟨k,L,h1.XL e (fun h=>by have:=h5 4 h;omega) h3,h2,?_,zzba h4 e.1,?_,h6.keep (S:=O) ⟨e.1,e.2.1⟩ (fun j h=>.inr (h5 j h)),h8,h9⟩
 ·rintro(h|h)
  ·exact h3 h
  omega
 have:=h6.1;rintro j (h|h)
 ·exact h5 j h
 omega
def aew.ext{R:List Sp}{O:Nat->Prop}{ex:Exit}{m m':AM}(h:aew R O ex m)(e:bV O m m'):aew R O ex m':=by
 obtain⟨h0,k,h1,h3,h5⟩:=h;exact⟨h0,k,h1.XL e (fun h=>by have:=h5 4 h;omega) h3,h3,h5⟩
def xb(of:Int)(sh:List Sp)(s:Sp)(fr to:Int)(fA:sh.length<=1000000000)(h1: -9223372036854775808<=s.1/\s.1<=9223372036854775807)(h2: -9223372036854775808<=s.2/\s.2<=9223372036854775807):
  Pure Tryz.prog aD 138 [.agg [I of,.sl .ro (sh.map Qf)],.agg [I s.1,I s.2],I fr,I to] (if ig of sh s fr to=[]then .sl .nil []else .sl .ro ((ig of sh s fr to).map Qf)):=by
 have k89:=jr of sh fA;have KK:=wV fr;have A1:=wV to;have asD:=wW of sh;refine Qp aco (XH of sh fr to) zd ?_;rw[XJ];generalize hR:ig of sh s fr to=R;by_cases hv:Yh of sh=true
 ·rw[hv]at k89;by_cases hf:0<=fr/\fr<86400
  ·rw[decide_eq_true hf]at KK;by_cases ht:0<=to/\to<86400
   ·rw[decide_eq_true ht]at A1;by_cases ai:s.1<s.2
    ·have cn:¬s.2<=s.1:=zE
     have hu:IntKind.u64.wrap (IntKind.u64.wrap s.2-IntKind.u64.wrap s.1)=s.2-s.1:=by
      have q:∀z:Int,IntKind.u64.wrap z=z%18446744073709551616:=fun z=>by simp[IntKind.wrap,IntKind.bits,IntKind.signed]
      rw[q,q,q];omega
     by_cases hm:s.2-s.1<=1000000
     ·have y8:¬1000000<s.2-s.1:=zE
      simp[wZ,XH,hv,hf,ht,ai,cn,hu,hm,y8];refine⟨k89,KK,A1,asD,?_⟩;have cM:=wX of sh fA;have hz:sh.length<=40/\gO of=true/\tP (-1) sh=true:=by simpa[Yh,and_assoc]using hv
      have hof: -50400<=of/\of<=50400:=by simpa[gO]using hz.2.1
      have bU:=C6 sh 0 of (-1) (by decide) (by decide) (by decide) hof.1 hof.2 hz.2.2;have hxl:=w9 sh 0 of;have hRc:tO s (zG fr to) (uA 0 of sh) []=R:=by rw[<- hR,ig,if_pos (by simp[w8,hv,zI,hf,ht,ai,hm])]
      clear k89 KK A1 asD hu;generalize hX:uA 0 of sh=xs at*
      refine ri (xs:=xs.map AY) zd cM (by intro x hx;simp at hx;obtain⟨a,b,c,_,rfl⟩:=hx;rfl) (aev R s fr to xs) (aew R) ?_ (fun _ _ _ _ h e=>h.ext e) (fun _ _ _ _ h e=>h.ext e) ?_ ?_ ?_
      ·refine⟨4,[],⟨zd,.inl ⟨rfl,zd⟩⟩,.inl rfl,id,zd,fun _ h=>h.elim,⟨zd,zd,zd,zd,zd⟩,zd,Nm hRc⟩
      ·rintro O l i m x hO hle0 WW iC ⟨k,L,i1,i2,i3,i4,i5,i6,i8,i9⟩ hx K' q1 q2 q3;rw[zzbm,zzcb]at hx;obtain⟨⟨a,b,o⟩,hx,rfl⟩:=hx;obtain⟨o1,o2,o3,o4,o5⟩:=bU _ (zzad hx);simp only at o1 o2 o3 o4 o5;have iV:i<xs.length:=(zza.1 hx).1;have hd:xs.drop i=(a,b,o)::xs.drop (i+1):=by rw[zzag iV,(zza.1 hx).2]
       rw[hd,tO]at i9;simp only[Jm]at i4;have hf6:=i6;obtain⟨f0,f1,f2,f3,f5⟩:=i6;have hOl:∀j,O j->j<m.boxes.length:=fun j h=>(hO j h).2;have alj:xs.length<=41:=zE
       clear hO hle0 WW cM hR hX;simp only[Jm]at f0 f1 f2 f3 f5;have gV:∀x,Qh (m.boxes++x) 1=[I s.1,I s.2]:=fun x=>by rw[Qn zE];exact f1
       have A0:∀x,Qh (m.boxes++[x]) m.boxes.length=x:=fun x=>by
        simp
       by_cases hc:s.2<=a
       ·rw[if_pos hc]at i9;simp[iC,Zq,AY,gV,A0,hc];subst i9;refine q3 0 _ zd ⟨rfl,k,?_,i3,i5⟩;exact(i1.app [[I a,I b,I o]]).cg zd
       rw[if_neg hc]at i9;have hmx:(if a<s.1 then s.1 else a)=max a s.1:=zE
       have hmn:(if s.2<b then s.2 else b)=min b s.2:=zE
       by_cases he:min b s.2<=max a s.1
       ·rw[stL,if_pos he]at i9;simp[iC,Zq,AY,gV,A0,hc,hmx,hmn,he];refine q1 _ ⟨zd,fun j hj=>Qn (hOl j hj)⟩ ⟨k,L,(i1.app [[I a,I b,I o]]).cg zd,i2,i3,by simp;omega,i5,(hf6.app [[I a,I b,I o]]).cg zd,zE,i9⟩
       rw[stL,if_neg he]at i9;have hw0:IntKind.i64.wrap (max a s.1+o)=max a s.1+o:=by rw[Ql]<;>omega
       have hdv:=FO (max a s.1+o) zE;have lM:IntKind.i64.wrap ((max a s.1+o)/86400*86400)=(max a s.1+o)/86400*86400:=by rw[Ql]<;>omega
       have fQ:IntKind.i64.wrap ((max a s.1+o)/86400*86400-o)=(max a s.1+o)/86400*86400-o:=by rw[Ql]<;>omega
       simp[iC,Zq,AY,gV,A0,hc,hmx,hmn,he,hw0,lM,fQ,XH];refine⟨hdv,?_⟩;refine aet Y0 of sh fr to hf ht _ _ k L (max a s.1) (min b s.2) ((max a s.1+o)/86400*86400-o) _ s zd zd zd zd zd zd ((hf6.app [[I a,I b,I o]]).cg zd) ((i1.app [[I a,I b,I o]]).cg zd) i2 zE zE ?_;intro T m' k' hD;have aH:m.boxes.length+1<=m'.boxes.length:=by have:=hD.2.2.1.1;simpa using this
       have tN:=FT (zG fr to) (uC hf ht).1 (max a s.1) (min b s.2) _ ((max a s.1+o)/86400*86400-o) L (zzab _);have hFx:=IB.day (s:=s) (fr:=fr) (to:=to) ((hf6.app [[I a,I b,I o]]).cg zd) hD i2;have Co:k'=k\/m.boxes.length+1<=k':=by have:=hD.2.1;simpa using this
       have hS:NY O m m':=⟨zE,fun j hj=>by
        have:=hD.2.2.1.2 j (by simp;have:=hOl j hj;omega) (by rintro(rfl|rfl);have:=i5 4 hj;omega;exact i3 hj);rw[this];exact Qn (hOl j hj)⟩
       simp;refine q1 ⟨T,m'⟩ hS ?_;by_cases hLe:nJ (zG fr to) (max a s.1) (min b s.2) ((max a s.1+o)/86400*86400-o) L=[]
       ·rw[hLe]at i9 hD;refine⟨4,[],⟨hD.1.1,?_⟩,.inl rfl,(fun h=>by have:=i5 4 h;omega),(by show 4<m'.boxes.length;omega),i5,hFx,zd,i9⟩;rcases hD.1.2 with h|h
        ·exact .inl h
        exact absurd rfl h.1
       have qv:k'<m'.boxes.length:=by
        rcases hD.1.2 with h|h
        ·exact absurd h.1 hLe
        exact h.2.1
       refine⟨k',_,hD.1,zE,?_,qv,i5,hFx,zE,i9⟩;obtain rfl|Co:=Co
       ·exact i3
       intro h;have:=hOl k' h;omega
      ·rintro O m ⟨k,L,i1,i2,i3,i4,i5,i6,i8,i9⟩;rw[zzbv,zzbu,tO]at i9;subst i9;rcases i1.2 with⟨hL0,h⟩|⟨aO,h2,h3,h4,h5⟩
       ·simp[h,lX,i1.1,hL0]
       have gz:=Va m 4 (C7 L);have gX:=Qeh L;have fh:=Ye L;simp[h4,lX,aO,h5,gz,gX,fh,i1.1]
      rintro O ex m ⟨rfl,k,i1,i3,i5⟩;rcases i1.2 with⟨hL0,h⟩|⟨aO,h2,h3,h4,h5⟩
      ·simp[h,lX,i1.1,hL0]
      have gz:=Va m 4 (C7 R);have gX:=Qeh R;have fh:=Ye R;simp[h4,lX,aO,h5,gz,gX,fh,i1.1]
     have hR0:R=[]:=by rw[<- hR,ig,if_neg (by simp[w8];omega)]
     have y8:1000000<s.2-s.1:=zE
     simp[wZ,XH,hv,hf,ht,ai,cn,hu,hm,y8,lX,hR0,k89,KK,A1]
    have hR0:R=[]:=by rw[<- hR,ig,if_neg (by simp[w8];omega)]
    have cn:s.2<=s.1:=zE
    simp[wZ,XH,hv,hf,ht,ai,cn,lX,hR0,k89,KK,A1]
   have hR0:R=[]:=by rw[<- hR,ig,if_neg (by simp[w8,zI];omega)]
   simp[wZ,XH,hv,hf,ht,lX,hR0,k89,KK];simpa[ht]using A1
  have hR0:R=[]:=by rw[<- hR,ig,if_neg (by simp[w8,zI];omega)]
  simp[wZ,XH,hv,hf,lX,hR0,k89];simpa[hf]using KK
 have hR0:R=[]:=by rw[<- hR,ig,if_neg (by simp[w8,hv])]
 simp[wZ,XH,hv,lX,hR0];simpa[hv]using k89
def zJ(of:Int)(sh:List Sp)(s:Sp)(fr to:Int)(fA:sh.length<=1000000000)(h1: -9223372036854775808<=s.1/\s.1<=9223372036854775807)(h2: -9223372036854775808<=s.2/\s.2<=9223372036854775807):
  Pure Tryz.prog aD 138 [.agg [I of,.sl .ro (sh.map Qf)],.agg [I s.1,I s.2],I fr,I to] (.sl .ro ((ig of sh s fr to).map Qf)):=by
 have h:=xb of sh s fr to fA h1 h2;by_cases hn:ig of sh s fr to=[]
 ·rw[if_pos hn]at h;rw[hn];exact Zh h (Wk.sl _ _)
 rw[if_neg hn]at h;exact h
def FU(s:Sp)(W:List Sp)(hW:W.length<=2)(hs:s.2-s.1<=1000000):∀(xs:List (Int×Int×Int))(L:List Sp),(∀x∈xs,aeu x)->(tO s W xs L).length<=L.length+40*xs.length
 |[],L,_=>by simp[tO]
 |x::r,L,h=>by
  rw[tO];split
  ·omega
  have ih:=FU s W hW hs r (stL s W x L) (fun y hy=>h y (by simp[hy]));obtain⟨o1,o2,o3,o4,o5⟩:=h x zd
  have:(stL s W x L).length<=L.length+40:=by
   unfold stL;split
   ·omega
   have:=FT W hW (max x.1 s.1) (min x.2.1 s.2) _ ((max x.1 s.1+x.2.2)/86400*86400-x.2.2) L (zzab _);omega
  simp only[zzaz];omega
def XM(of:Int)(sh:List Sp)(s:Sp)(fr to:Int):(ig of sh s fr to).length<=2000:=by
 unfold ig;split
 ·rename_i h;simp only[w8,Yh,zI,gO,zzac,decide_eq_true_eq]at h;obtain⟨⟨⟨⟨⟨a1,a2⟩,a3⟩,a4⟩,a5⟩,a6,a7⟩:=h;have h1:=FU s (zG fr to) (uC a4 a5).1 a7 (uA 0 of sh) [] (C6 sh 0 of (-1) (by decide) (by decide) (by decide) a2.1 a2.2 a3);have h2:=w9 sh 0 of;simp at h1;omega
 simp
end
