import Derived.Test.YtnopaopphmjnmaaGreatDoorMQSpG
set_option linter.all false
set_option maxRecDepth 100000
set_option maxHeartbeats 64000000
namespace Go.Proofs.YtnopaopphmjnmaaGreatDoor
noncomputable section
open Go Go.Abs
def xC(n:Int):Pure Tryz.prog aA 259 [I n] (.bool (decide (0<=n/\n<86400))):=by
 refine Qo aeu (fun _ _ _=>.junk) zd ?_;by_cases h1:0<=n<;>by_cases h2:n<86400<;>simp[aji,ajj,h1,h2]
def Gt(n:Int)(h: -100000000000<=n/\n<=100000000000):Pure Tryz.prog aA 262 [I n] (.aZ [I (n/86400),I (n%86400)]):=by
 refine Qo aex (fun _ _ _=>.junk) zd ?_
 have ht:n.tdiv 86400=if 0<=n\/n%86400=0 then n/86400 else n/86400+1:=by
  by_cases h0:0<=n
  ·rw[if_pos (.inl h0),zzco h0]
  rw[Int.tdiv_eq_ediv];by_cases h1:n%86400=0
  ·rw[if_pos (.inr (Int.dvd_of_emod_eq_zero h1)),if_pos (.inr h1)];simp
  rw[if_neg (by rintro(h|h);exact h0 h;exact h1 (Int.emod_eq_zero_of_dvd h)),if_neg (by rintro(h|h);exact h0 h;exact h1 h)];rfl
 have hm:n.tmod 86400=n-n.tdiv 86400*86400:=by have:=Int.mul_tdiv_add_tmod n 86400;omega
 have w1:IntKind.i64.wrap (n.tdiv 86400)=n.tdiv 86400:=by rw[ht];split<;>rw[Qj]<;>omega
 by_cases C2:n.tmod 86400<0
 ·have e1:n.tdiv 86400=n/86400+1:=by
   rw[ht]at hm |-
   split
   ·rename_i hc;rw[if_pos hc]at hm;omega
   rfl
  have w2:IntKind.i64.wrap (n/86400+1)=n/86400+1:=by rw[Qj]<;>omega
  have w3:IntKind.i64.wrap (n/86400)=n/86400:=by rw[Qj]<;>omega
  have e2:n.tmod 86400=n%86400-86400:=by rw[hm,e1];omega
  have w4:IntKind.i64.wrap (n%86400)=n%86400:=by rw[Qj]<;>omega
  have qY:n%86400<86400:=zE
  have hn3:¬86400<=n%86400:=zE
  simp[WE,WG,e1,e2,w2,w3,w4,qY,hn3]
 have e1:n.tdiv 86400=n/86400:=by
  rw[ht]at hm |-
  split
  ·rfl
  rename_i hc;rw[if_neg hc]at hm;omega
 have e2:n.tmod 86400=n%86400:=by rw[hm,e1];omega
 have w3:IntKind.i64.wrap (n/86400)=n/86400:=by rw[Qj]<;>omega
 have qY:¬n%86400<0:=zE
 simp[WE,WG,e1,e2,w3,qY]
def zV(fr to:Int):List Sp:=if fr<to then[(fr,to)]else if to<fr then[(0,to),(fr,86400)]else[(0,86400)]
def Dw(fr to:Int):Pure Tryz.prog aA 263 [I fr,I to] (.sl .full ((zV fr to).map Qf)):=by
 refine Qo aey (fun _ _ _=>.junk) zd ?_;by_cases h1:fr<to
 ·simp[Oi,Oj,h1,zV,Qf]
 by_cases h2:to<fr
 ·simp[Oi,Oj,h1,h2,zV,Qf]
 simp[Oi,Oj,h1,h2,zV,Qf]
def uR:Int->Int->List Sp->List (Int×Int×Int)
 |f,o,[]=>[(f,10000000001,o)]
 |f,o,s::r=>(if f<s.1 then[(f,s.1,o)]else[])++uR s.1 s.2 r
def Bn(x:Int×Int×Int):List AV:=[.agg [I x.1,I x.2.1,I x.2.2]]
def xD(of:Int)(sh:List Sp):Pure Tryz.prog aA 261 [.agg [I of,.sl .ro (sh.map Qf)]] (.fn 312 [] [.ep [I of,.sl .ro (sh.map Qf)] 0]):=by
 refine Qo aew (fun _ _ _=>.junk) zd ?_;simp[ajk,ajl]
def bQ.put{O:Nat->Prop}{m:AM}{b:Nat}(hb:O b)(v:List AV)(x:List (List AV)):bQ O m {m with boxes:=m.boxes.set b v++x}:=
 ⟨zd,fun j hj ho=>by show Qh (m.boxes.set b v++x) j=_;rw[Ql (by simpa using hj),Zz v (by rintro rfl;exact ho hb)],⟨[],zd⟩,fun _ _=>rfl⟩
def bQ.ath{O:Nat->Prop}{m:AM}{b:Nat}(hb:O b)(v:List AV):bQ O m {m with boxes:=m.boxes.set b v}:=
 ⟨zd,fun j hj ho=>by show Qh (m.boxes.set b v) j=_;rw[Zz v (by rintro rfl;exact ho hb)],⟨[],zd⟩,fun _ _=>rfl⟩
def xE(of:Int)(sh:List Sp)(hl:sh.length<=1000000000):ZM Tryz.prog aA 312 [] [.ep [I of,.sl .ro (sh.map Qf)] 0] ((uR 0 of sh).map Bn):=by
 intro Y l m K hF;refine Xd aeS (fun _ _ _=>.junk) zd ?_;simp[WR];obtain⟨b,hbe⟩:∃b,m.boxes.length=b:=⟨_,rfl⟩;refine Qk CK (fun f mm=>∃(i:Nat)(fr t o:Int)(O:Nat->Prop),f 12=I i/\i<=sh.length/\b<mm.boxes.length/\Qh mm.boxes b=[I fr,I t,I o]/\O b/\jQ (Y l) K ((uR fr o (sh.drop i)).map Bn) O mm) (fun f _=>sh.length-(numOf (f 12)).toNat) ?_ ?_
 ·refine⟨0,0,0,of,OU (fun _=>False) m.boxes.length (m.boxes.length+1),zd,zE,by simp[hbe],by simp[<- hbe],.inr ⟨zE,zE⟩,?_⟩;have:=hF.ext ((fR.box m [[I 0,I 0,I of]]).toO _);simpa using this
 rintro f mm ⟨i,fr,t,o,O,qG,hi,hlm,ah,um,hF⟩;rcases zzaa i sh.length with ai|bz
 ·obtain⟨s,hs⟩:=aU ai;have sQ:=Zf hs;have aa:(i:Int)<(sh.length:Int):=zE
  have hw:=bM i zE;have hd:sh.drop i=s::sh.drop (i+1):=by rw[zzaf ai,(zza.1 hs).2]
  rw[hd,uR]at hF;have iE:∀x,Qh (mm.boxes++x) b=[I fr,I t,I o]:=fun x=>by rw[Ql hlm];exact ah
  have lY:∀x y,(mm.boxes++x).set b y=mm.boxes.set b y++x:=fun x y=>Ym y hlm;have oE:∀y x,Qh (mm.boxes.set b y++x) b=y:=fun y x=>by rw[Ql (by simpa using hlm),Vs _ hlm]
  have fL:∀y x,Qh (mm.boxes.set b y++[x]) mm.boxes.length=x:=fun y x=>by
   have:=Vm (mm.boxes.set b y) [x] 0;rw[zzck]at this;simpa using this
  have hsc:∀y x z,(mm.boxes.set b y++x).set b z=mm.boxes.set b z++x:=fun y x z=>by rw[Ym z (by simpa using hlm),List.set_set]
  by_cases zW:fr<s.1
  ·rw[if_pos zW]at hF;simp only[zzdo,zzay]at hF;simp[qG,ai,aa,sQ,iE,lY,oE,fL,CK,hbe,zW,hlm];refine⟨zE,hF _ (bQ.put um _ _) _ (fun m2 xA qF=>?_) (fun m2 hK=>?_)⟩
   ·have azA:mm.boxes.length+1<=m2.boxes.length:=by have:=xA.1;simpa using this
    have q1:Qh m2.boxes b=[I fr,I s.1,I o]:=by rw[xA.2 b (.inl um)];exact oE _ _
    have q2:Qh m2.boxes mm.boxes.length=[I s.1,I s.2]:=by
     rw[xA.2 mm.boxes.length (.inr ⟨zzab _,zd⟩)];exact fL _ _
    have mQ:b<m2.boxes.length:=zE
    have ati:OU O mm.boxes.length (mm.boxes.length+1) b:=.inl um;simp at qF;have q3:∀y,Qh (m2.boxes.set b y) b=y:=fun y=>Vs _ mQ;simp[q1,q2,q3,mQ,hw];refine⟨aP,⟨i+1,zd,zE,s.1,0,s.2,⟨rfl,rfl,rfl⟩,_,.inl ati,qF.ext (bQ.ath ati _)⟩,zE⟩
   simp[Ov];exact hK _ (bQ.refl _ _)
  rw[if_neg zW]at hF;simp only[zzah]at hF;simp[qG,ai,aa,sQ,iE,lY,oE,fL,hsc,CK,hbe,zW,hlm,hw];refine⟨zE,aP,⟨i+1,zd,zE,zE,s.1,0,s.2,⟨rfl,rfl,rfl⟩,_,.inl um,hF.ext (bQ.put um _ _)⟩,zE⟩
 obtain rfl:i=sh.length:=zE
 rw[zzbn,uR]at hF;simp only[zzay,zzcc]at hF;simp[qG,CK,hbe,ah,hlm,Vs _ hlm];refine hF _ (bQ.ath um _) _ (fun m2 _ qF=>?_) (fun m2 hK=>?_)
 ·simp[Ov];exact qF _ (bQ.refl _ _)
 simp[Ov];exact hK _ (bQ.refl _ _)
open Go Go.Abs
def nT(L:List Sp)(f t:Int):List Sp:=
 if f<t then(match L.getLast? with|some s=>if s.2=f then L.dropLast++[(s.1,t)]else L++[(f,t)]|none=>[(f,t)])else L
def iH(m:AM)(id k:Nat)(L:List Sp):Prop:=id<m.boxes.length/\((L=[]/\Qh m.boxes id=[.sl .nil []])\/(L≠[]/\k<m.boxes.length/\k≠id/\Qh m.boxes id=[.bs k 0 L.length 2]/\Qh m.boxes k=cI L))
def afH:Nat->FuncId->List AV->AV:=fun d f _=>if f=999999 then(if d=34 then .aL 0 []else .junk)else .junk
def ZN(Y:YT)(f t:Int)(id k:Nat)(L:List Sp)(m:AM)(hO:iH m id k L)(hl:L.length<=1000000000)(K:AV->AM->Prop)
  (hK:∀m' k',iH m' id k' (nT L f t)->(k'=k\/m.boxes.length<=k')->bw (fun j=>j=id\/(L≠[]/\j=k)) m.boxes m'.boxes->m'.st=m.st->m'.ln=m.ln->m'.lens=m.lens->K (.aZ []) m'):an Tryz.prog aA Y 260 [I f,I t,.ptr id 0] m K:=by
 obtain⟨h2,h3⟩:=hO;refine Xd aev afH zd ?_;have iE:∀x,Qh (m.boxes++x) id=Qh m.boxes id:=fun x=>Ql h2;have lY:∀x y,(m.boxes++x).set id y=m.boxes.set id y++x:=fun x y=>Ym y h2;by_cases JO:f<t
 ·have ZO:¬t<=f:=zE
  obtain⟨rfl,h1⟩|⟨aM,hk,fP,h1,ah⟩:=h3
  ·have ha:nT [] f t=[(f,t)]:=by simp[nT,JO]
   rw[ha]at hK;simp[Fp,Fq,afH,JO,ZO,h1,h2,iE,lY];refine⟨zE,hK _ m.boxes.length ⟨by simp;omega,.inr ⟨zd,zd,zE,?_,?_⟩⟩ (.inr (zzab _)) ((bw.set (S:=fun j=>j=id\/(([]:List Sp)≠[]/\j=k)) (bw.refl _ _) (.inl (.inl rfl)) _).app _) rfl rfl rfl⟩
   ·simp only[zzea];rw[Ql (by simpa using h2),Vs _ h2]
   have:=Vm (m.boxes.set id [.bs m.boxes.length 0 1 2]) [[I f,I t]] 0;rw[zzck]at this;simpa using this
  obtain⟨A,s,rfl⟩:∃A s,L=A++[s]:=⟨L.dropLast,L.getLast aM,(zzex aM).symm⟩;have ha:nT (A++[s]) f t=if s.2=f then A++[(s.1,t)]else A++[s]++[(f,t)]:=by simp[nT,JO]
  rw[ha]at hK;have hw:IntKind.i64.wrap (A.length:Int)=(A.length:Int):=by simp at hl;rw[Qj]<;>omega
  have hg:(A++[s])[A.length]?=some s:=zd
  have g0:=uT hg;have g1:=Gu hg;have dy:(A++[s]).length=A.length+1:=zd
  rw[dy]at h1;have gl:(cI (A++[s])).length=A.length*2+2:=by rw[Yb,dy];omega
  have hR2:cI (A++[s]++[(f,t)])=cI (A++[s])++[I f,I t]:=by rw[Qcl];rfl
  have hR1:(cI (A++[s])).set (A.length*2+1) (I t)=cI (A++[(s.1,t)]):=by rw[xF _ _ s _ hg];simp
  have hrk:∀x,Qh (m.boxes++x) k=cI (A++[s]):=fun x=>by rw[Ql hk];exact ah
  have hsk:∀x y,(m.boxes++x).set k y=m.boxes.set k y++x:=fun x y=>Ym y hk;generalize hR:cI (A++[s])=R at*
  by_cases hs:s.2=f
  ·rw[if_pos hs]at hK;simp[Fp,Fq,afH,JO,ZO,h1,h2,hw,ah,g0,g1,gl,iE,lY,hrk,hsk,hk,hs];refine⟨zE,hK _ k ⟨by simpa using h2,.inr ⟨zd,by simpa using hk,fP,?_,?_⟩⟩ (.inl rfl) (bw.set (S:=fun j=>j=id\/(A++[s]≠[]/\j=k)) (bw.refl _ _) (.inl (.inr ⟨zd,rfl⟩)) _) rfl rfl rfl⟩
   ·show Qh (m.boxes.set k _) id=_;rw[Zz _ fP,h1];simp
   show Qh (m.boxes.set k _) k=_;rw[Vs _ hk];exact hR1
  rw[if_neg hs]at hK;simp[Fp,Fq,afH,JO,ZO,h1,h2,hw,ah,g0,g1,gl,iE,lY,hrk,hsk,hk,hs];have hRt:List.take ((A.length+1)*2) R=R:=zzap zE;have ax1:¬R=[]:=by rintro rfl;simp at gl
  have hri:∀x,Qh (m.boxes.set k []++x) id=[AV.bs k 0 (A.length+1) 2]:=fun x=>by rw[Ql (by simpa using h2),Zz _ fP,h1]
  simp only[hRt,hri];refine⟨zE,⟨⟨ax1,zE⟩,by simp at hl;omega⟩,⟨zd,zE⟩,?_⟩;refine hK _ m.boxes.length ⟨by simp;omega,.inr ⟨zd,zd,zE,?_,?_⟩⟩ (.inr (zzab _)) ?_ rfl rfl rfl
  ·show Qh ((m.boxes.set k []).set id _++_) id=_;rw[Ql (by simpa using h2),Vs _ (by simpa using h2)];simp
  ·have:=Vm ((m.boxes.set k []).set id [.bs m.boxes.length 0 (A.length+1+1) 2]) [R++[I f,I t]] 0;simp only[zzck]at this;rw[hR2];simpa using this
  exact((bw.set (S:=fun j=>j=id\/(A++[s]≠[]/\j=k)) (bw.refl _ _) (.inl (.inr ⟨zd,rfl⟩)) _).set (.inl (.inl rfl)) _).app _
 have ha:nT L f t=L:=by simp[nT,JO]
 rw[ha]at hK;have ZO:t<=f:=zE
 simp[Fp,Fq,JO,ZO];exact hK m k ⟨h2,h3⟩ (.inl rfl) (bw.refl _ _) rfl rfl rfl
open Go Go.Abs
def Gv(L:List Sp)(f t:Int):(nT L f t).length<=L.length+1:=by
 unfold nT;split
 ·split
  ·rename_i s hs;split
   ·have:0<L.length:=by cases L with
     |nil=>simp at hs
     |cons=>simp
    simp<;>omega
   simp
  simp
 omega
def pQ(sf st mid:Int):List Sp->List Sp->List Sp
 |[],L=>L
 |w::W,L=>pQ sf st mid W (nT L (max sf (mid+w.1)) (min st (mid+w.2)))
def Gw(sf st mid:Int):∀(W L:List Sp),(pQ sf st mid W L).length<=L.length+W.length
 |[],L=>by simp[pQ]
 |w::W,L=>by
  have h1:=Gw sf st mid W (nT L (max sf (mid+w.1)) (min st (mid+w.2)));have h2:=Gv L (max sf (mid+w.1)) (min st (mid+w.2));simp[pQ];omega
def nU(W:List Sp)(sf st mid:Int)(L:List Sp):List Sp:=
 if mid<st then nU W sf st (mid+86400) (pQ sf st mid W L)else L
termination_by(st-mid).toNat
decreasing_by omega
def rJ(m0:AM)(k0:Nat)(m:AM)(k:Nat)(L:List Sp):Prop:=
 iH m 4 k L/\(k=k0\/m0.boxes.length<=k)/\bw (fun j=>j=4\/j=k0) m0.boxes m.boxes/\m.st=m0.st/\m.ln=m0.ln/\m.lens=m0.lens
def iH.app{m:AM}{id k:Nat}{L:List Sp}(h:iH m id k L)(x:List (List AV)):iH {m with boxes:=m.boxes++x} id k L:=by
 obtain⟨h1,h2⟩:=h;refine⟨by simp;omega,?_⟩;obtain⟨h2,h3⟩|⟨h2,h3,h4,h5,h6⟩:=h2
 ·exact .inl ⟨h2,by show Qh (m.boxes++x) id=_;rw[Ql h1];exact h3⟩
 exact .inr ⟨h2,by simp;omega,h4,by show Qh (m.boxes++x) id=_;rw[Ql h1];exact h5,by show Qh (m.boxes++x) k=_;rw[Ql h3];exact h6⟩
def rJ.refl{m:AM}{k:Nat}{L:List Sp}(h:iH m 4 k L):rJ m k m k L:=⟨h,.inl rfl,bw.refl _ _,rfl,rfl,rfl⟩
def rJ.app{m0 m:AM}{k0 k:Nat}{L:List Sp}(h:rJ m0 k0 m k L)(x:List (List AV)):rJ m0 k0 {m with boxes:=m.boxes++x} k L:=
 ⟨h.1.app x,h.2.1,h.2.2.1.app x,h.2.2.2⟩
def rJ.step{m0 m m':AM}{k0 k k':Nat}{L L':List Sp}(h:rJ m0 k0 m k L)(hO:iH m' 4 k' L')(hk:k'=k\/m.boxes.length<=k')(hK:bw (fun j=>j=4\/(L≠[]/\j=k)) m.boxes m'.boxes)(h1:m'.st=m.st)(h2:m'.ln=m.ln)(h3:m'.lens=m.lens):rJ m0 k0 m' k' L':=by
 obtain⟨a1,a2,a3,a4,a5,a6⟩:=h;refine⟨hO,?_,bw.trans a3 (hK.mono ?_),by rw[h1,a4],by rw[h2,a5],by rw[h3,a6]⟩
 ·have:=a3.1;omega
 rintro i (rfl|⟨_,rfl⟩)
 ·exact .inl (.inl rfl)
 obtain a2|a2:=a2
 ·exact .inl (.inr a2)
 exact .inr a2
def JP(s:Sp)(fr to:Int)(m:AM):Prop:=5<m.boxes.length/\Qh m.boxes 1=[I s.1,I s.2]/\Qh m.boxes 2=[I fr]/\Qh m.boxes 3=[I to]/\Qh m.boxes 5=[.fn 260 [] [.ptr 4 0]]
def JP.keep{s:Sp}{fr to:Int}{m m':AM}(h:JP s fr to m){S:Nat->Prop}(hK:bw S m.boxes m'.boxes)(hS:∀j,S j->j=4\/6<=j):JP s fr to m':=by
 obtain⟨h1,h2,h3,h4,h5⟩:=h;have q:∀j,j<6->j≠4->Qh m'.boxes j=Qh m.boxes j:=fun j hj h4=>hK.2 j zE (fun h=>by have:=hS j h;omega);exact⟨zzaz h1 hK.1,by rw[q 1 zE zE];exact h2,by rw[q 2 zE zE];exact h3,by rw[q 3 zE zE];exact h4,by rw[q 5 zE zE];exact h5⟩
def JP.day{s:Sp}{fr to:Int}{m0 m:AM}{k0 k:Nat}{L:List Sp}(h:JP s fr to m0)(hD:rJ m0 k0 m k L)(hk:k0=4\/6<=k0):JP s fr to m:=
 h.keep hD.2.2.1 (by rintro j (h|h)<;>omega)
def JP.app{s:Sp}{fr to:Int}{m:AM}(h:JP s fr to m)(x:List (List AV)):JP s fr to {m with boxes:=m.boxes++x}:=
 h.keep (S:=fun _=>False) ((bw.refl _ _).app x) (fun _ h=>h.elim)
def ZP(of:Int)(sh:List Sp)(fr to:Int):Nat->FuncId->List AV->AV:=fun d f l=>
 if f=999999 then .junk else
 if f=184 then .bool (Yh of sh)else
 if f=259 then(match l with|[.int _ n]=>.bool (decide (0<=n/\n<86400))|_=>.junk)else
 if f=261 then .fn 312 [] [.ep [I of,.sl .ro (sh.map Qf)] 0]else
 if f=262 then(match l with|[.int _ n]=>.aZ [I (n/86400),I (n%86400)]|_=>.junk)else
 if f=263 then .sl .full ((zV fr to).map Qf)else .gd false .junk
def ZQ:SC:=(⟨_,by cbv⟩:uf [1,0,1,1,1,1,1,0,1,0,1,0,1,1,1,1,1] AF).1
def xG:SC->SC:=(⟨_,fun _=>by cbv⟩:Kq [1,0,1,1,1,1,1,0,1,0,1,0,1,1,1,1,1] AF).1
theorem ZR:AF=xG ZQ:=rfl
def uU{fr to:Int}(h1:0<=fr/\fr<86400)(h2:0<=to/\to<86400):(zV fr to).length<=2/\∀w∈zV fr to,0<=w.1/\w.1<=86400/\0<=w.2/\w.2<=86400:=by
 unfold zV;split
 ·simp;omega
 split
 ·simp;omega
 simp
def afI(Y:YT)(of:Int)(sh:List Sp)(fr to:Int)(iS:0<=fr/\fr<86400)(hto:0<=to/\to<86400)(E:List (Nat×AV))(m:AM)(k0:Nat)(L0:List Sp)(sf st LG:Int)(Q:Exit->AS->Prop)
  (s:Sp)(h6:Abs.look E 6=.ptr 2 0)(h7:Abs.look E 7=.ptr 3 0)(gq:Abs.look E 10=.ptr 5 0)(qG:Abs.look E 12=I sf)(xH:Abs.look E 13=I st)(Bo:Abs.look E 16=I LG)
  (hf:JP s fr to m)(hO:iH m 4 k0 L0)(hk:k0=4\/6<=k0)
  (hb: -100000000000<=LG/\LG<=100000000000/\st<=100000000000)(hl:L0.length+2*((st-LG)/86400+1).toNat<=100000)
  (hQ:∀T m' k',rJ m k0 m' k' (nU (zV fr to) sf st LG L0)->Q .normal ⟨T,m'⟩):
  vc Tryz.prog aA (ZP of sh fr to) Y ZQ ⟨Xv 111 E,m⟩ Q:=by
 obtain⟨Gs,hWb⟩:=uU iS hto;have ax2:=Dw fr to;simp[ZQ];refine Qk KQ (fun f mm=>∃(mid:Int)(k:Nat)(L:List Sp),f 16=I mid/\rJ m k0 mm k L/\ -100000000000<=mid/\mid<=100000086400/\L.length+2*((st-mid)/86400+1).toNat<=100000/\nU (zV fr to) sf st mid L=nU (zV fr to) sf st LG L0) (fun f _=>(st-numOf (f 16)).toNat) ?_ ?_
 ·exact⟨LG,k0,L0,by simp[Bo],rJ.refl hO,zE,zE,hl,rfl⟩
 rintro f mm ⟨mid,k,L,hm16,hD,b1,b2,b3,hR⟩;by_cases ai:mid<st
 ·have ax3:IntKind.i64.wrap (mid+86400)=mid+86400:=by rw[Qj]<;>omega
  rw[nU,if_pos ai]at hR;obtain⟨f0,f1,f2,f3,f5⟩:=hf.day hD hk;generalize hWe:zV fr to=W at*
  simp[hm16,h6,h7,gq,qG,xH,KQ,ai,ZP,hWe,f2,f3];refine⟨ax2,?_⟩;refine Qk KR (fun f' m'=>∃(i k':Nat)(L':List Sp),f' 91=I i/\i<=W.length/\rJ m k0 m' k' L'/\L'.length<=L.length+i/\pQ sf st mid (W.drop i) L'=pQ sf st mid W L) (fun f' _=>W.length-(numOf (f' 91)).toNat) ?_ ?_
  ·exact⟨0,k,L,zd,zE,hD,zE,rfl⟩
  rintro f' m' ⟨i,k',L',h91,hi,hD',ug,hR'⟩;obtain⟨g0,g1,g2,g3,g5⟩:=hf.day hD' hk;rcases zzaa i W.length with hiw|bz
  ·obtain⟨w,hw⟩:=aU hiw;have T6:=Zf hw;obtain⟨c1,c2,c3,c4⟩:=hWb w (zzac hw);have aa:(i:Int)<(W.length:Int):=zE
   have LH:=bM i zE;have eT:IntKind.i64.wrap (mid+w.1)=mid+w.1:=by rw[Qj]<;>omega
   have dP:IntKind.i64.wrap (mid+w.2)=mid+w.2:=by rw[Qj]<;>omega
   have hd:W.drop i=w::W.drop (i+1):=by rw[zzaf hiw,(zza.1 hw).2]
   rw[hd,pQ]at hR';have iE:∀x,Qh (m'.boxes++x) 5=[.fn 260 [] [.ptr 4 0]]:=fun x=>by rw[Ql g0];exact g5
   have uQ:∀x,Qh (m'.boxes++[x]) m'.boxes.length=x:=fun x=>by
    simp
   have T7:(if sf<mid+w.1 then mid+w.1 else sf)=max sf (mid+w.1):=zE
   have RX:(if mid+w.2<st then mid+w.2 else st)=min st (mid+w.2):=zE
   have ax4:=fun K hK=>ZN Y (max sf (mid+w.1)) (min st (mid+w.2)) 4 k' L' {m' with boxes:=m'.boxes++[[I w.1,I w.2]]} (hD'.1.app _) zE K hK;simp[h91,hiw,aa,T6,KR,gq,qG,xH,hm16,g5,iE,uQ,eT,dP,g0,T7,RX,LH,ZP];refine ax4 _ fun m2 k2 e1 e2 e3 e4 e5 e6=>?_;have hD2:=(hD'.app [[I w.1,I w.2]]).step e1 e2 e3 e4 e5 e6;have:=Gv L' (max sf (mid+w.1)) (min st (mid+w.2));refine⟨aP,⟨i+1,zE,zE,k2,_,hD2,zE,hR'⟩,zE⟩
  obtain rfl:i=W.length:=zE
  rw[zzbn,pQ]at hR';rw[<- hR']at hR;simp[h91,KR,hm16,ax3];refine⟨aP,⟨k',L',hD',zE,zE,zE,hR⟩,zE⟩
 have hR0:=hR;rw[nU,if_neg ai]at hR;simp[hm16,xH,KQ,ai];exact hQ _ _ k (by rw[<- hR];exact hD)
open Go Go.Abs
def stL(s:Sp)(W:List Sp)(x:Int×Int×Int)(L:List Sp):List Sp:=
 if min x.2.1 s.2<=max x.1 s.1 then L else nU W (max x.1 s.1) (min x.2.1 s.2) ((max x.1 s.1+x.2.2)/86400*86400-x.2.2) L
def uo(s:Sp)(W:List Sp):List (Int×Int×Int)->List Sp->List Sp
 |[],L=>L
 |x::r,L=>if s.2<=x.1 then L else uo s W r (stL s W x L)
def zX(n:Int):Bool:=decide (0<=n/\n<86400)
def xI(of:Int)(sh:List Sp)(s:Sp)(fr to:Int):Bool:=Yh of sh&&zX fr&&zX to&&decide (s.1<s.2/\s.2-s.1<=1000000)
def iI(of:Int)(sh:List Sp)(s:Sp)(fr to:Int):List Sp:=if xI of sh s fr to then uo s (zV fr to) (uR 0 of sh) []else[]
def afJ(x:Int×Int×Int):Prop:=0<=x.1/\x.1<=10000000000/\x.2.1<=10000000001/\ -50400<=x.2.2/\x.2.2<=50400
def Dx:∀(sh:List Sp)(f o last:Int),0<=f->f<=10000000000-> -1<=last-> -50400<=o->o<=50400->uq last sh=true->(∀x∈uR f o sh,afJ x)
 |[],f,o,last,h1,h2,_,h3,h4,_=>by simp[uR,afJ];omega
 |s::r,f,o,last,h1,h2,hla,h3,h4,ha=>by
  rw[uq]at ha;split at ha
  ·cases ha
  rename_i hn;simp only[not_or,zzgq,gY,decide_eq_true_eq]at hn;have ih:=Dx r s.1 s.2 s.1 zE zE zE zE zE ha;intro x hx;rw[uR,zzam]at hx;obtain hx|hx:=hx
  ·split at hx
   ·simp at hx;subst hx;simp[afJ];omega
   simp at hx
  exact ih x hx
def xJ:∀(sh:List Sp)(f o:Int),(uR f o sh).length<=sh.length+1
 |[],f,o=>by simp[uR]
 |s::r,f,o=>by
  have:=xJ r s.1 s.2;rw[uR];split<;>simp<;>omega
def Gx(W:List Sp)(hW:W.length<=2)(sf st:Int):∀(n:Nat)(mid:Int)(L:List Sp),(st-mid).toNat<=n->(nU W sf st mid L).length<=L.length+2*((st-mid)/86400+1).toNat:=by
 intro n;induction n with
 |zero=>intro mid L h;rw[nU,if_neg zE];omega
 |succ n ih=>
  intro mid L h;rw[nU];split
  ·have:=ih (mid+86400) (pQ sf st mid W L) zE;have:=Gw sf st mid W L;omega
  omega
def afK(R:List Sp)(s:Sp)(fr to:Int)(xs:List (Int×Int×Int))(O:Nat->Prop)(i:Nat)(m:AM):Prop:=
 ∃k L,iH m 4 k L/\(k=4\/6<=k)/\¬O k/\k<m.boxes.length/\(∀j,O j->6<=j)/\JP s fr to m/\L.length<=40*i/\uo s (zV fr to) (xs.drop i) L=R
def afL(R:List Sp)(O:Nat->Prop)(ex:Exit)(m:AM):Prop:=ex=.exit 0/\∃k,iH m 4 k R/\¬O k/\(∀j,O j->6<=j)
def iH.cg{m m':AM}{id k:Nat}{L:List Sp}(h:iH m id k L)(e:m'.boxes=m.boxes):iH m' id k L:=by unfold iH at*;rw[e];exact h
def JP.cg{s:Sp}{fr to:Int}{m m':AM}(h:JP s fr to m)(e:m'.boxes=m.boxes):JP s fr to m':=by unfold JP at*;rw[e];exact h
def iH.ZS{O:Nat->Prop}{m m':AM}{k:Nat}{L:List Sp}(h:iH m 4 k L)(e:bQ O m m')(h0:¬O 4)(hk:¬O k):iH m' 4 k L:=by
 obtain⟨h1,h2⟩:=h;refine⟨zzaz h1 e.1,?_⟩;obtain⟨h2,h3⟩|⟨h2,h3,h4,h5,h6⟩:=h2
 ·exact .inl ⟨h2,by rw[e.2.1 4 h1 h0];exact h3⟩
 exact .inr ⟨h2,zzaz h3 e.1,h4,by rw[e.2.1 4 h1 h0];exact h5,by rw[e.2.1 k h3 hk];exact h6⟩
def afK.ext{R:List Sp}{s:Sp}{fr to:Int}{xs:List (Int×Int×Int)}{O:Nat->Prop}{i:Nat}{m m':AM}(h:afK R s fr to xs O i m)(e:bQ O m m'):afK R s fr to xs (OU O m.boxes.length m'.boxes.length) i m':=by
 obtain⟨k,L,h1,h2,h3,h4,h5,h6,h8,h9⟩:=h;refine⟨k,L,h1.ZS e (fun h=>by have:=h5 4 h;omega) h3,h2,?_,zzaz h4 e.1,?_,h6.keep (S:=O) ⟨e.1,e.2.1⟩ (fun j h=>.inr (h5 j h)),h8,h9⟩
 ·rintro(h|h)
  ·exact h3 h
  omega
 have:=h6.1;rintro j (h|h)
 ·exact h5 j h
 omega
def afL.ext{R:List Sp}{O:Nat->Prop}{ex:Exit}{m m':AM}(h:afL R O ex m)(e:bQ O m m'):afL R O ex m':=by
 obtain⟨h0,k,h1,h3,h5⟩:=h;exact⟨h0,k,h1.ZS e (fun h=>by have:=h5 4 h;omega) h3,h3,h5⟩
def xK(of:Int)(sh:List Sp)(s:Sp)(fr to:Int)(gQ:sh.length<=1000000000)(h1: -9223372036854775808<=s.1/\s.1<=9223372036854775807)(h2: -9223372036854775808<=s.2/\s.2<=9223372036854775807):
  Pure Tryz.prog aA 189 [.agg [I of,.sl .ro (sh.map Qf)],.agg [I s.1,I s.2],I fr,I to] (if iI of sh s fr to=[]then .sl .nil []else .sl .ro ((iI of sh s fr to).map Qf)):=by
 have RY:=jR of sh gQ;have LI:=xC fr;have Bp:=xC to;have atj:=xD of sh;refine Qo adM (ZP of sh fr to) zd ?_;rw[ZR];generalize hR:iI of sh s fr to=R;by_cases hv:Yh of sh=true
 ·rw[hv]at RY;by_cases hf:0<=fr/\fr<86400
  ·rw[decide_eq_true hf]at LI;by_cases ht:0<=to/\to<86400
   ·rw[decide_eq_true ht]at Bp;by_cases ai:s.1<s.2
    ·have cw:¬s.2<=s.1:=zE
     have hu:IntKind.u64.wrap (IntKind.u64.wrap s.2-IntKind.u64.wrap s.1)=s.2-s.1:=by
      have q:∀z:Int,IntKind.u64.wrap z=z%18446744073709551616:=fun z=>by simp[IntKind.wrap,IntKind.bits,IntKind.signed]
      rw[q,q,q];omega
     by_cases hm:s.2-s.1<=1000000
     ·have zo:¬1000000<s.2-s.1:=zE
      simp[xG,ZP,hv,hf,ht,ai,cw,hu,hm,zo];refine⟨RY,LI,Bp,atj,?_⟩;have cp:=xE of sh gQ;have hz:sh.length<=40/\gY of=true/\uq (-1) sh=true:=by simpa[Yh,and_assoc]using hv
      have hof: -50400<=of/\of<=50400:=by simpa[gY]using hz.2.1
      have bZ:=Dx sh 0 of (-1) (by decide) (by decide) (by decide) hof.1 hof.2 hz.2.2;have hxl:=xJ sh 0 of;have hRc:uo s (zV fr to) (uR 0 of sh) []=R:=by rw[<- hR,iI,if_pos (by simp[xI,hv,zX,hf,ht,ai,hm])]
      clear RY LI Bp atj hu;generalize hX:uR 0 of sh=xs at*
      refine rK (xs:=xs.map Bn) zd cp (by intro x hx;simp at hx;obtain⟨a,b,c,_,rfl⟩:=hx;rfl) (afK R s fr to xs) (afL R) ?_ (fun _ _ _ _ h e=>h.ext e) (fun _ _ _ _ h e=>h.ext e) ?_ ?_ ?_
      ·refine⟨4,[],⟨zd,.inl ⟨rfl,zd⟩⟩,.inl rfl,id,zd,fun _ h=>h.elim,⟨zd,zd,zd,zd,zd⟩,zd,by simpa using hRc⟩
      ·rintro O l i m x hO hle0 hg0 fL ⟨k,L,i1,i2,i3,i4,i5,i6,i8,i9⟩ hx K' q1 q2 q3;rw[zzbi,zzcj]at hx;obtain⟨⟨a,b,o⟩,hx,rfl⟩:=hx;obtain⟨o1,o2,o3,o4,o5⟩:=bZ _ (zzac hx);simp only at o1 o2 o3 o4 o5;have fO:i<xs.length:=(zza.1 hx).1;have hd:xs.drop i=(a,b,o)::xs.drop (i+1):=by rw[zzaf fO,(zza.1 hx).2]
       rw[hd,uo]at i9;simp only[Ui]at i4;have hf6:=i6;obtain⟨f0,f1,f2,f3,f5⟩:=i6;have hOl:∀j,O j->j<m.boxes.length:=fun j h=>(hO j h).2;have amI:xs.length<=41:=zE
       clear hO hle0 hg0 cp hR hX;simp only[Ui]at f0 f1 f2 f3 f5;have iE:∀x,Qh (m.boxes++x) 1=[I s.1,I s.2]:=fun x=>by rw[Ql zE];exact f1
       have uQ:∀x,Qh (m.boxes++[x]) m.boxes.length=x:=fun x=>by
        simp
       by_cases hc:s.2<=a
       ·rw[if_pos hc]at i9;simp[fL,Zn,Bn,iE,uQ,hc];subst i9;refine q3 0 _ zd ⟨rfl,k,?_,i3,i5⟩;exact(i1.app [[I a,I b,I o]]).cg zd
       rw[if_neg hc]at i9;have T7:(if a<s.1 then s.1 else a)=max a s.1:=zE
       have RX:(if s.2<b then s.2 else b)=min b s.2:=zE
       by_cases he:min b s.2<=max a s.1
       ·rw[stL,if_pos he]at i9;simp[fL,Zn,Bn,iE,uQ,hc,T7,RX,he];refine q1 _ ⟨zd,fun j hj=>Ql (hOl j hj)⟩ ⟨k,L,(i1.app [[I a,I b,I o]]).cg zd,i2,i3,by simp;omega,i5,(hf6.app [[I a,I b,I o]]).cg zd,zE,i9⟩
       rw[stL,if_neg he]at i9;have hw0:IntKind.i64.wrap (max a s.1+o)=max a s.1+o:=by rw[Qj]<;>omega
       have hdv:=Gt (max a s.1+o) zE;have eT:IntKind.i64.wrap ((max a s.1+o)/86400*86400)=(max a s.1+o)/86400*86400:=by rw[Qj]<;>omega
       have dP:IntKind.i64.wrap ((max a s.1+o)/86400*86400-o)=(max a s.1+o)/86400*86400-o:=by rw[Qj]<;>omega
       simp[fL,Zn,Bn,iE,uQ,hc,T7,RX,he,hw0,eT,dP,ZP];refine⟨hdv,?_⟩;refine afI Y0 of sh fr to hf ht _ _ k L (max a s.1) (min b s.2) ((max a s.1+o)/86400*86400-o) _ s zd zd zd zd zd zd ((hf6.app [[I a,I b,I o]]).cg zd) ((i1.app [[I a,I b,I o]]).cg zd) i2 zE zE ?_;intro T m' k' hD;have aH:m.boxes.length+1<=m'.boxes.length:=by have:=hD.2.2.1.1;simpa using this
       have ug:=Gx (zV fr to) (uU hf ht).1 (max a s.1) (min b s.2) _ ((max a s.1+o)/86400*86400-o) L (zzab _);have hFx:=JP.day (s:=s) (fr:=fr) (to:=to) ((hf6.app [[I a,I b,I o]]).cg zd) hD i2;have zI:k'=k\/m.boxes.length+1<=k':=by have:=hD.2.1;simpa using this
       have hS:Bq O m m':=⟨zE,fun j hj=>by
        have:=hD.2.2.1.2 j (by simp;have:=hOl j hj;omega) (by rintro(rfl|rfl);have:=i5 4 hj;omega;exact i3 hj);rw[this];exact Ql (hOl j hj)⟩
       simp;refine q1 ⟨T,m'⟩ hS ?_;by_cases hLe:nU (zV fr to) (max a s.1) (min b s.2) ((max a s.1+o)/86400*86400-o) L=[]
       ·rw[hLe]at i9 hD;refine⟨4,[],⟨hD.1.1,?_⟩,.inl rfl,(fun h=>by have:=i5 4 h;omega),(by show 4<m'.boxes.length;omega),i5,hFx,zd,i9⟩;rcases hD.1.2 with h|h
        ·exact .inl h
        exact absurd rfl h.1
       have sI:k'<m'.boxes.length:=by
        rcases hD.1.2 with h|h
        ·exact absurd h.1 hLe
        exact h.2.1
       refine⟨k',_,hD.1,zE,?_,sI,i5,hFx,zE,i9⟩;obtain rfl|zI:=zI
       ·exact i3
       intro h;have:=hOl k' h;omega
      ·rintro O m ⟨k,L,i1,i2,i3,i4,i5,i6,i8,i9⟩;rw[zzbj,zzbn,uo]at i9;subst i9;rcases i1.2 with⟨hL0,h⟩|⟨aM,h2,h3,h4,h5⟩
       ·simp[h,mC,i1.1,hL0]
       have fS:=Zp m 4 (Dy L);have fQ:=Qek L;have eG:=Yb L;simp[h4,mC,aM,h5,fS,fQ,eG,i1.1]
      rintro O ex m ⟨rfl,k,i1,i3,i5⟩;rcases i1.2 with⟨hL0,h⟩|⟨aM,h2,h3,h4,h5⟩
      ·simp[h,mC,i1.1,hL0]
      have fS:=Zp m 4 (Dy R);have fQ:=Qek R;have eG:=Yb R;simp[h4,mC,aM,h5,fS,fQ,eG,i1.1]
     have hR0:R=[]:=by rw[<- hR,iI,if_neg (by simp[xI];omega)]
     have zo:1000000<s.2-s.1:=zE
     simp[xG,ZP,hv,hf,ht,ai,cw,hu,hm,zo,mC,hR0,RY,LI,Bp]
    have hR0:R=[]:=by rw[<- hR,iI,if_neg (by simp[xI];omega)]
    have cw:s.2<=s.1:=zE
    simp[xG,ZP,hv,hf,ht,ai,cw,mC,hR0,RY,LI,Bp]
   have hR0:R=[]:=by rw[<- hR,iI,if_neg (by simp[xI,zX];omega)]
   simp[xG,ZP,hv,hf,ht,mC,hR0,RY,LI];simpa[ht]using Bp
  have hR0:R=[]:=by rw[<- hR,iI,if_neg (by simp[xI,zX];omega)]
  simp[xG,ZP,hv,hf,mC,hR0,RY];simpa[hf]using LI
 have hR0:R=[]:=by rw[<- hR,iI,if_neg (by simp[xI,hv])]
 simp[xG,ZP,hv,mC,hR0];simpa[hv]using RY
def zY(of:Int)(sh:List Sp)(s:Sp)(fr to:Int)(gQ:sh.length<=1000000000)(h1: -9223372036854775808<=s.1/\s.1<=9223372036854775807)(h2: -9223372036854775808<=s.2/\s.2<=9223372036854775807):
  Pure Tryz.prog aA 189 [.agg [I of,.sl .ro (sh.map Qf)],.agg [I s.1,I s.2],I fr,I to] (.sl .ro ((iI of sh s fr to).map Qf)):=by
 have h:=xK of sh s fr to gQ h1 h2;by_cases hn:iI of sh s fr to=[]
 ·rw[if_pos hn]at h;rw[hn];exact Xa h (Wk.sl _ _)
 rw[if_neg hn]at h;exact h
def Gy(s:Sp)(W:List Sp)(hW:W.length<=2)(hs:s.2-s.1<=1000000):∀(xs:List (Int×Int×Int))(L:List Sp),(∀x∈xs,afJ x)->(uo s W xs L).length<=L.length+40*xs.length
 |[],L,_=>by simp[uo]
 |x::r,L,h=>by
  rw[uo];split
  ·omega
  have ih:=Gy s W hW hs r (stL s W x L) (fun y hy=>h y (by simp[hy]));obtain⟨o1,o2,o3,o4,o5⟩:=h x zd
  have:(stL s W x L).length<=L.length+40:=by
   unfold stL;split
   ·omega
   have:=Gx W hW (max x.1 s.1) (min x.2.1 s.2) _ ((max x.1 s.1+x.2.2)/86400*86400-x.2.2) L (zzab _);omega
  simp only[zzbe];omega
def ZT(of:Int)(sh:List Sp)(s:Sp)(fr to:Int):(iI of sh s fr to).length<=2000:=by
 unfold iI;split
 ·rename_i h;simp only[xI,Yh,zX,gY,zzak,decide_eq_true_eq]at h;obtain⟨⟨⟨⟨⟨a1,a2⟩,a3⟩,a4⟩,a5⟩,a6,a7⟩:=h;have h1:=Gy s (zV fr to) (uU a4 a5).1 a7 (uR 0 of sh) [] (Dx sh 0 of (-1) (by decide) (by decide) (by decide) a2.1 a2.2 a3);have h2:=xJ sh 0 of;simp at h1;omega
 simp
end
