import Derived.Test.YthjppoincojfkaaGreatDoorRASpG
set_option linter.all false
set_option maxRecDepth 100000
set_option maxHeartbeats 64000000
namespace Go.Proofs.YthjppoincojfkaaGreatDoor
noncomputable section
open Go Go.Abs
def xu(n:Int):Pure Tryz.prog aD 195 [I n] (.bool (decide (0<=n/\n<86400))):=by
 refine Qo acP (fun _ _ _=>.junk) zd ?_;by_cases h1:0<=n<;>by_cases h2:n<86400<;>simp[ahi,ahj,h1,h2]
def FV(n:Int)(h: -100000000000<=n/\n<=100000000000):Pure Tryz.prog aD 198 [I n] (.aS [I (n/86400),I (n%86400)]):=by
 refine Qo acS (fun _ _ _=>.junk) zd ?_
 have ht:n.tdiv 86400=if 0<=n\/n%86400=0 then n/86400 else n/86400+1:=by
  by_cases h0:0<=n
  ·rw[if_pos (.inl h0),zzcj h0]
  rw[Int.tdiv_eq_ediv];by_cases h1:n%86400=0
  ·rw[if_pos (.inr (Int.dvd_of_emod_eq_zero h1)),if_pos (.inr h1)];simp
  rw[if_neg (by rintro(h|h);exact h0 h;exact h1 (Int.emod_eq_zero_of_dvd h)),if_neg (by rintro(h|h);exact h0 h;exact h1 h)];rfl
 have hm:n.tmod 86400=n-n.tdiv 86400*86400:=by have:=Int.mul_tdiv_add_tmod n 86400;omega
 have w1:IntKind.i64.wrap (n.tdiv 86400)=n.tdiv 86400:=by rw[ht];split<;>rw[Ql]<;>omega
 by_cases CA:n.tmod 86400<0
 ·have e1:n.tdiv 86400=n/86400+1:=by
   rw[ht]at hm |-
   split
   ·rename_i hc;rw[if_pos hc]at hm;omega
   rfl
  have w2:IntKind.i64.wrap (n/86400+1)=n/86400+1:=by rw[Ql]<;>omega
  have w3:IntKind.i64.wrap (n/86400)=n/86400:=by rw[Ql]<;>omega
  have e2:n.tmod 86400=n%86400-86400:=by rw[hm,e1];omega
  have w4:IntKind.i64.wrap (n%86400)=n%86400:=by rw[Ql]<;>omega
  have zy:n%86400<86400:=zE
  have hn3:¬86400<=n%86400:=zE
  simp[TU,TV,e1,e2,w2,w3,w4,zy,hn3]
 have e1:n.tdiv 86400=n/86400:=by
  rw[ht]at hm |-
  split
  ·rfl
  rename_i hc;rw[if_neg hc]at hm;omega
 have e2:n.tmod 86400=n%86400:=by rw[hm,e1];omega
 have w3:IntKind.i64.wrap (n/86400)=n/86400:=by rw[Ql]<;>omega
 have zy:¬n%86400<0:=zE
 simp[TU,TV,e1,e2,w3,zy]
def zR(fr to:Int):List Sp:=if fr<to then[(fr,to)]else if to<fr then[(0,to),(fr,86400)]else[(0,86400)]
def C6(fr to:Int):Pure Tryz.prog aD 199 [I fr,I to] (.sl .full ((zR fr to).map Qe)):=by
 refine Qo acT (fun _ _ _=>.junk) zd ?_;by_cases h1:fr<to
 ·simp[M0,M1,h1,zR,Qe]
 by_cases h2:to<fr
 ·simp[M0,M1,h1,h2,zR,Qe]
 simp[M0,M1,h1,h2,zR,Qe]
def uJ:Int->Int->List Sp->List (Int×Int×Int)
 |f,o,[]=>[(f,10000000001,o)]
 |f,o,s::r=>(if f<s.1 then[(f,s.1,o)]else[])++uJ s.1 s.2 r
def A7(x:Int×Int×Int):P2:=[.agg [I x.1,I x.2.1,I x.2.2]]
def xw(of:Int)(sh:List Sp):Pure Tryz.prog aD 197 [.agg [I of,.sl .ro (sh.map Qe)]] (.fn 236 [] [.ep [I of,.sl .ro (sh.map Qe)] 0]):=by
 refine Qo acR (fun _ _ _=>.junk) zd ?_;simp[ahk,ahl]
def bW.put{O:Nat->Prop}{m:AM}{b:Nat}(hb:O b)(v:P2)(x:T5):bW O m {m with boxes:=m.boxes.set b v++x}:=
 ⟨zd,fun j hj ho=>by show Qj (m.boxes.set b v++x) j=_;rw[Qn (Nm hj),Yc v (by rintro rfl;exact ho hb)],⟨[],zd⟩,fun _ _=>rfl⟩
def bW.asm{O:Nat->Prop}{m:AM}{b:Nat}(hb:O b)(v:P2):bW O m {m with boxes:=m.boxes.set b v}:=
 ⟨zd,fun j hj ho=>by show Qj (m.boxes.set b v) j=_;rw[Yc v (by rintro rfl;exact ho hb)],⟨[],zd⟩,fun _ _=>rfl⟩
def xx(of:Int)(sh:List Sp)(hl:sh.length<=1000000000):WV Tryz.prog aD 236 [] [.ep [I of,.sl .ro (sh.map Qe)] 0] ((uJ 0 of sh).map A7):=by
 intro Y l m K hF;refine Xn ade (fun _ _ _=>.junk) zd ?_;simp[T7];obtain⟨b,hbe⟩:∃b,m.boxes.length=b:=⟨_,rfl⟩;refine Qk Ci (fun f mm=>∃(i:Nat)(fr t o:Int)(O:Nat->Prop),f 12=I i/\i<=sh.length/\b<mm.boxes.length/\Qj mm.boxes b=[I fr,I t,I o]/\O b/\sJ (Y l) K ((uJ fr o (sh.drop i)).map A7) O mm) (fun f _=>sh.length-(numOf (f 12)).toNat) ?_ ?_
 ·refine⟨0,0,0,of,OU (fun _=>False) m.boxes.length (m.boxes.length+1),zd,zE,by simp[hbe],by simp[<- hbe],.inr ⟨zE,zE⟩,?_⟩;have:=hF.ext ((fF.box m [[I 0,I 0,I of]]).toO _);simpa using this
 rintro f mm ⟨i,fr,t,o,O,qv,hi,hlm,ah,C0,hF⟩;rcases zzaa i sh.length with ai|bn
 ·obtain⟨s,hs⟩:=aV ai;have zQ:=Zx hs;have aa:(i:Int)<(sh.length:Int):=zE
  have hw:=bO i zE;have hd:sh.drop i=s::sh.drop (i+1):=by rw[zzag ai,(zza.1 hs).2]
  rw[hd,uJ]at hF;have ic:∀x,Qj (mm.boxes++x) b=[I fr,I t,I o]:=fun x=>by rw[Qn hlm];exact ah
  have lK:∀x y,(mm.boxes++x).set b y=mm.boxes.set b y++x:=fun x y=>Ym y hlm;have ov:∀y x,Qj (mm.boxes.set b y++x) b=y:=fun y x=>by rw[Qn (Nm hlm),Yi _ hlm]
  have iI:∀y x,Qj (mm.boxes.set b y++[x]) mm.boxes.length=x:=fun y x=>by
   have:=Vq (mm.boxes.set b y) [x] 0;rw[zzcf]at this;simpa using this
  have hsc:∀y x z,(mm.boxes.set b y++x).set b z=mm.boxes.set b z++x:=fun y x z=>by rw[Ym z (Nm hlm),List.set_set]
  by_cases hfs:fr<s.1
  ·rw[if_pos hfs]at hF;simp only[zzes,zzaz]at hF;simp[qv,ai,aa,zQ,ic,lK,ov,iI,Ci,hbe,hfs,hlm];refine⟨zE,hF _ (bW.put C0 _ _) _ (fun m2 A5 A0=>?_) (fun m2 hK=>?_)⟩
   ·have ayM:mm.boxes.length+1<=m2.boxes.length:=by have:=A5.1;simpa using this
    have q1:Qj m2.boxes b=[I fr,I s.1,I o]:=by rw[A5.2 b (.inl C0)];exact ov _ _
    have q2:Qj m2.boxes mm.boxes.length=[I s.1,I s.2]:=by
     rw[A5.2 mm.boxes.length (.inr ⟨zzab _,zd⟩)];exact iI _ _
    have fV:b<m2.boxes.length:=zE
    have asn:OU O mm.boxes.length (mm.boxes.length+1) b:=.inl C0;simp at A0;have q3:∀y,Qj (m2.boxes.set b y) b=y:=fun y=>Yi _ fV;simp[q1,q2,q3,fV,hw];refine⟨aQ,⟨i+1,zd,zE,s.1,0,s.2,⟨rfl,rfl,rfl⟩,_,.inl asn,A0.ext (bW.asm asn _)⟩,zE⟩
   simp[Nc];exact hK _ (bW.refl _ _)
  rw[if_neg hfs]at hF;simp only[zzai]at hF;simp[qv,ai,aa,zQ,ic,lK,ov,iI,hsc,Ci,hbe,hfs,hlm,hw];refine⟨zE,aQ,⟨i+1,zd,zE,zE,s.1,0,s.2,⟨rfl,rfl,rfl⟩,_,.inl C0,hF.ext (bW.put C0 _ _)⟩,zE⟩
 obtain rfl:i=sh.length:=zE
 rw[zzbv,uJ]at hF;simp only[zzaz,zzcv]at hF;simp[qv,Ci,hbe,ah,hlm,Yi _ hlm];refine hF _ (bW.asm C0 _) _ (fun m2 _ A0=>?_) (fun m2 hK=>?_)
 ·simp[Nc];exact A0 _ (bW.refl _ _)
 simp[Nc];exact hK _ (bW.refl _ _)
open Go Go.Abs
def nK(L:List Sp)(f t:Int):List Sp:=
 if f<t then(match L.getLast? with|some s=>if s.2=f then L.dropLast++[(s.1,t)]else L++[(f,t)]|none=>[(f,t)])else L
def ir(m:AM)(id k:Nat)(L:List Sp):Prop:=id<m.boxes.length/\((L=[]/\Qj m.boxes id=[.sl .nil []])\/(L≠[]/\k<m.boxes.length/\k≠id/\Qj m.boxes id=[.bs k 0 L.length 2]/\Qj m.boxes k=cG L))
def aee:UV:=fun d f _=>if f=999999 then(if d=34 then .aJ 0 []else .junk)else .junk
def XH(Y:YT)(f t:Int)(id k:Nat)(L:List Sp)(m:AM)(hO:ir m id k L)(hl:L.length<=1000000000)(K:So)
  (hK:∀m' k',ir m' id k' (nK L f t)->(k'=k\/m.boxes.length<=k')->bB (fun j=>j=id\/(L≠[]/\j=k)) m.boxes m'.boxes->m'.st=m.st->m'.ln=m.ln->m'.lens=m.lens->K (.aS []) m'):aB Tryz.prog aD Y 196 [I f,I t,.ptr id 0] m K:=by
 obtain⟨h2,h3⟩:=hO;refine Xn acQ aee zd ?_;have ic:∀x,Qj (m.boxes++x) id=Qj m.boxes id:=fun x=>Qn h2;have lK:∀x y,(m.boxes++x).set id y=m.boxes.set id y++x:=fun x y=>Ym y h2;by_cases Ir:f<t
 ·have XI:¬t<=f:=zE
  obtain⟨rfl,h1⟩|⟨aO,hk,fq,h1,ah⟩:=h3
  ·have ha:nK [] f t=[(f,t)]:=by simp[nK,Ir]
   rw[ha]at hK;simp[EC,ED,aee,Ir,XI,h1,h2,ic,lK];refine⟨zE,hK _ m.boxes.length ⟨by simp;omega,.inr ⟨zd,zd,zE,?_,?_⟩⟩ (.inr (zzab _)) ((bB.set (S:=fun j=>j=id\/(([]:List Sp)≠[]/\j=k)) (bB.refl _ _) (.inl (.inl rfl)) _).app _) rfl rfl rfl⟩
   ·simp only[zzhb];rw[Qn (Nm h2),Yi _ h2]
   have:=Vq (m.boxes.set id [.bs m.boxes.length 0 1 2]) [[I f,I t]] 0;rw[zzcf]at this;simpa using this
  obtain⟨A,s,rfl⟩:∃A s,L=A++[s]:=⟨L.dropLast,L.getLast aO,(zzet aO).symm⟩;have ha:nK (A++[s]) f t=if s.2=f then A++[(s.1,t)]else A++[s]++[(f,t)]:=by simp[nK,Ir]
  rw[ha]at hK;have hw:IntKind.i64.wrap (A.length:Int)=(A.length:Int):=by simp at hl;rw[Ql]<;>omega
  have hg:(A++[s])[A.length]?=some s:=zd
  have g0:=uH hg;have g1:=FG hg;have dG:(A++[s]).length=A.length+1:=zd
  rw[dG]at h1;have gl:(cG (A++[s])).length=A.length*2+2:=by rw[Yf,dG];omega
  have hR2:cG (A++[s]++[(f,t)])=cG (A++[s])++[I f,I t]:=by rw[Qcj];rfl
  have hR1:(cG (A++[s])).set (A.length*2+1) (I t)=cG (A++[(s.1,t)]):=by rw[w8 _ _ s _ hg];simp
  have hrk:∀x,Qj (m.boxes++x) k=cG (A++[s]):=fun x=>by rw[Qn hk];exact ah
  have hsk:∀x y,(m.boxes++x).set k y=m.boxes.set k y++x:=fun x y=>Ym y hk;generalize hR:cG (A++[s])=R at*
  by_cases hs:s.2=f
  ·rw[if_pos hs]at hK;simp[EC,ED,aee,Ir,XI,h1,h2,hw,ah,g0,g1,gl,ic,lK,hrk,hsk,hk,hs];refine⟨zE,hK _ k ⟨Nm h2,.inr ⟨zd,Nm hk,fq,?_,?_⟩⟩ (.inl rfl) (bB.set (S:=fun j=>j=id\/(A++[s]≠[]/\j=k)) (bB.refl _ _) (.inl (.inr ⟨zd,rfl⟩)) _) rfl rfl rfl⟩
   ·show Qj (m.boxes.set k _) id=_;rw[Yc _ fq,h1];simp
   show Qj (m.boxes.set k _) k=_;rw[Yi _ hk];exact hR1
  rw[if_neg hs]at hK;simp[EC,ED,aee,Ir,XI,h1,h2,hw,ah,g0,g1,gl,ic,lK,hrk,hsk,hk,hs];have hRt:List.take ((A.length+1)*2) R=R:=zzau zE;have aw8:¬R=[]:=by rintro rfl;simp at gl
  have hri:∀x,Qj (m.boxes.set k []++x) id=[AV.bs k 0 (A.length+1) 2]:=fun x=>by rw[Qn (Nm h2),Yc _ fq,h1]
  simp only[hRt,hri];refine⟨zE,⟨⟨aw8,zE⟩,by simp at hl;omega⟩,⟨zd,zE⟩,?_⟩;refine hK _ m.boxes.length ⟨by simp;omega,.inr ⟨zd,zd,zE,?_,?_⟩⟩ (.inr (zzab _)) ?_ rfl rfl rfl
  ·show Qj ((m.boxes.set k []).set id _++_) id=_;rw[Qn (Nm h2),Yi _ (Nm h2)];simp
  ·have:=Vq ((m.boxes.set k []).set id [.bs m.boxes.length 0 (A.length+1+1) 2]) [R++[I f,I t]] 0;simp only[zzcf]at this;rw[hR2];simpa using this
  exact((bB.set (S:=fun j=>j=id\/(A++[s]≠[]/\j=k)) (bB.refl _ _) (.inl (.inr ⟨zd,rfl⟩)) _).set (.inl (.inl rfl)) _).app _
 have ha:nK L f t=L:=by simp[nK,Ir]
 rw[ha]at hK;have XI:t<=f:=zE
 simp[EC,ED,Ir,XI];exact hK m k ⟨h2,h3⟩ (.inl rfl) (bB.refl _ _) rfl rfl rfl
open Go Go.Abs
def FX(L:List Sp)(f t:Int):(nK L f t).length<=L.length+1:=by
 unfold nK;split
 ·split
  ·rename_i s hs;split
   ·have:0<L.length:=by cases L with
     |nil=>simp at hs
     |cons=>simp
    simp<;>omega
   simp
  simp
 omega
def pG(sf st mid:Int):List Sp->List Sp->List Sp
 |[],L=>L
 |w::W,L=>pG sf st mid W (nK L (max sf (mid+w.1)) (min st (mid+w.2)))
def FY(sf st mid:Int):∀(W L:List Sp),(pG sf st mid W L).length<=L.length+W.length
 |[],L=>by simp[pG]
 |w::W,L=>by
  have h1:=FY sf st mid W (nK L (max sf (mid+w.1)) (min st (mid+w.2)));have h2:=FX L (max sf (mid+w.1)) (min st (mid+w.2));simp[pG];omega
def nL(W:List Sp)(sf st mid:Int)(L:List Sp):List Sp:=
 if mid<st then nL W sf st (mid+86400) (pG sf st mid W L)else L
termination_by(st-mid).toNat
decreasing_by omega
def rq(m0:AM)(k0:Nat)(m:AM)(k:Nat)(L:List Sp):Prop:=
 ir m 4 k L/\(k=k0\/m0.boxes.length<=k)/\bB (fun j=>j=4\/j=k0) m0.boxes m.boxes/\m.st=m0.st/\m.ln=m0.ln/\m.lens=m0.lens
def ir.app{m:AM}{id k:Nat}{L:List Sp}(h:ir m id k L)(x:T5):ir {m with boxes:=m.boxes++x} id k L:=by
 obtain⟨h1,h2⟩:=h;refine⟨by simp;omega,?_⟩;obtain⟨h2,h3⟩|⟨h2,h3,h4,h5,h6⟩:=h2
 ·exact .inl ⟨h2,by show Qj (m.boxes++x) id=_;rw[Qn h1];exact h3⟩
 exact .inr ⟨h2,by simp;omega,h4,by show Qj (m.boxes++x) id=_;rw[Qn h1];exact h5,by show Qj (m.boxes++x) k=_;rw[Qn h3];exact h6⟩
def rq.refl{m:AM}{k:Nat}{L:List Sp}(h:ir m 4 k L):rq m k m k L:=⟨h,.inl rfl,bB.refl _ _,rfl,rfl,rfl⟩
def rq.app{m0 m:AM}{k0 k:Nat}{L:List Sp}(h:rq m0 k0 m k L)(x:T5):rq m0 k0 {m with boxes:=m.boxes++x} k L:=
 ⟨h.1.app x,h.2.1,h.2.2.1.app x,h.2.2.2⟩
def rq.step{m0 m m':AM}{k0 k k':Nat}{L L':List Sp}(h:rq m0 k0 m k L)(hO:ir m' 4 k' L')(hk:k'=k\/m.boxes.length<=k')(hK:bB (fun j=>j=4\/(L≠[]/\j=k)) m.boxes m'.boxes)(h1:m'.st=m.st)(h2:m'.ln=m.ln)(h3:m'.lens=m.lens):rq m0 k0 m' k' L':=by
 obtain⟨a1,a2,a3,a4,a5,a6⟩:=h;refine⟨hO,?_,bB.trans a3 (hK.mono ?_),by rw[h1,a4],by rw[h2,a5],by rw[h3,a6]⟩
 ·have:=a3.1;omega
 rintro i (rfl|⟨_,rfl⟩)
 ·exact .inl (.inl rfl)
 obtain a2|a2:=a2
 ·exact .inl (.inr a2)
 exact .inr a2
def Is(s:Sp)(fr to:Int)(m:AM):Prop:=5<m.boxes.length/\Qj m.boxes 1=[I s.1,I s.2]/\Qj m.boxes 2=[I fr]/\Qj m.boxes 3=[I to]/\Qj m.boxes 5=[.fn 196 [] [.ptr 4 0]]
def Is.keep{s:Sp}{fr to:Int}{m m':AM}(h:Is s fr to m){S:Nat->Prop}(hK:bB S m.boxes m'.boxes)(hS:∀j,S j->j=4\/6<=j):Is s fr to m':=by
 obtain⟨h1,h2,h3,h4,h5⟩:=h;have q:∀j,j<6->j≠4->Qj m'.boxes j=Qj m.boxes j:=fun j hj h4=>hK.2 j zE (fun h=>by have:=hS j h;omega);exact⟨zzay h1 hK.1,by rw[q 1 zE zE];exact h2,by rw[q 2 zE zE];exact h3,by rw[q 3 zE zE];exact h4,by rw[q 5 zE zE];exact h5⟩
def Is.day{s:Sp}{fr to:Int}{m0 m:AM}{k0 k:Nat}{L:List Sp}(h:Is s fr to m0)(hD:rq m0 k0 m k L)(hk:k0=4\/6<=k0):Is s fr to m:=
 h.keep hD.2.2.1 (by rintro j (h|h)<;>omega)
def Is.app{s:Sp}{fr to:Int}{m:AM}(h:Is s fr to m)(x:T5):Is s fr to {m with boxes:=m.boxes++x}:=
 h.keep (S:=fun _=>False) ((bB.refl _ _).app x) (fun _ h=>h.elim)
def XJ(of:Int)(sh:List Sp)(fr to:Int):UV:=fun d f l=>
 if f=999999 then .junk else
 if f=133 then .bool (Yj of sh)else
 if f=195 then(match l with|[.int _ n]=>.bool (decide (0<=n/\n<86400))|_=>.junk)else
 if f=197 then .fn 236 [] [.ep [I of,.sl .ro (sh.map Qe)] 0]else
 if f=198 then(match l with|[.int _ n]=>.aS [I (n/86400),I (n%86400)]|_=>.junk)else
 if f=199 then .sl .full ((zR fr to).map Qe)else .gd false .junk
def XK:SC:=(⟨_,by cbv⟩:JY [1,0,1,1,1,1,1,0,1,0,1,0,1,1,1,1,1] Ah).1
def xy:SC->SC:=(⟨_,fun _=>by cbv⟩:Fm [1,0,1,1,1,1,1,0,1,0,1,0,1,1,1,1,1] Ah).1
theorem XL:Ah=xy XK:=rfl
def uK{fr to:Int}(h1:0<=fr/\fr<86400)(h2:0<=to/\to<86400):(zR fr to).length<=2/\∀w∈zR fr to,0<=w.1/\w.1<=86400/\0<=w.2/\w.2<=86400:=by
 unfold zR;split
 ·simp;omega
 split
 ·simp;omega
 simp
def aef(Y:YT)(of:Int)(sh:List Sp)(fr to:Int)(zJ:0<=fr/\fr<86400)(hto:0<=to/\to<86400)(E:QQ)(m:AM)(k0:Nat)(L0:List Sp)(sf st KG:Int)(Q:R0)
  (s:Sp)(h6:Abs.look E 6=.ptr 2 0)(h7:Abs.look E 7=.ptr 3 0)(lM:Abs.look E 10=.ptr 5 0)(qv:Abs.look E 12=I sf)(eU:Abs.look E 13=I st)(KH:Abs.look E 16=I KG)
  (hf:Is s fr to m)(hO:ir m 4 k0 L0)(hk:k0=4\/6<=k0)
  (hb: -100000000000<=KG/\KG<=100000000000/\st<=100000000000)(hl:L0.length+2*((st-KG)/86400+1).toNat<=100000)
  (hQ:∀T m' k',rq m k0 m' k' (nL (zR fr to) sf st KG L0)->Q .normal ⟨T,m'⟩):
  vc Tryz.prog aD (XJ of sh fr to) Y XK ⟨Vy 111 E,m⟩ Q:=by
 obtain⟨QA,hWb⟩:=uK zJ hto;have aw9:=C6 fr to;simp[XK];refine Qk I1 (fun f mm=>∃(mid:Int)(k:Nat)(L:List Sp),f 16=I mid/\rq m k0 mm k L/\ -100000000000<=mid/\mid<=100000086400/\L.length+2*((st-mid)/86400+1).toNat<=100000/\nL (zR fr to) sf st mid L=nL (zR fr to) sf st KG L0) (fun f _=>(st-numOf (f 16)).toNat) ?_ ?_
 ·exact⟨KG,k0,L0,by simp[KH],rq.refl hO,zE,zE,hl,rfl⟩
 rintro f mm ⟨mid,k,L,hm16,hD,b1,b2,b3,hR⟩;by_cases ai:mid<st
 ·have axa:IntKind.i64.wrap (mid+86400)=mid+86400:=by rw[Ql]<;>omega
  rw[nL,if_pos ai]at hR;obtain⟨f0,f1,f2,f3,f5⟩:=hf.day hD hk;generalize hWe:zR fr to=W at*
  simp[hm16,h6,h7,lM,qv,eU,I1,ai,XJ,hWe,f2,f3];refine⟨aw9,?_⟩;refine Qk I2 (fun f' m'=>∃(i k':Nat)(L':List Sp),f' 91=I i/\i<=W.length/\rq m k0 m' k' L'/\L'.length<=L.length+i/\pG sf st mid (W.drop i) L'=pG sf st mid W L) (fun f' _=>W.length-(numOf (f' 91)).toNat) ?_ ?_
  ·exact⟨0,k,L,zd,zE,hD,zE,rfl⟩
  rintro f' m' ⟨i,k',L',h91,hi,hD',tV,hR'⟩;obtain⟨g0,g1,g2,g3,g5⟩:=hf.day hD' hk;rcases zzaa i W.length with hiw|bn
  ·obtain⟨w,hw⟩:=aV hiw;have Sk:=Zx hw;obtain⟨c1,c2,c3,c4⟩:=hWb w (zzae hw);have aa:(i:Int)<(W.length:Int):=zE
   have XM:=bO i zE;have lJ:IntKind.i64.wrap (mid+w.1)=mid+w.1:=by rw[Ql]<;>omega
   have fW:IntKind.i64.wrap (mid+w.2)=mid+w.2:=by rw[Ql]<;>omega
   have hd:W.drop i=w::W.drop (i+1):=by rw[zzag hiw,(zza.1 hw).2]
   rw[hd,pG]at hR';have ic:∀x,Qj (m'.boxes++x) 5=[.fn 196 [] [.ptr 4 0]]:=fun x=>by rw[Qn g0];exact g5
   have A4:∀x,Qj (m'.boxes++[x]) m'.boxes.length=x:=fun x=>by
    simp
   have hmx:(if sf<mid+w.1 then mid+w.1 else sf)=max sf (mid+w.1):=zE
   have hmn:(if mid+w.2<st then mid+w.2 else st)=min st (mid+w.2):=zE
   have axb:=fun K hK=>XH Y (max sf (mid+w.1)) (min st (mid+w.2)) 4 k' L' {m' with boxes:=m'.boxes++[[I w.1,I w.2]]} (hD'.1.app _) zE K hK;simp[h91,hiw,aa,Sk,I2,lM,qv,eU,hm16,g5,ic,A4,lJ,fW,g0,hmx,hmn,XM,XJ];refine axb _ fun m2 k2 e1 e2 e3 e4 e5 e6=>?_;have hD2:=(hD'.app [[I w.1,I w.2]]).step e1 e2 e3 e4 e5 e6;have:=FX L' (max sf (mid+w.1)) (min st (mid+w.2));refine⟨aQ,⟨i+1,zE,zE,k2,_,hD2,zE,hR'⟩,zE⟩
  obtain rfl:i=W.length:=zE
  rw[zzbv,pG]at hR';rw[<- hR']at hR;simp[h91,I2,hm16,axa];refine⟨aQ,⟨k',L',hD',zE,zE,zE,hR⟩,zE⟩
 have hR0:=hR;rw[nL,if_neg ai]at hR;simp[hm16,eU,I1,ai];exact hQ _ _ k (by rw[<- hR];exact hD)
open Go Go.Abs
def stL(s:Sp)(W:List Sp)(x:Int×Int×Int)(L:List Sp):List Sp:=
 if min x.2.1 s.2<=max x.1 s.1 then L else nL W (max x.1 s.1) (min x.2.1 s.2) ((max x.1 s.1+x.2.2)/86400*86400-x.2.2) L
def tW(s:Sp)(W:List Sp):List (Int×Int×Int)->List Sp->List Sp
 |[],L=>L
 |x::r,L=>if s.2<=x.1 then L else tW s W r (stL s W x L)
def zS(n:Int):Bool:=decide (0<=n/\n<86400)
def xA(of:Int)(sh:List Sp)(s:Sp)(fr to:Int):Bool:=Yj of sh&&zS fr&&zS to&&decide (s.1<s.2/\s.2-s.1<=1000000)
def iu(of:Int)(sh:List Sp)(s:Sp)(fr to:Int):List Sp:=if xA of sh s fr to then tW s (zR fr to) (uJ 0 of sh) []else[]
def aeg(x:Int×Int×Int):Prop:=0<=x.1/\x.1<=10000000000/\x.2.1<=10000000001/\ -50400<=x.2.2/\x.2.2<=50400
def C7:∀(sh:List Sp)(f o last:Int),0<=f->f<=10000000000-> -1<=last-> -50400<=o->o<=50400->tX last sh=true->(∀x∈uJ f o sh,aeg x)
 |[],f,o,last,h1,h2,_,h3,h4,_=>by simp[uJ,aeg];omega
 |s::r,f,o,last,h1,h2,hla,h3,h4,ha=>by
  rw[tX]at ha;split at ha
  ·cases ha
  rename_i hn;simp only[not_or,zzgi,gT,decide_eq_true_eq]at hn;have ih:=C7 r s.1 s.2 s.1 zE zE zE zE zE ha;intro x hx;rw[uJ,zzam]at hx;obtain hx|hx:=hx
  ·split at hx
   ·simp at hx;subst hx;simp[aeg];omega
   simp at hx
  exact ih x hx
def xB:∀(sh:List Sp)(f o:Int),(uJ f o sh).length<=sh.length+1
 |[],f,o=>by simp[uJ]
 |s::r,f,o=>by
  have:=xB r s.1 s.2;rw[uJ];split<;>simp<;>omega
def FZ(W:List Sp)(hW:W.length<=2)(sf st:Int):∀(n:Nat)(mid:Int)(L:List Sp),(st-mid).toNat<=n->(nL W sf st mid L).length<=L.length+2*((st-mid)/86400+1).toNat:=by
 intro n;induction n with
 |zero=>intro mid L h;rw[nL,if_neg zE];omega
 |succ n ih=>
  intro mid L h;rw[nL];split
  ·have:=ih (mid+86400) (pG sf st mid W L) zE;have:=FY sf st mid W L;omega
  omega
def aeh(R:List Sp)(s:Sp)(fr to:Int)(xs:List (Int×Int×Int))(O:Nat->Prop)(i:Nat)(m:AM):Prop:=
 ∃k L,ir m 4 k L/\(k=4\/6<=k)/\¬O k/\k<m.boxes.length/\(∀j,O j->6<=j)/\Is s fr to m/\L.length<=40*i/\tW s (zR fr to) (xs.drop i) L=R
def aei(R:List Sp)(O:Nat->Prop)(ex:Exit)(m:AM):Prop:=ex=.exit 0/\∃k,ir m 4 k R/\¬O k/\(∀j,O j->6<=j)
def ir.cg{m m':AM}{id k:Nat}{L:List Sp}(h:ir m id k L)(e:m'.boxes=m.boxes):ir m' id k L:=by unfold ir at*;rw[e];exact h
def Is.cg{s:Sp}{fr to:Int}{m m':AM}(h:Is s fr to m)(e:m'.boxes=m.boxes):Is s fr to m':=by unfold Is at*;rw[e];exact h
def ir.XN{O:Nat->Prop}{m m':AM}{k:Nat}{L:List Sp}(h:ir m 4 k L)(e:bW O m m')(h0:¬O 4)(hk:¬O k):ir m' 4 k L:=by
 obtain⟨h1,h2⟩:=h;refine⟨zzay h1 e.1,?_⟩;obtain⟨h2,h3⟩|⟨h2,h3,h4,h5,h6⟩:=h2
 ·exact .inl ⟨h2,by rw[e.2.1 4 h1 h0];exact h3⟩
 exact .inr ⟨h2,zzay h3 e.1,h4,by rw[e.2.1 4 h1 h0];exact h5,by rw[e.2.1 k h3 hk];exact h6⟩
def aeh.ext{R:List Sp}{s:Sp}{fr to:Int}{xs:List (Int×Int×Int)}{O:Nat->Prop}{i:Nat}{m m':AM}(h:aeh R s fr to xs O i m)(e:bW O m m'):aeh R s fr to xs (OU O m.boxes.length m'.boxes.length) i m':=by
 obtain⟨k,L,h1,h2,h3,h4,h5,h6,h8,h9⟩:=h;refine⟨k,L,h1.XN e (fun h=>by have:=h5 4 h;omega) h3,h2,?_,zzay h4 e.1,?_,h6.keep (S:=O) ⟨e.1,e.2.1⟩ (fun j h=>.inr (h5 j h)),h8,h9⟩
 ·rintro(h|h)
  ·exact h3 h
  omega
 have:=h6.1;rintro j (h|h)
 ·exact h5 j h
 omega
def aei.ext{R:List Sp}{O:Nat->Prop}{ex:Exit}{m m':AM}(h:aei R O ex m)(e:bW O m m'):aei R O ex m':=by
 obtain⟨h0,k,h1,h3,h5⟩:=h;exact⟨h0,k,h1.XN e (fun h=>by have:=h5 4 h;omega) h3,h3,h5⟩
def xC(of:Int)(sh:List Sp)(s:Sp)(fr to:Int)(fB:sh.length<=1000000000)(h1: -9223372036854775808<=s.1/\s.1<=9223372036854775807)(h2: -9223372036854775808<=s.2/\s.2<=9223372036854775807):
  Pure Tryz.prog aD 138 [.agg [I of,.sl .ro (sh.map Qe)],.agg [I s.1,I s.2],I fr,I to] (if iu of sh s fr to=[]then .sl .nil []else .sl .ro ((iu of sh s fr to).map Qe)):=by
 have k89:=jI of sh fB;have KI:=xu fr;have A8:=xu to;have aso:=xw of sh;refine Qo ab2 (XJ of sh fr to) zd ?_;rw[XL];generalize hR:iu of sh s fr to=R;by_cases hv:Yj of sh=true
 ·rw[hv]at k89;by_cases hf:0<=fr/\fr<86400
  ·rw[decide_eq_true hf]at KI;by_cases ht:0<=to/\to<86400
   ·rw[decide_eq_true ht]at A8;by_cases ai:s.1<s.2
    ·have cB:¬s.2<=s.1:=zE
     have hu:IntKind.u64.wrap (IntKind.u64.wrap s.2-IntKind.u64.wrap s.1)=s.2-s.1:=by
      have q:∀z:Int,IntKind.u64.wrap z=z%18446744073709551616:=fun z=>by simp[IntKind.wrap,IntKind.bits,IntKind.signed]
      rw[q,q,q];omega
     by_cases hm:s.2-s.1<=1000000
     ·have zg:¬1000000<s.2-s.1:=zE
      simp[xy,XJ,hv,hf,ht,ai,cB,hu,hm,zg];refine⟨k89,KI,A8,aso,?_⟩;have cU:=xx of sh fB;have hz:sh.length<=40/\gT of=true/\tX (-1) sh=true:=by simpa[Yj,and_assoc]using hv
      have hof: -50400<=of/\of<=50400:=by simpa[gT]using hz.2.1
      have bU:=C7 sh 0 of (-1) (by decide) (by decide) (by decide) hof.1 hof.2 hz.2.2;have hxl:=xB sh 0 of;have hRc:tW s (zR fr to) (uJ 0 of sh) []=R:=by rw[<- hR,iu,if_pos (by simp[xA,hv,zS,hf,ht,ai,hm])]
      clear k89 KI A8 aso hu;generalize hX:uJ 0 of sh=xs at*
      refine qY (xs:=xs.map A7) zd cU (by intro x hx;simp at hx;obtain⟨a,b,c,_,rfl⟩:=hx;rfl) (aeh R s fr to xs) (aei R) ?_ (fun _ _ _ _ h e=>h.ext e) (fun _ _ _ _ h e=>h.ext e) ?_ ?_ ?_
      ·refine⟨4,[],⟨zd,.inl ⟨rfl,zd⟩⟩,.inl rfl,id,zd,fun _ h=>h.elim,⟨zd,zd,zd,zd,zd⟩,zd,Nm hRc⟩
      ·rintro O l i m x hO hle0 WS iI ⟨k,L,i1,i2,i3,i4,i5,i6,i8,i9⟩ hx K' q1 q2 q3;rw[zzbm,zzby]at hx;obtain⟨⟨a,b,o⟩,hx,rfl⟩:=hx;obtain⟨o1,o2,o3,o4,o5⟩:=bU _ (zzae hx);simp only at o1 o2 o3 o4 o5;have jb:i<xs.length:=(zza.1 hx).1;have hd:xs.drop i=(a,b,o)::xs.drop (i+1):=by rw[zzag jb,(zza.1 hx).2]
       rw[hd,tW]at i9;simp only[Jm]at i4;have hf6:=i6;obtain⟨f0,f1,f2,f3,f5⟩:=i6;have hOl:∀j,O j->j<m.boxes.length:=fun j h=>(hO j h).2;have akZ:xs.length<=41:=zE
       clear hO hle0 WS cU hR hX;simp only[Jm]at f0 f1 f2 f3 f5;have ic:∀x,Qj (m.boxes++x) 1=[I s.1,I s.2]:=fun x=>by rw[Qn zE];exact f1
       have A4:∀x,Qj (m.boxes++[x]) m.boxes.length=x:=fun x=>by
        simp
       by_cases hc:s.2<=a
       ·rw[if_pos hc]at i9;simp[iI,Zr,A7,ic,A4,hc];subst i9;refine q3 0 _ zd ⟨rfl,k,?_,i3,i5⟩;exact(i1.app [[I a,I b,I o]]).cg zd
       rw[if_neg hc]at i9;have hmx:(if a<s.1 then s.1 else a)=max a s.1:=zE
       have hmn:(if s.2<b then s.2 else b)=min b s.2:=zE
       by_cases he:min b s.2<=max a s.1
       ·rw[stL,if_pos he]at i9;simp[iI,Zr,A7,ic,A4,hc,hmx,hmn,he];refine q1 _ ⟨zd,fun j hj=>Qn (hOl j hj)⟩ ⟨k,L,(i1.app [[I a,I b,I o]]).cg zd,i2,i3,by simp;omega,i5,(hf6.app [[I a,I b,I o]]).cg zd,zE,i9⟩
       rw[stL,if_neg he]at i9;have hw0:IntKind.i64.wrap (max a s.1+o)=max a s.1+o:=by rw[Ql]<;>omega
       have hdv:=FV (max a s.1+o) zE;have lJ:IntKind.i64.wrap ((max a s.1+o)/86400*86400)=(max a s.1+o)/86400*86400:=by rw[Ql]<;>omega
       have fW:IntKind.i64.wrap ((max a s.1+o)/86400*86400-o)=(max a s.1+o)/86400*86400-o:=by rw[Ql]<;>omega
       simp[iI,Zr,A7,ic,A4,hc,hmx,hmn,he,hw0,lJ,fW,XJ];refine⟨hdv,?_⟩;refine aef Y0 of sh fr to hf ht _ _ k L (max a s.1) (min b s.2) ((max a s.1+o)/86400*86400-o) _ s zd zd zd zd zd zd ((hf6.app [[I a,I b,I o]]).cg zd) ((i1.app [[I a,I b,I o]]).cg zd) i2 zE zE ?_;intro T m' k' hD;have aH:m.boxes.length+1<=m'.boxes.length:=by have:=hD.2.2.1.1;simpa using this
       have tV:=FZ (zR fr to) (uK hf ht).1 (max a s.1) (min b s.2) _ ((max a s.1+o)/86400*86400-o) L (zzab _);have hFx:=Is.day (s:=s) (fr:=fr) (to:=to) ((hf6.app [[I a,I b,I o]]).cg zd) hD i2;have Cq:k'=k\/m.boxes.length+1<=k':=by have:=hD.2.1;simpa using this
       have hS:NN O m m':=⟨zE,fun j hj=>by
        have:=hD.2.2.1.2 j (by simp;have:=hOl j hj;omega) (by rintro(rfl|rfl);have:=i5 4 hj;omega;exact i3 hj);rw[this];exact Qn (hOl j hj)⟩
       simp;refine q1 ⟨T,m'⟩ hS ?_;by_cases hLe:nL (zR fr to) (max a s.1) (min b s.2) ((max a s.1+o)/86400*86400-o) L=[]
       ·rw[hLe]at i9 hD;refine⟨4,[],⟨hD.1.1,?_⟩,.inl rfl,(fun h=>by have:=i5 4 h;omega),(by show 4<m'.boxes.length;omega),i5,hFx,zd,i9⟩;rcases hD.1.2 with h|h
        ·exact .inl h
        exact absurd rfl h.1
       have oQ:k'<m'.boxes.length:=by
        rcases hD.1.2 with h|h
        ·exact absurd h.1 hLe
        exact h.2.1
       refine⟨k',_,hD.1,zE,?_,oQ,i5,hFx,zE,i9⟩;obtain rfl|Cq:=Cq
       ·exact i3
       intro h;have:=hOl k' h;omega
      ·rintro O m ⟨k,L,i1,i2,i3,i4,i5,i6,i8,i9⟩;rw[zzbt,zzbv,tW]at i9;subst i9;rcases i1.2 with⟨hL0,h⟩|⟨aO,h2,h3,h4,h5⟩
       ·simp[h,lT,i1.1,hL0]
       have gF:=Ve m 4 (CZ L);have fE:=Qek L;have fM:=Yf L;simp[h4,lT,aO,h5,gF,fE,fM,i1.1]
      rintro O ex m ⟨rfl,k,i1,i3,i5⟩;rcases i1.2 with⟨hL0,h⟩|⟨aO,h2,h3,h4,h5⟩
      ·simp[h,lT,i1.1,hL0]
      have gF:=Ve m 4 (CZ R);have fE:=Qek R;have fM:=Yf R;simp[h4,lT,aO,h5,gF,fE,fM,i1.1]
     have hR0:R=[]:=by rw[<- hR,iu,if_neg (by simp[xA];omega)]
     have zg:1000000<s.2-s.1:=zE
     simp[xy,XJ,hv,hf,ht,ai,cB,hu,hm,zg,lT,hR0,k89,KI,A8]
    have hR0:R=[]:=by rw[<- hR,iu,if_neg (by simp[xA];omega)]
    have cB:s.2<=s.1:=zE
    simp[xy,XJ,hv,hf,ht,ai,cB,lT,hR0,k89,KI,A8]
   have hR0:R=[]:=by rw[<- hR,iu,if_neg (by simp[xA,zS];omega)]
   simp[xy,XJ,hv,hf,ht,lT,hR0,k89,KI];simpa[ht]using A8
  have hR0:R=[]:=by rw[<- hR,iu,if_neg (by simp[xA,zS];omega)]
  simp[xy,XJ,hv,hf,lT,hR0,k89];simpa[hf]using KI
 have hR0:R=[]:=by rw[<- hR,iu,if_neg (by simp[xA,hv])]
 simp[xy,XJ,hv,lT,hR0];simpa[hv]using k89
def zT(of:Int)(sh:List Sp)(s:Sp)(fr to:Int)(fB:sh.length<=1000000000)(h1: -9223372036854775808<=s.1/\s.1<=9223372036854775807)(h2: -9223372036854775808<=s.2/\s.2<=9223372036854775807):
  Pure Tryz.prog aD 138 [.agg [I of,.sl .ro (sh.map Qe)],.agg [I s.1,I s.2],I fr,I to] (.sl .ro ((iu of sh s fr to).map Qe)):=by
 have h:=xC of sh s fr to fB h1 h2;by_cases hn:iu of sh s fr to=[]
 ·rw[if_pos hn]at h;rw[hn];exact Zl h (Wk.sl _ _)
 rw[if_neg hn]at h;exact h
def F0(s:Sp)(W:List Sp)(hW:W.length<=2)(hs:s.2-s.1<=1000000):∀(xs:List (Int×Int×Int))(L:List Sp),(∀x∈xs,aeg x)->(tW s W xs L).length<=L.length+40*xs.length
 |[],L,_=>by simp[tW]
 |x::r,L,h=>by
  rw[tW];split
  ·omega
  have ih:=F0 s W hW hs r (stL s W x L) (fun y hy=>h y (by simp[hy]));obtain⟨o1,o2,o3,o4,o5⟩:=h x zd
  have:(stL s W x L).length<=L.length+40:=by
   unfold stL;split
   ·omega
   have:=FZ W hW (max x.1 s.1) (min x.2.1 s.2) _ ((max x.1 s.1+x.2.2)/86400*86400-x.2.2) L (zzab _);omega
  simp only[zzbd];omega
def XO(of:Int)(sh:List Sp)(s:Sp)(fr to:Int):(iu of sh s fr to).length<=2000:=by
 unfold iu;split
 ·rename_i h;simp only[xA,Yj,zS,gT,zzac,decide_eq_true_eq]at h;obtain⟨⟨⟨⟨⟨a1,a2⟩,a3⟩,a4⟩,a5⟩,a6,a7⟩:=h;have h1:=F0 s (zR fr to) (uK a4 a5).1 a7 (uJ 0 of sh) [] (C7 sh 0 of (-1) (by decide) (by decide) (by decide) a2.1 a2.2 a3);have h2:=xB sh 0 of;simp at h1;omega
 simp
end
