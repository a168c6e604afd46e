import Derived.Test.YtnopaopphmjnmaaGreatDoorMBMR
set_option linter.all false
set_option maxRecDepth 100000
set_option maxHeartbeats 64000000
namespace Go.Proofs.YtnopaopphmjnmaaGreatDoor
open Go Go.Abs
def Xa(n:Int):List AV:=[I n]
def YH(LL:List (Rt×List Sp))(f:Nat->AV)(m:AM):Prop:=∃(i:Nat)(bx:List (List AV)),f 11=I i/\i<=LL.length/\f 3=I (((LL.take i).map fun x=>x.2).flatten.length:Nat)/\m=⟨bx,[],fun _=>.gone,0⟩
def YI(LL:List (Rt×List Sp))(f:Nat->AV)(m:AM):Prop:=∃(i:Nat)(rt:Rt)(ls:List Nat)(bx:List (List AV)),f 27=I i/\i<=LL.length/\f 6=.sl rt (((LL.take i).map fun x=>x.2).flatten.map Qe)/\
 (((LL.take i).map fun x=>x.2).flatten=[]/\rt=.nil/\i=0\/∃k,rt=.own k 2/\ls[k]?=some ((LL.take i).map fun x=>x.2).flatten.length)/\m=⟨bx,ls,fun _=>.gone,0⟩
def Ob(LL:List (Rt×List Sp)){i:Nat}{x:Rt×List Sp}(h:LL[i]?=some x):((LL.take (i+1)).map fun x=>x.2).flatten=((LL.take i).map fun x=>x.2).flatten++x.2:=by
 simp[zzar,h]
def Oc(LL:List (Rt×List Sp))(i:Nat):((LL.take i).map fun x=>x.2).flatten.length<=(LL.map fun x=>x.2).flatten.length:=by
 have h:(LL.map fun x=>x.2)=((LL.take i).map fun x=>x.2)++(LL.drop i).map fun x=>x.2:=by rw[<- zzc,zzdb]
 rw[h,zzed,zzag];omega
def CW:Nat->FuncId->List AV->AV:=fun _ f _=>if f=358 then .gd false .junk else .junk
def Rb(LL:List (Rt×List Sp))(aJ:LL≠[])(hl:LL.length<=1000000)(hf:(LL.map fun x=>x.2).flatten.length<=1000000000):Pure Tryz.prog az 348 [.sl .full (LL.map fun x=>[.sl x.1 (x.2.map Qe)])] (.sl .ro ((LL.map fun x=>x.2).flatten.map Qe)):=by
 have eO:=zzct.2 aJ;have qE:LL.take LL.length=LL:=zzbm;refine Qn ad7 CW (by simp) ?_;simp[aiS];refine Qj JD (YH LL) (fun f _=>LL.length-(numOf (f 11)).toNat) ?_ ?_
 ·exact⟨0,[],by simp,by omega,by simp,rfl⟩
 rintro f m ⟨i,bx,qN,hi,h3,rfl⟩;rcases zzaa i LL.length with ai|bB
 ·obtain⟨x,hx⟩:=aR ai;have aa:Qh (LL.map fun x=>[.sl x.1 (x.2.map Qe)]) i=[.sl x.1 (x.2.map Qe)]:=Qs (by simp[hx]);have ah:(i:Int)<(LL.length:Int):=by omega
  have hw:=bJ i (by omega);have hc:=Ob LL hx;have p6:=Oc LL (i+1);obtain⟨n,hn⟩:∃n,((LL.take i).map fun x=>x.2).flatten.length=n:=⟨_,rfl⟩;have hcn:((LL.take (i+1)).map fun x=>x.2).flatten.length=n+x.2.length:=by rw[hc,zzag,hn]
  rw[hn]at h3;have ee:IntKind.i64.wrap ((n:Int)+(x.2.length:Int))=((n+x.2.length:Nat):Int):=by rw[Qi]<;>omega
  have Ae:¬(n:Int)+(x.2.length:Int)<0:=by omega
  simp[qN,h3,ah,aa,JD,hw,ee,Ae];refine⟨aN,⟨i+1,_,by simp,by omega,by rw[hcn];simp,rfl⟩,by omega⟩
 have bI:¬(i:Int)<(LL.length:Int):=by omega
 obtain rfl:i=LL.length:=by omega
 rw[qE]at h3;obtain⟨n,hn⟩:∃n,(LL.map fun x=>x.2).flatten.length=n:=⟨_,rfl⟩;rw[hn]at h3 hf;have fin:∀(rt:Rt)(ls:List Nat),(rt=.nil\/∃k,rt=.own k 2/\ls[k]?=some 0)->∀(E:List (Nat×AV)),True:=fun _ _ _ _=>trivial;simp[qN,h3,bI,JD,CW];refine ae9 hf (fun h0=>?_) (fun h0=>?_)
 all_goals
  try simp
  refine Qj BS (YI LL) (fun f _=>LL.length-(numOf (f 27)).toNat) ?_ ?_
 ·exact⟨0,.nil,[],bx,by simp,by omega,by simp,.inl ⟨by simp,rfl,rfl⟩,rfl⟩
 rotate_left
 ·exact⟨0,.own 0 2,[0],bx,by simp,by omega,by simp,.inr ⟨0,rfl,by simp⟩,rfl⟩
 all_goals
  clear h0;rintro f m ⟨i,rt,ls,bx,h27,hi,h6,aT,rfl⟩;rcases zzaa i LL.length with ai|bB
  ·obtain⟨x,hx⟩:=aR ai;have aa:Qh (LL.map fun x=>[.sl x.1 (x.2.map Qe)]) i=[.sl x.1 (x.2.map Qe)]:=Qs (by simp[hx]);have ah:(i:Int)<(LL.length:Int):=by omega
   have hw:=bJ i (by omega);have hc:=Ob LL hx;have p6:=Oc LL (i+1);obtain⟨F,hF⟩:∃F,((LL.take i).map fun x=>x.2).flatten=F:=⟨_,rfl⟩;rw[hF]at h6 aT hc;rw[hc,zzag,hn]at p6;obtain⟨rfl,rfl,rfl⟩|⟨k,rfl,hk⟩:=aT
   ·have eU:IntKind.i64.wrap 1=1:=by decide
    simp[h27,h6,ai,aa,BS,eU,CW];refine⟨⟨?_,by omega⟩,aN,⟨1,.own ls.length 2,_,bx,by simp,by omega,by rw[hc];simp,.inr ⟨ls.length,rfl,by rw[hc];simp⟩,rfl⟩,by omega⟩
    ·rintro a b row _ rfl;rfl
   have DQ:=(zza.1 hk).1;simp[h27,h6,ah,aa,BS,hw,hk];refine⟨⟨?_,by omega⟩,aN,⟨i+1,.own k 2,_,bx,by simp,by omega,by rw[hc];simp,.inr ⟨k,rfl,by rw[hc];simp[DQ]⟩,rfl⟩,by omega⟩
   ·rintro row (⟨a,b,_,rfl⟩|⟨a,b,_,rfl⟩)<;>rfl
  have bI:¬(i:Int)<(LL.length:Int):=by omega
  obtain rfl:i=LL.length:=by omega
  rw[qE]at h6 aT;obtain⟨_,_,h0⟩|⟨k,rfl,hk⟩:=aT
  ·omega
  simp[h27,h6,bI,BS,aiT]
open Go Go.Abs
def afa(LL:List (Rt×List Int))(f:Nat->AV)(m:AM):Prop:=∃(i:Nat)(bx:List (List AV)),f 11=I i/\i<=LL.length/\f 3=I (((LL.take i).map fun x=>x.2).flatten.length:Nat)/\m=⟨bx,[],fun _=>.gone,0⟩
def afb(LL:List (Rt×List Int))(f:Nat->AV)(m:AM):Prop:=∃(i:Nat)(rt:Rt)(ls:List Nat)(bx:List (List AV)),f 27=I i/\i<=LL.length/\f 6=.sl rt (((LL.take i).map fun x=>x.2).flatten.map Xa)/\
 (((LL.take i).map fun x=>x.2).flatten=[]/\rt=.nil/\i=0\/∃k,rt=.own k 1/\ls[k]?=some ((LL.take i).map fun x=>x.2).flatten.length)/\m=⟨bx,ls,fun _=>.gone,0⟩
def YJ(LL:List (Rt×List Int)){i:Nat}{x:Rt×List Int}(h:LL[i]?=some x):((LL.take (i+1)).map fun x=>x.2).flatten=((LL.take i).map fun x=>x.2).flatten++x.2:=by
 simp[zzar,h]
def YK(LL:List (Rt×List Int))(i:Nat):((LL.take i).map fun x=>x.2).flatten.length<=(LL.map fun x=>x.2).flatten.length:=by
 have h:(LL.map fun x=>x.2)=((LL.take i).map fun x=>x.2)++(LL.drop i).map fun x=>x.2:=by rw[<- zzc,zzdb]
 rw[h,zzed,zzag];omega
def K4:Nat->FuncId->List AV->AV:=fun _ f _=>if f=277 then .gd false .junk else .junk
def YL(LL:List (Rt×List Int))(aJ:LL≠[])(hl:LL.length<=1000000)(hf:(LL.map fun x=>x.2).flatten.length<=1000000000):Pure Tryz.prog az 202 [.sl .full (LL.map fun x=>[.sl x.1 (x.2.map Xa)])] (.sl .ro ((LL.map fun x=>x.2).flatten.map Xa)):=by
 have eO:=zzct.2 aJ;have qE:LL.take LL.length=LL:=zzbm;refine Qn acU K4 (by simp) ?_;simp[ahx];refine Qj I9 (afa LL) (fun f _=>LL.length-(numOf (f 11)).toNat) ?_ ?_
 ·exact⟨0,[],by simp,by omega,by simp,rfl⟩
 rintro f m ⟨i,bx,qN,hi,h3,rfl⟩;rcases zzaa i LL.length with ai|bB
 ·obtain⟨x,hx⟩:=aR ai;have aa:Qh (LL.map fun x=>[.sl x.1 (x.2.map Xa)]) i=[.sl x.1 (x.2.map Xa)]:=Qs (by simp[hx]);have ah:(i:Int)<(LL.length:Int):=by omega
  have hw:=bJ i (by omega);have hc:=YJ LL hx;have p6:=YK LL (i+1);obtain⟨n,hn⟩:∃n,((LL.take i).map fun x=>x.2).flatten.length=n:=⟨_,rfl⟩;have hcn:((LL.take (i+1)).map fun x=>x.2).flatten.length=n+x.2.length:=by rw[hc,zzag,hn]
  rw[hn]at h3;have ee:IntKind.i64.wrap ((n:Int)+(x.2.length:Int))=((n+x.2.length:Nat):Int):=by rw[Qi]<;>omega
  have Ae:¬(n:Int)+(x.2.length:Int)<0:=by omega
  simp[qN,h3,ah,aa,I9,hw,ee,Ae];refine⟨aN,⟨i+1,_,by simp,by omega,by rw[hcn];simp,rfl⟩,by omega⟩
 have bI:¬(i:Int)<(LL.length:Int):=by omega
 obtain rfl:i=LL.length:=by omega
 rw[qE]at h3;obtain⟨n,hn⟩:∃n,(LL.map fun x=>x.2).flatten.length=n:=⟨_,rfl⟩;rw[hn]at h3 hf;have fin:∀(rt:Rt)(ls:List Nat),(rt=.nil\/∃k,rt=.own k 1/\ls[k]?=some 0)->∀(E:List (Nat×AV)),True:=fun _ _ _ _=>trivial;simp[qN,h3,bI,I9,K4];refine afc hf (fun h0=>?_) (fun h0=>?_)
 all_goals
  try simp
  refine Qj BG (afb LL) (fun f _=>LL.length-(numOf (f 27)).toNat) ?_ ?_
 ·exact⟨0,.nil,[],bx,by simp,by omega,by simp,.inl ⟨by simp,rfl,rfl⟩,rfl⟩
 rotate_left
 ·exact⟨0,.own 0 1,[0],bx,by simp,by omega,by simp,.inr ⟨0,rfl,by simp⟩,rfl⟩
 all_goals
  clear h0;rintro f m ⟨i,rt,ls,bx,h27,hi,h6,aT,rfl⟩;rcases zzaa i LL.length with ai|bB
  ·obtain⟨x,hx⟩:=aR ai;have aa:Qh (LL.map fun x=>[.sl x.1 (x.2.map Xa)]) i=[.sl x.1 (x.2.map Xa)]:=Qs (by simp[hx]);have ah:(i:Int)<(LL.length:Int):=by omega
   have hw:=bJ i (by omega);have hc:=YJ LL hx;have p6:=YK LL (i+1);obtain⟨F,hF⟩:∃F,((LL.take i).map fun x=>x.2).flatten=F:=⟨_,rfl⟩;rw[hF]at h6 aT hc;rw[hc,zzag,hn]at p6;obtain⟨rfl,rfl,rfl⟩|⟨k,rfl,hk⟩:=aT
   ·have eU:IntKind.i64.wrap 1=1:=by decide
    simp[h27,h6,ai,aa,BG,eU,K4];refine⟨⟨?_,by omega⟩,aN,⟨1,.own ls.length 1,_,bx,by simp,by omega,by rw[hc];simp,.inr ⟨ls.length,rfl,by rw[hc];simp⟩,rfl⟩,by omega⟩
    ·first|(rintro a _;rfl)|(rintro row a _ rfl;rfl)
   have DQ:=(zza.1 hk).1;simp[h27,h6,ah,aa,BG,hw,hk];refine⟨⟨?_,by omega⟩,aN,⟨i+1,.own k 1,_,bx,by simp,by omega,by rw[hc];simp,.inr ⟨k,rfl,by rw[hc];simp[DQ]⟩,rfl⟩,by omega⟩
   ·rintro row (⟨a,_,rfl⟩|⟨a,_,rfl⟩)<;>rfl
  have bI:¬(i:Int)<(LL.length:Int):=by omega
  obtain rfl:i=LL.length:=by omega
  rw[qE]at h6 aT;obtain⟨_,_,h0⟩|⟨k,rfl,hk⟩:=aT
  ·omega
  simp[h27,h6,bI,BG,ahy]
open Go Go.Abs
def YM(A B:List Sp)(h:A.length+B.length<=100000000):Pure Tryz.prog az 321 [.sl .ro (A.map Qe),.sl .ro (B.map Qe)] (.sl .ro ((Xl (A++B)).map Qe)):=by
 have arY:=Rb [(.ro,A),(.ro,B)] (by simp) (by simp) (by simp;omega);have YN:=Un (A++B) (by simp;omega);refine Qn ad2 (fun _ f _=>if f=348 then .sl .ro ((A++B).map Qe)else .sl .ro ((Xl (A++B)).map Qe)) (by simp) ?_;simp at arY YN;simp[aiL,aiM];exact⟨arY,YN⟩
def afd(s:Sp)(h1:0<=s.1)(h2:s.1<=s.2)(h3:s.2<=9223372036854775807):Pure Tryz.prog az 320 [.agg (Qe s)] (.int .u64 (s.2-s.1)):=by
 have w1:IntKind.u64.wrap s.1=s.1:=by simp[IntKind.wrap,IntKind.bits,IntKind.signed];omega
 have w2:IntKind.u64.wrap s.2=s.2:=by simp[IntKind.wrap,IntKind.bits,IntKind.signed];omega
 have w3:IntKind.u64.wrap (s.2-s.1)=s.2-s.1:=by simp[IntKind.wrap,IntKind.bits,IntKind.signed];omega
 refine Qn ad1 (fun _ _ _=>.junk) (by simp) ?_;simp[aiJ,aiK,Qe,w1,w2,w3]
def Wx:Option Int->AV
 |some s=>.aV [I s,.bool true]
 |none=>.aV [I 0,.bool false]
def Gh(L:List Sp):Nat->FuncId->List AV->AV:=fun _ f l=>if f=182 then .sl .ro (L.map Qe)else if f=249 then(match l with|[.agg [.int _ a,.int _ b]]=>.bool (decide (b<=a))|_=>.junk)else
 (match l with|[.agg [.int _ a,.int _ b]]=>.int .u64 (b-a)|_=>.junk)
def arZ(a n:Int)(L:List Sp)(T:Option Int)(f:Nat->AV)(m:AM):Prop:=∃(i:Nat)(bx:List (List AV)),f 17=I i/\i<=L.length/\Ge a n (L.drop i)=T/\m=⟨bx,[],fun _=>.gone,0⟩
def Gi(l:List Sp)(a n:Int)(hl:l.length<=100000000)(ha:0<=a)(hn:1<=n/\n<=1000000)(hb:∀s∈l,s.1<=1000000000000/\s.2<=1000000000000):Pure Tryz.prog az 275 [.sl .ro (l.map Qe),I a,I n] (Wx (lN l a n)):=by
 have YN:=Un l hl;obtain⟨T,hT⟩:∃T,lN l a n=T:=⟨_,rfl⟩;rw[hT];rw[lN,if_neg (by omega)]at hT;have hbL:=YO (P:=fun x=>x<=1000000000000) (l:=l) hb;have hLl:=Yv l;generalize Xl l=L at YN hT hbL hLl;have eL:¬n<=0:=by omega
 refine Qn adJ (Gh L) (by simp) ?_;simp[UP,Gh,eL];refine⟨YN,?_⟩;refine Qj u7 (arZ a n L T) (fun f _=>L.length-(numOf (f 17)).toNat) ?_ ?_
 ·exact⟨0,[],by simp,by omega,by simpa using hT,rfl⟩
 rintro f m ⟨i,bx,h17,hi,hx,rfl⟩;rcases zzaa i L.length with ai|bB
 ·obtain⟨s,hs⟩:=aR ai;have aa:Qh (L.map Qe) i=Qe s:=Zd hs;have ah:(i:Int)<(L.length:Int):=by omega
  have hw:=bJ i (by omega);rw[Xz hs,Ge]at hx;obtain⟨q,hq⟩:∃q,max s.1 a=q:=⟨_,rfl⟩;have hqm:(if s.1<a then a else s.1)=q:=by omega
  have YP:Abs.Pure Tryz.prog az 249 [.agg (Qe (q,s.2))] (.bool (decide (s.2<=q))):=nI (q,s.2);rw[hq]at hx;have hu:IntKind.u64.wrap n=n:=by simp[IntKind.wrap,IntKind.bits,IntKind.signed];omega
  by_cases c1:s.2<=q
  ·rw[if_neg (by omega)]at hx;rw[decide_eq_true c1]at YP;simp[h17,ah,aa,Qe,hqm,c1,u7,hw,Gh];refine⟨by simpa[Qe]using YP,aN,⟨i+1,_,by simp,by omega,hx,rfl⟩,by omega⟩
  have ar0:=afd (q,s.2) (by simp only;omega) (by simp only;omega) (by
   have:=hbL s (zzac hs);simp only;omega)
  rw[decide_eq_false c1]at YP;by_cases c2:n<=s.2-q
  ·rw[if_pos (by omega)]at hx;subst hx;simp[h17,ah,aa,Qe,hqm,c1,c2,hu,u7,UQ,Gh,Wx];exact⟨by simpa[Qe]using YP,by simpa[Qe]using ar0⟩
  rw[if_neg (by omega)]at hx;simp[h17,ah,aa,Qe,hqm,c1,c2,hu,u7,hw,Gh];refine⟨by simpa[Qe]using YP,by simpa[Qe]using ar0,aN,⟨i+1,_,by simp,by omega,hx,rfl⟩,by omega⟩
 have bI:¬(i:Int)<(L.length:Int):=by omega
 rw[zzan bB]at hx;have hx:none=T:=hx;subst hx;simp[h17,bI,u7,UQ,Wx]
open Go Go.Abs
def pf(k:Int×Int):List ((Int×Int)×List Sp)->Option (List Sp)
 |[]=>none
 |x::r=>if x.1=k then some x.2 else pf k r
def Gj(k:Int×Int):∀(l:List ((Int×Int)×List Sp))(i:Nat),(pf k l=none/\Xi [k.1,k.2] (S4 l) i=none)\/∃v n,pf k l=some v/\Xi [k.1,k.2] (S4 l) i=some (n,.sl .ro (v.map Qe))
 |[],i=>.inl ⟨rfl,rfl⟩
 |x::r,i=>by
  by_cases h:x.1=k
  ·exact .inr ⟨x.2,i,by rw[pf,if_pos h],by simp[S4,Xi,h]⟩
  have hk:¬([k.1,k.2]:List Int)=[x.1.1,x.1.2]:=by
   intro e;simp only[List.cons.injEq,and_true]at e;exact h (Prod.ext e.1.symm e.2.symm)
  rcases Gj k r (i+1)with⟨h1,h2⟩|⟨v,n,h1,h2⟩
  ·refine .inl ⟨by rw[pf,if_neg h];exact h1,?_⟩;simp only[S4,zzaw,Xi];rw[if_neg hk];exact h2
  refine .inr ⟨v,n,by rw[pf,if_neg h];exact h1,?_⟩;simp only[S4,zzaw,Xi];rw[if_neg hk];exact h2
def YQ(k q:Int×Int)(v:List Sp):∀(l:List ((Int×Int)×List Sp)),pf q (l++[(k,v)])=match pf q l with|some u=>some u|none=>if k=q then some v else none
 |[]=>rfl
 |x::r=>by
  rw[zzae,pf,YQ k q v r,pf];by_cases h:x.1=q<;>simp[h]
def K5(b:Bd):Prop:=∀k v,pf k b.pm=some v->v=Xx b.p k.1 k.2
def pmN(b:Bd)(it n:Int):List ((Int×Int)×List Sp):=match pf (it,n) b.pm with
 |some _=>b.pm
 |none=>b.pm++[((it,n),Xx b.p it n)]
def amA{b:Bd}(h:K5 b)(it n:Int):K5 {b with pm:=pmN b it n}:=fun k v hk=>by
 simp only[pmN]at hk;cases hp:pf (it,n) b.pm with
 |some u=>rw[hp]at hk;exact h k v hk
 |none=>
  rw[hp]at hk;simp only[YQ]at hk;cases hq:pf k b.pm with
  |some u=>rw[hq]at hk;cases hk;exact h k _ hq
  |none=>
   rw[hq]at hk;simp only at hk;split at hk
   ·rename_i e;cases hk;rw[<- e]
   cases hk
def K6{pre post:List (List AV)}{b:Bd}(pm:List ((Int×Int)×List Sp))(ls:List Nat)(id:Nat)(cells:List AV)(h:(aP pre {b with pm:=pm} post ls).boxes[id]?=some cells):(aP pre b post ls).boxes[id]?=some cells\/X5 cells:=by
 simp only[aP]at h |-
 rcases zzaa id pre.length with ai|bB
 ·rw[zzah ai]at h |-
  exact .inl h
 rw[zzap bB]at h |-
 match hk:id-pre.length,h with
 |0,h=>exact .inl h
 |1,h=>exact .inl h
 |2,h=>exact .inl h
 |3,h=>exact .inl h
 |4,h=>exact .inl h
 |5,h=>exact .inl h
 |6,h=>exact .inl h
 |7,h=>exact .inl h
 |8,h=>
  refine .inr (.inr ⟨2,S4 pm,?_,?_⟩)
  ·simp[bq]at h;exact h.symm
  intro e he;obtain⟨x,_,rfl⟩:=zzay.1 he;exact Idle.ro _
 |9,h=>exact .inl h
 |k+10,h=>exact .inl h
def FrK(pre:List (List AV))(b:Bd)(pm:List ((Int×Int)×List Sp))(post:List (List AV))(ls:List Nat)(K:AV->AM->Prop)(r:AV)(m:AM):Prop:=∃ex,m=aP pre {b with pm:=pm} (post++ex) ls/\Idle r/\K r (aP pre {b with pm:=pm} post ls)
def frK{pre:List (List AV)}{b:Bd}{pm:List ((Int×Int)×List Sp)}{post:List (List AV)}{ls:List Nat}{K:AV->AM->Prop}{r:AV}{m:AM}(ex:List (List AV))(h:m=aP pre {b with pm:=pm} (post++ex) ls)(hi:Idle r)(hK:K r (aP pre {b with pm:=pm} post ls)):FrK pre b pm post ls K r m:=⟨ex,h,hi,hK⟩
def Rf{f:FuncId}{xs:List AV}{pre post:List (List AV)}{b:Bd}{pm:List ((Int×Int)×List Sp)}{ls:List Nat}{Y:YT}{K:AV->AM->Prop}(h:an Tryz.prog az Y f xs (aP pre b post ls) (FrK pre b pm post ls K)):an Tryz.prog az Y f xs (aP pre b post ls) K:=by
 refine an.forget (an.mono h ?_);rintro r m' ⟨ex,rfl,h1,h2⟩;refine⟨aP pre {b with pm:=pm} post ls,ex,?_,?_,rfl,fun id cells hc=>K6 pm ls id cells hc,h1,h2⟩
 ·simp[aP,bq]
 simp[aP,bq]
def ajy(p:Pl)(it:Int):Nat->FuncId->List AV->AV:=fun d f l=>if f=59 then(match l with|[_,_,_,.agg [.int _ a,.int _ c]]=>.sl .ro ((Vo p it 0 (a,c)).map Qe)|_=>.junk)else
 (match l with|[.sl _ a,.sl _ c]=>.sl .ro ((Xl (a.map tC++c.map tC)).map Qe)|_=>.junk)
def Rg(pre post:List (List AV))(ls:List Nat)(b:Bd)(it n:Int)(hn:0<=n/\n<=1000)(hc:b.p.cls.length<=1000000)(gD:b.p.sh.length<=1000000000)(cH:b.p.aM.length<=1000000000)(hpm:K5 b)(Y:YT)(K:AV->AM->Prop)
  (hK:K (.sl .ro ((Xx b.p it n).map Qe)) (aP pre {b with pm:=pmN b it n} post ls)):
  an Tryz.prog az Y 276 [.ptr (pre.length+9) 0,.agg [I it,I n]] (aP pre b post ls) K:=by
 refine Rf (pm:=pmN b it n) ?_;have w1:IntKind.i64.wrap (n*1000000)=n*1000000:=by rw[Qi]<;>omega
 have w2:IntKind.i64.wrap (n+1)=n+1:=by rw[Qi]<;>omega
 have w3:IntKind.i64.wrap ((n+1)*1000000)=(n+1)*1000000:=by rw[Qi]<;>omega
 have w4:IntKind.i64.wrap (n+2)=n+2:=by rw[Qi]<;>omega
 have w5:IntKind.i64.wrap ((n+2)*1000000)=(n+2)*1000000:=by rw[Qi]<;>omega
 have k1:=nD b.p it 0 (n*1000000,(n+1)*1000000) hc gD cH (by simp only;omega) (by simp only;omega);have k2:=nD b.p it 0 ((n+1)*1000000,(n+2)*1000000) hc gD cH (by simp only;omega) (by simp only;omega);have l1:=Qcm b.p it 0 (n*1000000,(n+1)*1000000);have l2:=Qcm b.p it 0 ((n+1)*1000000,(n+2)*1000000);have k3:=YM (Vo b.p it 0 (n*1000000,(n+1)*1000000)) (Vo b.p it 0 ((n+1)*1000000,(n+2)*1000000)) (by omega);have wD:Xx b.p it n=Xl (Vo b.p it 0 (n*1000000,(n+1)*1000000)++Vo b.p it 0 ((n+1)*1000000,(n+2)*1000000)):=rfl;rw[<- wD]at k3;obtain⟨R,hR⟩:∃R,Xx b.p it n=R:=⟨_,rfl⟩;refine Xd adK (ajy b.p it) (by simp) ?_;rcases Gj (it,n) b.pm 0 with⟨h1,h2⟩|⟨v,j,h1,h2⟩
 ·have hp:pmN b it n=b.pm++[((it,n),Xx b.p it n)]:=by simp only[pmN,h1]
  have iP:S4 (pmN b it n)=S4 b.pm++[([it,n],.sl .ro ((Xx b.p it n).map Qe))]:=by rw[hp];simp[S4]
  simp[UR,US,aP,bq,Qp,Qc,h2,w1,w2,w3,w4,w5,ajy,<- wD];refine⟨by simpa[Qc]using k1,by simpa[Qc]using k2,k3,?_⟩;rw[<- iP];exact frK [[I it,I n]] rfl (Idle.ro _) hK
 have hv:=hpm _ _ h1;have hp:pmN b it n=b.pm:=by simp only[pmN,h1]
 rw[hp]at hK |-
 rw[<- hv]at hK;simp[UR,US,aP,bq,Qp,Qc,h2];exact frK [[I it,I n]] rfl (Idle.ro _) hK
def K7{p:Pl}{it n:Int}:∀s∈Xx p it n,s.1<=1000000000000/\s.2<=1000000000000:=fun s hs=>by
 have hv:=(Zy (Vo p it 0 (n*1000000,(n+1)*1000000)++Vo p it 0 ((n+1)*1000000,(n+2)*1000000))).1.1 s hs;have h1:Xr (Xx p it n) s.1:=⟨s,hs,by omega,by omega⟩;have h2:Xr (Xx p it n) (s.2-1):=⟨s,hs,by omega,by omega⟩;rw[Qbu]at h1 h2;obtain⟨_,_,_,_,_,Px,_⟩:=h1;obtain⟨_,_,_,_,_,hx2,_⟩:=h2;omega
def Gk(p:Pl)(it n:Int):(Xx p it n).length<=2000000:=by
 have h:=Yv (Vo p it 0 (n*1000000,(n+1)*1000000)++Vo p it 0 ((n+1)*1000000,(n+2)*1000000));have l1:=Qcm p it 0 (n*1000000,(n+1)*1000000);have l2:=Qcm p it 0 ((n+1)*1000000,(n+2)*1000000);rw[zzag]at h;have:(Xx p it n).length<=_:=h;omega
def ug:Nat->FuncId->List AV->AV:=fun _ f l=>if f=276 then .gd false .junk else(match l with|[.sl _ a,.int _ x,.int _ n]=>Wx (lN (a.map tC) x n)|_=>.junk)
def afe(pre:List (List AV))(b:Bd)(post:List (List AV))(ls:List Nat)(e:En)(last from_:Int)(T:Option Int)(f:Nat->AV)(m:AM):Prop:=∃(n:Int)(pm:List ((Int×Int)×List Sp)),
 f 9=I n/\(0<=n/\n<=9223372036854)/\S3 b.p e last from_ n=T/\K5 {b with pm:=pm}/\m=aP pre {b with pm:=pm} (post++[Qd e]) ls
def aff{from_:Int}(h0:0<=from_)(h1:from_<=9223372036854775807):0<=from_.tdiv 1000000/\from_.tdiv 1000000<=9223372036854:=by
 rw[zzck h0];omega
def Oe(pre post:List (List AV))(ls:List Nat)(b:Bd)(e:En)(from_:Int)(hc:b.p.cls.length<=1000000)(gD:b.p.sh.length<=1000000000)(cH:b.p.aM.length<=1000000000)(dm:b.p.ln<=9223372036854775807)(wD:from_<=9223372036854775807)
  (hpm:K5 b)(Y:YT)(K:AV->AM->Prop)(hK:∀pm ex,K5 {b with pm:=pm}->K (Wx (Vz b.p e from_)) (aP pre {b with pm:=pm} (post++ex) ls)):
  an Tryz.prog az Y 201 [.ptr (pre.length+9) 0,.agg (Qd e),I from_] (aP pre b post ls) K:=by
 refine Xd acT ug (by simp) ?_
 have no:Vz b.p e from_=none->K (.aV [I 0,.bool false]) (aP pre b (post++[Qd e]) ls):=fun h=>by
  have:=hK b.pm [Qd e] hpm;rw[h]at this;exact this
 by_cases c1:e.fr<1
 ·simp[zQ,uR,aP,bq,Qp,Qc,Qd,c1];exact no (by rw[Vz,if_pos (.inl c1)])
 by_cases c2:1000000<e.fr
 ·simp[zQ,uR,aP,bq,Qp,Qc,Qd,c1,c2];exact no (by rw[Vz,if_pos (.inr (.inl c2))])
 by_cases c3:b.p.ln<e.fr
 ·simp[zQ,uR,aP,bq,Qp,Qc,Qd,c1,c2,c3];exact no (by rw[Vz,if_pos (.inr (.inr c3))])
 have hS:Vz b.p e from_=S3 b.p e (mB b.p e) (max from_ 0) ((max from_ 0).tdiv 1000000):=by rw[Vz,if_neg (by omega)]
 rw[hS]at hK;clear no;obtain⟨fm,hfm⟩:∃fm,max from_ 0=fm:=⟨_,rfl⟩;have awh:(if from_<0 then 0 else from_)=fm:=by omega
 have hf0:0<=fm/\fm<=9223372036854775807:=by omega
 obtain⟨d1,d2⟩:=aff hf0.1 hf0.2;rw[hfm]at hK;have hwq:IntKind.i64.wrap (fm.tdiv 1000000)=fm.tdiv 1000000:=by rw[Qi]<;>omega
 have hwl:IntKind.i64.wrap (b.p.ln-e.fr)=b.p.ln-e.fr:=by rw[Qi]<;>omega
 obtain⟨q,hq⟩:∃q,fm.tdiv 1000000=q:=⟨_,rfl⟩;rw[hq]at hwq d1 d2 hK;obtain⟨la,hla⟩:∃la,mB b.p e=la:=⟨_,rfl⟩;have hlb:la<=100000000:=by rw[<- hla,mB];omega
 rw[hla]at hK;obtain⟨T,hT⟩:∃T,S3 b.p e la fm q=T:=⟨_,rfl⟩;rw[hT]at hK;simp[zQ,aP,bq,Qp,Qc,Qd,c1,c2,c3,hwl,awh,hq,hwq]
 have me:U7 false (U7 false e.la (b.p.ln-e.fr)) 100000000=la:=by
  rw[<- hla,mB];simp only[U7];simp;omega
 rw[me];refine Qj uT (afe pre b post ls e la fm T) (fun f _=>(la-numOf (f 9)*1000000+1000000).toNat) ?_ ?_
 ·exact⟨q,b.pm,by simp,⟨d1,d2⟩,hT,hpm,by simp[aP,bq,Qp,Qc,Qd]⟩
 rintro f m ⟨n,pm,h9,hn,bU,hpm',rfl⟩;have hwm:IntKind.i64.wrap (n*1000000)=n*1000000:=by rw[Qi]<;>omega
 have KG:IntKind.i64.wrap (n+1)=n+1:=by rw[Qi]<;>omega
 rw[S3]at bU;by_cases c4:n*1000000<=la
 ·rw[if_pos c4]at bU;have Rh:=Gi (Xx b.p e.it n) fm e.fr (by have:=Gk b.p e.it n;omega) hf0.1 (by omega) K7;obtain⟨R,hR⟩:∃R,Xx b.p e.it n=R:=⟨_,rfl⟩;have kf:=fun K'=>Rg pre (post++[Qd e]) ls {b with pm:=pm} e.it n (by omega) hc gD cH hpm' Y K';have hpn:=amA hpm' e.it n;obtain⟨Of,awi⟩:∃Of,pmN {b with pm:=pm} e.it n=Of:=⟨_,rfl⟩;rw[awi]at kf hpn;simp only at kf;rw[hR]at bU Rh kf;cases hes:lN R fm e.fr with
  |none=>
   rw[hes]at bU Rh;simp[h9,uT,hwm,c4,aP,bq,Qp,Qc,Qd];refine Qax [(.sl .ro (R.map Qe),aP pre {b with pm:=Of} (post++[Qd e]) ls)] ?_;simp[h9,aP,bq,Qp,Qc,Qd,ug,hes,Wx,KG];refine⟨kf _ ⟨rfl,rfl⟩,Rh,aN,⟨n+1,Of,by simp,by omega,bU,hpn,by simp[aP,bq,Qp,Qc,Qd]⟩,by omega⟩
  |some s=>
   rw[hes]at bU Rh;simp only at bU;by_cases c5:la<s
   ·rw[if_pos c5]at bU;subst bU;have:=hK Of [Qd e] hpn;simp[h9,uT,hwm,c4,aP,bq,Qp,Qc,Qd];refine Qax [(.sl .ro (R.map Qe),aP pre {b with pm:=Of} (post++[Qd e]) ls)] ?_;simp[aP,bq,Qp,Qc,Qd,ug,hes,Wx,c5,uR];refine⟨kf _ ⟨rfl,rfl⟩,Rh,?_⟩;simpa[aP,bq,Qp,Qc,Qd,Wx]using this
   rw[if_neg c5]at bU;subst bU;have:=hK Of [Qd e] hpn;simp[h9,uT,hwm,c4,aP,bq,Qp,Qc,Qd];refine Qax [(.sl .ro (R.map Qe),aP pre {b with pm:=Of} (post++[Qd e]) ls)] ?_;simp[aP,bq,Qp,Qc,Qd,ug,hes,Wx,c5,uR];refine⟨kf _ ⟨rfl,rfl⟩,Rh,?_⟩;simpa[aP,bq,Qp,Qc,Qd,Wx]using this
 rw[if_neg c4]at bU;subst bU;have:=hK pm [Qd e] hpm';simp[h9,uT,hwm,c4,uR];simpa[aP,bq,Qp,Qc,Qd,Wx]using this
open Go Go.Abs
def pq(n:Int)(us:List (Int×Int)):Prop:=∀k v,af k us=some v->0<=v/\v<=n
def pq.note{n:Int}{us:List (Int×Int)}(h:pq n us)(hn:0<=n)(it:Int):pq (n+1) (Vs us it):=fun k v hk=>by
 rw[Vs,Uh]at hk;split at hk
 ·cases hk;cases ha:af it us with
  |none=>simp;omega
  |some u=>have:=h it u ha;simp;omega
 have:=h k v hk;omega
def Qcq(p:Pl)(it:Int):(∃n y,Xh it p.aM=some y/\Xi [it] (bH qX (zo p)) 0=some (n,qX y))\/(Xh it p.aM=none/\Xi [it] (bH qX (zo p)) 0=none):=by
 rcases Xq qX it (zo p) 0 with⟨h1,h2,_,_⟩|⟨u,n,h1,h2,_⟩
 ·rw[uf]at h1;exact .inr ⟨h1,h2⟩
 rw[uf]at h1;exact .inl ⟨_,u,h1,h2⟩
def xg(us:List (Int×Int))(it:Int):(Xi [it] (bH iA us) 0=none/\bH iA us++[([it],.int .i64 1)]=bH iA (Vs us it))\/∃u n,af it us=some u/\Xi [it] (bH iA us) 0=some (n,.int .i64 u)/\(bH iA us).set n ([it],.int .i64 (u+1))=bH iA (Vs us it):=by
 rcases Xq iA it us 0 with⟨h1,h2,_,h4⟩|⟨u,n,h1,h2,_,_,_,h4⟩
 ·exact .inl ⟨h2,by rw[Vs,h1];exact h4 1⟩
 exact .inr ⟨u,n,h1,by rw[h2,zzbt],by rw[Vs,h1];exact h4 (u+1)⟩
def Qdm(p:Pl)(en:List (Int×Int))(it e:Int){y:It}(hy:Xh it p.aM=some y):(Xi [y.sp] (bH iA en) 0=none/\bH iA en++[([y.sp],.int .i64 (if 0<e then e else 0))]=bH iA (Zm p en it e))\/∃u n,af y.sp en=some u/\Xi [y.sp] (bH iA en) 0=some (n,.int .i64 u)/\(bH iA en).set n ([y.sp],.int .i64 (if u<e then e else u))=bH iA (Zm p en it e):=by
 rcases Xq iA y.sp en 0 with⟨h1,h2,_,h4⟩|⟨u,n,h1,h2,_,_,_,h4⟩
 ·refine .inl ⟨h2,?_⟩;have:(if 0<e then e else 0)=max 0 e:=by omega
  simp only[Zm,hy,h1,this];exact h4 _
 refine .inr ⟨u,n,h1,by rw[h2,zzbt],?_⟩;have:(if u<e then e else u)=max u e:=by omega
 simp only[Zm,hy,h1,this];exact h4 _
def YR(pre p0 bx:List (List AV))(ls:List Nat)(b:Bd)(us en:List (Int×Int))(it e:Int)(hu:pq 1000000000 us)(Y:YT)(K:AV->AM->Prop)(hK:∀ex,K (.aV []) (aP pre b (p0++([.aK 0 (bH iA (Vs us it))]::[.aK 0 (bH iA (Zm b.p en it e))]::(bx++ex))) ls)):
  an Tryz.prog az Y 197 [.ptr (pre.length+9) 0,.mp (pre.length+(p0.length+10)),.mp (pre.length+(p0.length+11)),I it,I e] (aP pre b (p0++([.aK 0 (bH iA us)]::[.aK 0 (bH iA en)]::bx)) ls) K:=by
 refine Xd M5 (fun _ _ _=>.junk) (by simp) ?_;have w1:IntKind.i64.wrap 1=1:=by decide
 rcases xg us it with⟨u2,u4⟩|⟨u,n,u1,u2,u4⟩
 ·rcases Qcq b.p it with⟨ni,y,hy,hi⟩|⟨hy,hi⟩
  ·rcases Qdm b.p en it e hy with⟨e2,e4⟩|⟨v,nv,e1,e2,e4⟩
   ·simp[fE,fF,aP,bq,Qp,Qc,hi,qX,Qm,u2,e2,w1];rw[u4,e4];simpa[aP,bq,Qp,Qc,Qm]using hK [Qm y]
   simp[fE,fF,aP,bq,Qp,Qc,hi,qX,Qm,u2,e2,w1];rw[u4,e4];simpa[aP,bq,Qp,Qc,Qm]using hK [Qm y]
  have he:Zm b.p en it e=en:=by simp only[Zm,hy]
  rw[he]at hK;simp[fE,fF,aP,bq,Qp,Qc,hi,u2,w1];rw[u4];simpa[aP,bq,Qp,Qc]using hK [[I 0,I 0,I 0,I 0,I 0]]
 have hb:=hu it u u1;have wu:IntKind.i64.wrap (u+1)=u+1:=by rw[Qi]<;>omega
 rcases Qcq b.p it with⟨ni,y,hy,hi⟩|⟨hy,hi⟩
 ·rcases Qdm b.p en it e hy with⟨e2,e4⟩|⟨v,nv,e1,e2,e4⟩
  ·simp[fE,fF,aP,bq,Qp,Qc,hi,qX,Qm,u2,e2,wu];rw[u4,e4];simpa[aP,bq,Qp,Qc,Qm]using hK [Qm y]
  simp[fE,fF,aP,bq,Qp,Qc,hi,qX,Qm,u2,e2,wu];rw[u4,e4];simpa[aP,bq,Qp,Qc,Qm]using hK [Qm y]
 have he:Zm b.p en it e=en:=by simp only[Zm,hy]
 rw[he]at hK;simp[fE,fF,aP,bq,Qp,Qc,hi,u2,wu];rw[u4];simpa[aP,bq,Qp,Qc]using hK [[I 0,I 0,I 0,I 0,I 0]]
def afg(pre post:List (List AV))(ls:List Nat)(b:Bd)(us en:List (Int×Int))(it e:Int)(hu:pq 1000000000 us)(Y:YT)(K:AV->AM->Prop)(hK:∀ex,K (.aV []) (aP pre {b with us:=Vs us it,en:=Zm b.p en it e} (post++ex) ls)):
  an Tryz.prog az Y 197 [.ptr (pre.length+9) 0,.mp (pre.length+4),.mp (pre.length+5),I it,I e] (aP pre {b with us:=us,en:=en} post ls) K:=by
 refine Xd M5 (fun _ _ _=>.junk) (by simp) ?_;have w1:IntKind.i64.wrap 1=1:=by decide
 rcases xg us it with⟨u2,u4⟩|⟨u,n,u1,u2,u4⟩
 ·rcases Qcq b.p it with⟨ni,y,hy,hi⟩|⟨hy,hi⟩
  ·rcases Qdm b.p en it e hy with⟨e2,e4⟩|⟨v,nv,e1,e2,e4⟩
   ·simp[fE,fF,aP,bq,Qp,Qc,hi,qX,Qm,u2,e2,w1];rw[u4,e4];simpa[aP,bq,Qp,Qc,Qm]using hK [Qm y]
   simp[fE,fF,aP,bq,Qp,Qc,hi,qX,Qm,u2,e2,w1];rw[u4,e4];simpa[aP,bq,Qp,Qc,Qm]using hK [Qm y]
  have he:Zm b.p en it e=en:=by simp only[Zm,hy]
  rw[he]at hK;simp[fE,fF,aP,bq,Qp,Qc,hi,u2,w1];rw[u4];simpa[aP,bq,Qp,Qc]using hK [[I 0,I 0,I 0,I 0,I 0]]
 have hb:=hu it u u1;have wu:IntKind.i64.wrap (u+1)=u+1:=by rw[Qi]<;>omega
 rcases Qcq b.p it with⟨ni,y,hy,hi⟩|⟨hy,hi⟩
 ·rcases Qdm b.p en it e hy with⟨e2,e4⟩|⟨v,nv,e1,e2,e4⟩
  ·simp[fE,fF,aP,bq,Qp,Qc,hi,qX,Qm,u2,e2,wu];rw[u4,e4];simpa[aP,bq,Qp,Qc,Qm]using hK [Qm y]
  simp[fE,fF,aP,bq,Qp,Qc,hi,qX,Qm,u2,e2,wu];rw[u4,e4];simpa[aP,bq,Qp,Qc,Qm]using hK [Qm y]
 have he:Zm b.p en it e=en:=by simp only[Zm,hy]
 rw[he]at hK;simp[fE,fF,aP,bq,Qp,Qc,hi,u2,wu];rw[u4];simpa[aP,bq,Qp,Qc]using hK [[I 0,I 0,I 0,I 0,I 0]]
end Go.Proofs.YtnopaopphmjnmaaGreatDoor
