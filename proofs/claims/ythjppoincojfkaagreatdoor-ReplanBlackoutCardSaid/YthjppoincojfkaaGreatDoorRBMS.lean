import Derived.Test.YthjppoincojfkaaGreatDoorRBTwC
set_option linter.all false
set_option maxRecDepth 100000
set_option maxHeartbeats 64000000
namespace Go.Proofs.YthjppoincojfkaaGreatDoor
open Go Go.Abs
def Xb(n:Int):P2:=[I n]
def X8(LL:List (Rt×List Sp))(f:Nat->AV)(m:AM):Prop:=∃(i:Nat)(bx:T5),f 11=I i/\i<=LL.length/\f 3=I (((LL.take i).map fun x=>x.2).flatten.length:Nat)/\m=⟨bx,[],fun _=>.gone,0⟩
def X9(LL:List (Rt×List Sp))(f:Nat->AV)(m:AM):Prop:=∃(i:Nat)(rt:Rt)(ls:Pa)(bx:T5),f 27=I i/\i<=LL.length/\f 6=.sl rt (((LL.take i).map fun x=>x.2).flatten.map Qf)/\
 (((LL.take i).map fun x=>x.2).flatten=[]/\rt=.nil/\i=0\/∃k,rt=.own k 2/\ls[k]?=some ((LL.take i).map fun x=>x.2).flatten.length)/\m=⟨bx,ls,fun _=>.gone,0⟩
def NY(LL:List (Rt×List Sp)){i:Nat}{x:Rt×List Sp}(h:LL[i]?=some x):((LL.take (i+1)).map fun x=>x.2).flatten=((LL.take i).map fun x=>x.2).flatten++x.2:=by
 simp[zzax,h]
def NZ(LL:List (Rt×List Sp))(i:Nat):((LL.take i).map fun x=>x.2).flatten.length<=(LL.map fun x=>x.2).flatten.length:=by
 have h:(LL.map fun x=>x.2)=((LL.take i).map fun x=>x.2)++(LL.drop i).map fun x=>x.2:=by rw[<- zzch,zzdy]
 rw[h,zzek,zzak];omega
def uI:UV:=fun _ f _=>if f=270 then .gd false .junk else .junk
def QT(LL:List (Rt×List Sp))(aN:LL≠[])(hl:LL.length<=1000000)(hf:(LL.map fun x=>x.2).flatten.length<=1000000000):Pure Tryz.prog aD 266 [.sl .full (LL.map fun x=>[.sl x.1 (x.2.map Qf)])] (.sl .ro ((LL.map fun x=>x.2).flatten.map Qf)):=by
 have lF:=zzdc.2 aN;have lZ:LL.take LL.length=LL:=zzbw;refine Qp adw uI zd ?_;simp[ah1];refine Qk Cf (X8 LL) (fun f _=>LL.length-(numOf (f 11)).toNat) ?_ ?_
 ·exact⟨0,[],zd,zE,zd,rfl⟩
 rintro f m ⟨i,bx,pq,hi,h3,rfl⟩;rcases zzaa i LL.length with ai|bn
 ·obtain⟨x,hx⟩:=aV ai;have ah:Qj (LL.map fun x=>[.sl x.1 (x.2.map Qf)]) i=[.sl x.1 (x.2.map Qf)]:=Qu (by simp[hx]);have aa:(i:Int)<(LL.length:Int):=zE
  have hw:=bO i zE;have hc:=NY LL hx;have qj:=NZ LL (i+1);obtain⟨n,hn⟩:∃n,((LL.take i).map fun x=>x.2).flatten.length=n:=⟨_,rfl⟩;have hcn:((LL.take (i+1)).map fun x=>x.2).flatten.length=n+x.2.length:=by rw[hc,zzak,hn]
  rw[hn]at h3;have fE:IntKind.i64.wrap ((n:Int)+(x.2.length:Int))=((n+x.2.length:Nat):Int):=by rw[Ql]<;>omega
  have Ay:¬(n:Int)+(x.2.length:Int)<0:=zE
  simp[pq,h3,ai,aa,ah,Cf,hw,fE,Ay];refine⟨aQ,⟨i+1,_,zd,zE,by rw[hcn];simp[fE],rfl⟩,zE⟩
 have bP:¬(i:Int)<(LL.length:Int):=zE
 obtain rfl:i=LL.length:=zE
 rw[lZ]at h3;obtain⟨n,hn⟩:∃n,(LL.map fun x=>x.2).flatten.length=n:=⟨_,rfl⟩;rw[hn]at h3 hf;have fin:∀(rt:Rt)(ls:Pa),(rt=.nil\/∃k,rt=.own k 2/\ls[k]?=some 0)->∀(E:QQ),True:=fun _ _ _ _=>trivial;simp[pq,h3,bP,zzbk.2 bn,Cf,uI];refine aex hf (fun h0=>?_) (fun h0=>?_)
 all_goals
  try simp[pq,h3,Cf]
  refine Qk Cg (X9 LL) (fun f _=>LL.length-(numOf (f 27)).toNat) ?_ ?_
 ·exact⟨0,.nil,[],bx,zd,zE,zd,.inl ⟨zd,rfl,rfl⟩,rfl⟩
 rotate_left
 ·exact⟨0,.own 0 2,[0],bx,zd,zE,zd,.inr ⟨0,rfl,zd⟩,rfl⟩
 all_goals
  clear h0;rintro f m ⟨i,rt,ls,bx,h27,hi,h6,aX,rfl⟩;rcases zzaa i LL.length with ai|bn
  ·obtain⟨x,hx⟩:=aV ai;have ah:Qj (LL.map fun x=>[.sl x.1 (x.2.map Qf)]) i=[.sl x.1 (x.2.map Qf)]:=Qu (by simp[hx]);have aa:(i:Int)<(LL.length:Int):=zE
   have hw:=bO i zE;have hc:=NY LL hx;have qj:=NZ LL (i+1);obtain⟨F,hF⟩:∃F,((LL.take i).map fun x=>x.2).flatten=F:=⟨_,rfl⟩;rw[hF]at h6 aX hc;rw[hc,zzak,hn]at qj;obtain⟨rfl,rfl,rfl⟩|⟨k,rfl,hk⟩:=aX
   ·have dU:IntKind.i64.wrap 1=1:=by decide
    simp[h27,h6,ai,aa,ah,Cg,hw,dU,uI];refine⟨⟨?_,zE⟩,aQ,⟨1,.own ls.length 2,_,bx,zd,zE,by rw[hc];simp,.inr ⟨ls.length,rfl,by rw[hc];simp⟩,rfl⟩,zE⟩
    ·rintro a b row _ rfl;rfl
   have sj:=(zza.1 hk).1;simp[h27,h6,ai,aa,ah,Cg,hw,hk,uI];refine⟨⟨?_,zE⟩,aQ,⟨i+1,.own k 2,_,bx,zd,zE,by rw[hc];simp,.inr ⟨k,rfl,by rw[hc];simp[sj]⟩,rfl⟩,zE⟩
   ·rintro row (⟨a,b,_,rfl⟩|⟨a,b,_,rfl⟩)<;>rfl
  have bP:¬(i:Int)<(LL.length:Int):=zE
  obtain rfl:i=LL.length:=zE
  rw[lZ]at h6 aX;obtain⟨_,_,h0⟩|⟨k,rfl,hk⟩:=aX
  ·omega
  simp[h27,h6,bP,zzbk.2 bn,Cg,ah2]
open Go Go.Abs
def aey(LL:List (Rt×Pi))(f:Nat->AV)(m:AM):Prop:=∃(i:Nat)(bx:T5),f 11=I i/\i<=LL.length/\f 3=I (((LL.take i).map fun x=>x.2).flatten.length:Nat)/\m=⟨bx,[],fun _=>.gone,0⟩
def aez(LL:List (Rt×Pi))(f:Nat->AV)(m:AM):Prop:=∃(i:Nat)(rt:Rt)(ls:Pa)(bx:T5),f 27=I i/\i<=LL.length/\f 6=.sl rt (((LL.take i).map fun x=>x.2).flatten.map Xb)/\
 (((LL.take i).map fun x=>x.2).flatten=[]/\rt=.nil/\i=0\/∃k,rt=.own k 1/\ls[k]?=some ((LL.take i).map fun x=>x.2).flatten.length)/\m=⟨bx,ls,fun _=>.gone,0⟩
def Ys(LL:List (Rt×Pi)){i:Nat}{x:Rt×Pi}(h:LL[i]?=some x):((LL.take (i+1)).map fun x=>x.2).flatten=((LL.take i).map fun x=>x.2).flatten++x.2:=by
 simp[zzax,h]
def YA(LL:List (Rt×Pi))(i:Nat):((LL.take i).map fun x=>x.2).flatten.length<=(LL.map fun x=>x.2).flatten.length:=by
 have h:(LL.map fun x=>x.2)=((LL.take i).map fun x=>x.2)++(LL.drop i).map fun x=>x.2:=by rw[<- zzch,zzdy]
 rw[h,zzek,zzak];omega
def Df:UV:=fun _ f _=>if f=230 then .gd false .junk else .junk
def YB(LL:List (Rt×Pi))(aN:LL≠[])(hl:LL.length<=1000000)(hf:(LL.map fun x=>x.2).flatten.length<=1000000000):Pure Tryz.prog aD 174 [.sl .full (LL.map fun x=>[.sl x.1 (x.2.map Xb)])] (.sl .ro ((LL.map fun x=>x.2).flatten.map Xb)):=by
 have lF:=zzdc.2 aN;have lZ:LL.take LL.length=LL:=zzbw;refine Qp acC Df zd ?_;simp[agX];refine Qk B6 (aey LL) (fun f _=>LL.length-(numOf (f 11)).toNat) ?_ ?_
 ·exact⟨0,[],zd,zE,zd,rfl⟩
 rintro f m ⟨i,bx,pq,hi,h3,rfl⟩;rcases zzaa i LL.length with ai|bn
 ·obtain⟨x,hx⟩:=aV ai;have ah:Qj (LL.map fun x=>[.sl x.1 (x.2.map Xb)]) i=[.sl x.1 (x.2.map Xb)]:=Qu (by simp[hx]);have aa:(i:Int)<(LL.length:Int):=zE
  have hw:=bO i zE;have hc:=Ys LL hx;have qj:=YA LL (i+1);obtain⟨n,hn⟩:∃n,((LL.take i).map fun x=>x.2).flatten.length=n:=⟨_,rfl⟩;have hcn:((LL.take (i+1)).map fun x=>x.2).flatten.length=n+x.2.length:=by rw[hc,zzak,hn]
  rw[hn]at h3;have fE:IntKind.i64.wrap ((n:Int)+(x.2.length:Int))=((n+x.2.length:Nat):Int):=by rw[Ql]<;>omega
  have Ay:¬(n:Int)+(x.2.length:Int)<0:=zE
  simp[pq,h3,ai,aa,ah,B6,hw,fE,Ay];refine⟨aQ,⟨i+1,_,zd,zE,by rw[hcn];simp[fE],rfl⟩,zE⟩
 have bP:¬(i:Int)<(LL.length:Int):=zE
 obtain rfl:i=LL.length:=zE
 rw[lZ]at h3;obtain⟨n,hn⟩:∃n,(LL.map fun x=>x.2).flatten.length=n:=⟨_,rfl⟩;rw[hn]at h3 hf;have fin:∀(rt:Rt)(ls:Pa),(rt=.nil\/∃k,rt=.own k 1/\ls[k]?=some 0)->∀(E:QQ),True:=fun _ _ _ _=>trivial;simp[pq,h3,bP,zzbk.2 bn,B6,Df];refine aeA hf (fun h0=>?_) (fun h0=>?_)
 all_goals
  try simp[pq,h3,B6]
  refine Qk B7 (aez LL) (fun f _=>LL.length-(numOf (f 27)).toNat) ?_ ?_
 ·exact⟨0,.nil,[],bx,zd,zE,zd,.inl ⟨zd,rfl,rfl⟩,rfl⟩
 rotate_left
 ·exact⟨0,.own 0 1,[0],bx,zd,zE,zd,.inr ⟨0,rfl,zd⟩,rfl⟩
 all_goals
  clear h0;rintro f m ⟨i,rt,ls,bx,h27,hi,h6,aX,rfl⟩;rcases zzaa i LL.length with ai|bn
  ·obtain⟨x,hx⟩:=aV ai;have ah:Qj (LL.map fun x=>[.sl x.1 (x.2.map Xb)]) i=[.sl x.1 (x.2.map Xb)]:=Qu (by simp[hx]);have aa:(i:Int)<(LL.length:Int):=zE
   have hw:=bO i zE;have hc:=Ys LL hx;have qj:=YA LL (i+1);obtain⟨F,hF⟩:∃F,((LL.take i).map fun x=>x.2).flatten=F:=⟨_,rfl⟩;rw[hF]at h6 aX hc;rw[hc,zzak,hn]at qj;obtain⟨rfl,rfl,rfl⟩|⟨k,rfl,hk⟩:=aX
   ·have dU:IntKind.i64.wrap 1=1:=by decide
    simp[h27,h6,ai,aa,ah,B7,hw,dU,Df];refine⟨⟨?_,zE⟩,aQ,⟨1,.own ls.length 1,_,bx,zd,zE,by rw[hc];simp,.inr ⟨ls.length,rfl,by rw[hc];simp⟩,rfl⟩,zE⟩
    ·first|(rintro a _;rfl)|(rintro row a _ rfl;rfl)
   have sj:=(zza.1 hk).1;simp[h27,h6,ai,aa,ah,B7,hw,hk,Df];refine⟨⟨?_,zE⟩,aQ,⟨i+1,.own k 1,_,bx,zd,zE,by rw[hc];simp,.inr ⟨k,rfl,by rw[hc];simp[sj]⟩,rfl⟩,zE⟩
   ·rintro row (⟨a,_,rfl⟩|⟨a,_,rfl⟩)<;>rfl
  have bP:¬(i:Int)<(LL.length:Int):=zE
  obtain rfl:i=LL.length:=zE
  rw[lZ]at h6 aX;obtain⟨_,_,h0⟩|⟨k,rfl,hk⟩:=aX
  ·omega
  simp[h27,h6,bP,zzbk.2 bn,B7,agY]
open Go Go.Abs
def YC(A B:List Sp)(h:A.length+B.length<=100000000):Pure Tryz.prog aD 252 [.sl .ro (A.map Qf),.sl .ro (B.map Qf)] (.sl .ro ((Xm (A++B)).map Qf)):=by
 have asO:=QT [(.ro,A),(.ro,B)] zd zd (by simp;omega);have YD:=Un (A++B) (by simp;omega);refine Qp ads (fun _ f _=>if f=266 then .sl .ro ((A++B).map Qf)else .sl .ro ((Xm (A++B)).map Qf)) zd ?_;simp at asO YD;simp[ahW,ahX];exact⟨asO,YD⟩
def aeB(s:Sp)(h1:0<=s.1)(h2:s.1<=s.2)(h3:s.2<=9223372036854775807):Pure Tryz.prog aD 251 [.agg (Qf s)] (.int .u64 (s.2-s.1)):=by
 have w1:IntKind.u64.wrap s.1=s.1:=by simp[IntKind.wrap,IntKind.bits,IntKind.signed];omega
 have w2:IntKind.u64.wrap s.2=s.2:=by simp[IntKind.wrap,IntKind.bits,IntKind.signed];omega
 have w3:IntKind.u64.wrap (s.2-s.1)=s.2-s.1:=by simp[IntKind.wrap,IntKind.bits,IntKind.signed];omega
 refine Qp adr (fun _ _ _=>.junk) zd ?_;simp[ahU,ahV,Qf,w1,w2,w3]
def Wy:Option Int->AV
 |some s=>.aS [I s,.bool true]
 |none=>.aS [I 0,.bool false]
def Gj(L:List Sp):UV:=fun _ f l=>if f=131 then .sl .ro (L.map Qf)else if f=185 then(match l with|[.agg [.int _ a,.int _ b]]=>.bool (decide (b<=a))|_=>.junk)else
 (match l with|[.agg [.int _ a,.int _ b]]=>.int .u64 (b-a)|_=>.junk)
def asP(a n:Int)(L:List Sp)(T:Option Int)(f:Nat->AV)(m:AM):Prop:=∃(i:Nat)(bx:T5),f 17=I i/\i<=L.length/\Gk a n (L.drop i)=T/\m=⟨bx,[],fun _=>.gone,0⟩
def Gl(l:List Sp)(a n:Int)(hl:l.length<=100000000)(ha:0<=a)(hn:1<=n/\n<=1000000)(hb:∀s∈l,s.1<=1000000000000/\s.2<=1000000000000):Pure Tryz.prog aD 228 [.sl .ro (l.map Qf),I a,I n] (Wy (lP l a n)):=by
 have YD:=Un l hl;obtain⟨T,hT⟩:∃T,lP l a n=T:=⟨_,rfl⟩;rw[hT];rw[lP,if_neg zE]at hT;have hbL:=YF (P:=fun x=>x<=1000000000000) (l:=l) hb;have hLl:=Yu l;generalize Xm l=L at YD hT hbL hLl;have gr:¬n<=0:=zE
 refine Qp adb (Gj L) zd ?_;simp[T1,Gj,gr];refine⟨YD,?_⟩;refine Qk vw (asP a n L T) (fun f _=>L.length-(numOf (f 17)).toNat) ?_ ?_
 ·exact⟨0,[],zd,zE,Nm hT,rfl⟩
 rintro f m ⟨i,bx,h17,hi,hx,rfl⟩;rcases zzaa i L.length with ai|bn
 ·obtain⟨s,hs⟩:=aV ai;have ah:Qj (L.map Qf) i=Qf s:=Zv hs;have aa:(i:Int)<(L.length:Int):=zE
  have hw:=bO i zE;rw[Ze hs,Gk]at hx;obtain⟨q,hq⟩:∃q,max s.1 a=q:=⟨_,rfl⟩;have hqm:(if s.1<a then a else s.1)=q:=zE
  have YG:Abs.Pure Tryz.prog aD 185 [.agg (Qf (q,s.2))] (.bool (decide (s.2<=q))):=nN (q,s.2);rw[hq]at hx;have hu:IntKind.u64.wrap n=n:=by simp[IntKind.wrap,IntKind.bits,IntKind.signed];omega
  by_cases c1:s.2<=q
  ·rw[if_neg zE]at hx;rw[decide_eq_true c1]at YG;simp[h17,ai,aa,ah,Qf,hqm,c1,vw,hw,Gj];refine⟨by simpa[Qf]using YG,aQ,⟨i+1,_,zd,zE,hx,rfl⟩,zE⟩
  have asQ:=aeB (q,s.2) (by simp only;omega) (by simp only;omega) (by
   have:=hbL s (zzad hs);simp only;omega)
  rw[decide_eq_false c1]at YG;by_cases c2:n<=s.2-q
  ·rw[if_pos zE]at hx;subst hx;simp[h17,ai,aa,ah,Qf,hqm,c1,c2,hu,vw,T2,Gj,Wy];exact⟨by simpa[Qf]using YG,by simpa[Qf]using asQ⟩
  rw[if_neg zE]at hx;simp[h17,ai,aa,ah,Qf,hqm,c1,c2,hu,vw,hw,Gj];refine⟨by simpa[Qf]using YG,by simpa[Qf]using asQ,aQ,⟨i+1,_,zd,zE,hx,rfl⟩,zE⟩
 have bP:¬(i:Int)<(L.length:Int):=zE
 rw[zzal bn]at hx;have hx:none=T:=hx;subst hx;simp[h17,bP,zzbk.2 bn,vw,T2,Wy]
open Go Go.Abs
def pf(k:Int×Int):List ((Int×Int)×List Sp)->Option (List Sp)
 |[]=>none
 |x::r=>if x.1=k then some x.2 else pf k r
def Gm(k:Int×Int):∀(l:List ((Int×Int)×List Sp))(i:Nat),(pf k l=none/\Xi [k.1,k.2] (Ss l) i=none)\/∃v n,pf k l=some v/\Xi [k.1,k.2] (Ss l) i=some (n,.sl .ro (v.map Qf))
 |[],i=>.inl ⟨rfl,rfl⟩
 |x::r,i=>by
  by_cases h:x.1=k
  ·exact .inr ⟨x.2,i,by rw[pf,if_pos h],by simp[Ss,Xi,h]⟩
  have hk:¬([k.1,k.2]:Pi)=[x.1.1,x.1.2]:=by
   intro e;simp only[List.cons.injEq,and_true]at e;exact h (Prod.ext e.1.symm e.2.symm)
  rcases Gm k r (i+1)with⟨h1,h2⟩|⟨v,n,h1,h2⟩
  ·refine .inl ⟨by rw[pf,if_neg h];exact h1,?_⟩;simp only[Ss,zzaz,Xi];rw[if_neg hk];exact h2
  refine .inr ⟨v,n,by rw[pf,if_neg h];exact h1,?_⟩;simp only[Ss,zzaz,Xi];rw[if_neg hk];exact h2
def YH(k q:Int×Int)(v:List Sp):∀(l:List ((Int×Int)×List Sp)),pf q (l++[(k,v)])=match pf q l with|some u=>some u|none=>if k=q then some v else none
 |[]=>rfl
 |x::r=>by
  rw[zzae,pf,YH k q v r,pf];by_cases h:x.1=q<;>simp[h]
def KT(b:Bd):Prop:=∀k v,pf k b.pm=some v->v=Zc b.p k.1 k.2
def pmN(b:Bd)(it n:Int):List ((Int×Int)×List Sp):=match pf (it,n) b.pm with
 |some _=>b.pm
 |none=>b.pm++[((it,n),Zc b.p it n)]
def amc{b:Bd}(h:KT b)(it n:Int):KT {b with pm:=pmN b it n}:=fun k v hk=>by
 simp only[pmN]at hk;cases hp:pf (it,n) b.pm with
 |some u=>rw[hp]at hk;exact h k v hk
 |none=>
  rw[hp]at hk;simp only[YH]at hk;cases hq:pf k b.pm with
  |some u=>rw[hq]at hk;cases hk;exact h k _ hq
  |none=>
   rw[hq]at hk;simp only at hk;split at hk
   ·rename_i e;cases hk;rw[<- e]
   cases hk
def KU{pre post:T5}{b:Bd}(pm:List ((Int×Int)×List Sp))(ls:Pa)(id:Nat)(cells:P2)(h:(aP pre {b with pm:=pm} post ls).boxes[id]?=some cells):(aP pre b post ls).boxes[id]?=some cells\/YI cells:=by
 simp only[aP]at h |-
 rcases zzaa id pre.length with ai|bn
 ·rw[zzaj ai]at h |-
  exact .inl h
 rw[zzao bn]at h |-
 match hk:id-pre.length,h with
 |0,h=>exact .inl h
 |1,h=>exact .inl h
 |2,h=>exact .inl h
 |3,h=>exact .inl h
 |4,h=>exact .inl h
 |5,h=>exact .inl h
 |6,h=>exact .inl h
 |7,h=>exact .inl h
 |8,h=>
  refine .inr (.inr ⟨2,Ss pm,?_,?_⟩)
  ·simp[aW]at h;exact h.symm
  intro e he;obtain⟨x,_,rfl⟩:=zzb.1 he;exact Idle.ro _
 |9,h=>exact .inl h
 |k+10,h=>exact .inl h
def FrK(pre:T5)(b:Bd)(pm:List ((Int×Int)×List Sp))(post:T5)(ls:Pa)(K:So)(r:AV)(m:AM):Prop:=∃ex,m=aP pre {b with pm:=pm} (post++ex) ls/\Idle r/\K r (aP pre {b with pm:=pm} post ls)
def frK{pre:T5}{b:Bd}{pm:List ((Int×Int)×List Sp)}{post:T5}{ls:Pa}{K:So}{r:AV}{m:AM}(ex:T5)(h:m=aP pre {b with pm:=pm} (post++ex) ls)(hi:Idle r)(hK:K r (aP pre {b with pm:=pm} post ls)):FrK pre b pm post ls K r m:=⟨ex,h,hi,hK⟩
def QU{f:FuncId}{xs:P2}{pre post:T5}{b:Bd}{pm:List ((Int×Int)×List Sp)}{ls:Pa}{Y:YT}{K:So}(h:aB Tryz.prog aD Y f xs (aP pre b post ls) (FrK pre b pm post ls K)):aB Tryz.prog aD Y f xs (aP pre b post ls) K:=by
 refine aB.forget (aB.mono h ?_);rintro r m' ⟨ex,rfl,h1,h2⟩;refine⟨aP pre {b with pm:=pm} post ls,ex,?_,?_,rfl,fun id cells hc=>KU pm ls id cells hc,h1,h2⟩
 ·simp[aP,aW]
 simp[aP,aW]
def aiP(p:Pl)(it:Int):UV:=fun d f l=>if f=40 then(match l with|[_,_,_,.agg [.int _ a,.int _ c]]=>.sl .ro ((Vt p it 0 (a,c)).map Qf)|_=>.junk)else
 (match l with|[.sl _ a,.sl _ c]=>.sl .ro ((Xm (a.map qY++c.map qY)).map Qf)|_=>.junk)
def pO(l:List Sp):(l.map Qf).map qY=l:=by
 rw[zzct]
 conv=>rhs;rw[<- List.map_id l]
 exact zzcq fun x _=>rfl
def QV(pre post:T5)(ls:Pa)(b:Bd)(it n:Int)(hn:0<=n/\n<=1000)(hc:b.p.cls.length<=1000000)(fu:b.p.sh.length<=1000000000)(cT:b.p.aM.length<=1000000000)(hpm:KT b)(Y:YT)(K:So)
  (hK:K (.sl .ro ((Zc b.p it n).map Qf)) (aP pre {b with pm:=pmN b it n} post ls)):
  aB Tryz.prog aD Y 229 [.ptr (pre.length+9) 0,.agg [I it,I n]] (aP pre b post ls) K:=by
 refine QU (pm:=pmN b it n) ?_;have w1:IntKind.i64.wrap (n*1000000)=n*1000000:=by rw[Ql]<;>omega
 have w2:IntKind.i64.wrap (n+1)=n+1:=by rw[Ql]<;>omega
 have w3:IntKind.i64.wrap ((n+1)*1000000)=(n+1)*1000000:=by rw[Ql]<;>omega
 have w4:IntKind.i64.wrap (n+2)=n+2:=by rw[Ql]<;>omega
 have w5:IntKind.i64.wrap ((n+2)*1000000)=(n+2)*1000000:=by rw[Ql]<;>omega
 have k1:=nJ b.p it 0 (n*1000000,(n+1)*1000000) hc fu cT (by simp only;omega) (by simp only;omega);have k2:=nJ b.p it 0 ((n+1)*1000000,(n+2)*1000000) hc fu cT (by simp only;omega) (by simp only;omega);have l1:=Qcy b.p it 0 (n*1000000,(n+1)*1000000);have l2:=Qcy b.p it 0 ((n+1)*1000000,(n+2)*1000000);have k3:=YC (Vt b.p it 0 (n*1000000,(n+1)*1000000)) (Vt b.p it 0 ((n+1)*1000000,(n+2)*1000000)) zE;have wC:Zc b.p it n=Xm (Vt b.p it 0 (n*1000000,(n+1)*1000000)++Vt b.p it 0 ((n+1)*1000000,(n+2)*1000000)):=rfl;rw[<- wC]at k3;obtain⟨R,hR⟩:∃R,Zc b.p it n=R:=⟨_,rfl⟩;refine Xn ade (aiP b.p it) zd ?_;rcases Gm (it,n) b.pm 0 with⟨h1,h2⟩|⟨v,j,h1,h2⟩
 ·have hp:pmN b it n=b.pm++[((it,n),Zc b.p it n)]:=by simp only[pmN,h1]
  have kJ:Ss (pmN b it n)=Ss b.pm++[([it,n],.sl .ro ((Zc b.p it n).map Qf))]:=by rw[hp];simp[Ss]
  simp[T3,T4,aP,aW,Qo,Qa,h2,w1,w2,w3,w4,w5,aiP,pO,<- wC];refine⟨by simpa[Qa]using k1,by simpa[Qa]using k2,k3,?_⟩;rw[<- kJ];exact frK [[I it,I n]] rfl (Idle.ro _) hK
 have hv:=hpm _ _ h1;have hp:pmN b it n=b.pm:=by simp only[pmN,h1]
 rw[hp]at hK |-
 rw[<- hv]at hK;simp[T3,T4,aP,aW,Qo,Qa,h2];exact frK [[I it,I n]] rfl (Idle.ro _) hK
def KV{p:Pl}{it n:Int}:∀s∈Zc p it n,s.1<=1000000000000/\s.2<=1000000000000:=fun s hs=>by
 have hv:=(Zw (Vt p it 0 (n*1000000,(n+1)*1000000)++Vt p it 0 ((n+1)*1000000,(n+2)*1000000))).1.1 s hs;have h1:Xv (Zc p it n) s.1:=⟨s,hs,zE,zE⟩;have h2:Xv (Zc p it n) (s.2-1):=⟨s,hs,zE,zE⟩;rw[Qci]at h1 h2;obtain⟨_,_,_,_,_,Pe,_⟩:=h1;obtain⟨_,_,_,_,_,hx2,_⟩:=h2;omega
def Gn(p:Pl)(it n:Int):(Zc p it n).length<=2000000:=by
 have h:=Yu (Vt p it 0 (n*1000000,(n+1)*1000000)++Vt p it 0 ((n+1)*1000000,(n+2)*1000000));have l1:=Qcy p it 0 (n*1000000,(n+1)*1000000);have l2:=Qcy p it 0 ((n+1)*1000000,(n+2)*1000000);rw[zzak]at h;have:(Zc p it n).length<=_:=h;omega
def uJ:UV:=fun _ f l=>if f=229 then .gd false .junk else(match l with|[.sl _ a,.int _ x,.int _ n]=>Wy (lP (a.map qY) x n)|_=>.junk)
def aeC(pre:T5)(b:Bd)(post:T5)(ls:Pa)(e:En)(last from_:Int)(T:Option Int)(f:Nat->AV)(m:AM):Prop:=∃(n:Int)(pm:List ((Int×Int)×List Sp)),
 f 9=I n/\(0<=n/\n<=9223372036854)/\St b.p e last from_ n=T/\KT {b with pm:=pm}/\m=aP pre {b with pm:=pm} (post++[Qd e]) ls
def aeD{from_:Int}(h0:0<=from_)(h1:from_<=9223372036854775807):0<=from_.tdiv 1000000/\from_.tdiv 1000000<=9223372036854:=by
 rw[zzck h0];omega
def N0(pre post:T5)(ls:Pa)(b:Bd)(e:En)(from_:Int)(hc:b.p.cls.length<=1000000)(fu:b.p.sh.length<=1000000000)(cT:b.p.aM.length<=1000000000)(dG:b.p.ln<=9223372036854775807)(wC:from_<=9223372036854775807)
  (hpm:KT b)(Y:YT)(K:So)(hK:∀pm ex,KT {b with pm:=pm}->K (Wy (Vr b.p e from_)) (aP pre {b with pm:=pm} (post++ex) ls)):
  aB Tryz.prog aD Y 172 [.ptr (pre.length+9) 0,.agg (Qd e),I from_] (aP pre b post ls) K:=by
 refine Xn acB uJ zd ?_
 have no:Vr b.p e from_=none->K (.aS [I 0,.bool false]) (aP pre b (post++[Qd e]) ls):=fun h=>by
  have:=hK b.pm [Qd e] hpm;rw[h]at this;exact this
 by_cases c1:e.fr<1
 ·simp[An,vp,aP,aW,Qo,Qa,Qd,c1];exact no (by rw[Vr,if_pos (.inl c1)])
 by_cases c2:1000000<e.fr
 ·simp[An,vp,aP,aW,Qo,Qa,Qd,c1,c2];exact no (by rw[Vr,if_pos (.inr (.inl c2))])
 by_cases c3:b.p.ln<e.fr
 ·simp[An,vp,aP,aW,Qo,Qa,Qd,c1,c2,c3];exact no (by rw[Vr,if_pos (.inr (.inr c3))])
 have hS:Vr b.p e from_=St b.p e (mB b.p e) (max from_ 0) ((max from_ 0).tdiv 1000000):=by rw[Vr,if_neg zE]
 rw[hS]at hK;clear no;obtain⟨fm,hfm⟩:∃fm,max from_ 0=fm:=⟨_,rfl⟩;have axm:(if from_<0 then 0 else from_)=fm:=zE
 have hf0:0<=fm/\fm<=9223372036854775807:=zE
 obtain⟨d1,d2⟩:=aeD hf0.1 hf0.2;rw[hfm]at hK;have hwq:IntKind.i64.wrap (fm.tdiv 1000000)=fm.tdiv 1000000:=by rw[Ql]<;>omega
 have A6:IntKind.i64.wrap (b.p.ln-e.fr)=b.p.ln-e.fr:=by rw[Ql]<;>omega
 obtain⟨q,hq⟩:∃q,fm.tdiv 1000000=q:=⟨_,rfl⟩;rw[hq]at hwq d1 d2 hK;obtain⟨la,hla⟩:∃la,mB b.p e=la:=⟨_,rfl⟩;have hlb:la<=100000000:=by rw[<- hla,mB];omega
 rw[hla]at hK;obtain⟨T,hT⟩:∃T,St b.p e la fm q=T:=⟨_,rfl⟩;rw[hT]at hK;simp[An,aP,aW,Qo,Qa,Qd,c1,c2,c3,A6,axm,hq,hwq]
 have gN:Pb false (Pb false e.la (b.p.ln-e.fr)) 100000000=la:=by
  rw[<- hla,mB];simp only[Pb];simp;omega
 rw[gN];refine Qk iP (aeC pre b post ls e la fm T) (fun f _=>(la-numOf (f 9)*1000000+1000000).toNat) ?_ ?_
 ·exact⟨q,b.pm,zd,⟨d1,d2⟩,hT,hpm,by simp[aP,aW,Qo,Qa,Qd]⟩
 rintro f m ⟨n,pm,h9,hn,bY,hpm',rfl⟩;have Iq:IntKind.i64.wrap (n*1000000)=n*1000000:=by rw[Ql]<;>omega
 have hwn:IntKind.i64.wrap (n+1)=n+1:=by rw[Ql]<;>omega
 rw[St]at bY;by_cases c4:n*1000000<=la
 ·rw[if_pos c4]at bY;have QW:=Gl (Zc b.p e.it n) fm e.fr (by have:=Gn b.p e.it n;omega) hf0.1 zE KV;obtain⟨R,hR⟩:∃R,Zc b.p e.it n=R:=⟨_,rfl⟩;have kf:=fun K'=>QV pre (post++[Qd e]) ls {b with pm:=pm} e.it n zE hc fu cT hpm' Y K';have hpn:=amc hpm' e.it n;obtain⟨N1,axn⟩:∃N1,pmN {b with pm:=pm} e.it n=N1:=⟨_,rfl⟩;rw[axn]at kf hpn;simp only at kf;rw[hR]at bY QW kf;cases hes:lP R fm e.fr with
  |none=>
   rw[hes]at bY QW;simp[h9,iP,Iq,c4,aP,aW,Qo,Qa,Qd];refine Qbf [(.sl .ro (R.map Qf),aP pre {b with pm:=N1} (post++[Qd e]) ls)] ?_;simp[h9,iP,Iq,c4,aP,aW,Qo,Qa,Qd,uJ,pO,hes,Wy,hwn];refine⟨kf _ ⟨rfl,rfl⟩,QW,aQ,⟨n+1,N1,zd,zE,bY,hpn,by simp[aP,aW,Qo,Qa,Qd]⟩,zE⟩
  |some s=>
   rw[hes]at bY QW;simp only at bY;by_cases c5:la<s
   ·rw[if_pos c5]at bY;subst bY;have:=hK N1 [Qd e] hpn;simp[h9,iP,Iq,c4,aP,aW,Qo,Qa,Qd];refine Qbf [(.sl .ro (R.map Qf),aP pre {b with pm:=N1} (post++[Qd e]) ls)] ?_;simp[h9,iP,Iq,c4,aP,aW,Qo,Qa,Qd,uJ,pO,hes,Wy,c5,vp];refine⟨kf _ ⟨rfl,rfl⟩,QW,?_⟩;simpa[aP,aW,Qo,Qa,Qd,Wy]using this
   rw[if_neg c5]at bY;subst bY;have:=hK N1 [Qd e] hpn;simp[h9,iP,Iq,c4,aP,aW,Qo,Qa,Qd];refine Qbf [(.sl .ro (R.map Qf),aP pre {b with pm:=N1} (post++[Qd e]) ls)] ?_;simp[h9,iP,Iq,c4,aP,aW,Qo,Qa,Qd,uJ,pO,hes,Wy,c5,vp];refine⟨kf _ ⟨rfl,rfl⟩,QW,?_⟩;simpa[aP,aW,Qo,Qa,Qd,Wy]using this
 rw[if_neg c4]at bY;subst bY;have:=hK pm [Qd e] hpm';simp[h9,iP,Iq,c4,vp];simpa[aP,aW,Qo,Qa,Qd,Wy]using this
open Go Go.Abs
def pP(n:Int)(us:List (Int×Int)):Prop:=∀k v,af k us=some v->0<=v/\v<=n
def pP.note{n:Int}{us:List (Int×Int)}(h:pP n us)(hn:0<=n)(it:Int):pP (n+1) (Vv us it):=fun k v hk=>by
 rw[Vv,Ja]at hk;split at hk
 ·cases hk;cases ha:af it us with
  |none=>simp;omega
  |some u=>have:=h it u ha;simp;omega
 have:=h k v hk;omega
def Qdb(p:Pl)(it:Int):(∃n y,Xg it p.aM=some y/\Xi [it] (bG ry (zU p)) 0=some (n,ry y))\/(Xg it p.aM=none/\Xi [it] (bG ry (zU p)) 0=none):=by
 rcases Xy ry it (zU p) 0 with⟨h1,h2,_,_⟩|⟨u,n,h1,h2,_⟩
 ·rw[uK]at h1;exact .inr ⟨h1,h2⟩
 rw[uK]at h1;exact .inl ⟨_,u,h1,h2⟩
def xK(us:List (Int×Int))(it:Int):(Xi [it] (bG iA us) 0=none/\bG iA us++[([it],.int .i64 1)]=bG iA (Vv us it))\/∃u n,af it us=some u/\Xi [it] (bG iA us) 0=some (n,.int .i64 u)/\(bG iA us).set n ([it],.int .i64 (u+1))=bG iA (Vv us it):=by
 rcases Xy iA it us 0 with⟨h1,h2,_,h4⟩|⟨u,n,h1,h2,_,_,_,h4⟩
 ·exact .inl ⟨h2,by rw[Vv,h1];exact h4 1⟩
 exact .inr ⟨u,n,h1,by rw[h2,zzbs],by rw[Vv,h1];exact h4 (u+1)⟩
def Qee(p:Pl)(en:List (Int×Int))(it e:Int){y:It}(hy:Xg it p.aM=some y):(Xi [y.sp] (bG iA en) 0=none/\bG iA en++[([y.sp],.int .i64 (if 0<e then e else 0))]=bG iA (Zm p en it e))\/∃u n,af y.sp en=some u/\Xi [y.sp] (bG iA en) 0=some (n,.int .i64 u)/\(bG iA en).set n ([y.sp],.int .i64 (if u<e then e else u))=bG iA (Zm p en it e):=by
 rcases Xy iA y.sp en 0 with⟨h1,h2,_,h4⟩|⟨u,n,h1,h2,_,_,_,h4⟩
 ·refine .inl ⟨h2,?_⟩;have:(if 0<e then e else 0)=max 0 e:=zE
  simp only[Zm,hy,h1,this];exact h4 _
 refine .inr ⟨u,n,h1,by rw[h2,zzbs],?_⟩;have:(if u<e then e else u)=max u e:=zE
 simp only[Zm,hy,h1,this];exact h4 _
def YJ(pre p0 bx:T5)(ls:Pa)(b:Bd)(us en:List (Int×Int))(it e:Int)(hu:pP 1000000000 us)(Y:YT)(K:So)(hK:∀ex,K (.aS []) (aP pre b (p0++([.aJ 0 (bG iA (Vv us it))]::[.aJ 0 (bG iA (Zm b.p en it e))]::(bx++ex))) ls)):
  aB Tryz.prog aD Y 168 [.ptr (pre.length+9) 0,.mp (pre.length+(p0.length+10)),.mp (pre.length+(p0.length+11)),I it,I e] (aP pre b (p0++([.aJ 0 (bG iA us)]::[.aJ 0 (bG iA en)]::bx)) ls) K:=by
 refine Xn MR (fun _ _ _=>.junk) zd ?_;have w1:IntKind.i64.wrap 1=1:=by decide
 rcases xK us it with⟨u2,u4⟩|⟨u,n,u1,u2,u4⟩
 ·rcases Qdb b.p it with⟨ni,y,hy,hi⟩|⟨hy,hi⟩
  ·rcases Qee b.p en it e hy with⟨e2,e4⟩|⟨v,nv,e1,e2,e4⟩
   ·simp[fG,fH,aP,aW,Qo,Qa,hi,ry,Qh,u2,e2,w1];rw[u4,e4];simpa[aP,aW,Qo,Qa,Qh]using hK [Qh y]
   simp[fG,fH,aP,aW,Qo,Qa,hi,ry,Qh,u2,e2,w1];rw[u4,e4];simpa[aP,aW,Qo,Qa,Qh]using hK [Qh y]
  have he:Zm b.p en it e=en:=by simp only[Zm,hy]
  rw[he]at hK;simp[fG,fH,aP,aW,Qo,Qa,hi,u2,w1];rw[u4];simpa[aP,aW,Qo,Qa]using hK [[I 0,I 0,I 0,I 0,I 0]]
 have hb:=hu it u u1;have wu:IntKind.i64.wrap (u+1)=u+1:=by rw[Ql]<;>omega
 rcases Qdb b.p it with⟨ni,y,hy,hi⟩|⟨hy,hi⟩
 ·rcases Qee b.p en it e hy with⟨e2,e4⟩|⟨v,nv,e1,e2,e4⟩
  ·simp[fG,fH,aP,aW,Qo,Qa,hi,ry,Qh,u2,e2,wu];rw[u4,e4];simpa[aP,aW,Qo,Qa,Qh]using hK [Qh y]
  simp[fG,fH,aP,aW,Qo,Qa,hi,ry,Qh,u2,e2,wu];rw[u4,e4];simpa[aP,aW,Qo,Qa,Qh]using hK [Qh y]
 have he:Zm b.p en it e=en:=by simp only[Zm,hy]
 rw[he]at hK;simp[fG,fH,aP,aW,Qo,Qa,hi,u2,wu];rw[u4];simpa[aP,aW,Qo,Qa]using hK [[I 0,I 0,I 0,I 0,I 0]]
def aeE(pre post:T5)(ls:Pa)(b:Bd)(us en:List (Int×Int))(it e:Int)(hu:pP 1000000000 us)(Y:YT)(K:So)(hK:∀ex,K (.aS []) (aP pre {b with us:=Vv us it,en:=Zm b.p en it e} (post++ex) ls)):
  aB Tryz.prog aD Y 168 [.ptr (pre.length+9) 0,.mp (pre.length+4),.mp (pre.length+5),I it,I e] (aP pre {b with us:=us,en:=en} post ls) K:=by
 refine Xn MR (fun _ _ _=>.junk) zd ?_;have w1:IntKind.i64.wrap 1=1:=by decide
 rcases xK us it with⟨u2,u4⟩|⟨u,n,u1,u2,u4⟩
 ·rcases Qdb b.p it with⟨ni,y,hy,hi⟩|⟨hy,hi⟩
  ·rcases Qee b.p en it e hy with⟨e2,e4⟩|⟨v,nv,e1,e2,e4⟩
   ·simp[fG,fH,aP,aW,Qo,Qa,hi,ry,Qh,u2,e2,w1];rw[u4,e4];simpa[aP,aW,Qo,Qa,Qh]using hK [Qh y]
   simp[fG,fH,aP,aW,Qo,Qa,hi,ry,Qh,u2,e2,w1];rw[u4,e4];simpa[aP,aW,Qo,Qa,Qh]using hK [Qh y]
  have he:Zm b.p en it e=en:=by simp only[Zm,hy]
  rw[he]at hK;simp[fG,fH,aP,aW,Qo,Qa,hi,u2,w1];rw[u4];simpa[aP,aW,Qo,Qa]using hK [[I 0,I 0,I 0,I 0,I 0]]
 have hb:=hu it u u1;have wu:IntKind.i64.wrap (u+1)=u+1:=by rw[Ql]<;>omega
 rcases Qdb b.p it with⟨ni,y,hy,hi⟩|⟨hy,hi⟩
 ·rcases Qee b.p en it e hy with⟨e2,e4⟩|⟨v,nv,e1,e2,e4⟩
  ·simp[fG,fH,aP,aW,Qo,Qa,hi,ry,Qh,u2,e2,wu];rw[u4,e4];simpa[aP,aW,Qo,Qa,Qh]using hK [Qh y]
  simp[fG,fH,aP,aW,Qo,Qa,hi,ry,Qh,u2,e2,wu];rw[u4,e4];simpa[aP,aW,Qo,Qa,Qh]using hK [Qh y]
 have he:Zm b.p en it e=en:=by simp only[Zm,hy]
 rw[he]at hK;simp[fG,fH,aP,aW,Qo,Qa,hi,u2,wu];rw[u4];simpa[aP,aW,Qo,Qa]using hK [[I 0,I 0,I 0,I 0,I 0]]
