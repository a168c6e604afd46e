import Derived.Test.YthjppoincojfkaaGreatDoorRAMR
set_option linter.all false
set_option maxRecDepth 100000
set_option maxHeartbeats 64000000
namespace Go.Proofs.YthjppoincojfkaaGreatDoor
open Go Go.Abs
def Xa(n:Int):P2:=[I n]
def YB(LL:List (Rt×List Sp))(f:Nat->AV)(m:AM):Prop:=∃(i:Nat)(bx:T5),f 11=I i/\i<=LL.length/\f 3=I (((LL.take i).map fun x=>x.2).flatten.length:Nat)/\m=⟨bx,[],fun _=>.gone,0⟩
def YC(LL:List (Rt×List Sp))(f:Nat->AV)(m:AM):Prop:=∃(i:Nat)(rt:Rt)(ls:Pa)(bx:T5),f 27=I i/\i<=LL.length/\f 6=.sl rt (((LL.take i).map fun x=>x.2).flatten.map Qe)/\
 (((LL.take i).map fun x=>x.2).flatten=[]/\rt=.nil/\i=0\/∃k,rt=.own k 2/\ls[k]?=some ((LL.take i).map fun x=>x.2).flatten.length)/\m=⟨bx,ls,fun _=>.gone,0⟩
def N4(LL:List (Rt×List Sp)){i:Nat}{x:Rt×List Sp}(h:LL[i]?=some x):((LL.take (i+1)).map fun x=>x.2).flatten=((LL.take i).map fun x=>x.2).flatten++x.2:=by
 simp[zzax,h]
def N5(LL:List (Rt×List Sp))(i:Nat):((LL.take i).map fun x=>x.2).flatten.length<=(LL.map fun x=>x.2).flatten.length:=by
 have h:(LL.map fun x=>x.2)=((LL.take i).map fun x=>x.2)++(LL.drop i).map fun x=>x.2:=by rw[<- zzcg,zzdy]
 rw[h,zzei,zzak];omega
def uR:UV:=fun _ f _=>if f=270 then .gd false .junk else .junk
def QW(LL:List (Rt×List Sp))(aO:LL≠[])(hl:LL.length<=1000000)(hf:(LL.map fun x=>x.2).flatten.length<=1000000000):Pure Tryz.prog aD 266 [.sl .full (LL.map fun x=>[.sl x.1 (x.2.map Qe)])] (.sl .ro ((LL.map fun x=>x.2).flatten.map Qe)):=by
 have lD:=zzdd.2 aO;have lZ:LL.take LL.length=LL:=zzbx;refine Qo ads uR zd ?_;simp[ahX];refine Qk Ck (YB LL) (fun f _=>LL.length-(numOf (f 11)).toNat) ?_ ?_
 ·exact⟨0,[],zd,zE,zd,rfl⟩
 rintro f m ⟨i,bx,pE,hi,h3,rfl⟩;rcases zzaa i LL.length with ai|bn
 ·obtain⟨x,hx⟩:=aV ai;have ah:Qj (LL.map fun x=>[.sl x.1 (x.2.map Qe)]) i=[.sl x.1 (x.2.map Qe)]:=Qu (by simp[hx]);have aa:(i:Int)<(LL.length:Int):=zE
  have hw:=bO i zE;have hc:=N4 LL hx;have qu:=N5 LL (i+1);obtain⟨n,hn⟩:∃n,((LL.take i).map fun x=>x.2).flatten.length=n:=⟨_,rfl⟩;have hcn:((LL.take (i+1)).map fun x=>x.2).flatten.length=n+x.2.length:=by rw[hc,zzak,hn]
  rw[hn]at h3;have fW:IntKind.i64.wrap ((n:Int)+(x.2.length:Int))=((n+x.2.length:Nat):Int):=by rw[Ql]<;>omega
  have AB:¬(n:Int)+(x.2.length:Int)<0:=zE
  simp[pE,h3,ai,aa,ah,Ck,hw,fW,AB];refine⟨aQ,⟨i+1,_,zd,zE,by rw[hcn];simp[fW],rfl⟩,zE⟩
 have bQ:¬(i:Int)<(LL.length:Int):=zE
 obtain rfl:i=LL.length:=zE
 rw[lZ]at h3;obtain⟨n,hn⟩:∃n,(LL.map fun x=>x.2).flatten.length=n:=⟨_,rfl⟩;rw[hn]at h3 hf;have fin:∀(rt:Rt)(ls:Pa),(rt=.nil\/∃k,rt=.own k 2/\ls[k]?=some 0)->∀(E:QQ),True:=fun _ _ _ _=>trivial;simp[pE,h3,bQ,zzbk.2 bn,Ck,uR];refine aeD hf (fun h0=>?_) (fun h0=>?_)
 all_goals
  try simp[pE,h3,Ck]
  refine Qk Cm (YC LL) (fun f _=>LL.length-(numOf (f 27)).toNat) ?_ ?_
 ·exact⟨0,.nil,[],bx,zd,zE,zd,.inl ⟨zd,rfl,rfl⟩,rfl⟩
 rotate_left
 ·exact⟨0,.own 0 2,[0],bx,zd,zE,zd,.inr ⟨0,rfl,zd⟩,rfl⟩
 all_goals
  clear h0;rintro f m ⟨i,rt,ls,bx,h27,hi,h6,aX,rfl⟩;rcases zzaa i LL.length with ai|bn
  ·obtain⟨x,hx⟩:=aV ai;have ah:Qj (LL.map fun x=>[.sl x.1 (x.2.map Qe)]) i=[.sl x.1 (x.2.map Qe)]:=Qu (by simp[hx]);have aa:(i:Int)<(LL.length:Int):=zE
   have hw:=bO i zE;have hc:=N4 LL hx;have qu:=N5 LL (i+1);obtain⟨F,hF⟩:∃F,((LL.take i).map fun x=>x.2).flatten=F:=⟨_,rfl⟩;rw[hF]at h6 aX hc;rw[hc,zzak,hn]at qu;obtain⟨rfl,rfl,rfl⟩|⟨k,rfl,hk⟩:=aX
   ·have lJ:IntKind.i64.wrap 1=1:=by decide
    simp[h27,h6,ai,aa,ah,Cm,hw,lJ,uR];refine⟨⟨?_,zE⟩,aQ,⟨1,.own ls.length 2,_,bx,zd,zE,by rw[hc];simp,.inr ⟨ls.length,rfl,by rw[hc];simp⟩,rfl⟩,zE⟩
    ·rintro a b row _ rfl;rfl
   have oQ:=(zza.1 hk).1;simp[h27,h6,ai,aa,ah,Cm,hw,hk,uR];refine⟨⟨?_,zE⟩,aQ,⟨i+1,.own k 2,_,bx,zd,zE,by rw[hc];simp,.inr ⟨k,rfl,by rw[hc];simp[oQ]⟩,rfl⟩,zE⟩
   ·rintro row (⟨a,b,_,rfl⟩|⟨a,b,_,rfl⟩)<;>rfl
  have bQ:¬(i:Int)<(LL.length:Int):=zE
  obtain rfl:i=LL.length:=zE
  rw[lZ]at h6 aX;obtain⟨_,_,h0⟩|⟨k,rfl,hk⟩:=aX
  ·omega
  simp[h27,h6,bQ,zzbk.2 bn,Cm,ahY]
open Go Go.Abs
def aeE(LL:List (Rt×Pi))(f:Nat->AV)(m:AM):Prop:=∃(i:Nat)(bx:T5),f 11=I i/\i<=LL.length/\f 3=I (((LL.take i).map fun x=>x.2).flatten.length:Nat)/\m=⟨bx,[],fun _=>.gone,0⟩
def aeF(LL:List (Rt×Pi))(f:Nat->AV)(m:AM):Prop:=∃(i:Nat)(rt:Rt)(ls:Pa)(bx:T5),f 27=I i/\i<=LL.length/\f 6=.sl rt (((LL.take i).map fun x=>x.2).flatten.map Xa)/\
 (((LL.take i).map fun x=>x.2).flatten=[]/\rt=.nil/\i=0\/∃k,rt=.own k 1/\ls[k]?=some ((LL.take i).map fun x=>x.2).flatten.length)/\m=⟨bx,ls,fun _=>.gone,0⟩
def YD(LL:List (Rt×Pi)){i:Nat}{x:Rt×Pi}(h:LL[i]?=some x):((LL.take (i+1)).map fun x=>x.2).flatten=((LL.take i).map fun x=>x.2).flatten++x.2:=by
 simp[zzax,h]
def YF(LL:List (Rt×Pi))(i:Nat):((LL.take i).map fun x=>x.2).flatten.length<=(LL.map fun x=>x.2).flatten.length:=by
 have h:(LL.map fun x=>x.2)=((LL.take i).map fun x=>x.2)++(LL.drop i).map fun x=>x.2:=by rw[<- zzcg,zzdy]
 rw[h,zzei,zzak];omega
def Dm:UV:=fun _ f _=>if f=230 then .gd false .junk else .junk
def YG(LL:List (Rt×Pi))(aO:LL≠[])(hl:LL.length<=1000000)(hf:(LL.map fun x=>x.2).flatten.length<=1000000000):Pure Tryz.prog aD 174 [.sl .full (LL.map fun x=>[.sl x.1 (x.2.map Xa)])] (.sl .ro ((LL.map fun x=>x.2).flatten.map Xa)):=by
 have lD:=zzdd.2 aO;have lZ:LL.take LL.length=LL:=zzbx;refine Qo acy Dm zd ?_;simp[agT];refine Qk Cc (aeE LL) (fun f _=>LL.length-(numOf (f 11)).toNat) ?_ ?_
 ·exact⟨0,[],zd,zE,zd,rfl⟩
 rintro f m ⟨i,bx,pE,hi,h3,rfl⟩;rcases zzaa i LL.length with ai|bn
 ·obtain⟨x,hx⟩:=aV ai;have ah:Qj (LL.map fun x=>[.sl x.1 (x.2.map Xa)]) i=[.sl x.1 (x.2.map Xa)]:=Qu (by simp[hx]);have aa:(i:Int)<(LL.length:Int):=zE
  have hw:=bO i zE;have hc:=YD LL hx;have qu:=YF LL (i+1);obtain⟨n,hn⟩:∃n,((LL.take i).map fun x=>x.2).flatten.length=n:=⟨_,rfl⟩;have hcn:((LL.take (i+1)).map fun x=>x.2).flatten.length=n+x.2.length:=by rw[hc,zzak,hn]
  rw[hn]at h3;have fW:IntKind.i64.wrap ((n:Int)+(x.2.length:Int))=((n+x.2.length:Nat):Int):=by rw[Ql]<;>omega
  have AB:¬(n:Int)+(x.2.length:Int)<0:=zE
  simp[pE,h3,ai,aa,ah,Cc,hw,fW,AB];refine⟨aQ,⟨i+1,_,zd,zE,by rw[hcn];simp[fW],rfl⟩,zE⟩
 have bQ:¬(i:Int)<(LL.length:Int):=zE
 obtain rfl:i=LL.length:=zE
 rw[lZ]at h3;obtain⟨n,hn⟩:∃n,(LL.map fun x=>x.2).flatten.length=n:=⟨_,rfl⟩;rw[hn]at h3 hf;have fin:∀(rt:Rt)(ls:Pa),(rt=.nil\/∃k,rt=.own k 1/\ls[k]?=some 0)->∀(E:QQ),True:=fun _ _ _ _=>trivial;simp[pE,h3,bQ,zzbk.2 bn,Cc,Dm];refine aeG hf (fun h0=>?_) (fun h0=>?_)
 all_goals
  try simp[pE,h3,Cc]
  refine Qk Cd (aeF LL) (fun f _=>LL.length-(numOf (f 27)).toNat) ?_ ?_
 ·exact⟨0,.nil,[],bx,zd,zE,zd,.inl ⟨zd,rfl,rfl⟩,rfl⟩
 rotate_left
 ·exact⟨0,.own 0 1,[0],bx,zd,zE,zd,.inr ⟨0,rfl,zd⟩,rfl⟩
 all_goals
  clear h0;rintro f m ⟨i,rt,ls,bx,h27,hi,h6,aX,rfl⟩;rcases zzaa i LL.length with ai|bn
  ·obtain⟨x,hx⟩:=aV ai;have ah:Qj (LL.map fun x=>[.sl x.1 (x.2.map Xa)]) i=[.sl x.1 (x.2.map Xa)]:=Qu (by simp[hx]);have aa:(i:Int)<(LL.length:Int):=zE
   have hw:=bO i zE;have hc:=YD LL hx;have qu:=YF LL (i+1);obtain⟨F,hF⟩:∃F,((LL.take i).map fun x=>x.2).flatten=F:=⟨_,rfl⟩;rw[hF]at h6 aX hc;rw[hc,zzak,hn]at qu;obtain⟨rfl,rfl,rfl⟩|⟨k,rfl,hk⟩:=aX
   ·have lJ:IntKind.i64.wrap 1=1:=by decide
    simp[h27,h6,ai,aa,ah,Cd,hw,lJ,Dm];refine⟨⟨?_,zE⟩,aQ,⟨1,.own ls.length 1,_,bx,zd,zE,by rw[hc];simp,.inr ⟨ls.length,rfl,by rw[hc];simp⟩,rfl⟩,zE⟩
    ·first|(rintro a _;rfl)|(rintro row a _ rfl;rfl)
   have oQ:=(zza.1 hk).1;simp[h27,h6,ai,aa,ah,Cd,hw,hk,Dm];refine⟨⟨?_,zE⟩,aQ,⟨i+1,.own k 1,_,bx,zd,zE,by rw[hc];simp,.inr ⟨k,rfl,by rw[hc];simp[oQ]⟩,rfl⟩,zE⟩
   ·rintro row (⟨a,_,rfl⟩|⟨a,_,rfl⟩)<;>rfl
  have bQ:¬(i:Int)<(LL.length:Int):=zE
  obtain rfl:i=LL.length:=zE
  rw[lZ]at h6 aX;obtain⟨_,_,h0⟩|⟨k,rfl,hk⟩:=aX
  ·omega
  simp[h27,h6,bQ,zzbk.2 bn,Cd,agU]
open Go Go.Abs
def YH(A B:List Sp)(h:A.length+B.length<=100000000):Pure Tryz.prog aD 252 [.sl .ro (A.map Qe),.sl .ro (B.map Qe)] (.sl .ro ((Xl (A++B)).map Qe)):=by
 have asJ:=QW [(.ro,A),(.ro,B)] zd zd (by simp;omega);have YI:=Us (A++B) (by simp;omega);refine Qo ado (fun _ f _=>if f=266 then .sl .ro ((A++B).map Qe)else .sl .ro ((Xl (A++B)).map Qe)) zd ?_;simp at asJ YI;simp[ahS,ahT];exact⟨asJ,YI⟩
def aeH(s:Sp)(h1:0<=s.1)(h2:s.1<=s.2)(h3:s.2<=9223372036854775807):Pure Tryz.prog aD 251 [.agg (Qe s)] (.int .u64 (s.2-s.1)):=by
 have w1:IntKind.u64.wrap s.1=s.1:=by simp[IntKind.wrap,IntKind.bits,IntKind.signed];omega
 have w2:IntKind.u64.wrap s.2=s.2:=by simp[IntKind.wrap,IntKind.bits,IntKind.signed];omega
 have w3:IntKind.u64.wrap (s.2-s.1)=s.2-s.1:=by simp[IntKind.wrap,IntKind.bits,IntKind.signed];omega
 refine Qo adn (fun _ _ _=>.junk) zd ?_;simp[ahQ,ahR,Qe,w1,w2,w3]
def Gy:Option Int->AV
 |some s=>.aS [I s,.bool true]
 |none=>.aS [I 0,.bool false]
def Gz(L:List Sp):UV:=fun _ f l=>if f=131 then .sl .ro (L.map Qe)else if f=185 then(match l with|[.agg [.int _ a,.int _ b]]=>.bool (decide (b<=a))|_=>.junk)else
 (match l with|[.agg [.int _ a,.int _ b]]=>.int .u64 (b-a)|_=>.junk)
def asK(a n:Int)(L:List Sp)(T:Option Int)(f:Nat->AV)(m:AM):Prop:=∃(i:Nat)(bx:T5),f 17=I i/\i<=L.length/\Gv a n (L.drop i)=T/\m=⟨bx,[],fun _=>.gone,0⟩
def GA(l:List Sp)(a n:Int)(hl:l.length<=100000000)(ha:0<=a)(hn:1<=n/\n<=1000000)(hb:∀s∈l,s.1<=1000000000000/\s.2<=1000000000000):Pure Tryz.prog aD 228 [.sl .ro (l.map Qe),I a,I n] (Gy (lP l a n)):=by
 have YI:=Us l hl;obtain⟨T,hT⟩:∃T,lP l a n=T:=⟨_,rfl⟩;rw[hT];rw[lP,if_neg zE]at hT;have hbL:=YJ (P:=fun x=>x<=1000000000000) (l:=l) hb;have hLl:=Yy l;generalize Xl l=L at YI hT hbL hLl;have gA:¬n<=0:=zE
 refine Qo ac7 (Gz L) zd ?_;simp[T1,Gz,gA];refine⟨YI,?_⟩;refine Qk vI (asK a n L T) (fun f _=>L.length-(numOf (f 17)).toNat) ?_ ?_
 ·exact⟨0,[],zd,zE,Nm hT,rfl⟩
 rintro f m ⟨i,bx,h17,hi,hx,rfl⟩;rcases zzaa i L.length with ai|bn
 ·obtain⟨s,hs⟩:=aV ai;have ah:Qj (L.map Qe) i=Qe s:=Zx hs;have aa:(i:Int)<(L.length:Int):=zE
  have hw:=bO i zE;rw[Zb hs,Gv]at hx;obtain⟨q,hq⟩:∃q,max s.1 a=q:=⟨_,rfl⟩;have hqm:(if s.1<a then a else s.1)=q:=zE
  have YK:Abs.Pure Tryz.prog aD 185 [.agg (Qe (q,s.2))] (.bool (decide (s.2<=q))):=nQ (q,s.2);rw[hq]at hx;have hu:IntKind.u64.wrap n=n:=by simp[IntKind.wrap,IntKind.bits,IntKind.signed];omega
  by_cases c1:s.2<=q
  ·rw[if_neg zE]at hx;rw[decide_eq_true c1]at YK;simp[h17,ai,aa,ah,Qe,hqm,c1,vI,hw,Gz];refine⟨by simpa[Qe]using YK,aQ,⟨i+1,_,zd,zE,hx,rfl⟩,zE⟩
  have asL:=aeH (q,s.2) (by simp only;omega) (by simp only;omega) (by
   have:=hbL s (zzae hs);simp only;omega)
  rw[decide_eq_false c1]at YK;by_cases c2:n<=s.2-q
  ·rw[if_pos zE]at hx;subst hx;simp[h17,ai,aa,ah,Qe,hqm,c1,c2,hu,vI,T2,Gz,Gy];exact⟨by simpa[Qe]using YK,by simpa[Qe]using asL⟩
  rw[if_neg zE]at hx;simp[h17,ai,aa,ah,Qe,hqm,c1,c2,hu,vI,hw,Gz];refine⟨by simpa[Qe]using YK,by simpa[Qe]using asL,aQ,⟨i+1,_,zd,zE,hx,rfl⟩,zE⟩
 have bQ:¬(i:Int)<(L.length:Int):=zE
 rw[zzal bn]at hx;have hx:none=T:=hx;subst hx;simp[h17,bQ,zzbk.2 bn,vI,T2,Gy]
open Go Go.Abs
def pf(k:Int×Int):List ((Int×Int)×List Sp)->Option (List Sp)
 |[]=>none
 |x::r=>if x.1=k then some x.2 else pf k r
def GB(k:Int×Int):∀(l:List ((Int×Int)×List Sp))(i:Nat),(pf k l=none/\Xi [k.1,k.2] (St l) i=none)\/∃v n,pf k l=some v/\Xi [k.1,k.2] (St l) i=some (n,.sl .ro (v.map Qe))
 |[],i=>.inl ⟨rfl,rfl⟩
 |x::r,i=>by
  by_cases h:x.1=k
  ·exact .inr ⟨x.2,i,by rw[pf,if_pos h],by simp[St,Xi,h]⟩
  have hk:¬([k.1,k.2]:Pi)=[x.1.1,x.1.2]:=by
   intro e;simp only[List.cons.injEq,and_true]at e;exact h (Prod.ext e.1.symm e.2.symm)
  rcases GB k r (i+1)with⟨h1,h2⟩|⟨v,n,h1,h2⟩
  ·refine .inl ⟨by rw[pf,if_neg h];exact h1,?_⟩;simp only[St,zzaz,Xi];rw[if_neg hk];exact h2
  refine .inr ⟨v,n,by rw[pf,if_neg h];exact h1,?_⟩;simp only[St,zzaz,Xi];rw[if_neg hk];exact h2
def YL(k q:Int×Int)(v:List Sp):∀(l:List ((Int×Int)×List Sp)),pf q (l++[(k,v)])=match pf q l with|some u=>some u|none=>if k=q then some v else none
 |[]=>rfl
 |x::r=>by
  rw[zzad,pf,YL k q v r,pf];by_cases h:x.1=q<;>simp[h]
def K4(b:Bd):Prop:=∀k v,pf k b.pm=some v->v=Za b.p k.1 k.2
def pmN(b:Bd)(it n:Int):List ((Int×Int)×List Sp):=match pf (it,n) b.pm with
 |some _=>b.pm
 |none=>b.pm++[((it,n),Za b.p it n)]
def amg{b:Bd}(h:K4 b)(it n:Int):K4 {b with pm:=pmN b it n}:=fun k v hk=>by
 simp only[pmN]at hk;cases hp:pf (it,n) b.pm with
 |some u=>rw[hp]at hk;exact h k v hk
 |none=>
  rw[hp]at hk;simp only[YL]at hk;cases hq:pf k b.pm with
  |some u=>rw[hq]at hk;cases hk;exact h k _ hq
  |none=>
   rw[hq]at hk;simp only at hk;split at hk
   ·rename_i e;cases hk;rw[<- e]
   cases hk
def K5{pre post:T5}{b:Bd}(pm:List ((Int×Int)×List Sp))(ls:Pa)(id:Nat)(cells:P2)(h:(aP pre {b with pm:=pm} post ls).boxes[id]?=some cells):(aP pre b post ls).boxes[id]?=some cells\/YM cells:=by
 simp only[aP]at h |-
 rcases zzaa id pre.length with ai|bn
 ·rw[zzaj ai]at h |-
  exact .inl h
 rw[zzap bn]at h |-
 match hk:id-pre.length,h with
 |0,h=>exact .inl h
 |1,h=>exact .inl h
 |2,h=>exact .inl h
 |3,h=>exact .inl h
 |4,h=>exact .inl h
 |5,h=>exact .inl h
 |6,h=>exact .inl h
 |7,h=>exact .inl h
 |8,h=>
  refine .inr (.inr ⟨2,St pm,?_,?_⟩)
  ·simp[aW]at h;exact h.symm
  intro e he;obtain⟨x,_,rfl⟩:=zzbg.1 he;exact Idle.ro _
 |9,h=>exact .inl h
 |k+10,h=>exact .inl h
def FrK(pre:T5)(b:Bd)(pm:List ((Int×Int)×List Sp))(post:T5)(ls:Pa)(K:So)(r:AV)(m:AM):Prop:=∃ex,m=aP pre {b with pm:=pm} (post++ex) ls/\Idle r/\K r (aP pre {b with pm:=pm} post ls)
def frK{pre:T5}{b:Bd}{pm:List ((Int×Int)×List Sp)}{post:T5}{ls:Pa}{K:So}{r:AV}{m:AM}(ex:T5)(h:m=aP pre {b with pm:=pm} (post++ex) ls)(hi:Idle r)(hK:K r (aP pre {b with pm:=pm} post ls)):FrK pre b pm post ls K r m:=⟨ex,h,hi,hK⟩
def QX{f:FuncId}{xs:P2}{pre post:T5}{b:Bd}{pm:List ((Int×Int)×List Sp)}{ls:Pa}{Y:YT}{K:So}(h:aB Tryz.prog aD Y f xs (aP pre b post ls) (FrK pre b pm post ls K)):aB Tryz.prog aD Y f xs (aP pre b post ls) K:=by
 refine aB.forget (aB.mono h ?_);rintro r m' ⟨ex,rfl,h1,h2⟩;refine⟨aP pre {b with pm:=pm} post ls,ex,?_,?_,rfl,fun id cells hc=>K5 pm ls id cells hc,h1,h2⟩
 ·simp[aP,aW]
 simp[aP,aW]
def aiL(p:Pl)(it:Int):UV:=fun d f l=>if f=40 then(match l with|[_,_,_,.agg [.int _ a,.int _ c]]=>.sl .ro ((Vw p it 0 (a,c)).map Qe)|_=>.junk)else
 (match l with|[.sl _ a,.sl _ c]=>.sl .ro ((Xl (a.map ry++c.map ry)).map Qe)|_=>.junk)
def pS(l:List Sp):(l.map Qe).map ry=l:=by
 rw[zzcu]
 conv=>rhs;rw[<- List.map_id l]
 exact zzct fun x _=>rfl
def QY(pre post:T5)(ls:Pa)(b:Bd)(it n:Int)(hn:0<=n/\n<=1000)(hc:b.p.cls.length<=1000000)(fB:b.p.sh.length<=1000000000)(cU:b.p.aN.length<=1000000000)(hpm:K4 b)(Y:YT)(K:So)
  (hK:K (.sl .ro ((Za b.p it n).map Qe)) (aP pre {b with pm:=pmN b it n} post ls)):
  aB Tryz.prog aD Y 229 [.ptr (pre.length+9) 0,.agg [I it,I n]] (aP pre b post ls) K:=by
 refine QX (pm:=pmN b it n) ?_;have w1:IntKind.i64.wrap (n*1000000)=n*1000000:=by rw[Ql]<;>omega
 have w2:IntKind.i64.wrap (n+1)=n+1:=by rw[Ql]<;>omega
 have w3:IntKind.i64.wrap ((n+1)*1000000)=(n+1)*1000000:=by rw[Ql]<;>omega
 have w4:IntKind.i64.wrap (n+2)=n+2:=by rw[Ql]<;>omega
 have w5:IntKind.i64.wrap ((n+2)*1000000)=(n+2)*1000000:=by rw[Ql]<;>omega
 have k1:=nM b.p it 0 (n*1000000,(n+1)*1000000) hc fB cU (by simp only;omega) (by simp only;omega);have k2:=nM b.p it 0 ((n+1)*1000000,(n+2)*1000000) hc fB cU (by simp only;omega) (by simp only;omega);have l1:=Qda b.p it 0 (n*1000000,(n+1)*1000000);have l2:=Qda b.p it 0 ((n+1)*1000000,(n+2)*1000000);have k3:=YH (Vw b.p it 0 (n*1000000,(n+1)*1000000)) (Vw b.p it 0 ((n+1)*1000000,(n+2)*1000000)) zE;have zJ:Za b.p it n=Xl (Vw b.p it 0 (n*1000000,(n+1)*1000000)++Vw b.p it 0 ((n+1)*1000000,(n+2)*1000000)):=rfl;rw[<- zJ]at k3;obtain⟨R,hR⟩:∃R,Za b.p it n=R:=⟨_,rfl⟩;refine Xn ac8 (aiL b.p it) zd ?_;rcases GB (it,n) b.pm 0 with⟨h1,h2⟩|⟨v,j,h1,h2⟩
 ·have hp:pmN b it n=b.pm++[((it,n),Za b.p it n)]:=by simp only[pmN,h1]
  have kJ:St (pmN b it n)=St b.pm++[([it,n],.sl .ro ((Za b.p it n).map Qe))]:=by rw[hp];simp[St]
  simp[T3,T4,aP,aW,Qp,Qa,h2,w1,w2,w3,w4,w5,aiL,pS,<- zJ];refine⟨by simpa[Qa]using k1,by simpa[Qa]using k2,k3,?_⟩;rw[<- kJ];exact frK [[I it,I n]] rfl (Idle.ro _) hK
 have hv:=hpm _ _ h1;have hp:pmN b it n=b.pm:=by simp only[pmN,h1]
 rw[hp]at hK |-
 rw[<- hv]at hK;simp[T3,T4,aP,aW,Qp,Qa,h2];exact frK [[I it,I n]] rfl (Idle.ro _) hK
def K6{p:Pl}{it n:Int}:∀s∈Za p it n,s.1<=1000000000000/\s.2<=1000000000000:=fun s hs=>by
 have hv:=(Zy (Vw p it 0 (n*1000000,(n+1)*1000000)++Vw p it 0 ((n+1)*1000000,(n+2)*1000000))).1.1 s hs;have h1:Xv (Za p it n) s.1:=⟨s,hs,zE,zE⟩;have h2:Xv (Za p it n) (s.2-1):=⟨s,hs,zE,zE⟩;rw[Qci]at h1 h2;obtain⟨_,_,_,_,_,O9,_⟩:=h1;obtain⟨_,_,_,_,_,hx2,_⟩:=h2;omega
def GC(p:Pl)(it n:Int):(Za p it n).length<=2000000:=by
 have h:=Yy (Vw p it 0 (n*1000000,(n+1)*1000000)++Vw p it 0 ((n+1)*1000000,(n+2)*1000000));have l1:=Qda p it 0 (n*1000000,(n+1)*1000000);have l2:=Qda p it 0 ((n+1)*1000000,(n+2)*1000000);rw[zzak]at h;have:(Za p it n).length<=_:=h;omega
def uT:UV:=fun _ f l=>if f=229 then .gd false .junk else(match l with|[.sl _ a,.int _ x,.int _ n]=>Gy (lP (a.map ry) x n)|_=>.junk)
def aeI(pre:T5)(b:Bd)(post:T5)(ls:Pa)(e:En)(last from_:Int)(T:Option Int)(f:Nat->AV)(m:AM):Prop:=∃(n:Int)(pm:List ((Int×Int)×List Sp)),
 f 9=I n/\(0<=n/\n<=9223372036854)/\Ss b.p e last from_ n=T/\K4 {b with pm:=pm}/\m=aP pre {b with pm:=pm} (post++[Qd e]) ls
def aeJ{from_:Int}(h0:0<=from_)(h1:from_<=9223372036854775807):0<=from_.tdiv 1000000/\from_.tdiv 1000000<=9223372036854:=by
 rw[zzcj h0];omega
def N6(pre post:T5)(ls:Pa)(b:Bd)(e:En)(from_:Int)(hc:b.p.cls.length<=1000000)(fB:b.p.sh.length<=1000000000)(cU:b.p.aN.length<=1000000000)(dG:b.p.ln<=9223372036854775807)(zJ:from_<=9223372036854775807)
  (hpm:K4 b)(Y:YT)(K:So)(hK:∀pm ex,K4 {b with pm:=pm}->K (Gy (Yk b.p e from_)) (aP pre {b with pm:=pm} (post++ex) ls)):
  aB Tryz.prog aD Y 172 [.ptr (pre.length+9) 0,.agg (Qd e),I from_] (aP pre b post ls) K:=by
 refine Xn acw uT zd ?_
 have no:Yk b.p e from_=none->K (.aS [I 0,.bool false]) (aP pre b (post++[Qd e]) ls):=fun h=>by
  have:=hK b.pm [Qd e] hpm;rw[h]at this;exact this
 by_cases c1:e.fr<1
 ·simp[Aq,vE,aP,aW,Qp,Qa,Qd,c1];exact no (by rw[Yk,if_pos (.inl c1)])
 by_cases c2:1000000<e.fr
 ·simp[Aq,vE,aP,aW,Qp,Qa,Qd,c1,c2];exact no (by rw[Yk,if_pos (.inr (.inl c2))])
 by_cases c3:b.p.ln<e.fr
 ·simp[Aq,vE,aP,aW,Qp,Qa,Qd,c1,c2,c3];exact no (by rw[Yk,if_pos (.inr (.inr c3))])
 have hS:Yk b.p e from_=Ss b.p e (mC b.p e) (max from_ 0) ((max from_ 0).tdiv 1000000):=by rw[Yk,if_neg zE]
 rw[hS]at hK;clear no;obtain⟨fm,hfm⟩:∃fm,max from_ 0=fm:=⟨_,rfl⟩;have axm:(if from_<0 then 0 else from_)=fm:=zE
 have hf0:0<=fm/\fm<=9223372036854775807:=zE
 obtain⟨d1,d2⟩:=aeJ hf0.1 hf0.2;rw[hfm]at hK;have hwq:IntKind.i64.wrap (fm.tdiv 1000000)=fm.tdiv 1000000:=by rw[Ql]<;>omega
 have hwl:IntKind.i64.wrap (b.p.ln-e.fr)=b.p.ln-e.fr:=by rw[Ql]<;>omega
 obtain⟨q,hq⟩:∃q,fm.tdiv 1000000=q:=⟨_,rfl⟩;rw[hq]at hwq d1 d2 hK;obtain⟨la,hla⟩:∃la,mC b.p e=la:=⟨_,rfl⟩;have hlb:la<=100000000:=by rw[<- hla,mC];omega
 rw[hla]at hK;obtain⟨T,hT⟩:∃T,Ss b.p e la fm q=T:=⟨_,rfl⟩;rw[hT]at hK;simp[Aq,aP,aW,Qp,Qa,Qd,c1,c2,c3,hwl,axm,hq,hwq]
 have gP:O6 false (O6 false e.la (b.p.ln-e.fr)) 100000000=la:=by
  rw[<- hla,mC];simp only[O6];simp;omega
 rw[gP];refine Qk iR (aeI pre b post ls e la fm T) (fun f _=>(la-numOf (f 9)*1000000+1000000).toNat) ?_ ?_
 ·exact⟨q,b.pm,zd,⟨d1,d2⟩,hT,hpm,by simp[aP,aW,Qp,Qa,Qd]⟩
 rintro f m ⟨n,pm,h9,hn,bZ,hpm',rfl⟩;have Iy:IntKind.i64.wrap (n*1000000)=n*1000000:=by rw[Ql]<;>omega
 have hwn:IntKind.i64.wrap (n+1)=n+1:=by rw[Ql]<;>omega
 rw[Ss]at bZ;by_cases c4:n*1000000<=la
 ·rw[if_pos c4]at bZ;have QZ:=GA (Za b.p e.it n) fm e.fr (by have:=GC b.p e.it n;omega) hf0.1 zE K6;obtain⟨R,hR⟩:∃R,Za b.p e.it n=R:=⟨_,rfl⟩;have kf:=fun K'=>QY pre (post++[Qd e]) ls {b with pm:=pm} e.it n zE hc fB cU hpm' Y K';have hpn:=amg hpm' e.it n;obtain⟨N7,axn⟩:∃N7,pmN {b with pm:=pm} e.it n=N7:=⟨_,rfl⟩;rw[axn]at kf hpn;simp only at kf;rw[hR]at bZ QZ kf;cases hes:lP R fm e.fr with
  |none=>
   rw[hes]at bZ QZ;simp[h9,iR,Iy,c4,aP,aW,Qp,Qa,Qd];refine Qbk [(.sl .ro (R.map Qe),aP pre {b with pm:=N7} (post++[Qd e]) ls)] ?_;simp[h9,iR,Iy,c4,aP,aW,Qp,Qa,Qd,uT,pS,hes,Gy,hwn];refine⟨kf _ ⟨rfl,rfl⟩,QZ,aQ,⟨n+1,N7,zd,zE,bZ,hpn,by simp[aP,aW,Qp,Qa,Qd]⟩,zE⟩
  |some s=>
   rw[hes]at bZ QZ;simp only at bZ;by_cases c5:la<s
   ·rw[if_pos c5]at bZ;subst bZ;have:=hK N7 [Qd e] hpn;simp[h9,iR,Iy,c4,aP,aW,Qp,Qa,Qd];refine Qbk [(.sl .ro (R.map Qe),aP pre {b with pm:=N7} (post++[Qd e]) ls)] ?_;simp[h9,iR,Iy,c4,aP,aW,Qp,Qa,Qd,uT,pS,hes,Gy,c5,vE];refine⟨kf _ ⟨rfl,rfl⟩,QZ,?_⟩;simpa[aP,aW,Qp,Qa,Qd,Gy]using this
   rw[if_neg c5]at bZ;subst bZ;have:=hK N7 [Qd e] hpn;simp[h9,iR,Iy,c4,aP,aW,Qp,Qa,Qd];refine Qbk [(.sl .ro (R.map Qe),aP pre {b with pm:=N7} (post++[Qd e]) ls)] ?_;simp[h9,iR,Iy,c4,aP,aW,Qp,Qa,Qd,uT,pS,hes,Gy,c5,vE];refine⟨kf _ ⟨rfl,rfl⟩,QZ,?_⟩;simpa[aP,aW,Qp,Qa,Qd,Gy]using this
 rw[if_neg c4]at bZ;subst bZ;have:=hK pm [Qd e] hpm';simp[h9,iR,Iy,c4,vE];simpa[aP,aW,Qp,Qa,Qd,Gy]using this
open Go Go.Abs
def pT(n:Int)(us:List (Int×Int)):Prop:=∀k v,af k us=some v->0<=v/\v<=n
def pT.note{n:Int}{us:List (Int×Int)}(h:pT n us)(hn:0<=n)(it:Int):pT (n+1) (Yb us it):=fun k v hk=>by
 rw[Yb,Jc]at hk;split at hk
 ·cases hk;cases ha:af it us with
  |none=>simp;omega
  |some u=>have:=h it u ha;simp;omega
 have:=h k v hk;omega
def Qdd(p:Pl)(it:Int):(∃n y,Xk it p.aN=some y/\Xi [it] (bG rH (z7 p)) 0=some (n,rH y))\/(Xk it p.aN=none/\Xi [it] (bG rH (z7 p)) 0=none):=by
 rcases Xx rH it (z7 p) 0 with⟨h1,h2,_,_⟩|⟨u,n,h1,h2,_⟩
 ·rw[uP]at h1;exact .inr ⟨h1,h2⟩
 rw[uP]at h1;exact .inl ⟨_,u,h1,h2⟩
def xZ(us:List (Int×Int))(it:Int):(Xi [it] (bG iA us) 0=none/\bG iA us++[([it],.int .i64 1)]=bG iA (Yb us it))\/∃u n,af it us=some u/\Xi [it] (bG iA us) 0=some (n,.int .i64 u)/\(bG iA us).set n ([it],.int .i64 (u+1))=bG iA (Yb us it):=by
 rcases Xx iA it us 0 with⟨h1,h2,_,h4⟩|⟨u,n,h1,h2,_,_,_,h4⟩
 ·exact .inl ⟨h2,by rw[Yb,h1];exact h4 1⟩
 exact .inr ⟨u,n,h1,by rw[h2,zzbs],by rw[Yb,h1];exact h4 (u+1)⟩
def Qeh(p:Pl)(en:List (Int×Int))(it e:Int){y:It}(hy:Xk it p.aN=some y):(Xi [y.sp] (bG iA en) 0=none/\bG iA en++[([y.sp],.int .i64 (if 0<e then e else 0))]=bG iA (Zo p en it e))\/∃u n,af y.sp en=some u/\Xi [y.sp] (bG iA en) 0=some (n,.int .i64 u)/\(bG iA en).set n ([y.sp],.int .i64 (if u<e then e else u))=bG iA (Zo p en it e):=by
 rcases Xx iA y.sp en 0 with⟨h1,h2,_,h4⟩|⟨u,n,h1,h2,_,_,_,h4⟩
 ·refine .inl ⟨h2,?_⟩;have:(if 0<e then e else 0)=max 0 e:=zE
  simp only[Zo,hy,h1,this];exact h4 _
 refine .inr ⟨u,n,h1,by rw[h2,zzbs],?_⟩;have:(if u<e then e else u)=max u e:=zE
 simp only[Zo,hy,h1,this];exact h4 _
def YN(pre p0 bx:T5)(ls:Pa)(b:Bd)(us en:List (Int×Int))(it e:Int)(hu:pT 1000000000 us)(Y:YT)(K:So)(hK:∀ex,K (.aS []) (aP pre b (p0++([.aJ 0 (bG iA (Yb us it))]::[.aJ 0 (bG iA (Zo b.p en it e))]::(bx++ex))) ls)):
  aB Tryz.prog aD Y 168 [.ptr (pre.length+9) 0,.mp (pre.length+(p0.length+10)),.mp (pre.length+(p0.length+11)),I it,I e] (aP pre b (p0++([.aJ 0 (bG iA us)]::[.aJ 0 (bG iA en)]::bx)) ls) K:=by
 refine Xn MS (fun _ _ _=>.junk) zd ?_;have w1:IntKind.i64.wrap 1=1:=by decide
 rcases xZ us it with⟨u2,u4⟩|⟨u,n,u1,u2,u4⟩
 ·rcases Qdd b.p it with⟨ni,y,hy,hi⟩|⟨hy,hi⟩
  ·rcases Qeh b.p en it e hy with⟨e2,e4⟩|⟨v,nv,e1,e2,e4⟩
   ·simp[fH,fI,aP,aW,Qp,Qa,hi,rH,Qm,u2,e2,w1];rw[u4,e4];simpa[aP,aW,Qp,Qa,Qm]using hK [Qm y]
   simp[fH,fI,aP,aW,Qp,Qa,hi,rH,Qm,u2,e2,w1];rw[u4,e4];simpa[aP,aW,Qp,Qa,Qm]using hK [Qm y]
  have he:Zo b.p en it e=en:=by simp only[Zo,hy]
  rw[he]at hK;simp[fH,fI,aP,aW,Qp,Qa,hi,u2,w1];rw[u4];simpa[aP,aW,Qp,Qa]using hK [[I 0,I 0,I 0,I 0,I 0]]
 have hb:=hu it u u1;have wu:IntKind.i64.wrap (u+1)=u+1:=by rw[Ql]<;>omega
 rcases Qdd b.p it with⟨ni,y,hy,hi⟩|⟨hy,hi⟩
 ·rcases Qeh b.p en it e hy with⟨e2,e4⟩|⟨v,nv,e1,e2,e4⟩
  ·simp[fH,fI,aP,aW,Qp,Qa,hi,rH,Qm,u2,e2,wu];rw[u4,e4];simpa[aP,aW,Qp,Qa,Qm]using hK [Qm y]
  simp[fH,fI,aP,aW,Qp,Qa,hi,rH,Qm,u2,e2,wu];rw[u4,e4];simpa[aP,aW,Qp,Qa,Qm]using hK [Qm y]
 have he:Zo b.p en it e=en:=by simp only[Zo,hy]
 rw[he]at hK;simp[fH,fI,aP,aW,Qp,Qa,hi,u2,wu];rw[u4];simpa[aP,aW,Qp,Qa]using hK [[I 0,I 0,I 0,I 0,I 0]]
def aeK(pre post:T5)(ls:Pa)(b:Bd)(us en:List (Int×Int))(it e:Int)(hu:pT 1000000000 us)(Y:YT)(K:So)(hK:∀ex,K (.aS []) (aP pre {b with us:=Yb us it,en:=Zo b.p en it e} (post++ex) ls)):
  aB Tryz.prog aD Y 168 [.ptr (pre.length+9) 0,.mp (pre.length+4),.mp (pre.length+5),I it,I e] (aP pre {b with us:=us,en:=en} post ls) K:=by
 refine Xn MS (fun _ _ _=>.junk) zd ?_;have w1:IntKind.i64.wrap 1=1:=by decide
 rcases xZ us it with⟨u2,u4⟩|⟨u,n,u1,u2,u4⟩
 ·rcases Qdd b.p it with⟨ni,y,hy,hi⟩|⟨hy,hi⟩
  ·rcases Qeh b.p en it e hy with⟨e2,e4⟩|⟨v,nv,e1,e2,e4⟩
   ·simp[fH,fI,aP,aW,Qp,Qa,hi,rH,Qm,u2,e2,w1];rw[u4,e4];simpa[aP,aW,Qp,Qa,Qm]using hK [Qm y]
   simp[fH,fI,aP,aW,Qp,Qa,hi,rH,Qm,u2,e2,w1];rw[u4,e4];simpa[aP,aW,Qp,Qa,Qm]using hK [Qm y]
  have he:Zo b.p en it e=en:=by simp only[Zo,hy]
  rw[he]at hK;simp[fH,fI,aP,aW,Qp,Qa,hi,u2,w1];rw[u4];simpa[aP,aW,Qp,Qa]using hK [[I 0,I 0,I 0,I 0,I 0]]
 have hb:=hu it u u1;have wu:IntKind.i64.wrap (u+1)=u+1:=by rw[Ql]<;>omega
 rcases Qdd b.p it with⟨ni,y,hy,hi⟩|⟨hy,hi⟩
 ·rcases Qeh b.p en it e hy with⟨e2,e4⟩|⟨v,nv,e1,e2,e4⟩
  ·simp[fH,fI,aP,aW,Qp,Qa,hi,rH,Qm,u2,e2,wu];rw[u4,e4];simpa[aP,aW,Qp,Qa,Qm]using hK [Qm y]
  simp[fH,fI,aP,aW,Qp,Qa,hi,rH,Qm,u2,e2,wu];rw[u4,e4];simpa[aP,aW,Qp,Qa,Qm]using hK [Qm y]
 have he:Zo b.p en it e=en:=by simp only[Zo,hy]
 rw[he]at hK;simp[fH,fI,aP,aW,Qp,Qa,hi,u2,wu];rw[u4];simpa[aP,aW,Qp,Qa]using hK [[I 0,I 0,I 0,I 0,I 0]]
