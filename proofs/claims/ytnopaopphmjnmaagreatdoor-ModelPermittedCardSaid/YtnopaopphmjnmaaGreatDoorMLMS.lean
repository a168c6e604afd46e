import Derived.Test.YtnopaopphmjnmaaGreatDoorMLMR
set_option linter.all false
set_option maxRecDepth 100000
set_option maxHeartbeats 64000000
namespace Go.Proofs.YtnopaopphmjnmaaGreatDoor
open Go Go.Abs
def Qy(n:Int):List AV:=[I n]
def Zs(LL:List (Rt×List Sp))(f:Nat->AV)(m:AM):Prop:=∃(i:Nat)(bx:List (List AV)),f 11=I i/\i<=LL.length/\f 3=I (((LL.take i).map fun x=>x.2).flatten.length:Nat)/\m=⟨bx,[],fun _=>.gone,0⟩
def ZA(LL:List (Rt×List Sp))(f:Nat->AV)(m:AM):Prop:=∃(i:Nat)(rt:Rt)(ls:List Nat)(bx:List (List AV)),f 27=I i/\i<=LL.length/\f 6=.sl rt (((LL.take i).map fun x=>x.2).flatten.map Qe)/\
 (((LL.take i).map fun x=>x.2).flatten=[]/\rt=.nil/\i=0\/∃k,rt=.own k 2/\ls[k]?=some ((LL.take i).map fun x=>x.2).flatten.length)/\m=⟨bx,ls,fun _=>.gone,0⟩
def Ow(LL:List (Rt×List Sp)){i:Nat}{x:Rt×List Sp}(h:LL[i]?=some x):((LL.take (i+1)).map fun x=>x.2).flatten=((LL.take i).map fun x=>x.2).flatten++x.2:=by
 simp[zzas,h]
def Ox(LL:List (Rt×List Sp))(i:Nat):((LL.take i).map fun x=>x.2).flatten.length<=(LL.map fun x=>x.2).flatten.length:=by
 have h:(LL.map fun x=>x.2)=((LL.take i).map fun x=>x.2)++(LL.drop i).map fun x=>x.2:=by rw[<- zzc,zzdb]
 rw[h,zzeg,zzah];omega
def uJ:Nat->FuncId->List AV->AV:=fun _ f _=>if f=358 then .gd false .junk else .junk
def RF(LL:List (Rt×List Sp))(aK:LL≠[])(hl:LL.length<=1000000)(hf:(LL.map fun x=>x.2).flatten.length<=1000000000):Pure Tryz.prog az 348 [.sl .full (LL.map fun x=>[.sl x.1 (x.2.map Qe)])] (.sl .ro ((LL.map fun x=>x.2).flatten.map Qe)):=by
 have eR:=zzcw.2 aK;have mD:LL.take LL.length=LL:=zzbs;refine Qn aet uJ (by simp) ?_;simp[ajj];refine Qi Cm (Zs LL) (fun f _=>LL.length-(numOf (f 11)).toNat) ?_ ?_
 ·exact⟨0,[],by simp,by omega,by simp,rfl⟩
 rintro f m ⟨i,bx,kY,hi,h3,rfl⟩;rcases zzaa i LL.length with ai|bu
 ·obtain⟨x,hx⟩:=aS ai;have ah:Qh (LL.map fun x=>[.sl x.1 (x.2.map Qe)]) i=[.sl x.1 (x.2.map Qe)]:=Qs (by simp[hx]);have aa:(i:Int)<(LL.length:Int):=by omega
  have hw:=bJ i (by omega);have hc:=Ow LL hx;have qo:=Ox LL (i+1);obtain⟨n,hn⟩:∃n,((LL.take i).map fun x=>x.2).flatten.length=n:=⟨_,rfl⟩;have hcn:((LL.take (i+1)).map fun x=>x.2).flatten.length=n+x.2.length:=by rw[hc,zzah,hn]
  rw[hn]at h3;have ee:IntKind.i64.wrap ((n:Int)+(x.2.length:Int))=((n+x.2.length:Nat):Int):=by rw[Qk]<;>omega
  have Az:¬(n:Int)+(x.2.length:Int)<0:=by omega
  simp[kY,h3,ai,aa,ah,Cm,hw,ee,Az];refine⟨aO,⟨i+1,_,by simp,by omega,by rw[hcn];simp[ee],rfl⟩,by omega⟩
 have bI:¬(i:Int)<(LL.length:Int):=by omega
 obtain rfl:i=LL.length:=by omega
 rw[mD]at h3;obtain⟨n,hn⟩:∃n,(LL.map fun x=>x.2).flatten.length=n:=⟨_,rfl⟩;rw[hn]at h3 hf;have fin:∀(rt:Rt)(ls:List Nat),(rt=.nil\/∃k,rt=.own k 2/\ls[k]?=some 0)->∀(E:List (Nat×AV)),True:=fun _ _ _ _=>trivial;simp[kY,h3,bI,zzbm.2 bu,Cm,uJ];refine afx hf (fun h0=>?_) (fun h0=>?_)
 all_goals
  try simp[kY,h3,Cm]
  refine Qi Cn (ZA LL) (fun f _=>LL.length-(numOf (f 27)).toNat) ?_ ?_
 ·exact⟨0,.nil,[],bx,by simp,by omega,by simp,.inl ⟨by simp,rfl,rfl⟩,rfl⟩
 rotate_left
 ·exact⟨0,.own 0 2,[0],bx,by simp,by omega,by simp,.inr ⟨0,rfl,by simp⟩,rfl⟩
 all_goals
  clear h0;rintro f m ⟨i,rt,ls,bx,h27,hi,h6,aR,rfl⟩;rcases zzaa i LL.length with ai|bu
  ·obtain⟨x,hx⟩:=aS ai;have ah:Qh (LL.map fun x=>[.sl x.1 (x.2.map Qe)]) i=[.sl x.1 (x.2.map Qe)]:=Qs (by simp[hx]);have aa:(i:Int)<(LL.length:Int):=by omega
   have hw:=bJ i (by omega);have hc:=Ow LL hx;have qo:=Ox LL (i+1);obtain⟨F,hF⟩:∃F,((LL.take i).map fun x=>x.2).flatten=F:=⟨_,rfl⟩;rw[hF]at h6 aR hc;rw[hc,zzah,hn]at qo;obtain⟨rfl,rfl,rfl⟩|⟨k,rfl,hk⟩:=aR
   ·have fC:IntKind.i64.wrap 1=1:=by decide
    simp[h27,h6,ai,aa,ah,Cn,hw,fC,uJ];refine⟨⟨?_,by omega⟩,aO,⟨1,.own ls.length 2,_,bx,by simp,by omega,by rw[hc];simp,.inr ⟨ls.length,rfl,by rw[hc];simp⟩,rfl⟩,by omega⟩
    ·rintro a b row _ rfl;rfl
   have oz:=(zza.1 hk).1;simp[h27,h6,ai,aa,ah,Cn,hw,hk,uJ];refine⟨⟨?_,by omega⟩,aO,⟨i+1,.own k 2,_,bx,by simp,by omega,by rw[hc];simp,.inr ⟨k,rfl,by rw[hc];simp[oz]⟩,rfl⟩,by omega⟩
   ·rintro row (⟨a,b,_,rfl⟩|⟨a,b,_,rfl⟩)<;>rfl
  have bI:¬(i:Int)<(LL.length:Int):=by omega
  obtain rfl:i=LL.length:=by omega
  rw[mD]at h6 aR;obtain⟨_,_,h0⟩|⟨k,rfl,hk⟩:=aR
  ·omega
  simp[h27,h6,bI,zzbm.2 bu,Cn,ajk]
open Go Go.Abs
def afy(LL:List (Rt×List Int))(f:Nat->AV)(m:AM):Prop:=∃(i:Nat)(bx:List (List AV)),f 11=I i/\i<=LL.length/\f 3=I (((LL.take i).map fun x=>x.2).flatten.length:Nat)/\m=⟨bx,[],fun _=>.gone,0⟩
def afz(LL:List (Rt×List Int))(f:Nat->AV)(m:AM):Prop:=∃(i:Nat)(rt:Rt)(ls:List Nat)(bx:List (List AV)),f 27=I i/\i<=LL.length/\f 6=.sl rt (((LL.take i).map fun x=>x.2).flatten.map Qy)/\
 (((LL.take i).map fun x=>x.2).flatten=[]/\rt=.nil/\i=0\/∃k,rt=.own k 1/\ls[k]?=some ((LL.take i).map fun x=>x.2).flatten.length)/\m=⟨bx,ls,fun _=>.gone,0⟩
def ZB(LL:List (Rt×List Int)){i:Nat}{x:Rt×List Int}(h:LL[i]?=some x):((LL.take (i+1)).map fun x=>x.2).flatten=((LL.take i).map fun x=>x.2).flatten++x.2:=by
 simp[zzas,h]
def ZC(LL:List (Rt×List Int))(i:Nat):((LL.take i).map fun x=>x.2).flatten.length<=(LL.map fun x=>x.2).flatten.length:=by
 have h:(LL.map fun x=>x.2)=((LL.take i).map fun x=>x.2)++(LL.drop i).map fun x=>x.2:=by rw[<- zzc,zzdb]
 rw[h,zzeg,zzah];omega
def Dm:Nat->FuncId->List AV->AV:=fun _ f _=>if f=277 then .gd false .junk else .junk
def ZD(LL:List (Rt×List Int))(aK:LL≠[])(hl:LL.length<=1000000)(hf:(LL.map fun x=>x.2).flatten.length<=1000000000):Pure Tryz.prog az 202 [.sl .full (LL.map fun x=>[.sl x.1 (x.2.map Qy)])] (.sl .ro ((LL.map fun x=>x.2).flatten.map Qy)):=by
 have eR:=zzcw.2 aK;have mD:LL.take LL.length=LL:=zzbs;refine Qn adi Dm (by simp) ?_;simp[ahY];refine Qi B7 (afy LL) (fun f _=>LL.length-(numOf (f 11)).toNat) ?_ ?_
 ·exact⟨0,[],by simp,by omega,by simp,rfl⟩
 rintro f m ⟨i,bx,kY,hi,h3,rfl⟩;rcases zzaa i LL.length with ai|bu
 ·obtain⟨x,hx⟩:=aS ai;have ah:Qh (LL.map fun x=>[.sl x.1 (x.2.map Qy)]) i=[.sl x.1 (x.2.map Qy)]:=Qs (by simp[hx]);have aa:(i:Int)<(LL.length:Int):=by omega
  have hw:=bJ i (by omega);have hc:=ZB LL hx;have qo:=ZC LL (i+1);obtain⟨n,hn⟩:∃n,((LL.take i).map fun x=>x.2).flatten.length=n:=⟨_,rfl⟩;have hcn:((LL.take (i+1)).map fun x=>x.2).flatten.length=n+x.2.length:=by rw[hc,zzah,hn]
  rw[hn]at h3;have ee:IntKind.i64.wrap ((n:Int)+(x.2.length:Int))=((n+x.2.length:Nat):Int):=by rw[Qk]<;>omega
  have Az:¬(n:Int)+(x.2.length:Int)<0:=by omega
  simp[kY,h3,ai,aa,ah,B7,hw,ee,Az];refine⟨aO,⟨i+1,_,by simp,by omega,by rw[hcn];simp[ee],rfl⟩,by omega⟩
 have bI:¬(i:Int)<(LL.length:Int):=by omega
 obtain rfl:i=LL.length:=by omega
 rw[mD]at h3;obtain⟨n,hn⟩:∃n,(LL.map fun x=>x.2).flatten.length=n:=⟨_,rfl⟩;rw[hn]at h3 hf;have fin:∀(rt:Rt)(ls:List Nat),(rt=.nil\/∃k,rt=.own k 1/\ls[k]?=some 0)->∀(E:List (Nat×AV)),True:=fun _ _ _ _=>trivial;simp[kY,h3,bI,zzbm.2 bu,B7,Dm];refine afA hf (fun h0=>?_) (fun h0=>?_)
 all_goals
  try simp[kY,h3,B7]
  refine Qi B8 (afz LL) (fun f _=>LL.length-(numOf (f 27)).toNat) ?_ ?_
 ·exact⟨0,.nil,[],bx,by simp,by omega,by simp,.inl ⟨by simp,rfl,rfl⟩,rfl⟩
 rotate_left
 ·exact⟨0,.own 0 1,[0],bx,by simp,by omega,by simp,.inr ⟨0,rfl,by simp⟩,rfl⟩
 all_goals
  clear h0;rintro f m ⟨i,rt,ls,bx,h27,hi,h6,aR,rfl⟩;rcases zzaa i LL.length with ai|bu
  ·obtain⟨x,hx⟩:=aS ai;have ah:Qh (LL.map fun x=>[.sl x.1 (x.2.map Qy)]) i=[.sl x.1 (x.2.map Qy)]:=Qs (by simp[hx]);have aa:(i:Int)<(LL.length:Int):=by omega
   have hw:=bJ i (by omega);have hc:=ZB LL hx;have qo:=ZC LL (i+1);obtain⟨F,hF⟩:∃F,((LL.take i).map fun x=>x.2).flatten=F:=⟨_,rfl⟩;rw[hF]at h6 aR hc;rw[hc,zzah,hn]at qo;obtain⟨rfl,rfl,rfl⟩|⟨k,rfl,hk⟩:=aR
   ·have fC:IntKind.i64.wrap 1=1:=by decide
    simp[h27,h6,ai,aa,ah,B8,hw,fC,Dm];refine⟨⟨?_,by omega⟩,aO,⟨1,.own ls.length 1,_,bx,by simp,by omega,by rw[hc];simp,.inr ⟨ls.length,rfl,by rw[hc];simp⟩,rfl⟩,by omega⟩
    ·first|(rintro a _;rfl)|(rintro row a _ rfl;rfl)
   have oz:=(zza.1 hk).1;simp[h27,h6,ai,aa,ah,B8,hw,hk,Dm];refine⟨⟨?_,by omega⟩,aO,⟨i+1,.own k 1,_,bx,by simp,by omega,by rw[hc];simp,.inr ⟨k,rfl,by rw[hc];simp[oz]⟩,rfl⟩,by omega⟩
   ·rintro row (⟨a,_,rfl⟩|⟨a,_,rfl⟩)<;>rfl
  have bI:¬(i:Int)<(LL.length:Int):=by omega
  obtain rfl:i=LL.length:=by omega
  rw[mD]at h6 aR;obtain⟨_,_,h0⟩|⟨k,rfl,hk⟩:=aR
  ·omega
  simp[h27,h6,bI,zzbm.2 bu,B8,ahZ]
open Go Go.Abs
def ZE(A B:List Sp)(h:A.length+B.length<=100000000):Pure Tryz.prog az 321 [.sl .ro (A.map Qe),.sl .ro (B.map Qe)] (.sl .ro ((Xl (A++B)).map Qe)):=by
 have asy:=RF [(.ro,A),(.ro,B)] (by simp) (by simp) (by simp;omega);have ZF:=Uq (A++B) (by simp;omega);refine Qn aeo (fun _ f _=>if f=348 then .sl .ro ((A++B).map Qe)else .sl .ro ((Xl (A++B)).map Qe)) (by simp) ?_;simp at asy ZF;simp[ajc,ajd];exact⟨asy,ZF⟩
def afB(s:Sp)(h1:0<=s.1)(h2:s.1<=s.2)(h3:s.2<=9223372036854775807):Pure Tryz.prog az 320 [.agg (Qe s)] (.int .u64 (s.2-s.1)):=by
 have w1:IntKind.u64.wrap s.1=s.1:=by simp[IntKind.wrap,IntKind.bits,IntKind.signed];omega
 have w2:IntKind.u64.wrap s.2=s.2:=by simp[IntKind.wrap,IntKind.bits,IntKind.signed];omega
 have w3:IntKind.u64.wrap (s.2-s.1)=s.2-s.1:=by simp[IntKind.wrap,IntKind.bits,IntKind.signed];omega
 refine Qn aen (fun _ _ _=>.junk) (by simp) ?_;simp[aja,ajb,Qe,w1,w2,w3]
def Gs:Option Int->AV
 |some s=>.aW [I s,.bool true]
 |none=>.aW [I 0,.bool false]
def Gt(L:List Sp):Nat->FuncId->List AV->AV:=fun _ f l=>if f=182 then .sl .ro (L.map Qe)else if f=249 then(match l with|[.agg [.int _ a,.int _ b]]=>.bool (decide (b<=a))|_=>.junk)else
 (match l with|[.agg [.int _ a,.int _ b]]=>.int .u64 (b-a)|_=>.junk)
def asz(a n:Int)(L:List Sp)(T:Option Int)(f:Nat->AV)(m:AM):Prop:=∃(i:Nat)(bx:List (List AV)),f 17=I i/\i<=L.length/\Gp a n (L.drop i)=T/\m=⟨bx,[],fun _=>.gone,0⟩
def Gu(l:List Sp)(a n:Int)(hl:l.length<=100000000)(ha:0<=a)(hn:1<=n/\n<=1000000)(hb:∀s∈l,s.1<=1000000000000/\s.2<=1000000000000):Pure Tryz.prog az 275 [.sl .ro (l.map Qe),I a,I n] (Gs (lX l a n)):=by
 have ZF:=Uq l hl;obtain⟨T,hT⟩:∃T,lX l a n=T:=⟨_,rfl⟩;rw[hT];rw[lX,if_neg (by omega)]at hT;have hbL:=ZG (P:=fun x=>x<=1000000000000) (l:=l) hb;have hLl:=Yy l;generalize Xl l=L at ZF hT hbL hLl;have eN:¬n<=0:=by omega
 refine Qn ad5 (Gt L) (by simp) ?_;simp[VD,Gt,eN];refine⟨ZF,?_⟩;refine Qi vF (asz a n L T) (fun f _=>L.length-(numOf (f 17)).toNat) ?_ ?_
 ·exact⟨0,[],by simp,by omega,by simpa using hT,rfl⟩
 rintro f m ⟨i,bx,h17,hi,hx,rfl⟩;rcases zzaa i L.length with ai|bu
 ·obtain⟨s,hs⟩:=aS ai;have ah:Qh (L.map Qe) i=Qe s:=Zc hs;have aa:(i:Int)<(L.length:Int):=by omega
  have hw:=bJ i (by omega);rw[Zb hs,Gp]at hx;obtain⟨q,hq⟩:∃q,max s.1 a=q:=⟨_,rfl⟩;have hqm:(if s.1<a then a else s.1)=q:=by omega
  have ZH:Abs.Pure Tryz.prog az 249 [.agg (Qe (q,s.2))] (.bool (decide (s.2<=q))):=nV (q,s.2);rw[hq]at hx;have hu:IntKind.u64.wrap n=n:=by simp[IntKind.wrap,IntKind.bits,IntKind.signed];omega
  by_cases c1:s.2<=q
  ·rw[if_neg (by omega)]at hx;rw[decide_eq_true c1]at ZH;simp[h17,ai,aa,ah,Qe,hqm,c1,vF,hw,Gt];refine⟨by simpa[Qe]using ZH,aO,⟨i+1,_,by simp,by omega,hx,rfl⟩,by omega⟩
  have asA:=afB (q,s.2) (by simp only;omega) (by simp only;omega) (by
   have:=hbL s (zzad hs);simp only;omega)
  rw[decide_eq_false c1]at ZH;by_cases c2:n<=s.2-q
  ·rw[if_pos (by omega)]at hx;subst hx;simp[h17,ai,aa,ah,Qe,hqm,c1,c2,hu,vF,VE,Gt,Gs];exact⟨by simpa[Qe]using ZH,by simpa[Qe]using asA⟩
  rw[if_neg (by omega)]at hx;simp[h17,ai,aa,ah,Qe,hqm,c1,c2,hu,vF,hw,Gt];refine⟨by simpa[Qe]using ZH,by simpa[Qe]using asA,aO,⟨i+1,_,by simp,by omega,hx,rfl⟩,by omega⟩
 have bI:¬(i:Int)<(L.length:Int):=by omega
 rw[zzam bu]at hx;have hx:none=T:=hx;subst hx;simp[h17,bI,zzbm.2 bu,vF,VE,Gs]
open Go Go.Abs
def pf(k:Int×Int):List ((Int×Int)×List Sp)->Option (List Sp)
 |[]=>none
 |x::r=>if x.1=k then some x.2 else pf k r
def Gv(k:Int×Int):∀(l:List ((Int×Int)×List Sp))(i:Nat),(pf k l=none/\Xj [k.1,k.2] (Tv l) i=none)\/∃v n,pf k l=some v/\Xj [k.1,k.2] (Tv l) i=some (n,.sl .ro (v.map Qe))
 |[],i=>.inl ⟨rfl,rfl⟩
 |x::r,i=>by
  by_cases h:x.1=k
  ·exact .inr ⟨x.2,i,by rw[pf,if_pos h],by simp[Tv,Xj,h]⟩
  have hk:¬([k.1,k.2]:List Int)=[x.1.1,x.1.2]:=by
   intro e;simp only[List.cons.injEq,and_true]at e;exact h (Prod.ext e.1.symm e.2.symm)
  rcases Gv k r (i+1)with⟨h1,h2⟩|⟨v,n,h1,h2⟩
  ·refine .inl ⟨by rw[pf,if_neg h];exact h1,?_⟩;simp only[Tv,zzaz,Xj];rw[if_neg hk];exact h2
  refine .inr ⟨v,n,by rw[pf,if_neg h];exact h1,?_⟩;simp only[Tv,zzaz,Xj];rw[if_neg hk];exact h2
def ZI(k q:Int×Int)(v:List Sp):∀(l:List ((Int×Int)×List Sp)),pf q (l++[(k,v)])=match pf q l with|some u=>some u|none=>if k=q then some v else none
 |[]=>rfl
 |x::r=>by
  rw[zzae,pf,ZI k q v r,pf];by_cases h:x.1=q<;>simp[h]
def Li(b:Bd):Prop:=∀k v,pf k b.pm=some v->v=Za b.p k.1 k.2
def pmN(b:Bd)(it n:Int):List ((Int×Int)×List Sp):=match pf (it,n) b.pm with
 |some _=>b.pm
 |none=>b.pm++[((it,n),Za b.p it n)]
def am0{b:Bd}(h:Li b)(it n:Int):Li {b with pm:=pmN b it n}:=fun k v hk=>by
 simp only[pmN]at hk;cases hp:pf (it,n) b.pm with
 |some u=>rw[hp]at hk;exact h k v hk
 |none=>
  rw[hp]at hk;simp only[ZI]at hk;cases hq:pf k b.pm with
  |some u=>rw[hq]at hk;cases hk;exact h k _ hq
  |none=>
   rw[hq]at hk;simp only at hk;split at hk
   ·rename_i e;cases hk;rw[<- e]
   cases hk
def Lj{pre post:List (List AV)}{b:Bd}(pm:List ((Int×Int)×List Sp))(ls:List Nat)(id:Nat)(cells:List AV)(h:(aP pre {b with pm:=pm} post ls).boxes[id]?=some cells):(aP pre b post ls).boxes[id]?=some cells\/YY cells:=by
 simp only[aP]at h |-
 rcases zzaa id pre.length with ai|bu
 ·rw[zzag ai]at h |-
  exact .inl h
 rw[zzal bu]at h |-
 match hk:id-pre.length,h with
 |0,h=>exact .inl h
 |1,h=>exact .inl h
 |2,h=>exact .inl h
 |3,h=>exact .inl h
 |4,h=>exact .inl h
 |5,h=>exact .inl h
 |6,h=>exact .inl h
 |7,h=>exact .inl h
 |8,h=>
  refine .inr (.inr ⟨2,Tv pm,?_,?_⟩)
  ·simp[aU]at h;exact h.symm
  intro e he;obtain⟨x,_,rfl⟩:=zzax.1 he;exact Idle.ro _
 |9,h=>exact .inl h
 |k+10,h=>exact .inl h
def FrK(pre:List (List AV))(b:Bd)(pm:List ((Int×Int)×List Sp))(post:List (List AV))(ls:List Nat)(K:AV->AM->Prop)(r:AV)(m:AM):Prop:=∃ex,m=aP pre {b with pm:=pm} (post++ex) ls/\Idle r/\K r (aP pre {b with pm:=pm} post ls)
def frK{pre:List (List AV)}{b:Bd}{pm:List ((Int×Int)×List Sp)}{post:List (List AV)}{ls:List Nat}{K:AV->AM->Prop}{r:AV}{m:AM}(ex:List (List AV))(h:m=aP pre {b with pm:=pm} (post++ex) ls)(hi:Idle r)(hK:K r (aP pre {b with pm:=pm} post ls)):FrK pre b pm post ls K r m:=⟨ex,h,hi,hK⟩
def RG{f:FuncId}{xs:List AV}{pre post:List (List AV)}{b:Bd}{pm:List ((Int×Int)×List Sp)}{ls:List Nat}{Y:YT}{K:AV->AM->Prop}(h:an Tryz.prog az Y f xs (aP pre b post ls) (FrK pre b pm post ls K)):an Tryz.prog az Y f xs (aP pre b post ls) K:=by
 refine an.forget (an.mono h ?_);rintro r m' ⟨ex,rfl,h1,h2⟩;refine⟨aP pre {b with pm:=pm} post ls,ex,?_,?_,rfl,fun id cells hc=>Lj pm ls id cells hc,h1,h2⟩
 ·simp[aP,aU]
 simp[aP,aU]
def aj1(p:Pl)(it:Int):Nat->FuncId->List AV->AV:=fun d f l=>if f=59 then(match l with|[_,_,_,.agg [.int _ a,.int _ c]]=>.sl .ro ((Vo p it 0 (a,c)).map Qe)|_=>.junk)else
 (match l with|[.sl _ a,.sl _ c]=>.sl .ro ((Xl (a.map ry++c.map ry)).map Qe)|_=>.junk)
def pT(l:List Sp):(l.map Qe).map ry=l:=by
 rw[zzcy]
 conv=>rhs;rw[<- List.map_id l]
 exact zzd fun x _=>rfl
def RH(pre post:List (List AV))(ls:List Nat)(b:Bd)(it n:Int)(hn:0<=n/\n<=1000)(hc:b.p.cls.length<=1000000)(gK:b.p.sh.length<=1000000000)(cm:b.p.aL.length<=1000000000)(hpm:Li b)(Y:YT)(K:AV->AM->Prop)
  (hK:K (.sl .ro ((Za b.p it n).map Qe)) (aP pre {b with pm:=pmN b it n} post ls)):
  an Tryz.prog az Y 276 [.ptr (pre.length+9) 0,.agg [I it,I n]] (aP pre b post ls) K:=by
 refine RG (pm:=pmN b it n) ?_;have w1:IntKind.i64.wrap (n*1000000)=n*1000000:=by rw[Qk]<;>omega
 have w2:IntKind.i64.wrap (n+1)=n+1:=by rw[Qk]<;>omega
 have w3:IntKind.i64.wrap ((n+1)*1000000)=(n+1)*1000000:=by rw[Qk]<;>omega
 have w4:IntKind.i64.wrap (n+2)=n+2:=by rw[Qk]<;>omega
 have w5:IntKind.i64.wrap ((n+2)*1000000)=(n+2)*1000000:=by rw[Qk]<;>omega
 have k1:=nO b.p it 0 (n*1000000,(n+1)*1000000) hc gK cm (by simp only;omega) (by simp only;omega);have k2:=nO b.p it 0 ((n+1)*1000000,(n+2)*1000000) hc gK cm (by simp only;omega) (by simp only;omega);have l1:=Qcu b.p it 0 (n*1000000,(n+1)*1000000);have l2:=Qcu b.p it 0 ((n+1)*1000000,(n+2)*1000000);have k3:=ZE (Vo b.p it 0 (n*1000000,(n+1)*1000000)) (Vo b.p it 0 ((n+1)*1000000,(n+2)*1000000)) (by omega);have uv:Za b.p it n=Xl (Vo b.p it 0 (n*1000000,(n+1)*1000000)++Vo b.p it 0 ((n+1)*1000000,(n+2)*1000000)):=rfl;rw[<- uv]at k3;obtain⟨R,hR⟩:∃R,Za b.p it n=R:=⟨_,rfl⟩;refine Xe ad6 (aj1 b.p it) (by simp) ?_;rcases Gv (it,n) b.pm 0 with⟨h1,h2⟩|⟨v,j,h1,h2⟩
 ·have hp:pmN b it n=b.pm++[((it,n),Za b.p it n)]:=by simp only[pmN,h1]
  have iX:Tv (pmN b it n)=Tv b.pm++[([it,n],.sl .ro ((Za b.p it n).map Qe))]:=by rw[hp];simp[Tv]
  simp[VF,VG,aP,aU,Qp,Qb,h2,w1,w2,w3,w4,w5,aj1,pT,<- uv];refine⟨by simpa[Qb]using k1,by simpa[Qb]using k2,k3,?_⟩;rw[<- iX];exact frK [[I it,I n]] rfl (Idle.ro _) hK
 have hv:=hpm _ _ h1;have hp:pmN b it n=b.pm:=by simp only[pmN,h1]
 rw[hp]at hK |-
 rw[<- hv]at hK;simp[VF,VG,aP,aU,Qp,Qb,h2];exact frK [[I it,I n]] rfl (Idle.ro _) hK
def Ll{p:Pl}{it n:Int}:∀s∈Za p it n,s.1<=1000000000000/\s.2<=1000000000000:=fun s hs=>by
 have hv:=(Va (Vo p it 0 (n*1000000,(n+1)*1000000)++Vo p it 0 ((n+1)*1000000,(n+2)*1000000))).1.1 s hs;have h1:Xt (Za p it n) s.1:=⟨s,hs,by omega,by omega⟩;have h2:Xt (Za p it n) (s.2-1):=⟨s,hs,by omega,by omega⟩;rw[Qcc]at h1 h2;obtain⟨_,_,_,_,_,PR,_⟩:=h1;obtain⟨_,_,_,_,_,hx2,_⟩:=h2;omega
def Gw(p:Pl)(it n:Int):(Za p it n).length<=2000000:=by
 have h:=Yy (Vo p it 0 (n*1000000,(n+1)*1000000)++Vo p it 0 ((n+1)*1000000,(n+2)*1000000));have l1:=Qcu p it 0 (n*1000000,(n+1)*1000000);have l2:=Qcu p it 0 ((n+1)*1000000,(n+2)*1000000);rw[zzah]at h;have:(Za p it n).length<=_:=h;omega
def uK:Nat->FuncId->List AV->AV:=fun _ f l=>if f=276 then .gd false .junk else(match l with|[.sl _ a,.int _ x,.int _ n]=>Gs (lX (a.map ry) x n)|_=>.junk)
def afC(pre:List (List AV))(b:Bd)(post:List (List AV))(ls:List Nat)(e:En)(last from_:Int)(T:Option Int)(f:Nat->AV)(m:AM):Prop:=∃(n:Int)(pm:List ((Int×Int)×List Sp)),
 f 9=I n/\(0<=n/\n<=9223372036854)/\Tu b.p e last from_ n=T/\Li {b with pm:=pm}/\m=aP pre {b with pm:=pm} (post++[Qd e]) ls
def afD{from_:Int}(h0:0<=from_)(h1:from_<=9223372036854775807):0<=from_.tdiv 1000000/\from_.tdiv 1000000<=9223372036854:=by
 rw[zzco h0];omega
def Oy(pre post:List (List AV))(ls:List Nat)(b:Bd)(e:En)(from_:Int)(hc:b.p.cls.length<=1000000)(gK:b.p.sh.length<=1000000000)(cm:b.p.aL.length<=1000000000)(dg:b.p.ln<=9223372036854775807)(uv:from_<=9223372036854775807)
  (hpm:Li b)(Y:YT)(K:AV->AM->Prop)(hK:∀pm ex,Li {b with pm:=pm}->K (Gs (Ye b.p e from_)) (aP pre {b with pm:=pm} (post++ex) ls)):
  an Tryz.prog az Y 201 [.ptr (pre.length+9) 0,.agg (Qd e),I from_] (aP pre b post ls) K:=by
 refine Xe adh uK (by simp) ?_
 have no:Ye b.p e from_=none->K (.aW [I 0,.bool false]) (aP pre b (post++[Qd e]) ls):=fun h=>by
  have:=hK b.pm [Qd e] hpm;rw[h]at this;exact this
 by_cases c1:e.fr<1
 ·simp[Ai,vr,aP,aU,Qp,Qb,Qd,c1];exact no (by rw[Ye,if_pos (.inl c1)])
 by_cases c2:1000000<e.fr
 ·simp[Ai,vr,aP,aU,Qp,Qb,Qd,c1,c2];exact no (by rw[Ye,if_pos (.inr (.inl c2))])
 by_cases c3:b.p.ln<e.fr
 ·simp[Ai,vr,aP,aU,Qp,Qb,Qd,c1,c2,c3];exact no (by rw[Ye,if_pos (.inr (.inr c3))])
 have hS:Ye b.p e from_=Tu b.p e (mT b.p e) (max from_ 0) ((max from_ 0).tdiv 1000000):=by rw[Ye,if_neg (by omega)]
 rw[hS]at hK;clear no;obtain⟨fm,hfm⟩:∃fm,max from_ 0=fm:=⟨_,rfl⟩;have awW:(if from_<0 then 0 else from_)=fm:=by omega
 have hf0:0<=fm/\fm<=9223372036854775807:=by omega
 obtain⟨d1,d2⟩:=afD hf0.1 hf0.2;rw[hfm]at hK;have hwq:IntKind.i64.wrap (fm.tdiv 1000000)=fm.tdiv 1000000:=by rw[Qk]<;>omega
 have hwl:IntKind.i64.wrap (b.p.ln-e.fr)=b.p.ln-e.fr:=by rw[Qk]<;>omega
 obtain⟨q,hq⟩:∃q,fm.tdiv 1000000=q:=⟨_,rfl⟩;rw[hq]at hwq d1 d2 hK;obtain⟨la,hla⟩:∃la,mT b.p e=la:=⟨_,rfl⟩;have hlb:la<=100000000:=by rw[<- hla,mT];omega
 rw[hla]at hK;obtain⟨T,hT⟩:∃T,Tu b.p e la fm q=T:=⟨_,rfl⟩;rw[hT]at hK;simp[Ai,aP,aU,Qp,Qb,Qd,c1,c2,c3,hwl,awW,hq,hwq]
 have kU:VV false (VV false e.la (b.p.ln-e.fr)) 100000000=la:=by
  rw[<- hla,mT];simp only[VV];simp;omega
 rw[kU];refine Qi iT (afC pre b post ls e la fm T) (fun f _=>(la-numOf (f 9)*1000000+1000000).toNat) ?_ ?_
 ·exact⟨q,b.pm,by simp,⟨d1,d2⟩,hT,hpm,by simp[aP,aU,Qp,Qb,Qd]⟩
 rintro f m ⟨n,pm,h9,hn,cc,hpm',rfl⟩;have IK:IntKind.i64.wrap (n*1000000)=n*1000000:=by rw[Qk]<;>omega
 have YC:IntKind.i64.wrap (n+1)=n+1:=by rw[Qk]<;>omega
 rw[Tu]at cc;by_cases c4:n*1000000<=la
 ·rw[if_pos c4]at cc;have RI:=Gu (Za b.p e.it n) fm e.fr (by have:=Gw b.p e.it n;omega) hf0.1 (by omega) Ll;obtain⟨R,hR⟩:∃R,Za b.p e.it n=R:=⟨_,rfl⟩;have kf:=fun K'=>RH pre (post++[Qd e]) ls {b with pm:=pm} e.it n (by omega) hc gK cm hpm' Y K';have hpn:=am0 hpm' e.it n;obtain⟨Oz,awX⟩:∃Oz,pmN {b with pm:=pm} e.it n=Oz:=⟨_,rfl⟩;rw[awX]at kf hpn;simp only at kf;rw[hR]at cc RI kf;cases hes:lX R fm e.fr with
  |none=>
   rw[hes]at cc RI;simp[h9,iT,IK,c4,aP,aU,Qp,Qb,Qd];refine Qbg [(.sl .ro (R.map Qe),aP pre {b with pm:=Oz} (post++[Qd e]) ls)] ?_;simp[h9,iT,IK,c4,aP,aU,Qp,Qb,Qd,uK,pT,hes,Gs,YC];refine⟨kf _ ⟨rfl,rfl⟩,RI,aO,⟨n+1,Oz,by simp,by omega,cc,hpn,by simp[aP,aU,Qp,Qb,Qd]⟩,by omega⟩
  |some s=>
   rw[hes]at cc RI;simp only at cc;by_cases c5:la<s
   ·rw[if_pos c5]at cc;subst cc;have:=hK Oz [Qd e] hpn;simp[h9,iT,IK,c4,aP,aU,Qp,Qb,Qd];refine Qbg [(.sl .ro (R.map Qe),aP pre {b with pm:=Oz} (post++[Qd e]) ls)] ?_;simp[h9,iT,IK,c4,aP,aU,Qp,Qb,Qd,uK,pT,hes,Gs,c5,vr];refine⟨kf _ ⟨rfl,rfl⟩,RI,?_⟩;simpa[aP,aU,Qp,Qb,Qd,Gs]using this
   rw[if_neg c5]at cc;subst cc;have:=hK Oz [Qd e] hpn;simp[h9,iT,IK,c4,aP,aU,Qp,Qb,Qd];refine Qbg [(.sl .ro (R.map Qe),aP pre {b with pm:=Oz} (post++[Qd e]) ls)] ?_;simp[h9,iT,IK,c4,aP,aU,Qp,Qb,Qd,uK,pT,hes,Gs,c5,vr];refine⟨kf _ ⟨rfl,rfl⟩,RI,?_⟩;simpa[aP,aU,Qp,Qb,Qd,Gs]using this
 rw[if_neg c4]at cc;subst cc;have:=hK pm [Qd e] hpm';simp[h9,iT,IK,c4,vr];simpa[aP,aU,Qp,Qb,Qd,Gs]using this
open Go Go.Abs
def pU(n:Int)(us:List (Int×Int)):Prop:=∀k v,af k us=some v->0<=v/\v<=n
def pU.note{n:Int}{us:List (Int×Int)}(h:pU n us)(hn:0<=n)(it:Int):pU (n+1) (Vt us it):=fun k v hk=>by
 rw[Vt,Yc]at hk;split at hk
 ·cases hk;cases ha:af it us with
  |none=>simp;omega
  |some u=>have:=h it u ha;simp;omega
 have:=h k v hk;omega
def Qcz(p:Pl)(it:Int):(∃n y,Xh it p.aL=some y/\Xj [it] (bH rG (zQ p)) 0=some (n,rG y))\/(Xh it p.aL=none/\Xj [it] (bH rG (zQ p)) 0=none):=by
 rcases Xr rG it (zQ p) 0 with⟨h1,h2,_,_⟩|⟨u,n,h1,h2,_⟩
 ·rw[uI]at h1;exact .inr ⟨h1,h2⟩
 rw[uI]at h1;exact .inl ⟨_,u,h1,h2⟩
def xQ(us:List (Int×Int))(it:Int):(Xj [it] (bH iA us) 0=none/\bH iA us++[([it],.int .i64 1)]=bH iA (Vt us it))\/∃u n,af it us=some u/\Xj [it] (bH iA us) 0=some (n,.int .i64 u)/\(bH iA us).set n ([it],.int .i64 (u+1))=bH iA (Vt us it):=by
 rcases Xr iA it us 0 with⟨h1,h2,_,h4⟩|⟨u,n,h1,h2,_,_,_,h4⟩
 ·exact .inl ⟨h2,by rw[Vt,h1];exact h4 1⟩
 exact .inr ⟨u,n,h1,by rw[h2,zzbv],by rw[Vt,h1];exact h4 (u+1)⟩
def Qdw(p:Pl)(en:List (Int×Int))(it e:Int){y:It}(hy:Xh it p.aL=some y):(Xj [y.sp] (bH iA en) 0=none/\bH iA en++[([y.sp],.int .i64 (if 0<e then e else 0))]=bH iA (Zl p en it e))\/∃u n,af y.sp en=some u/\Xj [y.sp] (bH iA en) 0=some (n,.int .i64 u)/\(bH iA en).set n ([y.sp],.int .i64 (if u<e then e else u))=bH iA (Zl p en it e):=by
 rcases Xr iA y.sp en 0 with⟨h1,h2,_,h4⟩|⟨u,n,h1,h2,_,_,_,h4⟩
 ·refine .inl ⟨h2,?_⟩;have:(if 0<e then e else 0)=max 0 e:=by omega
  simp only[Zl,hy,h1,this];exact h4 _
 refine .inr ⟨u,n,h1,by rw[h2,zzbv],?_⟩;have:(if u<e then e else u)=max u e:=by omega
 simp only[Zl,hy,h1,this];exact h4 _
def ZJ(pre p0 bx:List (List AV))(ls:List Nat)(b:Bd)(us en:List (Int×Int))(it e:Int)(hu:pU 1000000000 us)(Y:YT)(K:AV->AM->Prop)(hK:∀ex,K (.aW []) (aP pre b (p0++([.aJ 0 (bH iA (Vt us it))]::[.aJ 0 (bH iA (Zl b.p en it e))]::(bx++ex))) ls)):
  an Tryz.prog az Y 197 [.ptr (pre.length+9) 0,.mp (pre.length+(p0.length+10)),.mp (pre.length+(p0.length+11)),I it,I e] (aP pre b (p0++([.aJ 0 (bH iA us)]::[.aJ 0 (bH iA en)]::bx)) ls) K:=by
 refine Xe No (fun _ _ _=>.junk) (by simp) ?_;have w1:IntKind.i64.wrap 1=1:=by decide
 rcases xQ us it with⟨u2,u4⟩|⟨u,n,u1,u2,u4⟩
 ·rcases Qcz b.p it with⟨ni,y,hy,hi⟩|⟨hy,hi⟩
  ·rcases Qdw b.p en it e hy with⟨e2,e4⟩|⟨v,nv,e1,e2,e4⟩
   ·simp[fM,fN,aP,aU,Qp,Qb,hi,rG,Qm,u2,e2,w1];rw[u4,e4];simpa[aP,aU,Qp,Qb,Qm]using hK [Qm y]
   simp[fM,fN,aP,aU,Qp,Qb,hi,rG,Qm,u2,e2,w1];rw[u4,e4];simpa[aP,aU,Qp,Qb,Qm]using hK [Qm y]
  have he:Zl b.p en it e=en:=by simp only[Zl,hy]
  rw[he]at hK;simp[fM,fN,aP,aU,Qp,Qb,hi,u2,w1];rw[u4];simpa[aP,aU,Qp,Qb]using hK [[I 0,I 0,I 0,I 0,I 0]]
 have hb:=hu it u u1;have wu:IntKind.i64.wrap (u+1)=u+1:=by rw[Qk]<;>omega
 rcases Qcz b.p it with⟨ni,y,hy,hi⟩|⟨hy,hi⟩
 ·rcases Qdw b.p en it e hy with⟨e2,e4⟩|⟨v,nv,e1,e2,e4⟩
  ·simp[fM,fN,aP,aU,Qp,Qb,hi,rG,Qm,u2,e2,wu];rw[u4,e4];simpa[aP,aU,Qp,Qb,Qm]using hK [Qm y]
  simp[fM,fN,aP,aU,Qp,Qb,hi,rG,Qm,u2,e2,wu];rw[u4,e4];simpa[aP,aU,Qp,Qb,Qm]using hK [Qm y]
 have he:Zl b.p en it e=en:=by simp only[Zl,hy]
 rw[he]at hK;simp[fM,fN,aP,aU,Qp,Qb,hi,u2,wu];rw[u4];simpa[aP,aU,Qp,Qb]using hK [[I 0,I 0,I 0,I 0,I 0]]
def afE(pre post:List (List AV))(ls:List Nat)(b:Bd)(us en:List (Int×Int))(it e:Int)(hu:pU 1000000000 us)(Y:YT)(K:AV->AM->Prop)(hK:∀ex,K (.aW []) (aP pre {b with us:=Vt us it,en:=Zl b.p en it e} (post++ex) ls)):
  an Tryz.prog az Y 197 [.ptr (pre.length+9) 0,.mp (pre.length+4),.mp (pre.length+5),I it,I e] (aP pre {b with us:=us,en:=en} post ls) K:=by
 refine Xe No (fun _ _ _=>.junk) (by simp) ?_;have w1:IntKind.i64.wrap 1=1:=by decide
 rcases xQ us it with⟨u2,u4⟩|⟨u,n,u1,u2,u4⟩
 ·rcases Qcz b.p it with⟨ni,y,hy,hi⟩|⟨hy,hi⟩
  ·rcases Qdw b.p en it e hy with⟨e2,e4⟩|⟨v,nv,e1,e2,e4⟩
   ·simp[fM,fN,aP,aU,Qp,Qb,hi,rG,Qm,u2,e2,w1];rw[u4,e4];simpa[aP,aU,Qp,Qb,Qm]using hK [Qm y]
   simp[fM,fN,aP,aU,Qp,Qb,hi,rG,Qm,u2,e2,w1];rw[u4,e4];simpa[aP,aU,Qp,Qb,Qm]using hK [Qm y]
  have he:Zl b.p en it e=en:=by simp only[Zl,hy]
  rw[he]at hK;simp[fM,fN,aP,aU,Qp,Qb,hi,u2,w1];rw[u4];simpa[aP,aU,Qp,Qb]using hK [[I 0,I 0,I 0,I 0,I 0]]
 have hb:=hu it u u1;have wu:IntKind.i64.wrap (u+1)=u+1:=by rw[Qk]<;>omega
 rcases Qcz b.p it with⟨ni,y,hy,hi⟩|⟨hy,hi⟩
 ·rcases Qdw b.p en it e hy with⟨e2,e4⟩|⟨v,nv,e1,e2,e4⟩
  ·simp[fM,fN,aP,aU,Qp,Qb,hi,rG,Qm,u2,e2,wu];rw[u4,e4];simpa[aP,aU,Qp,Qb,Qm]using hK [Qm y]
  simp[fM,fN,aP,aU,Qp,Qb,hi,rG,Qm,u2,e2,wu];rw[u4,e4];simpa[aP,aU,Qp,Qb,Qm]using hK [Qm y]
 have he:Zl b.p en it e=en:=by simp only[Zl,hy]
 rw[he]at hK;simp[fM,fN,aP,aU,Qp,Qb,hi,u2,wu];rw[u4];simpa[aP,aU,Qp,Qb]using hK [[I 0,I 0,I 0,I 0,I 0]]
end Go.Proofs.YtnopaopphmjnmaaGreatDoor
