import Derived.Test.YtnopaopphmjnmaaGreatDoorMDMR
set_option linter.all false
set_option maxRecDepth 100000
set_option maxHeartbeats 64000000
namespace Go.Proofs.YtnopaopphmjnmaaGreatDoor
open Go Go.Abs
def Qy(n:Int):List AV:=[I n]
def ZK(LL:List (Rt×List Sp))(f:Nat->AV)(m:AM):Prop:=∃(i:Nat)(bx:List (List AV)),f 11=I i/\i<=LL.length/\f 3=I (((LL.take i).map fun x=>x.2).flatten.length:Nat)/\m=⟨bx,[],fun _=>.gone,0⟩
def ZL(LL:List (Rt×List Sp))(f:Nat->AV)(m:AM):Prop:=∃(i:Nat)(rt:Rt)(ls:List Nat)(bx:List (List AV)),f 27=I i/\i<=LL.length/\f 6=.sl rt (((LL.take i).map fun x=>x.2).flatten.map Qe)/\
 (((LL.take i).map fun x=>x.2).flatten=[]/\rt=.nil/\i=0\/∃k,rt=.own k 2/\ls[k]?=some ((LL.take i).map fun x=>x.2).flatten.length)/\m=⟨bx,ls,fun _=>.gone,0⟩
def OD(LL:List (Rt×List Sp)){i:Nat}{x:Rt×List Sp}(h:LL[i]?=some x):((LL.take (i+1)).map fun x=>x.2).flatten=((LL.take i).map fun x=>x.2).flatten++x.2:=by
 simp[zzar,h]
def OE(LL:List (Rt×List Sp))(i:Nat):((LL.take i).map fun x=>x.2).flatten.length<=(LL.map fun x=>x.2).flatten.length:=by
 have h:(LL.map fun x=>x.2)=((LL.take i).map fun x=>x.2)++(LL.drop i).map fun x=>x.2:=by rw[<- zzbw,zzd]
 rw[h,zzeg,zzai];omega
def Dd:Nat->FuncId->List AV->AV:=fun _ f _=>if f=358 then .gd false .junk else .junk
def RE(LL:List (Rt×List Sp))(aJ:LL≠[])(hl:LL.length<=1000000)(hf:(LL.map fun x=>x.2).flatten.length<=1000000000):Pure Tryz.prog aq 348 [.sl .full (LL.map fun x=>[.sl x.1 (x.2.map Qe)])] (.sl .ro ((LL.map fun x=>x.2).flatten.map Qe)):=by
 have eS:=zzcu.2 aJ;have qQ:LL.take LL.length=LL:=zzbn;refine Qn aeO Dd (by simp) ?_;simp[ajT];refine Qi JT (ZK LL) (fun f _=>LL.length-(numOf (f 11)).toNat) ?_ ?_
 ·exact⟨0,[],by simp,by omega,by simp,rfl⟩
 rintro f m ⟨i,bx,iz,hi,h3,rfl⟩;rcases zzaa i LL.length with ai|bw
 ·obtain⟨x,hx⟩:=aP ai;have aa:Qh (LL.map fun x=>[.sl x.1 (x.2.map Qe)]) i=[.sl x.1 (x.2.map Qe)]:=Qr (by simp[hx]);have ah:(i:Int)<(LL.length:Int):=by omega
  have hw:=bH i (by omega);have hc:=OD LL hx;have qj:=OE LL (i+1);obtain⟨n,hn⟩:∃n,((LL.take i).map fun x=>x.2).flatten.length=n:=⟨_,rfl⟩;have hcn:((LL.take (i+1)).map fun x=>x.2).flatten.length=n+x.2.length:=by rw[hc,zzai,hn]
  rw[hn]at h3;have eC:IntKind.i64.wrap ((n:Int)+(x.2.length:Int))=((n+x.2.length:Nat):Int):=by rw[Qk]<;>omega
  have Ap:¬(n:Int)+(x.2.length:Int)<0:=by omega
  simp[iz,h3,ah,aa,JT,hw,eC,Ap];refine⟨aN,⟨i+1,_,by simp,by omega,by rw[hcn];simp,rfl⟩,by omega⟩
 have bJ:¬(i:Int)<(LL.length:Int):=by omega
 obtain rfl:i=LL.length:=by omega
 rw[qQ]at h3;obtain⟨n,hn⟩:∃n,(LL.map fun x=>x.2).flatten.length=n:=⟨_,rfl⟩;rw[hn]at h3 hf;have fin:∀(rt:Rt)(ls:List Nat),(rt=.nil\/∃k,rt=.own k 2/\ls[k]?=some 0)->∀(E:List (Nat×AV)),True:=fun _ _ _ _=>trivial;simp[iz,h3,bJ,JT,Dd];refine afT hf (fun h0=>?_) (fun h0=>?_)
 all_goals
  try simp
  refine Qi Ch (ZL LL) (fun f _=>LL.length-(numOf (f 27)).toNat) ?_ ?_
 ·exact⟨0,.nil,[],bx,by simp,by omega,by simp,.inl ⟨by simp,rfl,rfl⟩,rfl⟩
 rotate_left
 ·exact⟨0,.own 0 2,[0],bx,by simp,by omega,by simp,.inr ⟨0,rfl,by simp⟩,rfl⟩
 all_goals
  clear h0;rintro f m ⟨i,rt,ls,bx,h27,hi,h6,aT,rfl⟩;rcases zzaa i LL.length with ai|bw
  ·obtain⟨x,hx⟩:=aP ai;have aa:Qh (LL.map fun x=>[.sl x.1 (x.2.map Qe)]) i=[.sl x.1 (x.2.map Qe)]:=Qr (by simp[hx]);have ah:(i:Int)<(LL.length:Int):=by omega
   have hw:=bH i (by omega);have hc:=OD LL hx;have qj:=OE LL (i+1);obtain⟨F,hF⟩:∃F,((LL.take i).map fun x=>x.2).flatten=F:=⟨_,rfl⟩;rw[hF]at h6 aT hc;rw[hc,zzai,hn]at qj;obtain⟨rfl,rfl,rfl⟩|⟨k,rfl,hk⟩:=aT
   ·have eO:IntKind.i64.wrap 1=1:=by decide
    simp[h27,h6,ai,aa,Ch,eO,Dd];refine⟨⟨?_,by omega⟩,aN,⟨1,.own ls.length 2,_,bx,by simp,by omega,by rw[hc];simp,.inr ⟨ls.length,rfl,by rw[hc];simp⟩,rfl⟩,by omega⟩
    ·rintro a b row _ rfl;rfl
   have zj:=(zza.1 hk).1;simp[h27,h6,ah,aa,Ch,hw,hk];refine⟨⟨?_,by omega⟩,aN,⟨i+1,.own k 2,_,bx,by simp,by omega,by rw[hc];simp,.inr ⟨k,rfl,by rw[hc];simp[zj]⟩,rfl⟩,by omega⟩
   ·rintro row (⟨a,b,_,rfl⟩|⟨a,b,_,rfl⟩)<;>rfl
  have bJ:¬(i:Int)<(LL.length:Int):=by omega
  obtain rfl:i=LL.length:=by omega
  rw[qQ]at h6 aT;obtain⟨_,_,h0⟩|⟨k,rfl,hk⟩:=aT
  ·omega
  simp[h27,h6,bJ,Ch,ajU]
open Go Go.Abs
def afU(LL:List (Rt×List Int))(f:Nat->AV)(m:AM):Prop:=∃(i:Nat)(bx:List (List AV)),f 11=I i/\i<=LL.length/\f 3=I (((LL.take i).map fun x=>x.2).flatten.length:Nat)/\m=⟨bx,[],fun _=>.gone,0⟩
def afV(LL:List (Rt×List Int))(f:Nat->AV)(m:AM):Prop:=∃(i:Nat)(rt:Rt)(ls:List Nat)(bx:List (List AV)),f 27=I i/\i<=LL.length/\f 6=.sl rt (((LL.take i).map fun x=>x.2).flatten.map Qy)/\
 (((LL.take i).map fun x=>x.2).flatten=[]/\rt=.nil/\i=0\/∃k,rt=.own k 1/\ls[k]?=some ((LL.take i).map fun x=>x.2).flatten.length)/\m=⟨bx,ls,fun _=>.gone,0⟩
def ZM(LL:List (Rt×List Int)){i:Nat}{x:Rt×List Int}(h:LL[i]?=some x):((LL.take (i+1)).map fun x=>x.2).flatten=((LL.take i).map fun x=>x.2).flatten++x.2:=by
 simp[zzar,h]
def ZN(LL:List (Rt×List Int))(i:Nat):((LL.take i).map fun x=>x.2).flatten.length<=(LL.map fun x=>x.2).flatten.length:=by
 have h:(LL.map fun x=>x.2)=((LL.take i).map fun x=>x.2)++(LL.drop i).map fun x=>x.2:=by rw[<- zzbw,zzd]
 rw[h,zzeg,zzai];omega
def Lr:Nat->FuncId->List AV->AV:=fun _ f _=>if f=277 then .gd false .junk else .junk
def ZO(LL:List (Rt×List Int))(aJ:LL≠[])(hl:LL.length<=1000000)(hf:(LL.map fun x=>x.2).flatten.length<=1000000000):Pure Tryz.prog aq 202 [.sl .full (LL.map fun x=>[.sl x.1 (x.2.map Qy)])] (.sl .ro ((LL.map fun x=>x.2).flatten.map Qy)):=by
 have eS:=zzcu.2 aJ;have qQ:LL.take LL.length=LL:=zzbn;refine Qn adC Lr (by simp) ?_;simp[aix];refine Qi JN (afU LL) (fun f _=>LL.length-(numOf (f 11)).toNat) ?_ ?_
 ·exact⟨0,[],by simp,by omega,by simp,rfl⟩
 rintro f m ⟨i,bx,iz,hi,h3,rfl⟩;rcases zzaa i LL.length with ai|bw
 ·obtain⟨x,hx⟩:=aP ai;have aa:Qh (LL.map fun x=>[.sl x.1 (x.2.map Qy)]) i=[.sl x.1 (x.2.map Qy)]:=Qr (by simp[hx]);have ah:(i:Int)<(LL.length:Int):=by omega
  have hw:=bH i (by omega);have hc:=ZM LL hx;have qj:=ZN LL (i+1);obtain⟨n,hn⟩:∃n,((LL.take i).map fun x=>x.2).flatten.length=n:=⟨_,rfl⟩;have hcn:((LL.take (i+1)).map fun x=>x.2).flatten.length=n+x.2.length:=by rw[hc,zzai,hn]
  rw[hn]at h3;have eC:IntKind.i64.wrap ((n:Int)+(x.2.length:Int))=((n+x.2.length:Nat):Int):=by rw[Qk]<;>omega
  have Ap:¬(n:Int)+(x.2.length:Int)<0:=by omega
  simp[iz,h3,ah,aa,JN,hw,eC,Ap];refine⟨aN,⟨i+1,_,by simp,by omega,by rw[hcn];simp,rfl⟩,by omega⟩
 have bJ:¬(i:Int)<(LL.length:Int):=by omega
 obtain rfl:i=LL.length:=by omega
 rw[qQ]at h3;obtain⟨n,hn⟩:∃n,(LL.map fun x=>x.2).flatten.length=n:=⟨_,rfl⟩;rw[hn]at h3 hf;have fin:∀(rt:Rt)(ls:List Nat),(rt=.nil\/∃k,rt=.own k 1/\ls[k]?=some 0)->∀(E:List (Nat×AV)),True:=fun _ _ _ _=>trivial;simp[iz,h3,bJ,JN,Lr];refine afW hf (fun h0=>?_) (fun h0=>?_)
 all_goals
  try simp
  refine Qi BX (afV LL) (fun f _=>LL.length-(numOf (f 27)).toNat) ?_ ?_
 ·exact⟨0,.nil,[],bx,by simp,by omega,by simp,.inl ⟨by simp,rfl,rfl⟩,rfl⟩
 rotate_left
 ·exact⟨0,.own 0 1,[0],bx,by simp,by omega,by simp,.inr ⟨0,rfl,by simp⟩,rfl⟩
 all_goals
  clear h0;rintro f m ⟨i,rt,ls,bx,h27,hi,h6,aT,rfl⟩;rcases zzaa i LL.length with ai|bw
  ·obtain⟨x,hx⟩:=aP ai;have aa:Qh (LL.map fun x=>[.sl x.1 (x.2.map Qy)]) i=[.sl x.1 (x.2.map Qy)]:=Qr (by simp[hx]);have ah:(i:Int)<(LL.length:Int):=by omega
   have hw:=bH i (by omega);have hc:=ZM LL hx;have qj:=ZN LL (i+1);obtain⟨F,hF⟩:∃F,((LL.take i).map fun x=>x.2).flatten=F:=⟨_,rfl⟩;rw[hF]at h6 aT hc;rw[hc,zzai,hn]at qj;obtain⟨rfl,rfl,rfl⟩|⟨k,rfl,hk⟩:=aT
   ·have eO:IntKind.i64.wrap 1=1:=by decide
    simp[h27,h6,ai,aa,BX,eO,Lr];refine⟨⟨?_,by omega⟩,aN,⟨1,.own ls.length 1,_,bx,by simp,by omega,by rw[hc];simp,.inr ⟨ls.length,rfl,by rw[hc];simp⟩,rfl⟩,by omega⟩
    ·first|(rintro a _;rfl)|(rintro row a _ rfl;rfl)
   have zj:=(zza.1 hk).1;simp[h27,h6,ah,aa,BX,hw,hk];refine⟨⟨?_,by omega⟩,aN,⟨i+1,.own k 1,_,bx,by simp,by omega,by rw[hc];simp,.inr ⟨k,rfl,by rw[hc];simp[zj]⟩,rfl⟩,by omega⟩
   ·rintro row (⟨a,_,rfl⟩|⟨a,_,rfl⟩)<;>rfl
  have bJ:¬(i:Int)<(LL.length:Int):=by omega
  obtain rfl:i=LL.length:=by omega
  rw[qQ]at h6 aT;obtain⟨_,_,h0⟩|⟨k,rfl,hk⟩:=aT
  ·omega
  simp[h27,h6,bJ,BX,aiy]
open Go Go.Abs
def ZP(A B:List Sp)(h:A.length+B.length<=100000000):Pure Tryz.prog aq 321 [.sl .ro (A.map Qe),.sl .ro (B.map Qe)] (.sl .ro ((Xk (A++B)).map Qe)):=by
 have atv:=RE [(.ro,A),(.ro,B)] (by simp) (by simp) (by simp;omega);have ZQ:=Um (A++B) (by simp;omega);refine Qn aeJ (fun _ f _=>if f=348 then .sl .ro ((A++B).map Qe)else .sl .ro ((Xk (A++B)).map Qe)) (by simp) ?_;simp at atv ZQ;simp[ajM,ajN];exact⟨atv,ZQ⟩
def afX(s:Sp)(h1:0<=s.1)(h2:s.1<=s.2)(h3:s.2<=9223372036854775807):Pure Tryz.prog aq 320 [.agg (Qe s)] (.int .u64 (s.2-s.1)):=by
 have w1:IntKind.u64.wrap s.1=s.1:=by simp[IntKind.wrap,IntKind.bits,IntKind.signed];omega
 have w2:IntKind.u64.wrap s.2=s.2:=by simp[IntKind.wrap,IntKind.bits,IntKind.signed];omega
 have w3:IntKind.u64.wrap (s.2-s.1)=s.2-s.1:=by simp[IntKind.wrap,IntKind.bits,IntKind.signed];omega
 refine Qn aeI (fun _ _ _=>.junk) (by simp) ?_;simp[ajK,ajL,Qe,w1,w2,w3]
def Wz:Option Int->AV
 |some s=>.aU [I s,.bool true]
 |none=>.aU [I 0,.bool false]
def Gu(L:List Sp):Nat->FuncId->List AV->AV:=fun _ f l=>if f=182 then .sl .ro (L.map Qe)else if f=249 then(match l with|[.agg [.int _ a,.int _ b]]=>.bool (decide (b<=a))|_=>.junk)else
 (match l with|[.agg [.int _ a,.int _ b]]=>.int .u64 (b-a)|_=>.junk)
def atw(a n:Int)(L:List Sp)(T:Option Int)(f:Nat->AV)(m:AM):Prop:=∃(i:Nat)(bx:List (List AV)),f 17=I i/\i<=L.length/\Gr a n (L.drop i)=T/\m=⟨bx,[],fun _=>.gone,0⟩
def Gv(l:List Sp)(a n:Int)(hl:l.length<=100000000)(ha:0<=a)(hn:1<=n/\n<=1000000)(hb:∀s∈l,s.1<=1000000000000/\s.2<=1000000000000):Pure Tryz.prog aq 275 [.sl .ro (l.map Qe),I a,I n] (Wz (lR l a n)):=by
 have ZQ:=Um l hl;obtain⟨T,hT⟩:∃T,lR l a n=T:=⟨_,rfl⟩;rw[hT];rw[lR,if_neg (by omega)]at hT;have hbL:=ZR (P:=fun x=>x<=1000000000000) (l:=l) hb;have hLl:=Yv l;generalize Xk l=L at ZQ hT hbL hLl;have eN:¬n<=0:=by omega
 refine Qn aeq (Gu L) (by simp) ?_;simp[VM,Gu,eN];refine⟨ZQ,?_⟩;refine Qi vq (atw a n L T) (fun f _=>L.length-(numOf (f 17)).toNat) ?_ ?_
 ·exact⟨0,[],by simp,by omega,by simpa using hT,rfl⟩
 rintro f m ⟨i,bx,h17,hi,hx,rfl⟩;rcases zzaa i L.length with ai|bw
 ·obtain⟨s,hs⟩:=aP ai;have aa:Qh (L.map Qe) i=Qe s:=Zd hs;have ah:(i:Int)<(L.length:Int):=by omega
  have hw:=bH i (by omega);rw[Xy hs,Gr]at hx;obtain⟨q,hq⟩:∃q,max s.1 a=q:=⟨_,rfl⟩;have hqm:(if s.1<a then a else s.1)=q:=by omega
  have ZS:Abs.Pure Tryz.prog aq 249 [.agg (Qe (q,s.2))] (.bool (decide (s.2<=q))):=nN (q,s.2);rw[hq]at hx;have hu:IntKind.u64.wrap n=n:=by simp[IntKind.wrap,IntKind.bits,IntKind.signed];omega
  by_cases c1:s.2<=q
  ·rw[if_neg (by omega)]at hx;rw[decide_eq_true c1]at ZS;simp[h17,ah,aa,Qe,hqm,c1,vq,hw,Gu];refine⟨by simpa[Qe]using ZS,aN,⟨i+1,_,by simp,by omega,hx,rfl⟩,by omega⟩
  have atx:=afX (q,s.2) (by simp only;omega) (by simp only;omega) (by
   have:=hbL s (zzac hs);simp only;omega)
  rw[decide_eq_false c1]at ZS;by_cases c2:n<=s.2-q
  ·rw[if_pos (by omega)]at hx;subst hx;simp[h17,ah,aa,Qe,hqm,c1,c2,hu,vq,VN,Gu,Wz];exact⟨by simpa[Qe]using ZS,by simpa[Qe]using atx⟩
  rw[if_neg (by omega)]at hx;simp[h17,ah,aa,Qe,hqm,c1,c2,hu,vq,hw,Gu];refine⟨by simpa[Qe]using ZS,by simpa[Qe]using atx,aN,⟨i+1,_,by simp,by omega,hx,rfl⟩,by omega⟩
 have bJ:¬(i:Int)<(L.length:Int):=by omega
 rw[zzan bw]at hx;have hx:none=T:=hx;subst hx;simp[h17,bJ,vq,VN,Wz]
open Go Go.Abs
def pf(k:Int×Int):List ((Int×Int)×List Sp)->Option (List Sp)
 |[]=>none
 |x::r=>if x.1=k then some x.2 else pf k r
def Gw(k:Int×Int):∀(l:List ((Int×Int)×List Sp))(i:Nat),(pf k l=none/\Xh [k.1,k.2] (Tr l) i=none)\/∃v n,pf k l=some v/\Xh [k.1,k.2] (Tr l) i=some (n,.sl .ro (v.map Qe))
 |[],i=>.inl ⟨rfl,rfl⟩
 |x::r,i=>by
  by_cases h:x.1=k
  ·exact .inr ⟨x.2,i,by rw[pf,if_pos h],by simp[Tr,Xh,h]⟩
  have hk:¬([k.1,k.2]:List Int)=[x.1.1,x.1.2]:=by
   intro e;simp only[List.cons.injEq,and_true]at e;exact h (Prod.ext e.1.symm e.2.symm)
  rcases Gw k r (i+1)with⟨h1,h2⟩|⟨v,n,h1,h2⟩
  ·refine .inl ⟨by rw[pf,if_neg h];exact h1,?_⟩;simp only[Tr,zzay,Xh];rw[if_neg hk];exact h2
  refine .inr ⟨v,n,by rw[pf,if_neg h];exact h1,?_⟩;simp only[Tr,zzay,Xh];rw[if_neg hk];exact h2
def ZT(k q:Int×Int)(v:List Sp):∀(l:List ((Int×Int)×List Sp)),pf q (l++[(k,v)])=match pf q l with|some u=>some u|none=>if k=q then some v else none
 |[]=>rfl
 |x::r=>by
  rw[zzae,pf,ZT k q v r,pf];by_cases h:x.1=q<;>simp[h]
def Ls(b:Bd):Prop:=∀k v,pf k b.pm=some v->v=Xw b.p k.1 k.2
def pmN(b:Bd)(it n:Int):List ((Int×Int)×List Sp):=match pf (it,n) b.pm with
 |some _=>b.pm
 |none=>b.pm++[((it,n),Xw b.p it n)]
def anP{b:Bd}(h:Ls b)(it n:Int):Ls {b with pm:=pmN b it n}:=fun k v hk=>by
 simp only[pmN]at hk;cases hp:pf (it,n) b.pm with
 |some u=>rw[hp]at hk;exact h k v hk
 |none=>
  rw[hp]at hk;simp only[ZT]at hk;cases hq:pf k b.pm with
  |some u=>rw[hq]at hk;cases hk;exact h k _ hq
  |none=>
   rw[hq]at hk;simp only at hk;split at hk
   ·rename_i e;cases hk;rw[<- e]
   cases hk
def Lt{pre post:List (List AV)}{b:Bd}(pm:List ((Int×Int)×List Sp))(ls:List Nat)(id:Nat)(cells:List AV)(h:(aR pre {b with pm:=pm} post ls).boxes[id]?=some cells):(aR pre b post ls).boxes[id]?=some cells\/Y9 cells:=by
 simp only[aR]at h |-
 rcases zzaa id pre.length with ai|bw
 ·rw[zzag ai]at h |-
  exact .inl h
 rw[zzal bw]at h |-
 match hk:id-pre.length,h with
 |0,h=>exact .inl h
 |1,h=>exact .inl h
 |2,h=>exact .inl h
 |3,h=>exact .inl h
 |4,h=>exact .inl h
 |5,h=>exact .inl h
 |6,h=>exact .inl h
 |7,h=>exact .inl h
 |8,h=>
  refine .inr (.inr ⟨2,Tr pm,?_,?_⟩)
  ·simp[bq]at h;exact h.symm
  intro e he;obtain⟨x,_,rfl⟩:=zzaw.1 he;exact Idle.ro _
 |9,h=>exact .inl h
 |k+10,h=>exact .inl h
def FrK(pre:List (List AV))(b:Bd)(pm:List ((Int×Int)×List Sp))(post:List (List AV))(ls:List Nat)(K:AV->AM->Prop)(r:AV)(m:AM):Prop:=∃ex,m=aR pre {b with pm:=pm} (post++ex) ls/\Idle r/\K r (aR pre {b with pm:=pm} post ls)
def frK{pre:List (List AV)}{b:Bd}{pm:List ((Int×Int)×List Sp)}{post:List (List AV)}{ls:List Nat}{K:AV->AM->Prop}{r:AV}{m:AM}(ex:List (List AV))(h:m=aR pre {b with pm:=pm} (post++ex) ls)(hi:Idle r)(hK:K r (aR pre {b with pm:=pm} post ls)):FrK pre b pm post ls K r m:=⟨ex,h,hi,hK⟩
def RF{f:FuncId}{xs:List AV}{pre post:List (List AV)}{b:Bd}{pm:List ((Int×Int)×List Sp)}{ls:List Nat}{Y:YT}{K:AV->AM->Prop}(h:an Tryz.prog aq Y f xs (aR pre b post ls) (FrK pre b pm post ls K)):an Tryz.prog aq Y f xs (aR pre b post ls) K:=by
 refine an.forget (an.mono h ?_);rintro r m' ⟨ex,rfl,h1,h2⟩;refine⟨aR pre {b with pm:=pm} post ls,ex,?_,?_,rfl,fun id cells hc=>Lt pm ls id cells hc,h1,h2⟩
 ·simp[aR,bq]
 simp[aR,bq]
def akC(p:Pl)(it:Int):Nat->FuncId->List AV->AV:=fun d f l=>if f=59 then(match l with|[_,_,_,.agg [.int _ a,.int _ c]]=>.sl .ro ((Vm p it 0 (a,c)).map Qe)|_=>.junk)else
 (match l with|[.sl _ a,.sl _ c]=>.sl .ro ((Xk (a.map tP++c.map tP)).map Qe)|_=>.junk)
def RG(pre post:List (List AV))(ls:List Nat)(b:Bd)(it n:Int)(hn:0<=n/\n<=1000)(hc:b.p.cls.length<=1000000)(gH:b.p.sh.length<=1000000000)(cH:b.p.aL.length<=1000000000)(Tl:Ls b)(Y:YT)(K:AV->AM->Prop)
  (hK:K (.sl .ro ((Xw b.p it n).map Qe)) (aR pre {b with pm:=pmN b it n} post ls)):
  an Tryz.prog aq Y 276 [.ptr (pre.length+9) 0,.agg [I it,I n]] (aR pre b post ls) K:=by
 refine RF (pm:=pmN b it n) ?_;have w1:IntKind.i64.wrap (n*1000000)=n*1000000:=by rw[Qk]<;>omega
 have w2:IntKind.i64.wrap (n+1)=n+1:=by rw[Qk]<;>omega
 have w3:IntKind.i64.wrap ((n+1)*1000000)=(n+1)*1000000:=by rw[Qk]<;>omega
 have w4:IntKind.i64.wrap (n+2)=n+2:=by rw[Qk]<;>omega
 have w5:IntKind.i64.wrap ((n+2)*1000000)=(n+2)*1000000:=by rw[Qk]<;>omega
 have k1:=nI b.p it 0 (n*1000000,(n+1)*1000000) hc gH cH (by simp only;omega) (by simp only;omega);have k2:=nI b.p it 0 ((n+1)*1000000,(n+2)*1000000) hc gH cH (by simp only;omega) (by simp only;omega);have l1:=Qcn b.p it 0 (n*1000000,(n+1)*1000000);have l2:=Qcn b.p it 0 ((n+1)*1000000,(n+2)*1000000);have k3:=ZP (Vm b.p it 0 (n*1000000,(n+1)*1000000)) (Vm b.p it 0 ((n+1)*1000000,(n+2)*1000000)) (by omega);have sE:Xw b.p it n=Xk (Vm b.p it 0 (n*1000000,(n+1)*1000000)++Vm b.p it 0 ((n+1)*1000000,(n+2)*1000000)):=rfl;rw[<- sE]at k3;obtain⟨R,hR⟩:∃R,Xw b.p it n=R:=⟨_,rfl⟩;refine Xe aer (akC b.p it) (by simp) ?_;rcases Gw (it,n) b.pm 0 with⟨h1,h2⟩|⟨v,j,h1,h2⟩
 ·have hp:pmN b it n=b.pm++[((it,n),Xw b.p it n)]:=by simp only[pmN,h1]
  have iU:Tr (pmN b it n)=Tr b.pm++[([it,n],.sl .ro ((Xw b.p it n).map Qe))]:=by rw[hp];simp[Tr]
  simp[VO,VQ,aR,bq,Qq,Qc,h2,w1,w2,w3,w4,w5,akC,<- sE];refine⟨by simpa[Qc]using k1,by simpa[Qc]using k2,k3,?_⟩;rw[<- iU];exact frK [[I it,I n]] rfl (Idle.ro _) hK
 have hv:=Tl _ _ h1;have hp:pmN b it n=b.pm:=by simp only[pmN,h1]
 rw[hp]at hK |-
 rw[<- hv]at hK;simp[VO,VQ,aR,bq,Qq,Qc,h2];exact frK [[I it,I n]] rfl (Idle.ro _) hK
def Lu{p:Pl}{it n:Int}:∀s∈Xw p it n,s.1<=1000000000000/\s.2<=1000000000000:=fun s hs=>by
 have hv:=(Zw (Vm p it 0 (n*1000000,(n+1)*1000000)++Vm p it 0 ((n+1)*1000000,(n+2)*1000000))).1.1 s hs;have h1:Xq (Xw p it n) s.1:=⟨s,hs,by omega,by omega⟩;have h2:Xq (Xw p it n) (s.2-1):=⟨s,hs,by omega,by omega⟩;rw[Qbt]at h1 h2;obtain⟨_,_,_,_,_,PY,_⟩:=h1;obtain⟨_,_,_,_,_,hx2,_⟩:=h2;omega
def Gx(p:Pl)(it n:Int):(Xw p it n).length<=2000000:=by
 have h:=Yv (Vm p it 0 (n*1000000,(n+1)*1000000)++Vm p it 0 ((n+1)*1000000,(n+2)*1000000));have l1:=Qcn p it 0 (n*1000000,(n+1)*1000000);have l2:=Qcn p it 0 ((n+1)*1000000,(n+2)*1000000);rw[zzai]at h;have:(Xw p it n).length<=_:=h;omega
def uB:Nat->FuncId->List AV->AV:=fun _ f l=>if f=276 then .gd false .junk else(match l with|[.sl _ a,.int _ x,.int _ n]=>Wz (lR (a.map tP) x n)|_=>.junk)
def afY(pre:List (List AV))(b:Bd)(post:List (List AV))(ls:List Nat)(e:En)(last from_:Int)(T:Option Int)(f:Nat->AV)(m:AM):Prop:=∃(n:Int)(pm:List ((Int×Int)×List Sp)),
 f 9=I n/\(0<=n/\n<=9223372036854)/\Tq b.p e last from_ n=T/\Ls {b with pm:=pm}/\m=aR pre {b with pm:=pm} (post++[Qd e]) ls
def afZ{from_:Int}(h0:0<=from_)(h1:from_<=9223372036854775807):0<=from_.tdiv 1000000/\from_.tdiv 1000000<=9223372036854:=by
 rw[zzcl h0];omega
def OF(pre post:List (List AV))(ls:List Nat)(b:Bd)(e:En)(from_:Int)(hc:b.p.cls.length<=1000000)(gH:b.p.sh.length<=1000000000)(cH:b.p.aL.length<=1000000000)(dx:b.p.ln<=9223372036854775807)(sE:from_<=9223372036854775807)
  (Tl:Ls b)(Y:YT)(K:AV->AM->Prop)(hK:∀pm ex,Ls {b with pm:=pm}->K (Wz (Vz b.p e from_)) (aR pre {b with pm:=pm} (post++ex) ls)):
  an Tryz.prog aq Y 201 [.ptr (pre.length+9) 0,.agg (Qd e),I from_] (aR pre b post ls) K:=by
 refine Xe adB uB (by simp) ?_
 have no:Vz b.p e from_=none->K (.aU [I 0,.bool false]) (aR pre b (post++[Qd e]) ls):=fun h=>by
  have:=hK b.pm [Qd e] Tl;rw[h]at this;exact this
 by_cases c1:e.fr<1
 ·simp[z7,vg,aR,bq,Qq,Qc,Qd,c1];exact no (by rw[Vz,if_pos (.inl c1)])
 by_cases c2:1000000<e.fr
 ·simp[z7,vg,aR,bq,Qq,Qc,Qd,c1,c2];exact no (by rw[Vz,if_pos (.inr (.inl c2))])
 by_cases c3:b.p.ln<e.fr
 ·simp[z7,vg,aR,bq,Qq,Qc,Qd,c1,c2,c3];exact no (by rw[Vz,if_pos (.inr (.inr c3))])
 have hS:Vz b.p e from_=Tq b.p e (mH b.p e) (max from_ 0) ((max from_ 0).tdiv 1000000):=by rw[Vz,if_neg (by omega)]
 rw[hS]at hK;clear no;obtain⟨fm,hfm⟩:∃fm,max from_ 0=fm:=⟨_,rfl⟩;have axZ:(if from_<0 then 0 else from_)=fm:=by omega
 have hf0:0<=fm/\fm<=9223372036854775807:=by omega
 obtain⟨d1,d2⟩:=afZ hf0.1 hf0.2;rw[hfm]at hK;have hwq:IntKind.i64.wrap (fm.tdiv 1000000)=fm.tdiv 1000000:=by rw[Qk]<;>omega
 have hwl:IntKind.i64.wrap (b.p.ln-e.fr)=b.p.ln-e.fr:=by rw[Qk]<;>omega
 obtain⟨q,hq⟩:∃q,fm.tdiv 1000000=q:=⟨_,rfl⟩;rw[hq]at hwq d1 d2 hK;obtain⟨la,hla⟩:∃la,mH b.p e=la:=⟨_,rfl⟩;have hlb:la<=100000000:=by rw[<- hla,mH];omega
 rw[hla]at hK;obtain⟨T,hT⟩:∃T,Tq b.p e la fm q=T:=⟨_,rfl⟩;rw[hT]at hK;simp[z7,aR,bq,Qq,Qc,Qd,c1,c2,c3,hwl,axZ,hq,hwq]
 have mz:V6 false (V6 false e.la (b.p.ln-e.fr)) 100000000=la:=by
  rw[<- hla,mH];simp only[V6];simp;omega
 rw[mz];refine Qi vh (afY pre b post ls e la fm T) (fun f _=>(la-numOf (f 9)*1000000+1000000).toNat) ?_ ?_
 ·exact⟨q,b.pm,by simp,⟨d1,d2⟩,hT,Tl,by simp[aR,bq,Qq,Qc,Qd]⟩
 rintro f m ⟨n,pm,h9,hn,cc,hpm',rfl⟩;have hwm:IntKind.i64.wrap (n*1000000)=n*1000000:=by rw[Qk]<;>omega
 have YN:IntKind.i64.wrap (n+1)=n+1:=by rw[Qk]<;>omega
 rw[Tq]at cc;by_cases c4:n*1000000<=la
 ·rw[if_pos c4]at cc;have RH:=Gv (Xw b.p e.it n) fm e.fr (by have:=Gx b.p e.it n;omega) hf0.1 (by omega) Lu;obtain⟨R,hR⟩:∃R,Xw b.p e.it n=R:=⟨_,rfl⟩;have kf:=fun K'=>RG pre (post++[Qd e]) ls {b with pm:=pm} e.it n (by omega) hc gH cH hpm' Y K';have hpn:=anP hpm' e.it n;obtain⟨OG,ax0⟩:∃OG,pmN {b with pm:=pm} e.it n=OG:=⟨_,rfl⟩;rw[ax0]at kf hpn;simp only at kf;rw[hR]at cc RH kf;cases hes:lR R fm e.fr with
  |none=>
   rw[hes]at cc RH;simp[h9,vh,hwm,c4,aR,bq,Qq,Qc,Qd];refine Qay [(.sl .ro (R.map Qe),aR pre {b with pm:=OG} (post++[Qd e]) ls)] ?_;simp[h9,aR,bq,Qq,Qc,Qd,uB,hes,Wz,YN];refine⟨kf _ ⟨rfl,rfl⟩,RH,aN,⟨n+1,OG,by simp,by omega,cc,hpn,by simp[aR,bq,Qq,Qc,Qd]⟩,by omega⟩
  |some s=>
   rw[hes]at cc RH;simp only at cc;by_cases c5:la<s
   ·rw[if_pos c5]at cc;subst cc;have:=hK OG [Qd e] hpn;simp[h9,vh,hwm,c4,aR,bq,Qq,Qc,Qd];refine Qay [(.sl .ro (R.map Qe),aR pre {b with pm:=OG} (post++[Qd e]) ls)] ?_;simp[aR,bq,Qq,Qc,Qd,uB,hes,Wz,c5,vg];refine⟨kf _ ⟨rfl,rfl⟩,RH,?_⟩;simpa[aR,bq,Qq,Qc,Qd,Wz]using this
   rw[if_neg c5]at cc;subst cc;have:=hK OG [Qd e] hpn;simp[h9,vh,hwm,c4,aR,bq,Qq,Qc,Qd];refine Qay [(.sl .ro (R.map Qe),aR pre {b with pm:=OG} (post++[Qd e]) ls)] ?_;simp[aR,bq,Qq,Qc,Qd,uB,hes,Wz,c5,vg];refine⟨kf _ ⟨rfl,rfl⟩,RH,?_⟩;simpa[aR,bq,Qq,Qc,Qd,Wz]using this
 rw[if_neg c4]at cc;subst cc;have:=hK pm [Qd e] hpm';simp[h9,vh,hwm,c4,vg];simpa[aR,bq,Qq,Qc,Qd,Wz]using this
open Go Go.Abs
def pL(n:Int)(us:List (Int×Int)):Prop:=∀k v,af k us=some v->0<=v/\v<=n
def pL.note{n:Int}{us:List (Int×Int)}(h:pL n us)(hn:0<=n)(it:Int):pL (n+1) (Vr us it):=fun k v hk=>by
 rw[Vr,Vq]at hk;split at hk
 ·cases hk;cases ha:af it us with
  |none=>simp;omega
  |some u=>have:=h it u ha;simp;omega
 have:=h k v hk;omega
def Qct(p:Pl)(it:Int):(∃n y,Xg it p.aL=some y/\Xh [it] (bI rB (zH p)) 0=some (n,rB y))\/(Xg it p.aL=none/\Xh [it] (bI rB (zH p)) 0=none):=by
 rcases Xp rB it (zH p) 0 with⟨h1,h2,_,_⟩|⟨u,n,h1,h2,_⟩
 ·rw[uA]at h1;exact .inr ⟨h1,h2⟩
 rw[uA]at h1;exact .inl ⟨_,u,h1,h2⟩
def xD(us:List (Int×Int))(it:Int):(Xh [it] (bI iA us) 0=none/\bI iA us++[([it],.int .i64 1)]=bI iA (Vr us it))\/∃u n,af it us=some u/\Xh [it] (bI iA us) 0=some (n,.int .i64 u)/\(bI iA us).set n ([it],.int .i64 (u+1))=bI iA (Vr us it):=by
 rcases Xp iA it us 0 with⟨h1,h2,_,h4⟩|⟨u,n,h1,h2,_,_,_,h4⟩
 ·exact .inl ⟨h2,by rw[Vr,h1];exact h4 1⟩
 exact .inr ⟨u,n,h1,by rw[h2,zzbt],by rw[Vr,h1];exact h4 (u+1)⟩
def Qdo(p:Pl)(en:List (Int×Int))(it e:Int){y:It}(hy:Xg it p.aL=some y):(Xh [y.sp] (bI iA en) 0=none/\bI iA en++[([y.sp],.int .i64 (if 0<e then e else 0))]=bI iA (Zl p en it e))\/∃u n,af y.sp en=some u/\Xh [y.sp] (bI iA en) 0=some (n,.int .i64 u)/\(bI iA en).set n ([y.sp],.int .i64 (if u<e then e else u))=bI iA (Zl p en it e):=by
 rcases Xp iA y.sp en 0 with⟨h1,h2,_,h4⟩|⟨u,n,h1,h2,_,_,_,h4⟩
 ·refine .inl ⟨h2,?_⟩;have:(if 0<e then e else 0)=max 0 e:=by omega
  simp only[Zl,hy,h1,this];exact h4 _
 refine .inr ⟨u,n,h1,by rw[h2,zzbt],?_⟩;have:(if u<e then e else u)=max u e:=by omega
 simp only[Zl,hy,h1,this];exact h4 _
def ZU(pre p0 bx:List (List AV))(ls:List Nat)(b:Bd)(us en:List (Int×Int))(it e:Int)(hu:pL 1000000000 us)(Y:YT)(K:AV->AM->Prop)(hK:∀ex,K (.aU []) (aR pre b (p0++([.aK 0 (bI iA (Vr us it))]::[.aK 0 (bI iA (Zl b.p en it e))]::(bx++ex))) ls)):
  an Tryz.prog aq Y 197 [.ptr (pre.length+9) 0,.mp (pre.length+(p0.length+10)),.mp (pre.length+(p0.length+11)),I it,I e] (aR pre b (p0++([.aK 0 (bI iA us)]::[.aK 0 (bI iA en)]::bx)) ls) K:=by
 refine Xe Nu (fun _ _ _=>.junk) (by simp) ?_;have w1:IntKind.i64.wrap 1=1:=by decide
 rcases xD us it with⟨u2,u4⟩|⟨u,n,u1,u2,u4⟩
 ·rcases Qct b.p it with⟨ni,y,hy,hi⟩|⟨hy,hi⟩
  ·rcases Qdo b.p en it e hy with⟨e2,e4⟩|⟨v,nv,e1,e2,e4⟩
   ·simp[fL,fM,aR,bq,Qq,Qc,hi,rB,Qm,u2,e2,w1];rw[u4,e4];simpa[aR,bq,Qq,Qc,Qm]using hK [Qm y]
   simp[fL,fM,aR,bq,Qq,Qc,hi,rB,Qm,u2,e2,w1];rw[u4,e4];simpa[aR,bq,Qq,Qc,Qm]using hK [Qm y]
  have he:Zl b.p en it e=en:=by simp only[Zl,hy]
  rw[he]at hK;simp[fL,fM,aR,bq,Qq,Qc,hi,u2,w1];rw[u4];simpa[aR,bq,Qq,Qc]using hK [[I 0,I 0,I 0,I 0,I 0]]
 have hb:=hu it u u1;have wu:IntKind.i64.wrap (u+1)=u+1:=by rw[Qk]<;>omega
 rcases Qct b.p it with⟨ni,y,hy,hi⟩|⟨hy,hi⟩
 ·rcases Qdo b.p en it e hy with⟨e2,e4⟩|⟨v,nv,e1,e2,e4⟩
  ·simp[fL,fM,aR,bq,Qq,Qc,hi,rB,Qm,u2,e2,wu];rw[u4,e4];simpa[aR,bq,Qq,Qc,Qm]using hK [Qm y]
  simp[fL,fM,aR,bq,Qq,Qc,hi,rB,Qm,u2,e2,wu];rw[u4,e4];simpa[aR,bq,Qq,Qc,Qm]using hK [Qm y]
 have he:Zl b.p en it e=en:=by simp only[Zl,hy]
 rw[he]at hK;simp[fL,fM,aR,bq,Qq,Qc,hi,u2,wu];rw[u4];simpa[aR,bq,Qq,Qc]using hK [[I 0,I 0,I 0,I 0,I 0]]
def af0(pre post:List (List AV))(ls:List Nat)(b:Bd)(us en:List (Int×Int))(it e:Int)(hu:pL 1000000000 us)(Y:YT)(K:AV->AM->Prop)(hK:∀ex,K (.aU []) (aR pre {b with us:=Vr us it,en:=Zl b.p en it e} (post++ex) ls)):
  an Tryz.prog aq Y 197 [.ptr (pre.length+9) 0,.mp (pre.length+4),.mp (pre.length+5),I it,I e] (aR pre {b with us:=us,en:=en} post ls) K:=by
 refine Xe Nu (fun _ _ _=>.junk) (by simp) ?_;have w1:IntKind.i64.wrap 1=1:=by decide
 rcases xD us it with⟨u2,u4⟩|⟨u,n,u1,u2,u4⟩
 ·rcases Qct b.p it with⟨ni,y,hy,hi⟩|⟨hy,hi⟩
  ·rcases Qdo b.p en it e hy with⟨e2,e4⟩|⟨v,nv,e1,e2,e4⟩
   ·simp[fL,fM,aR,bq,Qq,Qc,hi,rB,Qm,u2,e2,w1];rw[u4,e4];simpa[aR,bq,Qq,Qc,Qm]using hK [Qm y]
   simp[fL,fM,aR,bq,Qq,Qc,hi,rB,Qm,u2,e2,w1];rw[u4,e4];simpa[aR,bq,Qq,Qc,Qm]using hK [Qm y]
  have he:Zl b.p en it e=en:=by simp only[Zl,hy]
  rw[he]at hK;simp[fL,fM,aR,bq,Qq,Qc,hi,u2,w1];rw[u4];simpa[aR,bq,Qq,Qc]using hK [[I 0,I 0,I 0,I 0,I 0]]
 have hb:=hu it u u1;have wu:IntKind.i64.wrap (u+1)=u+1:=by rw[Qk]<;>omega
 rcases Qct b.p it with⟨ni,y,hy,hi⟩|⟨hy,hi⟩
 ·rcases Qdo b.p en it e hy with⟨e2,e4⟩|⟨v,nv,e1,e2,e4⟩
  ·simp[fL,fM,aR,bq,Qq,Qc,hi,rB,Qm,u2,e2,wu];rw[u4,e4];simpa[aR,bq,Qq,Qc,Qm]using hK [Qm y]
  simp[fL,fM,aR,bq,Qq,Qc,hi,rB,Qm,u2,e2,wu];rw[u4,e4];simpa[aR,bq,Qq,Qc,Qm]using hK [Qm y]
 have he:Zl b.p en it e=en:=by simp only[Zl,hy]
 rw[he]at hK;simp[fL,fM,aR,bq,Qq,Qc,hi,u2,wu];rw[u4];simpa[aR,bq,Qq,Qc]using hK [[I 0,I 0,I 0,I 0,I 0]]
end Go.Proofs.YtnopaopphmjnmaaGreatDoor
