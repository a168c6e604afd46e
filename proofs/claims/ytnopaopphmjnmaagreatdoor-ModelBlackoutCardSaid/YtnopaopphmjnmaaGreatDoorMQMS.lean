import Derived.Test.YtnopaopphmjnmaaGreatDoorMQMR
set_option linter.all false
set_option maxRecDepth 100000
set_option maxHeartbeats 64000000
namespace Go.Proofs.YtnopaopphmjnmaaGreatDoor
open Go Go.Abs
def Qy(n:Int):List AV:=[I n]
def aab(LL:List (Rt×List Sp))(f:Nat->AV)(m:AM):Prop:=∃(i:Nat)(bx:List (List AV)),f 11=I i/\i<=LL.length/\f 3=I (((LL.take i).map fun x=>x.2).flatten.length:Nat)/\m=⟨bx,[],fun _=>.gone,0⟩
def aac(LL:List (Rt×List Sp))(f:Nat->AV)(m:AM):Prop:=∃(i:Nat)(rt:Rt)(ls:List Nat)(bx:List (List AV)),f 27=I i/\i<=LL.length/\f 6=.sl rt (((LL.take i).map fun x=>x.2).flatten.map Qf)/\
 (((LL.take i).map fun x=>x.2).flatten=[]/\rt=.nil/\i=0\/∃k,rt=.own k 2/\ls[k]?=some ((LL.take i).map fun x=>x.2).flatten.length)/\m=⟨bx,ls,fun _=>.gone,0⟩
def Pj(LL:List (Rt×List Sp)){i:Nat}{x:Rt×List Sp}(h:LL[i]?=some x):((LL.take (i+1)).map fun x=>x.2).flatten=((LL.take i).map fun x=>x.2).flatten++x.2:=by
 simp[zzas,h]
def Pk(LL:List (Rt×List Sp))(i:Nat):((LL.take i).map fun x=>x.2).flatten.length<=(LL.map fun x=>x.2).flatten.length:=by
 have h:(LL.map fun x=>x.2)=((LL.take i).map fun x=>x.2)++(LL.drop i).map fun x=>x.2:=by rw[<- zzca,zzdd]
 rw[h,zzek,zzai];omega
def u6:Nat->FuncId->List AV->AV:=fun _ f _=>if f=358 then .gd false .junk else .junk
def Sr(LL:List (Rt×List Sp))(aM:LL≠[])(hl:LL.length<=1000000)(hf:(LL.map fun x=>x.2).flatten.length<=1000000000):Pure Tryz.prog aA 348 [.sl .full (LL.map fun x=>[.sl x.1 (x.2.map Qf)])] (.sl .ro ((LL.map fun x=>x.2).flatten.map Qf)):=by
 have fk:=zzcx.2 aM;have iR:LL.take LL.length=LL:=zzbu;refine Qo ae6 u6 zd ?_;simp[ajY];refine Qk CM (aab LL) (fun f _=>LL.length-(numOf (f 11)).toNat) ?_ ?_
 ·exact⟨0,[],zd,zE,zd,rfl⟩
 rintro f m ⟨i,bx,pO,hi,h3,rfl⟩;rcases zzaa i LL.length with ai|bz
 ·obtain⟨x,hx⟩:=aU ai;have ah:Qh (LL.map fun x=>[.sl x.1 (x.2.map Qf)]) i=[.sl x.1 (x.2.map Qf)]:=Qt (by simp[hx]);have aa:(i:Int)<(LL.length:Int):=zE
  have hw:=bM i zE;have hc:=Pj LL hx;have oF:=Pk LL (i+1);obtain⟨n,hn⟩:∃n,((LL.take i).map fun x=>x.2).flatten.length=n:=⟨_,rfl⟩;have hcn:((LL.take (i+1)).map fun x=>x.2).flatten.length=n+x.2.length:=by rw[hc,zzai,hn]
  rw[hn]at h3;have dP:IntKind.i64.wrap ((n:Int)+(x.2.length:Int))=((n+x.2.length:Nat):Int):=by rw[Qj]<;>omega
  have A0:¬(n:Int)+(x.2.length:Int)<0:=zE
  simp[pO,h3,ai,aa,ah,CM,hw,dP,A0];refine⟨aP,⟨i+1,_,zd,zE,by rw[hcn];simp[dP],rfl⟩,zE⟩
 have bL:¬(i:Int)<(LL.length:Int):=zE
 obtain rfl:i=LL.length:=zE
 rw[iR]at h3;obtain⟨n,hn⟩:∃n,(LL.map fun x=>x.2).flatten.length=n:=⟨_,rfl⟩;rw[hn]at h3 hf;have fin:∀(rt:Rt)(ls:List Nat),(rt=.nil\/∃k,rt=.own k 2/\ls[k]?=some 0)->∀(E:List (Nat×AV)),True:=fun _ _ _ _=>trivial;simp[pO,h3,bL,zzbo.2 bz,CM,u6];refine af8 hf (fun h0=>?_) (fun h0=>?_)
 all_goals
  try simp[pO,h3,CM]
  refine Qk CN (aac LL) (fun f _=>LL.length-(numOf (f 27)).toNat) ?_ ?_
 ·exact⟨0,.nil,[],bx,zd,zE,zd,.inl ⟨zd,rfl,rfl⟩,rfl⟩
 rotate_left
 ·exact⟨0,.own 0 2,[0],bx,zd,zE,zd,.inr ⟨0,rfl,zd⟩,rfl⟩
 all_goals
  clear h0;rintro f m ⟨i,rt,ls,bx,h27,hi,h6,aT,rfl⟩;rcases zzaa i LL.length with ai|bz
  ·obtain⟨x,hx⟩:=aU ai;have ah:Qh (LL.map fun x=>[.sl x.1 (x.2.map Qf)]) i=[.sl x.1 (x.2.map Qf)]:=Qt (by simp[hx]);have aa:(i:Int)<(LL.length:Int):=zE
   have hw:=bM i zE;have hc:=Pj LL hx;have oF:=Pk LL (i+1);obtain⟨F,hF⟩:∃F,((LL.take i).map fun x=>x.2).flatten=F:=⟨_,rfl⟩;rw[hF]at h6 aT hc;rw[hc,zzai,hn]at oF;obtain⟨rfl,rfl,rfl⟩|⟨k,rfl,hk⟩:=aT
   ·have eT:IntKind.i64.wrap 1=1:=by decide
    simp[h27,h6,ai,aa,ah,CN,hw,eT,u6];refine⟨⟨?_,zE⟩,aP,⟨1,.own ls.length 2,_,bx,zd,zE,by rw[hc];simp,.inr ⟨ls.length,rfl,by rw[hc];simp⟩,rfl⟩,zE⟩
    ·rintro a b row _ rfl;rfl
   have sI:=(zza.1 hk).1;simp[h27,h6,ai,aa,ah,CN,hw,hk,u6];refine⟨⟨?_,zE⟩,aP,⟨i+1,.own k 2,_,bx,zd,zE,by rw[hc];simp,.inr ⟨k,rfl,by rw[hc];simp[sI]⟩,rfl⟩,zE⟩
   ·rintro row (⟨a,b,_,rfl⟩|⟨a,b,_,rfl⟩)<;>rfl
  have bL:¬(i:Int)<(LL.length:Int):=zE
  obtain rfl:i=LL.length:=zE
  rw[iR]at h6 aT;obtain⟨_,_,h0⟩|⟨k,rfl,hk⟩:=aT
  ·omega
  simp[h27,h6,bL,zzbo.2 bz,CN,ajZ]
open Go Go.Abs
def af9(LL:List (Rt×List Int))(f:Nat->AV)(m:AM):Prop:=∃(i:Nat)(bx:List (List AV)),f 11=I i/\i<=LL.length/\f 3=I (((LL.take i).map fun x=>x.2).flatten.length:Nat)/\m=⟨bx,[],fun _=>.gone,0⟩
def aga(LL:List (Rt×List Int))(f:Nat->AV)(m:AM):Prop:=∃(i:Nat)(rt:Rt)(ls:List Nat)(bx:List (List AV)),f 27=I i/\i<=LL.length/\f 6=.sl rt (((LL.take i).map fun x=>x.2).flatten.map Qy)/\
 (((LL.take i).map fun x=>x.2).flatten=[]/\rt=.nil/\i=0\/∃k,rt=.own k 1/\ls[k]?=some ((LL.take i).map fun x=>x.2).flatten.length)/\m=⟨bx,ls,fun _=>.gone,0⟩
def aad(LL:List (Rt×List Int)){i:Nat}{x:Rt×List Int}(h:LL[i]?=some x):((LL.take (i+1)).map fun x=>x.2).flatten=((LL.take i).map fun x=>x.2).flatten++x.2:=by
 simp[zzas,h]
def aae(LL:List (Rt×List Int))(i:Nat):((LL.take i).map fun x=>x.2).flatten.length<=(LL.map fun x=>x.2).flatten.length:=by
 have h:(LL.map fun x=>x.2)=((LL.take i).map fun x=>x.2)++(LL.drop i).map fun x=>x.2:=by rw[<- zzca,zzdd]
 rw[h,zzek,zzai];omega
def DP:Nat->FuncId->List AV->AV:=fun _ f _=>if f=277 then .gd false .junk else .junk
def aaf(LL:List (Rt×List Int))(aM:LL≠[])(hl:LL.length<=1000000)(hf:(LL.map fun x=>x.2).flatten.length<=1000000000):Pure Tryz.prog aA 202 [.sl .full (LL.map fun x=>[.sl x.1 (x.2.map Qy)])] (.sl .ro ((LL.map fun x=>x.2).flatten.map Qy)):=by
 have fk:=zzcx.2 aM;have iR:LL.take LL.length=LL:=zzbu;refine Qo adX DP zd ?_;simp[aiE];refine Qk Cy (af9 LL) (fun f _=>LL.length-(numOf (f 11)).toNat) ?_ ?_
 ·exact⟨0,[],zd,zE,zd,rfl⟩
 rintro f m ⟨i,bx,pO,hi,h3,rfl⟩;rcases zzaa i LL.length with ai|bz
 ·obtain⟨x,hx⟩:=aU ai;have ah:Qh (LL.map fun x=>[.sl x.1 (x.2.map Qy)]) i=[.sl x.1 (x.2.map Qy)]:=Qt (by simp[hx]);have aa:(i:Int)<(LL.length:Int):=zE
  have hw:=bM i zE;have hc:=aad LL hx;have oF:=aae LL (i+1);obtain⟨n,hn⟩:∃n,((LL.take i).map fun x=>x.2).flatten.length=n:=⟨_,rfl⟩;have hcn:((LL.take (i+1)).map fun x=>x.2).flatten.length=n+x.2.length:=by rw[hc,zzai,hn]
  rw[hn]at h3;have dP:IntKind.i64.wrap ((n:Int)+(x.2.length:Int))=((n+x.2.length:Nat):Int):=by rw[Qj]<;>omega
  have A0:¬(n:Int)+(x.2.length:Int)<0:=zE
  simp[pO,h3,ai,aa,ah,Cy,hw,dP,A0];refine⟨aP,⟨i+1,_,zd,zE,by rw[hcn];simp[dP],rfl⟩,zE⟩
 have bL:¬(i:Int)<(LL.length:Int):=zE
 obtain rfl:i=LL.length:=zE
 rw[iR]at h3;obtain⟨n,hn⟩:∃n,(LL.map fun x=>x.2).flatten.length=n:=⟨_,rfl⟩;rw[hn]at h3 hf;have fin:∀(rt:Rt)(ls:List Nat),(rt=.nil\/∃k,rt=.own k 1/\ls[k]?=some 0)->∀(E:List (Nat×AV)),True:=fun _ _ _ _=>trivial;simp[pO,h3,bL,zzbo.2 bz,Cy,DP];refine agb hf (fun h0=>?_) (fun h0=>?_)
 all_goals
  try simp[pO,h3,Cy]
  refine Qk Cz (aga LL) (fun f _=>LL.length-(numOf (f 27)).toNat) ?_ ?_
 ·exact⟨0,.nil,[],bx,zd,zE,zd,.inl ⟨zd,rfl,rfl⟩,rfl⟩
 rotate_left
 ·exact⟨0,.own 0 1,[0],bx,zd,zE,zd,.inr ⟨0,rfl,zd⟩,rfl⟩
 all_goals
  clear h0;rintro f m ⟨i,rt,ls,bx,h27,hi,h6,aT,rfl⟩;rcases zzaa i LL.length with ai|bz
  ·obtain⟨x,hx⟩:=aU ai;have ah:Qh (LL.map fun x=>[.sl x.1 (x.2.map Qy)]) i=[.sl x.1 (x.2.map Qy)]:=Qt (by simp[hx]);have aa:(i:Int)<(LL.length:Int):=zE
   have hw:=bM i zE;have hc:=aad LL hx;have oF:=aae LL (i+1);obtain⟨F,hF⟩:∃F,((LL.take i).map fun x=>x.2).flatten=F:=⟨_,rfl⟩;rw[hF]at h6 aT hc;rw[hc,zzai,hn]at oF;obtain⟨rfl,rfl,rfl⟩|⟨k,rfl,hk⟩:=aT
   ·have eT:IntKind.i64.wrap 1=1:=by decide
    simp[h27,h6,ai,aa,ah,Cz,hw,eT,DP];refine⟨⟨?_,zE⟩,aP,⟨1,.own ls.length 1,_,bx,zd,zE,by rw[hc];simp,.inr ⟨ls.length,rfl,by rw[hc];simp⟩,rfl⟩,zE⟩
    ·first|(rintro a _;rfl)|(rintro row a _ rfl;rfl)
   have sI:=(zza.1 hk).1;simp[h27,h6,ai,aa,ah,Cz,hw,hk,DP];refine⟨⟨?_,zE⟩,aP,⟨i+1,.own k 1,_,bx,zd,zE,by rw[hc];simp,.inr ⟨k,rfl,by rw[hc];simp[sI]⟩,rfl⟩,zE⟩
   ·rintro row (⟨a,_,rfl⟩|⟨a,_,rfl⟩)<;>rfl
  have bL:¬(i:Int)<(LL.length:Int):=zE
  obtain rfl:i=LL.length:=zE
  rw[iR]at h6 aT;obtain⟨_,_,h0⟩|⟨k,rfl,hk⟩:=aT
  ·omega
  simp[h27,h6,bL,zzbo.2 bz,Cz,aiF]
open Go Go.Abs
def aag(A B:List Sp)(h:A.length+B.length<=100000000):Pure Tryz.prog aA 321 [.sl .ro (A.map Qf),.sl .ro (B.map Qf)] (.sl .ro ((Xn (A++B)).map Qf)):=by
 have atF:=Sr [(.ro,A),(.ro,B)] zd zd (by simp;omega);have aah:=Uw (A++B) (by simp;omega);refine Qo ae1 (fun _ f _=>if f=348 then .sl .ro ((A++B).map Qf)else .sl .ro ((Xn (A++B)).map Qf)) zd ?_;simp at atF aah;simp[ajR,ajS];exact⟨atF,aah⟩
def agc(s:Sp)(h1:0<=s.1)(h2:s.1<=s.2)(h3:s.2<=9223372036854775807):Pure Tryz.prog aA 320 [.agg (Qf s)] (.int .u64 (s.2-s.1)):=by
 have w1:IntKind.u64.wrap s.1=s.1:=by simp[IntKind.wrap,IntKind.bits,IntKind.signed];omega
 have w2:IntKind.u64.wrap s.2=s.2:=by simp[IntKind.wrap,IntKind.bits,IntKind.signed];omega
 have w3:IntKind.u64.wrap (s.2-s.1)=s.2-s.1:=by simp[IntKind.wrap,IntKind.bits,IntKind.signed];omega
 refine Qo ae0 (fun _ _ _=>.junk) zd ?_;simp[ajP,ajQ,Qf,w1,w2,w3]
def G9:Option Int->AV
 |some s=>.aZ [I s,.bool true]
 |none=>.aZ [I 0,.bool false]
def He(L:List Sp):Nat->FuncId->List AV->AV:=fun _ f l=>if f=182 then .sl .ro (L.map Qf)else if f=249 then(match l with|[.agg [.int _ a,.int _ b]]=>.bool (decide (b<=a))|_=>.junk)else
 (match l with|[.agg [.int _ a,.int _ b]]=>.int .u64 (b-a)|_=>.junk)
def atG(a n:Int)(L:List Sp)(T:Option Int)(f:Nat->AV)(m:AM):Prop:=∃(i:Nat)(bx:List (List AV)),f 17=I i/\i<=L.length/\G6 a n (L.drop i)=T/\m=⟨bx,[],fun _=>.gone,0⟩
def Hf(l:List Sp)(a n:Int)(hl:l.length<=100000000)(ha:0<=a)(hn:1<=n/\n<=1000000)(hb:∀s∈l,s.1<=1000000000000/\s.2<=1000000000000):Pure Tryz.prog aA 275 [.sl .ro (l.map Qf),I a,I n] (G9 (me l a n)):=by
 have aah:=Uw l hl;obtain⟨T,hT⟩:∃T,me l a n=T:=⟨_,rfl⟩;rw[hT];rw[me,if_neg zE]at hT;have hbL:=aai (P:=fun x=>x<=1000000000000) (l:=l) hb;have hLl:=Uc l;generalize Xn l=L at aah hT hbL hLl;have eZ:¬n<=0:=zE
 refine Qo aeI (He L) zd ?_;simp[WK,He,eZ];refine⟨aah,?_⟩;refine Qk vV (atG a n L T) (fun f _=>L.length-(numOf (f 17)).toNat) ?_ ?_
 ·exact⟨0,[],zd,zE,by simpa using hT,rfl⟩
 rintro f m ⟨i,bx,h17,hi,hx,rfl⟩;rcases zzaa i L.length with ai|bz
 ·obtain⟨s,hs⟩:=aU ai;have ah:Qh (L.map Qf) i=Qf s:=Zf hs;have aa:(i:Int)<(L.length:Int):=zE
  have hw:=bM i zE;rw[Zd hs,G6]at hx;obtain⟨q,hq⟩:∃q,max s.1 a=q:=⟨_,rfl⟩;have hqm:(if s.1<a then a else s.1)=q:=zE
  have aaj:Abs.Pure Tryz.prog aA 249 [.agg (Qf (q,s.2))] (.bool (decide (s.2<=q))):=ob (q,s.2);rw[hq]at hx;have hu:IntKind.u64.wrap n=n:=by simp[IntKind.wrap,IntKind.bits,IntKind.signed];omega
  by_cases c1:s.2<=q
  ·rw[if_neg zE]at hx;rw[decide_eq_true c1]at aaj;simp[h17,ai,aa,ah,Qf,hqm,c1,vV,hw,He];refine⟨by simpa[Qf]using aaj,aP,⟨i+1,_,zd,zE,hx,rfl⟩,zE⟩
  have atH:=agc (q,s.2) (by simp only;omega) (by simp only;omega) (by
   have:=hbL s (zzac hs);simp only;omega)
  rw[decide_eq_false c1]at aaj;by_cases c2:n<=s.2-q
  ·rw[if_pos zE]at hx;subst hx;simp[h17,ai,aa,ah,Qf,hqm,c1,c2,hu,vV,WL,He,G9];exact⟨by simpa[Qf]using aaj,by simpa[Qf]using atH⟩
  rw[if_neg zE]at hx;simp[h17,ai,aa,ah,Qf,hqm,c1,c2,hu,vV,hw,He];refine⟨by simpa[Qf]using aaj,by simpa[Qf]using atH,aP,⟨i+1,_,zd,zE,hx,rfl⟩,zE⟩
 have bL:¬(i:Int)<(L.length:Int):=zE
 rw[zzan bz]at hx;have hx:none=T:=hx;subst hx;simp[h17,bL,zzbo.2 bz,vV,WL,G9]
open Go Go.Abs
def pf(k:Int×Int):List ((Int×Int)×List Sp)->Option (List Sp)
 |[]=>none
 |x::r=>if x.1=k then some x.2 else pf k r
def Hg(k:Int×Int):∀(l:List ((Int×Int)×List Sp))(i:Nat),(pf k l=none/\Xl [k.1,k.2] (UC l) i=none)\/∃v n,pf k l=some v/\Xl [k.1,k.2] (UC l) i=some (n,.sl .ro (v.map Qf))
 |[],i=>.inl ⟨rfl,rfl⟩
 |x::r,i=>by
  by_cases h:x.1=k
  ·exact .inr ⟨x.2,i,by rw[pf,if_pos h],by simp[UC,Xl,h]⟩
  have hk:¬([k.1,k.2]:List Int)=[x.1.1,x.1.2]:=by
   intro e;simp only[List.cons.injEq,and_true]at e;exact h (Prod.ext e.1.symm e.2.symm)
  rcases Hg k r (i+1)with⟨h1,h2⟩|⟨v,n,h1,h2⟩
  ·refine .inl ⟨by rw[pf,if_neg h];exact h1,?_⟩;simp only[UC,zzay,Xl];rw[if_neg hk];exact h2
  refine .inr ⟨v,n,by rw[pf,if_neg h];exact h1,?_⟩;simp only[UC,zzay,Xl];rw[if_neg hk];exact h2
def aak(k q:Int×Int)(v:List Sp):∀(l:List ((Int×Int)×List Sp)),pf q (l++[(k,v)])=match pf q l with|some u=>some u|none=>if k=q then some v else none
 |[]=>rfl
 |x::r=>by
  rw[zzad,pf,aak k q v r,pf];by_cases h:x.1=q<;>simp[h]
def Mc(b:Bd):Prop:=∀k v,pf k b.pm=some v->v=Zc b.p k.1 k.2
def pmN(b:Bd)(it n:Int):List ((Int×Int)×List Sp):=match pf (it,n) b.pm with
 |some _=>b.pm
 |none=>b.pm++[((it,n),Zc b.p it n)]
def anU{b:Bd}(h:Mc b)(it n:Int):Mc {b with pm:=pmN b it n}:=fun k v hk=>by
 simp only[pmN]at hk;cases hp:pf (it,n) b.pm with
 |some u=>rw[hp]at hk;exact h k v hk
 |none=>
  rw[hp]at hk;simp only[aak]at hk;cases hq:pf k b.pm with
  |some u=>rw[hq]at hk;cases hk;exact h k _ hq
  |none=>
   rw[hq]at hk;simp only at hk;split at hk
   ·rename_i e;cases hk;rw[<- e]
   cases hk
def Me{pre post:List (List AV)}{b:Bd}(pm:List ((Int×Int)×List Sp))(ls:List Nat)(id:Nat)(cells:List AV)(h:(aR pre {b with pm:=pm} post ls).boxes[id]?=some cells):(aR pre b post ls).boxes[id]?=some cells\/Z1 cells:=by
 simp only[aR]at h |-
 rcases zzaa id pre.length with ai|bz
 ·rw[zzag ai]at h |-
  exact .inl h
 rw[zzal bz]at h |-
 match hk:id-pre.length,h with
 |0,h=>exact .inl h
 |1,h=>exact .inl h
 |2,h=>exact .inl h
 |3,h=>exact .inl h
 |4,h=>exact .inl h
 |5,h=>exact .inl h
 |6,h=>exact .inl h
 |7,h=>exact .inl h
 |8,h=>
  refine .inr (.inr ⟨2,UC pm,?_,?_⟩)
  ·simp[aY]at h;exact h.symm
  intro e he;obtain⟨x,_,rfl⟩:=zzax.1 he;exact Idle.ro _
 |9,h=>exact .inl h
 |k+10,h=>exact .inl h
def FrK(pre:List (List AV))(b:Bd)(pm:List ((Int×Int)×List Sp))(post:List (List AV))(ls:List Nat)(K:AV->AM->Prop)(r:AV)(m:AM):Prop:=∃ex,m=aR pre {b with pm:=pm} (post++ex) ls/\Idle r/\K r (aR pre {b with pm:=pm} post ls)
def frK{pre:List (List AV)}{b:Bd}{pm:List ((Int×Int)×List Sp)}{post:List (List AV)}{ls:List Nat}{K:AV->AM->Prop}{r:AV}{m:AM}(ex:List (List AV))(h:m=aR pre {b with pm:=pm} (post++ex) ls)(hi:Idle r)(hK:K r (aR pre {b with pm:=pm} post ls)):FrK pre b pm post ls K r m:=⟨ex,h,hi,hK⟩
def Ss{f:FuncId}{xs:List AV}{pre post:List (List AV)}{b:Bd}{pm:List ((Int×Int)×List Sp)}{ls:List Nat}{Y:YT}{K:AV->AM->Prop}(h:an Tryz.prog aA Y f xs (aR pre b post ls) (FrK pre b pm post ls K)):an Tryz.prog aA Y f xs (aR pre b post ls) K:=by
 refine an.forget (an.mono h ?_);rintro r m' ⟨ex,rfl,h1,h2⟩;refine⟨aR pre {b with pm:=pm} post ls,ex,?_,?_,rfl,fun id cells hc=>Me pm ls id cells hc,h1,h2⟩
 ·simp[aR,aY]
 simp[aR,aY]
def akJ(p:Pl)(it:Int):Nat->FuncId->List AV->AV:=fun d f l=>if f=59 then(match l with|[_,_,_,.agg [.int _ a,.int _ c]]=>.sl .ro ((Vq p it 0 (a,c)).map Qf)|_=>.junk)else
 (match l with|[.sl _ a,.sl _ c]=>.sl .ro ((Xn (a.map rM++c.map rM)).map Qf)|_=>.junk)
def qb(l:List Sp):(l.map Qf).map rM=l:=by
 rw[zzcz]
 conv=>rhs;rw[<- List.map_id l]
 exact zzda fun x _=>rfl
def St(pre post:List (List AV))(ls:List Nat)(b:Bd)(it n:Int)(hn:0<=n/\n<=1000)(hc:b.p.cls.length<=1000000)(gQ:b.p.sh.length<=1000000000)(cp:b.p.aN.length<=1000000000)(hpm:Mc b)(Y:YT)(K:AV->AM->Prop)
  (hK:K (.sl .ro ((Zc b.p it n).map Qf)) (aR pre {b with pm:=pmN b it n} post ls)):
  an Tryz.prog aA Y 276 [.ptr (pre.length+9) 0,.agg [I it,I n]] (aR pre b post ls) K:=by
 refine Ss (pm:=pmN b it n) ?_;have w1:IntKind.i64.wrap (n*1000000)=n*1000000:=by rw[Qj]<;>omega
 have w2:IntKind.i64.wrap (n+1)=n+1:=by rw[Qj]<;>omega
 have w3:IntKind.i64.wrap ((n+1)*1000000)=(n+1)*1000000:=by rw[Qj]<;>omega
 have w4:IntKind.i64.wrap (n+2)=n+2:=by rw[Qj]<;>omega
 have w5:IntKind.i64.wrap ((n+2)*1000000)=(n+2)*1000000:=by rw[Qj]<;>omega
 have k1:=nV b.p it 0 (n*1000000,(n+1)*1000000) hc gQ cp (by simp only;omega) (by simp only;omega);have k2:=nV b.p it 0 ((n+1)*1000000,(n+2)*1000000) hc gQ cp (by simp only;omega) (by simp only;omega);have l1:=Qdf b.p it 0 (n*1000000,(n+1)*1000000);have l2:=Qdf b.p it 0 ((n+1)*1000000,(n+2)*1000000);have k3:=aag (Vq b.p it 0 (n*1000000,(n+1)*1000000)) (Vq b.p it 0 ((n+1)*1000000,(n+2)*1000000)) zE;have iS:Zc b.p it n=Xn (Vq b.p it 0 (n*1000000,(n+1)*1000000)++Vq b.p it 0 ((n+1)*1000000,(n+2)*1000000)):=rfl;rw[<- iS]at k3;obtain⟨R,hR⟩:∃R,Zc b.p it n=R:=⟨_,rfl⟩;refine Xd aeJ (akJ b.p it) zd ?_;rcases Hg (it,n) b.pm 0 with⟨h1,h2⟩|⟨v,j,h1,h2⟩
 ·have hp:pmN b it n=b.pm++[((it,n),Zc b.p it n)]:=by simp only[pmN,h1]
  have jh:UC (pmN b it n)=UC b.pm++[([it,n],.sl .ro ((Zc b.p it n).map Qf))]:=by rw[hp];simp[UC]
  simp[WM,WN,aR,aY,Qq,Qa,h2,w1,w2,w3,w4,w5,akJ,qb,<- iS];refine⟨by simpa[Qa]using k1,by simpa[Qa]using k2,k3,?_⟩;rw[<- jh];exact frK [[I it,I n]] rfl (Idle.ro _) hK
 have hv:=hpm _ _ h1;have hp:pmN b it n=b.pm:=by simp only[pmN,h1]
 rw[hp]at hK |-
 rw[<- hv]at hK;simp[WM,WN,aR,aY,Qq,Qa,h2];exact frK [[I it,I n]] rfl (Idle.ro _) hK
def Mf{p:Pl}{it n:Int}:∀s∈Zc p it n,s.1<=1000000000000/\s.2<=1000000000000:=fun s hs=>by
 have hv:=(Va (Vq p it 0 (n*1000000,(n+1)*1000000)++Vq p it 0 ((n+1)*1000000,(n+2)*1000000))).1.1 s hs;have h1:Xx (Zc p it n) s.1:=⟨s,hs,zE,zE⟩;have h2:Xx (Zc p it n) (s.2-1):=⟨s,hs,zE,zE⟩;rw[Qck]at h1 h2;obtain⟨_,_,_,_,_,Q9,_⟩:=h1;obtain⟨_,_,_,_,_,hx2,_⟩:=h2;omega
def Hh(p:Pl)(it n:Int):(Zc p it n).length<=2000000:=by
 have h:=Uc (Vq p it 0 (n*1000000,(n+1)*1000000)++Vq p it 0 ((n+1)*1000000,(n+2)*1000000));have l1:=Qdf p it 0 (n*1000000,(n+1)*1000000);have l2:=Qdf p it 0 ((n+1)*1000000,(n+2)*1000000);rw[zzai]at h;have:(Zc p it n).length<=_:=h;omega
def u7:Nat->FuncId->List AV->AV:=fun _ f l=>if f=276 then .gd false .junk else(match l with|[.sl _ a,.int _ x,.int _ n]=>G9 (me (a.map rM) x n)|_=>.junk)
def agd(pre:List (List AV))(b:Bd)(post:List (List AV))(ls:List Nat)(e:En)(last from_:Int)(T:Option Int)(f:Nat->AV)(m:AM):Prop:=∃(n:Int)(pm:List ((Int×Int)×List Sp)),
 f 9=I n/\(0<=n/\n<=9223372036854)/\UB b.p e last from_ n=T/\Mc {b with pm:=pm}/\m=aR pre {b with pm:=pm} (post++[Qd e]) ls
def age{from_:Int}(h0:0<=from_)(h1:from_<=9223372036854775807):0<=from_.tdiv 1000000/\from_.tdiv 1000000<=9223372036854:=by
 rw[zzco h0];omega
def Pm(pre post:List (List AV))(ls:List Nat)(b:Bd)(e:En)(from_:Int)(hc:b.p.cls.length<=1000000)(gQ:b.p.sh.length<=1000000000)(cp:b.p.aN.length<=1000000000)(dy:b.p.ln<=9223372036854775807)(iS:from_<=9223372036854775807)
  (hpm:Mc b)(Y:YT)(K:AV->AM->Prop)(hK:∀pm ex,Mc {b with pm:=pm}->K (G9 (Yi b.p e from_)) (aR pre {b with pm:=pm} (post++ex) ls)):
  an Tryz.prog aA Y 201 [.ptr (pre.length+9) 0,.agg (Qd e),I from_] (aR pre b post ls) K:=by
 refine Xd adW u7 zd ?_
 have no:Yi b.p e from_=none->K (.aZ [I 0,.bool false]) (aR pre b (post++[Qd e]) ls):=fun h=>by
  have:=hK b.pm [Qd e] hpm;rw[h]at this;exact this
 by_cases c1:e.fr<1
 ·simp[AH,vM,aR,aY,Qq,Qa,Qd,c1];exact no (by rw[Yi,if_pos (.inl c1)])
 by_cases c2:1000000<e.fr
 ·simp[AH,vM,aR,aY,Qq,Qa,Qd,c1,c2];exact no (by rw[Yi,if_pos (.inr (.inl c2))])
 by_cases c3:b.p.ln<e.fr
 ·simp[AH,vM,aR,aY,Qq,Qa,Qd,c1,c2,c3];exact no (by rw[Yi,if_pos (.inr (.inr c3))])
 have hS:Yi b.p e from_=UB b.p e (mX b.p e) (max from_ 0) ((max from_ 0).tdiv 1000000):=by rw[Yi,if_neg zE]
 rw[hS]at hK;clear no;obtain⟨fm,hfm⟩:∃fm,max from_ 0=fm:=⟨_,rfl⟩;have ayg:(if from_<0 then 0 else from_)=fm:=zE
 have hf0:0<=fm/\fm<=9223372036854775807:=zE
 obtain⟨d1,d2⟩:=age hf0.1 hf0.2;rw[hfm]at hK;have hwq:IntKind.i64.wrap (fm.tdiv 1000000)=fm.tdiv 1000000:=by rw[Qj]<;>omega
 have hwl:IntKind.i64.wrap (b.p.ln-e.fr)=b.p.ln-e.fr:=by rw[Qj]<;>omega
 obtain⟨q,hq⟩:∃q,fm.tdiv 1000000=q:=⟨_,rfl⟩;rw[hq]at hwq d1 d2 hK;obtain⟨la,hla⟩:∃la,mX b.p e=la:=⟨_,rfl⟩;have hlb:la<=100000000:=by rw[<- hla,mX];omega
 rw[hla]at hK;obtain⟨T,hT⟩:∃T,UB b.p e la fm q=T:=⟨_,rfl⟩;rw[hT]at hK;simp[AH,aR,aY,Qq,Qa,Qd,c1,c2,c3,hwl,ayg,hq,hwq]
 have gm:W0 false (W0 false e.la (b.p.ln-e.fr)) 100000000=la:=by
  rw[<- hla,mX];simp only[W0];simp;omega
 rw[gm];refine Qk jd (agd pre b post ls e la fm T) (fun f _=>(la-numOf (f 9)*1000000+1000000).toNat) ?_ ?_
 ·exact⟨q,b.pm,zd,⟨d1,d2⟩,hT,hpm,by simp[aR,aY,Qq,Qa,Qd]⟩
 rintro f m ⟨n,pm,h9,hn,ct,hpm',rfl⟩;have EK:IntKind.i64.wrap (n*1000000)=n*1000000:=by rw[Qj]<;>omega
 have T4:IntKind.i64.wrap (n+1)=n+1:=by rw[Qj]<;>omega
 rw[UB]at ct;by_cases c4:n*1000000<=la
 ·rw[if_pos c4]at ct;have Su:=Hf (Zc b.p e.it n) fm e.fr (by have:=Hh b.p e.it n;omega) hf0.1 zE Mf;obtain⟨R,hR⟩:∃R,Zc b.p e.it n=R:=⟨_,rfl⟩;have kf:=fun K'=>St pre (post++[Qd e]) ls {b with pm:=pm} e.it n zE hc gQ cp hpm' Y K';have hpn:=anU hpm' e.it n;obtain⟨Pn,ayh⟩:∃Pn,pmN {b with pm:=pm} e.it n=Pn:=⟨_,rfl⟩;rw[ayh]at kf hpn;simp only at kf;rw[hR]at ct Su kf;cases hes:me R fm e.fr with
  |none=>
   rw[hes]at ct Su;simp[h9,jd,EK,c4,aR,aY,Qq,Qa,Qd];refine Qbj [(.sl .ro (R.map Qf),aR pre {b with pm:=Pn} (post++[Qd e]) ls)] ?_;simp[h9,jd,EK,c4,aR,aY,Qq,Qa,Qd,u7,qb,hes,G9,T4];refine⟨kf _ ⟨rfl,rfl⟩,Su,aP,⟨n+1,Pn,zd,zE,ct,hpn,by simp[aR,aY,Qq,Qa,Qd]⟩,zE⟩
  |some s=>
   rw[hes]at ct Su;simp only at ct;by_cases c5:la<s
   ·rw[if_pos c5]at ct;subst ct;have:=hK Pn [Qd e] hpn;simp[h9,jd,EK,c4,aR,aY,Qq,Qa,Qd];refine Qbj [(.sl .ro (R.map Qf),aR pre {b with pm:=Pn} (post++[Qd e]) ls)] ?_;simp[h9,jd,EK,c4,aR,aY,Qq,Qa,Qd,u7,qb,hes,G9,c5,vM];refine⟨kf _ ⟨rfl,rfl⟩,Su,?_⟩;simpa[aR,aY,Qq,Qa,Qd,G9]using this
   rw[if_neg c5]at ct;subst ct;have:=hK Pn [Qd e] hpn;simp[h9,jd,EK,c4,aR,aY,Qq,Qa,Qd];refine Qbj [(.sl .ro (R.map Qf),aR pre {b with pm:=Pn} (post++[Qd e]) ls)] ?_;simp[h9,jd,EK,c4,aR,aY,Qq,Qa,Qd,u7,qb,hes,G9,c5,vM];refine⟨kf _ ⟨rfl,rfl⟩,Su,?_⟩;simpa[aR,aY,Qq,Qa,Qd,G9]using this
 rw[if_neg c4]at ct;subst ct;have:=hK pm [Qd e] hpm';simp[h9,jd,EK,c4,vM];simpa[aR,aY,Qq,Qa,Qd,G9]using this
open Go Go.Abs
def qc(n:Int)(us:List (Int×Int)):Prop:=∀k v,af k us=some v->0<=v/\v<=n
def qc.note{n:Int}{us:List (Int×Int)}(h:qc n us)(hn:0<=n)(it:Int):qc (n+1) (Vu us it):=fun k v hk=>by
 rw[Vu,Yf]at hk;split at hk
 ·cases hk;cases ha:af it us with
  |none=>simp;omega
  |some u=>have:=h it u ha;simp;omega
 have:=h k v hk;omega
def Qdj(p:Pl)(it:Int):(∃n y,Xh it p.aN=some y/\Xl [it] (bH rT (Ag p)) 0=some (n,rT y))\/(Xh it p.aN=none/\Xl [it] (bH rT (Ag p)) 0=none):=by
 rcases Xq rT it (Ag p) 0 with⟨h1,h2,_,_⟩|⟨u,n,h1,h2,_⟩
 ·rw[u5]at h1;exact .inr ⟨h1,h2⟩
 rw[u5]at h1;exact .inl ⟨_,u,h1,h2⟩
def yh(us:List (Int×Int))(it:Int):(Xl [it] (bH iA us) 0=none/\bH iA us++[([it],.int .i64 1)]=bH iA (Vu us it))\/∃u n,af it us=some u/\Xl [it] (bH iA us) 0=some (n,.int .i64 u)/\(bH iA us).set n ([it],.int .i64 (u+1))=bH iA (Vu us it):=by
 rcases Xq iA it us 0 with⟨h1,h2,_,h4⟩|⟨u,n,h1,h2,_,_,_,h4⟩
 ·exact .inl ⟨h2,by rw[Vu,h1];exact h4 1⟩
 exact .inr ⟨u,n,h1,by rw[h2,zzbw],by rw[Vu,h1];exact h4 (u+1)⟩
def Qef(p:Pl)(en:List (Int×Int))(it e:Int){y:It}(hy:Xh it p.aN=some y):(Xl [y.sp] (bH iA en) 0=none/\bH iA en++[([y.sp],.int .i64 (if 0<e then e else 0))]=bH iA (Zt p en it e))\/∃u n,af y.sp en=some u/\Xl [y.sp] (bH iA en) 0=some (n,.int .i64 u)/\(bH iA en).set n ([y.sp],.int .i64 (if u<e then e else u))=bH iA (Zt p en it e):=by
 rcases Xq iA y.sp en 0 with⟨h1,h2,_,h4⟩|⟨u,n,h1,h2,_,_,_,h4⟩
 ·refine .inl ⟨h2,?_⟩;have:(if 0<e then e else 0)=max 0 e:=zE
  simp only[Zt,hy,h1,this];exact h4 _
 refine .inr ⟨u,n,h1,by rw[h2,zzbw],?_⟩;have:(if u<e then e else u)=max u e:=zE
 simp only[Zt,hy,h1,this];exact h4 _
def aal(pre p0 bx:List (List AV))(ls:List Nat)(b:Bd)(us en:List (Int×Int))(it e:Int)(hu:qc 1000000000 us)(Y:YT)(K:AV->AM->Prop)(hK:∀ex,K (.aZ []) (aR pre b (p0++([.aL 0 (bH iA (Vu us it))]::[.aL 0 (bH iA (Zt b.p en it e))]::(bx++ex))) ls)):
  an Tryz.prog aA Y 197 [.ptr (pre.length+9) 0,.mp (pre.length+(p0.length+10)),.mp (pre.length+(p0.length+11)),I it,I e] (aR pre b (p0++([.aL 0 (bH iA us)]::[.aL 0 (bH iA en)]::bx)) ls) K:=by
 refine Xd N6 (fun _ _ _=>.junk) zd ?_;have w1:IntKind.i64.wrap 1=1:=by decide
 rcases yh us it with⟨u2,u4⟩|⟨u,n,u1,u2,u4⟩
 ·rcases Qdj b.p it with⟨ni,y,hy,hi⟩|⟨hy,hi⟩
  ·rcases Qef b.p en it e hy with⟨e2,e4⟩|⟨v,nv,e1,e2,e4⟩
   ·simp[fZ,gh,aR,aY,Qq,Qa,hi,rT,Qn,u2,e2,w1];rw[u4,e4];simpa[aR,aY,Qq,Qa,Qn]using hK [Qn y]
   simp[fZ,gh,aR,aY,Qq,Qa,hi,rT,Qn,u2,e2,w1];rw[u4,e4];simpa[aR,aY,Qq,Qa,Qn]using hK [Qn y]
  have he:Zt b.p en it e=en:=by simp only[Zt,hy]
  rw[he]at hK;simp[fZ,gh,aR,aY,Qq,Qa,hi,u2,w1];rw[u4];simpa[aR,aY,Qq,Qa]using hK [[I 0,I 0,I 0,I 0,I 0]]
 have hb:=hu it u u1;have wu:IntKind.i64.wrap (u+1)=u+1:=by rw[Qj]<;>omega
 rcases Qdj b.p it with⟨ni,y,hy,hi⟩|⟨hy,hi⟩
 ·rcases Qef b.p en it e hy with⟨e2,e4⟩|⟨v,nv,e1,e2,e4⟩
  ·simp[fZ,gh,aR,aY,Qq,Qa,hi,rT,Qn,u2,e2,wu];rw[u4,e4];simpa[aR,aY,Qq,Qa,Qn]using hK [Qn y]
  simp[fZ,gh,aR,aY,Qq,Qa,hi,rT,Qn,u2,e2,wu];rw[u4,e4];simpa[aR,aY,Qq,Qa,Qn]using hK [Qn y]
 have he:Zt b.p en it e=en:=by simp only[Zt,hy]
 rw[he]at hK;simp[fZ,gh,aR,aY,Qq,Qa,hi,u2,wu];rw[u4];simpa[aR,aY,Qq,Qa]using hK [[I 0,I 0,I 0,I 0,I 0]]
def agf(pre post:List (List AV))(ls:List Nat)(b:Bd)(us en:List (Int×Int))(it e:Int)(hu:qc 1000000000 us)(Y:YT)(K:AV->AM->Prop)(hK:∀ex,K (.aZ []) (aR pre {b with us:=Vu us it,en:=Zt b.p en it e} (post++ex) ls)):
  an Tryz.prog aA Y 197 [.ptr (pre.length+9) 0,.mp (pre.length+4),.mp (pre.length+5),I it,I e] (aR pre {b with us:=us,en:=en} post ls) K:=by
 refine Xd N6 (fun _ _ _=>.junk) zd ?_;have w1:IntKind.i64.wrap 1=1:=by decide
 rcases yh us it with⟨u2,u4⟩|⟨u,n,u1,u2,u4⟩
 ·rcases Qdj b.p it with⟨ni,y,hy,hi⟩|⟨hy,hi⟩
  ·rcases Qef b.p en it e hy with⟨e2,e4⟩|⟨v,nv,e1,e2,e4⟩
   ·simp[fZ,gh,aR,aY,Qq,Qa,hi,rT,Qn,u2,e2,w1];rw[u4,e4];simpa[aR,aY,Qq,Qa,Qn]using hK [Qn y]
   simp[fZ,gh,aR,aY,Qq,Qa,hi,rT,Qn,u2,e2,w1];rw[u4,e4];simpa[aR,aY,Qq,Qa,Qn]using hK [Qn y]
  have he:Zt b.p en it e=en:=by simp only[Zt,hy]
  rw[he]at hK;simp[fZ,gh,aR,aY,Qq,Qa,hi,u2,w1];rw[u4];simpa[aR,aY,Qq,Qa]using hK [[I 0,I 0,I 0,I 0,I 0]]
 have hb:=hu it u u1;have wu:IntKind.i64.wrap (u+1)=u+1:=by rw[Qj]<;>omega
 rcases Qdj b.p it with⟨ni,y,hy,hi⟩|⟨hy,hi⟩
 ·rcases Qef b.p en it e hy with⟨e2,e4⟩|⟨v,nv,e1,e2,e4⟩
  ·simp[fZ,gh,aR,aY,Qq,Qa,hi,rT,Qn,u2,e2,wu];rw[u4,e4];simpa[aR,aY,Qq,Qa,Qn]using hK [Qn y]
  simp[fZ,gh,aR,aY,Qq,Qa,hi,rT,Qn,u2,e2,wu];rw[u4,e4];simpa[aR,aY,Qq,Qa,Qn]using hK [Qn y]
 have he:Zt b.p en it e=en:=by simp only[Zt,hy]
 rw[he]at hK;simp[fZ,gh,aR,aY,Qq,Qa,hi,u2,wu];rw[u4];simpa[aR,aY,Qq,Qa]using hK [[I 0,I 0,I 0,I 0,I 0]]
