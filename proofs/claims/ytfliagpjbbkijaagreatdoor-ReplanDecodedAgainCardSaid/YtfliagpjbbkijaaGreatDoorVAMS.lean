import Derived.Test.YtfliagpjbbkijaaGreatDoorVAMM
import Derived.Test.YtfliagpjbbkijaaGreatDoorVAMQ
set_option linter.all false
set_option maxRecDepth 100000
set_option maxHeartbeats 64000000
namespace Go.Proofs.YtfliagpjbbkijaaGreatDoor
open Go Go.Abs
def Rm(x:Int)(c:Cl):Bool:=decide (c.fr<=x/\x<c.to)
def grX(C:List Cl)(x:Int):Bool:=match C.reverse.find? (Rm x)with
 |some c=>decide (c.ki=1)
 |none=>false
def find_congr{α:Type}{p q:α->Bool}:∀{l:List α},(∀a∈l,p a=q a)->l.find? p=l.find? q
 |[],_=>rfl
 |a::l,h=>by
  have h1:=h a zd;have ih:=find_congr (l:=l) fun b hb=>h b (by simp[hb]);rw[zzfi,zzfi,h1,ih]
def Zu{x:Int}:∀{l:P2}{j:Nat}{v:Int},l.Pairwise (·<·)->l[j]?=some v->(j<ru l x<->v<x)
 |[],j,v,_,h=>by simp at h
 |a::r,j,v,hp,h=>by
  obtain⟨h1,h2⟩:=zzbz.1 hp
  have e:ru (a::r) x=ru r x+if a<x then 1 else 0:=by
   unfold ru;rw[zzei];by_cases ha:a<x<;>simp[ha]
  have hz:¬a<x->ru r x=0:=by
   intro ha;unfold ru;rw[zzc,zzha];intro y hy;have:=h1 y hy;simp;omega
  rw[e];cases j with
  |zero=>
   simp at h;subst h;by_cases ha:a<x
   ·simp[ha]
   simp[ha,hz ha]
  |succ j=>
   simp at h;have hav:=h1 v (zzac h);have ih:=Zu (x:=x) h2 h;by_cases ha:a<x
   ·simp only[ha,if_true];omega
   have:=hz ha;simp only[ha,if_false];omega
def GJ(Bd:P2)(j:Nat)(c:Cl):Bool:=decide (ru Bd c.fr<=j/\j<ru Bd c.to)
def GK(Bd:P2)(j:Nat):∀(R:List Cl)(s:GS),(R.foldl (Q5 Bd) s)[j]?=(s[j]?).map fun o=>match o with
  |some v=>some v
  |none=>(R.find? (GJ Bd j)).map fun c=>decide (c.ki=1)
 |[],s=>by
  cases h:s[j]? with
  |none=>simp[h]
  |some o=>cases o<;>simp[h]
 |c::R,s=>by
  rw[zzda,GK Bd j R,Q5,Ut,zzfi];cases h:s[j]? with
  |none=>simp
  |some o=>
   cases o with
   |some v=>simp
   |none=>
    by_cases hc:ru Bd c.fr<=j/\j<ru Bd c.to
    ·simp[GJ,hc]
    simp[GJ,hc]
def GL(Bd:P2)(s:GS)(x:Int):∀n,Xr (nJ Bd s n) x<->∃j,j<n/\s[j]?=some (some true)/\Bd.getD j 0<=x/\x<Bd.getD (j+1) 0
 |0=>by simp[nJ]
 |n+1=>by
  rw[rz,Yq,GL Bd s x n];unfold Dx;constructor
  ·rintro(⟨j,h1,h2⟩|h)
   ·exact⟨j,zE,h2⟩
   split at h
   ·rename_i hs;rw[Xd]at h;obtain h|h:=h
    ·exact⟨n,zE,hs,h⟩
    simp at h
   simp at h
  rintro⟨j,h1,h2,h3⟩;rcases zzab j n with h|h
  ·exact .inl ⟨j,h,h2,h3⟩
  obtain rfl:j=n:=zE
  right;rw[if_pos h2,Xd];exact .inl h3
def uP{l:P2}{j:Nat}{v:Int}(h:l[j]?=some v):l.getD j 0=v:=by
 simp[zzaw,h]
def ass(C:List Cl)(hC:∀c∈C,c.fr<c.to)(x:Int):Xr (nJ (dM C) (xu C) (dM C).length) x<->grX C x=true:=by
 have nL:=Oc C;have iB:∀c∈C,c.fr∈dM C/\c.to∈dM C:=fun c hc=>⟨(uM _ _).2 (pR hc).1,(uM _ _).2 (pR hc).2⟩
 have ud:∀j,j<(dM C).length->(xu C)[j]?=some ((C.reverse.find? (GJ (dM C) j)).map fun c=>decide (c.ki=1)):=by
  intro j hj;rw[xu,GK];have:(List.replicate (dM C).length (none:Option Bool))[j]?=some none:=by simp[hj]
  rw[this];rfl
 have key:∀(j:Nat)(u w:Int),(dM C)[j]?=some u->(dM C)[j+1]?=some w->u<=x->x<w->∀c∈C.reverse,GJ (dM C) j c=Rm x c:=by
  intro j u w hu hw h1 h2 c hc;have uw:=zzfr.1 hc;have a1:=Zu (x:=c.fr) nL hu;have a2:=Zu (x:=c.fr) nL hw;have a3:=Zu (x:=c.to) nL hu;have a4:=Zu (x:=c.to) nL hw;obtain⟨m1,m2⟩:=iB c uw
  have gap:∀y∈dM C,y<=u\/w<=y:=by
   intro y hy;obtain⟨k,hk⟩:=zzfu hy;rcases zzab j k with h|h
   ·right;have q1:=Zu (x:=w) nL hk;have q2:=Zu (x:=w) nL hw;omega
   left;have q1:=Zu (x:=y) nL hk;have q2:=Zu (x:=y) nL hu;omega
  have g1:=gap _ m1;have g2:=gap _ m2;unfold GJ Rm;apply decide_eq_decide.2;omega
 have YJ:∀(j:Nat)(u w:Int),(dM C)[j]?=some u->(dM C)[j+1]?=some w->u<=x->x<w->((xu C)[j]?=some (some true)<->grX C x=true):=by
  intro j u w hu hw h1 h2;rw[ud j (zza.1 hu).1,find_congr (key j u w hu hw h1 h2),grX];cases C.reverse.find? (Rm x)<;>simp
 rw[GL];constructor
 ·rintro⟨j,hj,hs,h1,h2⟩;have ef:=hs;rw[ud j hj]at hs;cases hf:C.reverse.find? (GJ (dM C) j)with
  |none=>rw[hf]at hs;simp at hs
  |some c=>
   have hc:=zzfr.1 (zzee hf);have hi:=zzgz hf;simp only[GJ,decide_eq_true_eq]at hi;have hl:=Lb (iB c hc).2;have dL:j+1<(dM C).length:=zE
   obtain⟨u,hu⟩:∃u,(dM C)[j]?=some u:=⟨_,zzad hj⟩;obtain⟨w,hw⟩:∃w,(dM C)[j+1]?=some w:=⟨_,zzad dL⟩;rw[uP hu]at h1;rw[uP hw]at h2;exact(YJ j u w hu hw h1 h2).1 ef
 intro hg;have hg':=hg;rw[grX]at hg;cases hf:C.reverse.find? (Rm x)with
 |none=>rw[hf]at hg;simp at hg
 |some c=>
  have hc:=zzfr.1 (zzee hf);have hi:=zzgz hf;simp only[Rm,decide_eq_true_eq]at hi;obtain⟨m1,m2⟩:=iB c hc;obtain⟨k1,dF⟩:=zzfu m1;obtain⟨k2,ey⟩:=zzfu m2;have a1:=(Zu (x:=x+1) nL dF).2 zE;have a2:=Zu (x:=x+1) nL ey;have l2:=(zza.1 ey).1;obtain⟨j,hj⟩:∃j,ru (dM C) (x+1)=j+1:=⟨ru (dM C) (x+1)-1,zE⟩;have dL:j+1<(dM C).length:=zE
  obtain⟨u,hu⟩:∃u,(dM C)[j]?=some u:=⟨_,zzad zE⟩;obtain⟨w,hw⟩:∃w,(dM C)[j+1]?=some w:=⟨_,zzad dL⟩;have b1:=Zu (x:=x+1) nL hu;have b2:=Zu (x:=x+1) nL hw;exact⟨j,zE,(YJ j u w hu hw zE zE).2 hg',by rw[uP hu];omega,by rw[uP hw];omega⟩
def aeU{cs:List Cl}{item region:Int}:∀c∈Wd cs item region,c.fr<c.to:=by
 intro c hc;simp only[Wd,zzcr,Gn,Xv,Kn,zzai,decide_eq_true_eq]at hc;obtain⟨_,h1,_,_,h2⟩:=hc;rw[if_pos h1]at h2;simp at h2;omega
def Lq(cs:List Cl)(item region x:Int):Xr (Qck cs item region) x<->grX (Wd cs item region) x=true:=by
 rw[Qck,(Zy _).2,ass _ aeU]
def NE(L:List Sp):Prop:=∀s∈L,s.1<s.2
def aeV{L:List Sp}{f t:Int}(h:NE L):NE (nD L f t)/\∀x,Xr (nD L f t) x<->Xr L x\/(f<=x/\x<t):=by
 unfold nD;split
 ·rename_i IS;cases hl:L.getLast? with
  |none=>
   have:L=[]:=by simpa using hl
   subst this;refine⟨by intro s hs;simp at hs;subst hs;exact IS,fun x=>zd⟩
  |some s=>
   obtain⟨D,rfl⟩:∃D,L=D++[s]:=by
    have aJ:L≠[]:=by rintro rfl;simp at hl
    refine⟨L.dropLast,?_⟩;have h1:=zzev aJ;rw[List.getLast?_eq_some_getLast aJ]at hl;cases hl;exact h1.symm
   have hs:=h s zd;simp only;split
   ·rename_i e;simp only[zzfv];refine⟨?_,fun x=>?_⟩
    ·intro u hu;rw[zzap]at hu;obtain hu|hu:=hu
     ·exact h u (by simp[hu])
     simp at hu;subst hu;simp only;omega
    simp only[Yq,Xd,Yn,or_false,or_assoc];constructor
    ·rintro(h|h)
     ·exact .inl h
     by_cases x<s.2
     ·exact .inr (.inl zE)
     exact .inr (.inr zE)
    rintro(h|h|h)
    ·exact .inl h
    ·exact .inr zE
    exact .inr zE
   refine⟨?_,fun x=>by simp[or_assoc]⟩;intro u hu;rw[zzap]at hu;obtain hu|hu:=hu
   ·exact h u hu
   simp at hu;subst hu;exact IS
 refine⟨h,fun x=>?_⟩;constructor
 ·exact .inl
 rintro(h|h)
 ·exact h
 omega
def inW(W:List Sp)(n:Int):Prop:=∃w∈W,w.1<=n/\n<w.2
def Om(sf st mid:Int):∀{W L:List Sp},NE L->NE (pM sf st mid W L)/\∀x,Xr (pM sf st mid W L) x<->Xr L x\/(sf<=x/\x<st/\inW W (x-mid))
 |[],L,h=>⟨h,fun x=>by simp[pM,inW]⟩
 |w::W,L,h=>by
  obtain⟨a1,a2⟩:=aeV (f:=max sf (mid+w.1)) (t:=min st (mid+w.2)) h;obtain⟨b1,b2⟩:=Om sf st mid (W:=W) a1;refine⟨b1,fun x=>?_⟩;rw[pM,b2,a2];simp only[inW,zzao,exists_eq_or_imp];constructor
  ·rintro((h|h)|⟨h1,h2,h3⟩)
   ·exact .inl h
   ·exact .inr ⟨zE,zE,.inl zE⟩
   exact .inr ⟨h1,h2,.inr h3⟩
  rintro(h|⟨h1,h2,h3|h3⟩)
  ·exact .inl (.inl h)
  ·exact .inl (.inr zE)
  exact .inr ⟨h1,h2,h3⟩
def aeW(W:List Sp):Prop:=∀w∈W,0<=w.1/\w.2<=86400
def aeX{W:List Sp}(hW:aeW W)(sf st o:Int):∀(n:Nat)(d:Int){L:List Sp},(st-(d*86400-o)).toNat<=n->NE L->NE (nF W sf st (d*86400-o) L)/\
  ∀x,Xr (nF W sf st (d*86400-o) L) x<->Xr L x\/(sf<=x/\x<st/\d<=(x+o)/86400/\inW W ((x+o)%86400)):=by
 intro n;induction n with
 |zero=>
  intro d L h hL;rw[nF,if_neg zE];refine⟨hL,fun x=>⟨.inl,?_⟩⟩;rintro(h|⟨h1,h2,h3,h4⟩)
  ·exact h
  omega
 |succ n ih=>
  intro d L h hL;rw[nF];split
  ·rename_i hm;obtain⟨a1,a2⟩:=Om sf st (d*86400-o) (W:=W) hL;have e:d*86400-o+86400=(d+1)*86400-o:=zE
   rw[e];obtain⟨b1,b2⟩:=ih (d+1) zE a1;refine⟨b1,fun x=>?_⟩;rw[b2,a2];constructor
   ·rintro((h|⟨h1,h2,w,hw,h3,h4⟩)|⟨h1,h2,h3,h4⟩)
    ·exact .inl h
    ·have:=hW w hw;have hd:(x+o)/86400=d:=zE
     exact .inr ⟨h1,h2,zE,w,hw,zE,zE⟩
    exact .inr ⟨h1,h2,zE,h4⟩
   rintro(h|⟨h1,h2,h3,h4⟩)
   ·exact .inl (.inl h)
   by_cases hd:(x+o)/86400=d
   ·obtain⟨w,hw,h5,h6⟩:=h4;exact .inl (.inr ⟨h1,h2,w,hw,zE,zE⟩)
   exact .inr ⟨h1,h2,zE,h4⟩
  rename_i hm;refine⟨hL,fun x=>⟨.inl,?_⟩⟩;rintro(h|⟨h1,h2,h3,h4⟩)
  ·exact h
  omega
def amm{s:Sp}{W:List Sp}(hW:aeW W)(y:Int×Int×Int){L:List Sp}(hL:NE L):NE (stL s W y L)/\
  ∀x,Xr (stL s W y L) x<->Xr L x\/(y.1<=x/\x<y.2.1/\s.1<=x/\x<s.2/\inW W ((x+y.2.2)%86400)):=by
 unfold stL;split
 ·refine⟨hL,fun x=>⟨.inl,?_⟩⟩;rintro(h|⟨h1,h2,h3,h4,_⟩)
  ·exact h
  omega
 obtain⟨a1,a2⟩:=aeX hW (max y.1 s.1) (min y.2.1 s.2) y.2.2 _ ((max y.1 s.1+y.2.2)/86400) (zzaa _) hL;refine⟨a1,fun x=>?_⟩;rw[a2];constructor
 ·rintro(h|⟨h1,h2,h3,h4⟩)
  ·exact .inl h
  exact .inr ⟨zE,zE,zE,zE,h4⟩
 rintro(h|⟨h1,h2,h3,h4,h5⟩)
 ·exact .inl h
 exact .inr ⟨zE,zE,zE,h5⟩
def On{s:Sp}{W:List Sp}(hW:aeW W):∀{xs:List (Int×Int×Int)}{L:List Sp},xs.Pairwise (fun a b=>a.1<=b.1)->NE L->∀x,Xr (ua s W xs L) x<->Xr L x\/(s.1<=x/\x<s.2/\∃y∈xs,y.1<=x/\x<y.2.1/\inW W ((x+y.2.2)%86400))
 |[],L,_,hL,x=>by simp[ua]
 |y::r,L,hp,hL,x=>by
  obtain⟨p1,p2⟩:=zzbz.1 hp;rw[ua];split
  ·rename_i hb;constructor
   ·exact .inl
   rintro(h|⟨h1,h2,z,hz,h3,h4,_⟩)
   ·exact h
   rcases zzao.1 hz with rfl|hz
   ·omega
   have:=p1 z hz;omega
  obtain⟨a1,a2⟩:=amm (s:=s) hW y hL;rw[On hW p2 a1,a2];simp only[zzao,exists_eq_or_imp];constructor
  ·rintro((h|⟨h1,h2,h3,h4,h5⟩)|⟨h1,h2,h3⟩)
   ·exact .inl h
   ·exact .inr ⟨h3,h4,.inl ⟨h1,h2,h5⟩⟩
   exact .inr ⟨h1,h2,.inr h3⟩
  rintro(h|⟨h1,h2,⟨h3,h4,h5⟩|h3⟩)
  ·exact .inl (.inl h)
  ·exact .inl (.inr ⟨h3,h4,h1,h2,h5⟩)
  exact .inr ⟨h1,h2,h3⟩
def xQ(of:Int)(sh:List Sp)(x:Int):Int:=sh.foldl (fun n s=>if s.1<=x then s.2 else n) of
def GM:∀{sh:List Sp}{last:Int},tY last sh=true->sh.Pairwise (fun a b=>a.1<b.1)/\∀s∈sh,last<s.1/\s.1<=10000000000/\gY s.2=true
 |[],_,_=>⟨.nil,fun _ h=>by cases h⟩
 |a::r,last,h=>by
  rw[tY]at h;split at h
  ·cases h
  rename_i hn;simp only[not_or,zzgn]at hn;obtain⟨h1,h2⟩:=GM h;refine⟨zzbz.2 ⟨fun b hb=>(h2 b hb).1,h1⟩,?_⟩;intro s hs;rcases zzao.1 hs with rfl|hs
  ·exact⟨zE,zE,hn.2.2⟩
  have:=h2 s hs;exact⟨zE,this.2⟩
def BC{x:Int}:∀{sh:List Sp}(o:Int),(∀s∈sh,x<s.1)->xQ o sh x=o
 |[],o,_=>rfl
 |a::r,o,h=>by
  have:=h a zd;rw[xQ,zzda,if_neg zE];exact BC o fun s hs=>h s (by simp[hs])
def GN{P:Int->Prop}:∀{sh:List Sp}{f o:Int},(∀s∈sh,f<=s.1/\s.1<=10000000000)->sh.Pairwise (fun a b=>a.1<b.1)->f<=10000000000->∀x,(∃y∈uJ f o sh,y.1<=x/\x<y.2.1/\P y.2.2)<->f<=x/\x<=10000000000/\P (xQ o sh x)
 |[],f,o,_,_,hf,x=>by
  simp only[uJ,zzcp,exists_eq_left,xQ,List.foldl_nil];constructor
  ·rintro⟨h1,h2,h3⟩;exact⟨h1,zE,h3⟩
  rintro⟨h1,h2,h3⟩;exact⟨h1,zE,h3⟩
 |s::r,f,o,hb,hp,hf,x=>by
  obtain⟨p1,p2⟩:=zzbz.1 hp;have hs:=hb s zd;have ih:=GN (P:=P) (o:=s.2) (f:=s.1) (sh:=r) (fun t ht=>⟨by have:=p1 t ht;omega,(hb t (by simp[ht])).2⟩) p2 hs.2 x
  have e:(∃y∈uJ f o (s::r),y.1<=x/\x<y.2.1/\P y.2.2)<->(f<=x/\x<s.1/\P o)\/∃y∈uJ s.1 s.2 r,y.1<=x/\x<y.2.1/\P y.2.2:=by
   rw[uJ];simp only[zzap,or_and_right,exists_or];refine or_congr ?_ Iff.rfl;split
   ·simp
   simp;intro h1 h2;omega
  have eo:xQ o (s::r) x=xQ (if s.1<=x then s.2 else o) r x:=rfl;rw[e,ih,eo];by_cases hx:s.1<=x
  ·rw[if_pos hx];constructor
   ·rintro(⟨h1,h2,h3⟩|⟨h1,h2,h3⟩)
    ·omega
    exact⟨zE,h2,h3⟩
   rintro⟨h1,h2,h3⟩;exact .inr ⟨hx,h2,h3⟩
  rw[if_neg hx];have hn:=BC (x:=x) (sh:=r) o fun t ht=>by have:=p1 t ht;omega
  rw[hn];constructor
  ·rintro(⟨h1,h2,h3⟩|⟨h1,h2,h3⟩)
   ·exact⟨h1,zE,h3⟩
   omega
  rintro⟨h1,h2,h3⟩;exact .inl ⟨h1,zE,h3⟩
def GO:∀{sh:List Sp}{f o:Int},(∀s∈sh,f<=s.1)->sh.Pairwise (fun a b=>a.1<b.1)->(uJ f o sh).Pairwise (fun a b=>a.1<=b.1)/\∀y∈uJ f o sh,f<=y.1
 |[],f,o,_,_=>by simp[uJ]
 |s::r,f,o,hb,hp=>by
  obtain⟨p1,p2⟩:=zzbz.1 hp;have hs:=hb s zd;obtain⟨i1,i2⟩:=GO (f:=s.1) (o:=s.2) (sh:=r) (fun t ht=>by have:=p1 t ht;omega) p2;rw[uJ];refine⟨?_,?_⟩
  ·rw[List.pairwise_append];refine⟨by split<;>simp,i1,?_⟩;intro a ha b cA;have:=i2 b cA;split at ha
   ·simp at ha;subst ha;simp only;omega
   simp at ha
  intro y hy;rw[zzap]at hy;obtain hy|hy:=hy
  ·split at hy
   ·simp at hy;subst hy;exact zzby _
   simp at hy
  have:=i2 y hy;omega
def Oo(of:Int)(sh:List Sp)(x fr to:Int):Prop:=0<=x/\x<=10000000000/\inW (zY fr to) ((x+xQ of sh x)%86400)
def YK{of:Int}{sh:List Sp}{s:Sp}{fr to:Int}(h:xe of sh s fr to=true)(x:Int):Xr (iD of sh s fr to) x<->s.1<=x/\x<s.2/\Oo of sh x fr to:=by
 rw[iD,if_pos h];simp only[xe,Yb,z6,zzai,decide_eq_true_eq]at h;obtain⟨⟨⟨⟨⟨_,_⟩,ha⟩,h1⟩,h2⟩,_⟩:=h;obtain⟨a1,a2⟩:=GM ha;have hW:aeW (zY fr to):=fun w hw=>by have:=(uK h1 h2).2 w hw;omega
 rw[On hW (GO (fun t ht=>by have:=a2 t ht;omega) a1).1 (fun _ h=>by cases h)];rw[GN (P:=fun o=>inW (zY fr to) ((x+o)%86400)) (fun t ht=>by have:=a2 t ht;omega) a1 zE];simp only[Yn,false_or,Oo]
def Oq(p:Pl)(it:It)(region x:Int):Prop:=it.ki=5\/(Jz p=true/\grX (Wd p.cls it.id region) (p.ep+Yk p.nu p.de x)=true/\∀w∈uI p.cls it.ra,Oo p.of p.sh (p.ep+Yk p.nu p.de x) w.1 w.2)
def ij(p:Pl)(id region x:Int):Prop:=∃it,Xg id p.aO=some it/\(0<=region/\region<8)/\(0<=x/\x<=100000000)/\Oq p it region x
def GP:∀(Xs:List (List Sp))(a:List Sp)(y:Int),Xr (Xs.foldl zV a) y<->Xr a y/\∀l∈Xs,Xr l y
 |[],a,y=>zd
 |l::Xs,a,y=>by
  rw[zzda,GP Xs,(kU a l).2];simp only[zzao,forall_eq_or_imp,and_assoc]
def DG{nu de s f:Int}(hv:Vg nu de=true)(hs:0<=s/\s<=10000000000)(hf:0<=f/\f<=100000000):wX nu de s<=f<->s<=Yk nu de f:=by
 obtain⟨b1,b2,b3,b4,b5⟩:=Jp hv;rw[wX,if_pos ⟨hv,hs.1,hs.2⟩,Yk,if_pos ⟨hv,hf.1,hf.2⟩];have q0:0<=s*nu:=zzeh hs.1 zE;have q1:0<=f*de:=zzeh hf.1 zE;rw[zzcj zE,zzcj q1]
 have e1:(s*nu+de-1)/de<=f<->s*nu<=f*de:=by
  rw[<- Int.lt_add_one_iff,Int.ediv_lt_iff_lt_mul zE];have:(f+1)*de=f*de+de:=by rw[Int.add_mul];omega
  omega
 rw[e1,Int.le_ediv_iff_mul_le zE]
def Lr{p:Pl}{U:List Sp}(hv:Vg p.nu p.de=true)(hU:∀w∈U,(0<=w.1-p.ep/\w.1-p.ep<=10000000000)/\(0<=w.2-p.ep/\w.2-p.ep<=10000000000)){f:Int}(hf:0<=f/\f<=100000000):
  Xr (U.map (uN p)) f<->Xr U (p.ep+Yk p.nu p.de f):=by
 unfold Xr;simp only[zzbh];constructor
 ·rintro⟨_,⟨w,hw,rfl⟩,h1,h2⟩;obtain⟨u1,u2⟩:=hU w hw;have a1:=DG hv u1 hf;have a2:=DG hv u2 hf;simp only[uN]at h1 h2;exact⟨w,hw,zE,zE⟩
 rintro⟨w,hw,h1,h2⟩;obtain⟨u1,u2⟩:=hU w hw;have a1:=DG hv u1 hf;have a2:=DG hv u2 hf;exact⟨_,⟨w,hw,rfl⟩,by simp only[uN];omega,by simp only[uN];omega⟩
def YL{cs:List Cl}{ra:Int}:∀w∈uI cs ra,z6 w.1=true/\z6 w.2=true:=by
 intro w hw;simp only[uI,zzbh,zzcr,Ga,zzai,decide_eq_true_eq,Xv]at hw;obtain⟨c,⟨_,h1,_,_,h2⟩,rfl⟩:=hw;rw[Kn]at h2;simp only[h1]at h2;simp[Jj,wi]at h2;simp only[z6,decide_eq_true_eq];omega
def aeY(s:Sp):0<=(Q7 s).1/\(Q7 s).2<=100000001/\∀x,((Q7 s).1<=x/\x<(Q7 s).2)<->(s.1<=x/\x<s.2/\0<=x/\x<=100000000):=by
 simp only[Q7];refine⟨zE,zE,fun x=>?_⟩;omega
def kX(p:Pl)(id region:Int)(s:Sp)(hs:s.2-s.1<=1000000)(x:Int):Xr (Vo p id region s) x<->s.1<=x/\x<s.2/\ij p id region x:=by
 obtain⟨c0,c1,cx⟩:=aeY s;have cl:(Q7 s).2-(Q7 s).1<=1000000:=by simp only[Q7];omega
 unfold Vo ij;generalize Q7 s=c at*
 cases hf:Xg id p.aO with
 |none=>simp
 |some it=>
  simp only[Option.some.injEq,exists_eq_left'];split
  ·rename_i hb;simp only[Yn,false_iff];rintro⟨h1,h2,h3,h4,_⟩;have:=(cx x).2 ⟨h1,h2,h4⟩;omega
  rename_i hb;simp only[not_or]at hb;split
  ·rename_i hk;simp only[Xd,Yn,or_false,Oq,hk,true_or,and_true];rw[cx x];constructor
   ·rintro⟨h1,h2,h3,h4⟩;exact⟨h1,h2,zE,h3,h4⟩
   rintro⟨h1,h2,h3,h4⟩;exact⟨h1,h2,h4⟩
  rename_i hk;split
  ·rename_i ht;simp[Oq,hk,ht]
  rename_i ht;have X5:Jz p=true:=by simpa using ht
  have hte:Vg p.nu p.de=true/\Yb p.of p.sh=true/\0<=p.ep/\p.ep<=9000000000:=by
   simp only[Jz,zzai,decide_eq_true_eq]at X5;exact⟨X5.1.1,X5.1.2,X5.2⟩
  obtain⟨hv,hz,he⟩:=hte;rw[(kU _ _).2];obtain⟨u,hu⟩:∃u,uS p c=u:=⟨_,rfl⟩;have hu1:u.1=p.ep+Yk p.nu p.de c.1:=by rw[<- hu];rfl
  have J9:u.2=p.ep+Yk p.nu p.de (c.2-1)+1:=by rw[<- hu];rfl
  rw[hu];have hd:=kV (f:=c.1) (g:=c.2-1) hv zE zE zE;have hs1:=pS p.nu p.de c.1;have QS:=pS p.nu p.de (c.2-1)
  have J6:0<=Yk p.nu p.de c.1:=by
   rw[Yk,if_pos ⟨hv,zE,zE⟩];exact Int.tdiv_nonneg (zzeh zE (by have:=Jp hv;omega)) (by have:=Jp hv;omega)
  have dw:iE p it region u (lP p it region u).length=(lP p it region u).foldl zV [u]:=by simp[iE]
  have bU:SZ u.1 u.2 (iE p it region u (lP p it region u).length):=by
   rw[dw];exact DB _ _ (by intro w hw;simp at hw;subst hw;omega)
  by_cases hx:c.1<=x/\x<c.2
  ·have kH:=(cx x).1 hx;have m1:=kV (f:=c.1) (g:=x) hv zE zE zE;have m2:=kV (f:=x) (g:=c.2-1) hv zE zE zE;rw[Lr hv (fun w hw=>by have:=bU w hw;omega) ⟨zE,zE⟩,dw,GP];simp only[Xd,Yn,or_false,Oq,hk,false_or,X5,true_and]
   have hl:(∀l∈lP p it region u,Xr l (p.ep+Yk p.nu p.de x))<->(grX (Wd p.cls it.id region) (p.ep+Yk p.nu p.de x)=true/\∀w∈uI p.cls it.ra,Oo p.of p.sh (p.ep+Yk p.nu p.de x) w.1 w.2):=by
    unfold lP;simp only[zzao,forall_eq_or_imp,zzbh,forall_exists_index,and_imp,forall_apply_eq_imp_iff₂];rw[Lq];refine and_congr Iff.rfl (forall_congr' fun w=>forall_congr' fun hw=>?_);obtain⟨d1,d2⟩:=YL w hw;rw[YK (by simp only[xe,hz,d1,d2,zzgj,zzea,decide_eq_true_eq];omega)];constructor
    ·rintro⟨_,_,h⟩;exact h
    intro h;exact⟨zE,zE,h⟩
   rw[hl];constructor
   ·rintro⟨⟨_,h⟩,_⟩;exact⟨kH.1,kH.2.1,zE,kH.2.2,h⟩
   rintro⟨_,_,_,_,h⟩;exact⟨⟨zE,h⟩,hx⟩
  simp only[Xd,Yn,or_false];constructor
  ·rintro⟨_,h⟩;exact absurd h hx
  rintro⟨h1,h2,_,h4,_⟩;exact absurd ((cx x).2 ⟨h1,h2,h4⟩) hx
def Ls(p:Pl)(id region f n:Int):Xx p id region f n=true<->(1<=n/\n<=1000000/\0<=f/\f+n-1<=100000000)/\∀x,f<=x->x<f+n->ij p id region x:=by
 unfold Xx;split
 ·rename_i hb;simp only[zzbp,false_iff];rintro⟨⟨h1,h2,h3,h4⟩,_⟩;obtain h|h|h|h:=hb
  ·omega
  ·omega
  ·simp[X7]at h;omega
  simp[X7]at h;omega
 rename_i hb;simp only[not_or,zzgn,X7,decide_eq_true_eq]at hb;obtain⟨b1,b2,b3,b4⟩:=hb;rw[List.isEmpty_iff,Lt (by simp only;omega)];constructor
 ·intro h;refine⟨zE,fun x h1 h2=>?_⟩;exact((kX p id region (f,f+n) (by simp only;omega) x).1 (h x h1 h2)).2.2
 rintro⟨_,h⟩ x h1 h2;exact(kX p id region (f,f+n) (by simp only;omega) x).2 ⟨h1,h2,h x h1 h2⟩
section
variable {α:Type}
def af(k:Int):List (Int×α)->Option α
 |[]=>none
 |x::r=>if x.1=k then some x.2 else af k r
def Vi(k:Int)(v:α):List (Int×α)->List (Int×α)
 |[]=>[(k,v)]
 |x::r=>if x.1=k then(k,v)::r else x::Vi k v r
def bF(row:α->AV)(l:List (Int×α)):List (P2×AV):=l.map fun x=>([x.1],row x.2)
@[simp] theorem avx(row:α->AV):bF row []=[]:=rfl
@[simp] def avy(row:α->AV)(l:List (Int×α)):(bF row l).length=l.length:=by simp[bF]
def Xu(row:α->AV)(k:Int):∀(l:List (Int×α))(i:Nat),
  (af k l=none/\Xi [k] (bF row l) i=none/\(∀v,Vi k v l=l++[(k,v)])/\∀v,bF row l++[([k],row v)]=bF row (Vi k v l))\/
  ∃u n,af k l=some u/\Xi [k] (bF row l) i=some (i+n,row u)/\n<l.length/\(bF row l).getD n ([],.junk)=([k],row u)/\(∀v,(Vi k v l).length=l.length)/\∀v,(bF row l).set n ([k],row v)=bF row (Vi k v l)
 |[],i=>.inl ⟨rfl,rfl,fun _=>rfl,fun _=>rfl⟩
 |x::r,i=>by
  by_cases h:x.1=k
  ·refine .inr ⟨x.2,0,by rw[af,if_pos h],by simp[bF,Xi,h],zd,by simp[bF,h],fun v=>by rw[Vi,if_pos h];rfl,fun v=>by rw[Vi,if_pos h];simp[bF]⟩
  have hk:¬([k]:P2)=[x.1]:=by intro e;cases e;exact h rfl
  rcases Xu row k r (i+1)with⟨h1,h2,h3,h4⟩|⟨u,n,h1,h2,h3,h4,h5,h6⟩
  ·refine .inl ⟨by rw[af,if_neg h];exact h1,?_,fun v=>by rw[Vi,if_neg h,h3];rfl,fun v=>?_⟩
   ·simp only[bF,zzay,Xi];rw[if_neg hk];exact h2
   rw[Vi,if_neg h];simp only[bF,zzay,zzae];exact congrArg _ (h4 v)
  refine .inr ⟨u,n+1,by rw[af,if_neg h];exact h1,?_,by simp;omega,by simpa[bF]using h4,fun v=>by rw[Vi,if_neg h];simp[h5 v],fun v=>?_⟩
  ·simp only[bF,zzay,Xi];rw[if_neg hk,zzer n 1,<- zzan];exact h2
  rw[Vi,if_neg h];simp only[bF,zzay,zzdz];exact congrArg _ (h6 v)
def Uy(k q:Int)(v:α):∀l:List (Int×α),af q (Vi k v l)=if q=k then some v else af q l
 |[]=>by
  by_cases h:q=k
  ·subst h;simp[Vi,af]
  have:¬k=q:=fun e=>h e.symm;simp[Vi,af,h,this]
 |x::r=>by
  have ih:=Uy k q v r;by_cases h:x.1=k
  ·rw[Vi,if_pos h];by_cases hq:q=k
   ·subst hq;simp[af]
   have:¬k=q:=fun e=>hq e.symm;have hx:¬x.1=q:=zE
   simp[af,hq,this,hx]
  rw[Vi,if_neg h,af,ih,af];by_cases hx:x.1=q
  ·have:¬q=k:=zE
   simp[hx,this]
  rw[if_neg hx];by_cases hq:q=k<;>simp[hq,hx]
def GQ(k:Int)(v:α):∀l:List (Int×α),(Vi k v l).length<=l.length+1
 |[]=>by simp[Vi]
 |x::r=>by
  rw[Vi];split
  ·simp
  have:=GQ k v r;simp only[zzav];omega
def azh(l:List (Int×α)):Prop:=(l.map (·.1)).Nodup
end
def GR:List En->Nat->List (Int×Int)->List (Int×Int)
 |[],_,a=>a
 |e::r,i,a=>GR r (i+1) (match af e.id a with|some _=>a|none=>Vi e.id (i:Int) a)
def Lu:List It->List (Int×It)->List (Int×It)
 |[],a=>a
 |x::r,a=>Lu r (match af x.id a with|some _=>a|none=>Vi x.id x a)
def Ae:List It->List (Int×It)->List (Int×Int)->List (Int×Int)
 |[],_,s=>s
 |x::r,a,s=>(match af x.id a with
  |some _=>Ae r a s
  |none=>Ae r (Vi x.id x a) (if 1<=x.sp/\x.sp<=200 then Vi x.sp x.id s else s))
def DH(p:Pl):List (Int×Int):=GR p.ens 0 []
def Af(p:Pl):List (Int×It):=Lu p.aO []
def Yx(p:Pl):List (Int×Int):=Ae p.aO [] []
def Ag(id:Int):List En->Nat->Option Nat
 |[],_=>none
 |e::r,i=>if e.id=id then some i else Ag id r (i+1)
def Ot(id:Int):∀(l:List En)(i:Nat)(a:List (Int×Int)),af id (GR l i a)=match af id a with|some v=>some v|none=>(Ag id l i).map fun n=>(n:Int)
 |[],i,a=>by simp only[GR,Ag];cases af id a<;>rfl
 |e::r,i,a=>by
  rw[GR,Ot id r,Ag];cases h:af e.id a with
  |some v=>
   simp only;cases h':af id a with
   |some u=>rfl
   |none=>
    have:¬e.id=id:=by rintro rfl;rw[h]at h';cases h'
    simp[this]
  |none=>
   simp only;rw[Uy];by_cases e1:id=e.id
   ·subst e1;simp[h]
   have e2:¬e.id=id:=fun h=>e1 h.symm;simp[e1,e2]
def uQ(p:Pl)(id:Int):af id (DH p)=(Ag id p.ens 0).map fun n=>(n:Int):=by rw[DH,Ot];rfl
def Ou(id:Int):∀(l:List It)(a:List (Int×It)),af id (Lu l a)=match af id a with|some v=>some v|none=>Xg id l
 |[],a=>by simp only[Lu,Xg];cases af id a<;>rfl
 |e::r,a=>by
  rw[Lu,Ou id r,Xg];cases h:af e.id a with
  |some v=>
   simp only;cases h':af id a with
   |some u=>rfl
   |none=>
    have:¬e.id=id:=by rintro rfl;rw[h]at h';cases h'
    simp[this]
  |none=>
   simp only;rw[Uy];by_cases e1:id=e.id
   ·subst e1;simp[h]
   have e2:¬e.id=id:=fun h=>e1 h.symm;simp[e1,e2]
def uR(p:Pl)(id:Int):af id (Af p)=Xg id p.aO:=by rw[Af,Ou];rfl
structure Ad where
 it:Int
 re:Int
 fr:Int
 fs:Int
def Vj(a:Ad):PQ:=[I a.it,I a.re,I a.fr,I a.fs]
def rJ(a:Ad):Bool:=decide (a.re=0/\0<=a.fr/\a.fr<=100000000/\1<=a.fs/\a.fs<=100000000)
def Vs(u:List (Int×Int))(it:Int):List (Int×Int):=Vi it ((af it u).getD 0+1) u
def Zn(p:Pl)(en:List (Int×Int))(it e:Int):List (Int×Int):=match Xg it p.aO with
 |some x=>Vi x.sp (max ((af x.sp en).getD 0) e) en
 |none=>en
def Ov:List Ad->List (Int×Int)->List (Int×Int)
 |[],u=>u
 |a::r,u=>Ov r (if rJ a then Vs u a.it else u)
def Ow(p:Pl):List Ad->List (Int×Int)->List (Int×Int)
 |[],u=>u
 |a::r,u=>Ow p r (if rJ a then Zn p u a.it (a.fr+a.fs)else u)
def Ox(ki it rg:Int):List Cl->Int->Int
 |[],n=>n
 |c::r,n=>Ox ki it rg r (if c.ki=ki/\gZ c it rg=true/\Xv c=true then c.n else n)
def Wn(p:Pl)(it:Int):Int:=match Xg it p.aO with
 |some x=>if x.ki=5 then -1 else Ox 3 it 0 p.cls (-1)
 |none=>Ox 3 it 0 p.cls (-1)
def pY(a b:Int):List Cl->Int->Int
 |[],g=>g
 |c::r,g=>pY a b r (if c.ki=5/\(c.a=a/\c.b=b\/c.a=b/\c.b=a)/\Xv c=true then max g c.n else g)
def Jw(p:Pl)(a b:Int):Int:=match Xg a p.aO,Xg b p.aO with
 |some x,some y=>if x.sp=0\/Vg p.nu p.de=false\/y.sp=0\/x.sp=y.sp then 0 else wX p.nu p.de (pY x.sp y.sp p.cls 0)
 |_,_=>0
def GU(at_ n:Int):List Sp->Option Int
 |[]=>none
 |s::r=>if max s.1 at_<s.2/\n<=s.2-max s.1 at_ then some (max s.1 at_)else GU at_ n r
def lQ(l:List Sp)(at_ n:Int):Option Int:=if n<=0 then some at_ else GU at_ n (Xj l)
def Xz(p:Pl)(it n:Int):List Sp:=Xj (Vo p it 0 (n*1000000,(n+1)*1000000)++Vo p it 0 ((n+1)*1000000,(n+2)*1000000))
def S5(p:Pl)(e:En)(last from_ n:Int):Option Int:=
 if n*1000000<=last then
  match lQ (Xz p e.it n) from_ e.fr with
  |none=>S5 p e last from_ (n+1)
  |some s=>if last<s then none else some s
 else none
termination_by(last-n*1000000+1000000).toNat
decreasing_by omega
def mC(p:Pl)(e:En):Int:=min (min e.la (p.ln-e.fr)) 100000000
def Yc(p:Pl)(e:En)(from_:Int):Option Int:=
 if e.fr<1\/1000000<e.fr\/p.ln<e.fr then none else S5 p e (mC p e) (max from_ 0) ((max from_ 0).tdiv 1000000)
def Kr(p:Pl)(it:Int):List Sp:=match Xg it p.aO with
 |none=>[]
 |some y=>match af y.sp (Yx p)with
  |none=>[]
  |some _=>(Yx p).filterMap fun x=>if 0<Jw p x.2 it then some (x.1,Jw p x.2 it)else none
def Uf(en:List (Int×Int)):List Sp->Int->Int
 |[],f=>f
 |r::l,f=>Uf en l (match af r.1 en with|some e=>max f (e+r.2)|none=>f)
def Jg(p:Pl):P2->List (Int×Int)->List (Int×Int)->Int->Int->Option (List Sp)
 |[],_,_,_,_=>some []
 |id::r,us,en,free,last=>match Ag id p.ens 0 with
  |none=>none
  |some k=>if(k:Int)<=last then none else match p.ens[k]? with
   |none=>none
   |some e=>if Wn p e.it≠ -1/\Wn p e.it<=(af e.it us).getD 0 then none else
    match Yc p e (Uf en (Kr p e.it) (max e.ea free))with
    |none=>none
    |some s=>match Jg p r (Vs us e.it) (Zn p en e.it (s+e.fr)) (s+e.fr) k with
     |none=>none
     |some l=>some ((id,s)::l)
def Yo(p:Pl)(at_:Int)(past:List Ad)(ids:P2):Option (List Sp):=Jg p ids (Ov past []) (Ow p past []) at_ (-1)
def DI{at_ n:Int}:∀{l:List Sp}{s:Int},GU at_ n l=some s->∃a∈l,max a.1 at_=s/\s<a.2/\n<=a.2-s
 |a::r,s,h=>by
  rw[GU]at h;split at h
  ·rename_i hc;cases h;exact⟨a,zd,rfl,hc.1,hc.2⟩
  obtain⟨b,hb,h1⟩:=DI h;exact⟨b,by simp[hb],h1⟩
def Qbz(p:Pl)(it n x:Int):Xr (Xz p it n) x<->n*1000000<=x/\x<(n+2)*1000000/\ij p it 0 x:=by
 rw[Xz,(Zy _).2,Yq,kX _ _ _ _ (by simp only;omega),kX _ _ _ _ (by simp only;omega)];simp only;constructor
 ·rintro(⟨h1,h2,h3⟩|⟨h1,h2,h3⟩)<;>exact⟨zE,zE,h3⟩
 rintro⟨h1,h2,h3⟩;by_cases h:x<(n+1)*1000000
 ·exact .inl ⟨h1,h,h3⟩
 exact .inr ⟨zE,h2,h3⟩
def aeZ{p:Pl}{it n at_ m s:Int}(hm:1<=m)(h:lQ (Xz p it n) at_ m=some s):at_<=s/\∀x,s<=x->x<s+m->ij p it 0 x:=by
 rw[lQ,if_neg zE]at h;obtain⟨a,ha,h1,h2,h3⟩:=DI h;refine⟨zE,fun x hx hx2=>?_⟩;have:Xr (Xj (Xz p it n)) x:=⟨a,ha,zE,zE⟩;rw[(Zy _).2,Qbz]at this;exact this.2.2
def YM{p:Pl}{e:En}{last from_ n s:Int}(he:1<=e.fr)(h:S5 p e last from_ n=some s):from_<=s/\s<=last/\∀x,s<=x->x<s+e.fr->ij p e.it 0 x:=by
 unfold S5 at h;split at h
 ·rename_i hc;cases hs:lQ (Xz p e.it n) from_ e.fr with
  |none=>rw[hs]at h;exact YM he h
  |some t=>
   rw[hs]at h;simp only at h;split at h
   ·cases h
   rename_i hl;cases h;obtain⟨h1,h2⟩:=aeZ he hs;exact⟨h1,zE,h2⟩
 cases h
termination_by(last-n*1000000+1000000).toNat
decreasing_by omega
def Qau{p:Pl}{e:En}{from_ s:Int}(h:Yc p e from_=some s):(1<=e.fr/\e.fr<=1000000)/\from_<=s/\0<=s/\s<=e.la/\s+e.fr<=p.ln/\s<=100000000/\∀x,s<=x->x<s+e.fr->ij p e.it 0 x:=by
 rw[Yc]at h;split at h
 ·cases h
 rename_i hc;obtain⟨h1,h2,h3⟩:=YM zE h;simp only[mC]at h2;exact⟨zE,zE,zE,zE,zE,zE,h3⟩
def GV(en:List (Int×Int)):∀(l:List Sp)(f:Int),f<=Uf en l f
 |[],f=>zzby _
 |r::l,f=>by
  rw[Uf];refine zzhq ?_ (GV en l _);split<;>omega
def xR(en:List (Int×Int)){l l':List Sp}(h:l.Perm l'):∀f,Uf en l f=Uf en l' f:=by
 induction h with
 |nil=>exact fun _=>rfl
 |cons x _ ih=>intro f;simp only[Uf,ih]
 |swap x y l=>
  intro f;simp only[Uf];congr 1;cases af x.1 en<;>cases af y.1 en<;>simp only<;>omega
 |trans _ _ ih1 ih2=>exact fun f=>(ih1 f).trans (ih2 f)
def rK{id:Int}:∀{l:List En}{i k:Nat},Ag id l i=some k->i<=k/\∃e,l[k-i]?=some e/\e.id=id/\Zf id l=some e
 |[],i,k,h=>by cases h
 |e::r,i,k,h=>by
  rw[Ag]at h;split at h
  ·rename_i hc;cases h;exact⟨zzaa _,e,zd,hc,by simp[Zf,hc]⟩
  rename_i hc;obtain⟨h1,x,h2,h3,h4⟩:=rK h;refine⟨zE,x,?_,h3,by simp[Zf,hc,h4]⟩;obtain⟨d,hd⟩:∃d,k-i=d+1:=⟨k-i-1,zE⟩;rw[hd,zzdk,<- h2];congr 1;omega
def Rn(ki it rg:Int)(c:Cl):Bool:=decide (c.ki=ki)&&(gZ c it rg&&Xv c)
def BD(ki it rg:Int)(c:Cl):∀(l:List Cl)(n:Int),Ox ki it rg (l++[c]) n=if Rn ki it rg c=true then c.n else Ox ki it rg l n
 |[],n=>by simp[Ox,Rn]
 |d::l,n=>by rw[zzae,Ox,BD ki it rg c l,Ox]
def BE(cs:List Cl)(ki it rg:Int):X1:=fun _ f l=>
 if f=256 then .fn 271 [] [.ep [.sl .ro (cs.map Qh)] 0]else if f=257 then(match l with
  |[.agg [.int _ a,.int _ b,.int _ c,.int _ d,.int _ e,.int _ f,.int _ g,.int _ h],_,_]=>.bool (gZ ⟨a,b,c,d,e,f,g,h⟩ it rg)
  |_=>.junk)else(match l with
  |[.agg [.int _ a,.int _ b,.int _ c,.int _ d,.int _ e,.int _ f,.int _ g,.int _ h]]=>.bool (Xv ⟨a,b,c,d,e,f,g,h⟩)
  |_=>.junk)
def ae0(cs:List Cl)(ki it rg no:Int)(hl:cs.length<=1000000000):Pure Tryz.prog aD 241 [.sl .ro (cs.map Qh),I ki,I it,I rg,I no] (I (Ox ki it rg cs no)):=by
 have al9:=mw cs;have cN:=mz cs hl;obtain⟨T,hT⟩:∃T,Ox ki it rg cs no=T:=⟨_,rfl⟩;rw[hT];refine Qn adO (BE cs ki it rg) zd ?_;simp[aiD,BE];refine⟨al9,?_⟩;refine jm (xs:=Q4 cs cs.length) zd cN Gq (fun i m=>i<=cs.length/\Ox ki it rg (cs.take (cs.length-i)) no=T/\∃bx,m.boxes=[I ki]::[I it]::[I rg]::[I 0]::bx) (fun ex m=>ex=.ret/\∃bx,m.boxes=[I ki]::[I it]::[I rg]::[I T]::bx) ?_ ?_ ?_ ?_ ?_ ?_
 ·exact⟨zE,Pi hT,[],zd⟩
 ·rintro i m m' ⟨h1,h2,bx,h3⟩ ⟨⟨b2,e1⟩,_,_⟩;exact⟨h1,h2,bx++b2,by rw[e1,h3];rfl⟩
 ·rintro ex m m' ⟨h1,bx,h3⟩ ⟨⟨b2,e1⟩,_,_⟩;exact⟨h1,bx++b2,by rw[e1,h3];rfl⟩
 ·rintro l i m x hg hr ⟨h1,h2,bx,hb⟩ hx K' k1 k2 _;obtain⟨k,c,hc,hk,rfl⟩:=xA cs cs.length i x (zzaa _) hx;rw[Us]at hb
  have bB:cs.take (cs.length-i)=cs.take (cs.length-(i+1))++[c]:=by
   rw[show cs.length-i=k+1 by omega,show cs.length-(i+1)=k by omega,zzax,hc];rfl
  rw[bB,BD]at h2;have c1:=mj c it rg;have c2:=Kq c;by_cases e1:c.ki=ki
  ·subst e1;cases e2:gZ c it rg with
   |false=>
    rw[e2]at c1;rw[if_neg (by simp[Rn,e2])]at h2;simp[hr,Zi,hb,Qh,BE,e2];refine⟨by simpa[Qh]using c1,k1 _ ⟨zE,h2,bx++[Qh c],?_⟩⟩;simp[Qh]
   |true=>
    rw[e2]at c1;cases e3:Xv c with
    |false=>
     rw[e3]at c2;rw[if_neg (by simp[Rn,e3])]at h2;simp[hr,Zi,hb,Qh,BE,e2,e3];refine⟨by simpa[Qh]using c1,by simpa[Qh]using c2,k1 _ ⟨zE,h2,bx++[Qh c],?_⟩⟩;simp[Qh]
    |true=>
     rw[e3]at c2;rw[if_pos (by simp[Rn,e2,e3])]at h2;simp[hr,Zi,hb,Qh,BE,e2,e3];refine⟨by simpa[Qh]using c1,by simpa[Qh]using c2,k2 _ ⟨rfl,bx++[Qh c],?_⟩⟩;simp[Qh,h2]
  rw[if_neg (by simp[Rn,e1])]at h2;simp[hr,Zi,hb,Qh,BE,e1];refine k1 _ ⟨zE,h2,bx++[Qh c],?_⟩;simp[Qh]
 ·rintro m ⟨h1,h2,bx,hb⟩;rw[Gp,zzfw,zzgd]at h2;have h2:no=T:=h2;simp[hb,UK,h2]
 rintro ex m ⟨rfl,bx,hb⟩;simp[hb,UK]
def ae1(p:Pl)(it:Int)(hc:p.cls.length<=1000000000)(cN:p.aO.length<=1000000000):Pure Tryz.prog aD 186 [.agg (Qa p),I it,I 0] (I (Wn p it)):=by
 have sW:=kS p it cN;have axG:=ae0 p.cls 3 it 0 (-1) hc
 have ast:Pure Tryz.prog aD 219 [.sl .ro (p.cls.map Qh),I it,I 0] (I (Ox 3 it 0 p.cls (-1))):=by
  refine Qn adw (fun _ _ _=>I (Ox 3 it 0 p.cls (-1))) zd ?_;simp[aij,aik];exact axG
 refine Qn ada (fun _ f _=>if f=218 then Zq (Xg it p.aO)else I (Ox 3 it 0 p.cls (-1))) zd ?_;cases hf:Xg it p.aO with
 |none=>
  rw[hf]at sW;simp[No,Np,Qa,hf,Zq,Wn];exact⟨by simpa[Qa,Zq]using sW,ast⟩
 |some x=>
  rw[hf]at sW;by_cases h5:x.ki=5
  ·simp[No,Np,Qa,hf,Zq,Qm,Wn,h5];simpa[Qa,Zq,Qm,h5]using sW
  simp[No,Np,Qa,hf,Zq,Qm,Wn,h5];exact⟨by simpa[Qa,Zq,Qm]using sW,ast⟩
def Lv(a b:Int)(c:Cl):Bool:=(decide (c.a=a)&&decide (c.b=b))||(decide (c.a=b)&&decide (c.b=a))
def YN(a b:Int)(c:Cl):Bool:=decide (c.ki=5)&&(Lv a b c&&Xv c)
def BF(a b:Int)(c:Cl)(r:List Cl)(g:Int):pY a b (c::r) g=pY a b r (if YN a b c=true then max g c.n else g):=by
 rw[pY];congr 1;by_cases h:c.ki=5/\(c.a=a/\c.b=b\/c.a=b/\c.b=a)/\Xv c=true
 ·rw[if_pos h,if_pos (by simp[YN,Lv,h.1,h.2.2];exact h.2.1)]
 rw[if_neg h,if_neg (by intro h';apply h;simp[YN,Lv]at h';exact⟨h'.1,h'.2.1,h'.2.2⟩)]
def GW{c:Cl}(h:Xv c=true)(h5:c.ki=5):0<=c.n/\c.n<=86400:=by
 unfold Xv at h;simp only[zzai]at h;have h2:=h.2;unfold Kn at h2;simp[h5,wi]at h2;omega
def Oy(a b:Int):∀(l:List Cl)(g:Int),0<=g/\g<=86400->0<=pY a b l g/\pY a b l g<=86400
 |[],g,h=>h
 |c::r,g,h=>by
  rw[BF];apply Oy a b r;split
  ·rename_i hh;simp[YN]at hh;have:=GW hh.2.2 hh.1;omega
  exact h
def axH(a b T:Int)(cs:List Cl)(f:Nat->AV)(m:AM):Prop:=∃(i:Nat)(g:Int)(bx:X2),f 13=I i/\f 7=I g/\i<=cs.length/\pY a b (cs.drop i) g=T/\m=⟨bx,[],fun _=>.gone,0⟩
def amn(cs:List Cl)(a b:Int)(hl:cs.length<=1000000000):Pure Tryz.prog aD 221 [.sl .ro (cs.map Qh),I a,I b] (I (pY a b cs 0)):=by
 obtain⟨T,hT⟩:∃T,pY a b cs 0=T:=⟨_,rfl⟩;rw[hT];refine Qn ady Bz zd ?_;simp[UH];refine Qj vK (axH a b T cs) (fun f _=>cs.length-(numOf (f 13)).toNat) ?_ ?_
 ·exact⟨0,0,_,zd,zd,zE,Pi hT,rfl⟩
 rintro f m ⟨i,g,bx,fD,h7,hi,hx,rfl⟩;rcases zzab i cs.length with aa|bu
 ·obtain⟨c,hc⟩:=aY aa;have ai:Qg (cs.map Qh) i=Qh c:=Qv (by simp[hc]);have ah:(i:Int)<(cs.length:Int):=zE
  have hw:=bR i zE;have k:=Kq c;rw[Zb hc,BF]at hx;have axI:∀E,gj vK E E:=fun E=>Qb _ _;obtain⟨v0,h0⟩:∃v,(c.ki==5)=v:=⟨_,rfl⟩;obtain⟨v1,h1⟩:∃v,(c.a==a)=v:=⟨_,rfl⟩;obtain⟨v2,h2⟩:∃v,(c.b==b)=v:=⟨_,rfl⟩;obtain⟨v3,h3⟩:∃v,(c.a==b)=v:=⟨_,rfl⟩;obtain⟨v4,h4⟩:∃v,(c.b==a)=v:=⟨_,rfl⟩
  have hh:YN a b c=(v0&&(((v1&&v2)||(v3&&v4))&&Xv c)):=by
   rw[<- h0,<- h1,<- h2,<- h3,<- h4];rfl
  obtain⟨v5,h5⟩:∃v,Xv c=v:=⟨_,rfl⟩;have hk5:v5=true->v0=true->0<=c.n/\c.n<=86400:=fun e e'=>GW (h5.trans e) (by rw[e']at h0;simpa using h0);rw[hh,h5]at hx;rw[h5]at k;have k':Abs.Pure Tryz.prog aD 31 [.agg [I c.ki,I c.it,I c.fr,I c.to,I c.re,I c.n,I c.a,I c.b]] (.bool v5):=k;clear hh k;cases v0
  ·cases v1<;>cases v2<;>cases v3<;>cases v4<;>simp only[Bool.false_and,zzbp,if_false]at hx
   all_goals
    simp[fD,h7,aa,ah,ai,Qh,Bz,h0,h1,h2,h3,h4,vK,hw];refine⟨aR,⟨i+1,g,_,zd,by simp[h7],zE,hx,rfl⟩,zE⟩
  cases v1<;>cases v2<;>cases v3<;>cases v4<;>cases v5<;>simp only[zzgj,zzhj,zzea,Bool.false_and,Bool.or_true,Bool.or_false,zzhr,Bool.false_or,zzbp,if_false,if_true,Bool.or_self,Bool.and_self]at hx
  all_goals
   simp[fD,h7,aa,ah,ai,Qh,Bz,h0,h1,h2,h3,h4,h5,vK,hw];first
   |(
    refine⟨ag ?_,⟨i+1,g,_,zd,by simp[h7],zE,hx,rfl⟩,zE⟩;repeat(first|exact Qb _ _|refine Qc _ rfl ?_))
   |(
    refine⟨k',ag ?_,⟨i+1,g,_,zd,by simp[h7],zE,hx,rfl⟩,zE⟩;repeat(first|exact Qb _ _|refine Qc _ rfl ?_))
   |(
    refine⟨k',ag ?_,⟨i+1,max g c.n,_,zd,by simp;omega,zE,hx,rfl⟩,zE⟩;repeat(first|exact Qb _ _|refine Qc _ rfl ?_))
 have bU:¬(i:Int)<(cs.length:Int):=zE
 rw[zzam bu]at hx;have hx:g=T:=hx;subst hx;simp[fD,h7,bU,zzbn.2 bu,vK,ail]
def s9(p:Pl)(a b:Int):X1:=fun d f l=>
 if f=218 then(match l with|[_,.int _ n]=>Zq (Xg n p.aO)|_=>.junk)else if f=176 then .bool (Vg p.nu p.de)else if f=221 then(match l with|[_,.int _ x,.int _ y]=>I (pY x y p.cls 0)|_=>.junk)else
 if f=220 then(match l with|[_,.int _ x]=>I (wX p.nu p.de x)|_=>.junk)else .junk
def amo(p:Pl)(a b:Int)(hc:p.cls.length<=1000000000)(cN:p.aO.length<=1000000000):Pure Tryz.prog aD 187 [.agg (Qa p),I a,I b] (I (Jw p a b)):=by
 have ka:=kS p a cN;have kb:=kS p b cN;have kr:=Wm p.nu p.de;refine Qn adb (s9 p a b) zd ?_;cases EC:Xg a p.aO with
 |none=>
  rw[EC]at ka;have hg:Jw p a b=0:=by simp[Jw,EC]
  rw[hg];simp[sE,sF,Qa,s9,EC,Zq];simpa[Qa,Zq]using ka
 |some x=>
  rw[EC]at ka;by_cases c1:x.sp=0
  ·have hg:Jw p a b=0:=by cases IV:Xg b p.aO<;>simp[Jw,EC,IV,c1]
   rw[hg];simp[sE,sF,Qa,s9,EC,Zq,Qm,c1];simpa[Qa,Zq,Qm,c1]using ka
  cases c2:Vg p.nu p.de with
  |false=>
   rw[c2]at kr;have hg:Jw p a b=0:=by cases IV:Xg b p.aO<;>simp[Jw,EC,IV,c2]
   rw[hg];simp[sE,sF,Qa,s9,EC,Zq,Qm,c1,c2];exact⟨by simpa[Qa,Zq,Qm]using ka,kr⟩
  |true=>
   rw[c2]at kr;cases IV:Xg b p.aO with
   |none=>
    rw[IV]at kb;have hg:Jw p a b=0:=by simp[Jw,EC,IV]
    rw[hg];simp[sE,sF,Qa,s9,EC,IV,Zq,Qm,c1,c2];exact⟨by simpa[Qa,Zq,Qm]using ka,kr,by simpa[Qa,Zq,Qm]using kb⟩
   |some y=>
    rw[IV]at kb;by_cases c3:y.sp=0
    ·have hg:Jw p a b=0:=by simp[Jw,EC,IV,c3]
     rw[hg];simp[sE,sF,Qa,s9,EC,IV,Zq,Qm,c1,c2,c3];exact⟨by simpa[Qa,Zq,Qm]using ka,kr,by simpa[Qa,Zq,Qm,c3]using kb⟩
    by_cases c4:x.sp=y.sp
    ·have hg:Jw p a b=0:=by simp[Jw,EC,IV,c4]
     rw[hg];simp[sE,sF,Qa,s9,EC,IV,Zq,Qm,c1,c2,c3,<- c4];rw[<- c4]at c3;exact⟨by simpa[Qa,Zq,Qm]using ka,kr,by simpa[Qa,Zq,Qm,c4]using kb⟩
    have hg:Jw p a b=wX p.nu p.de (pY x.sp y.sp p.cls 0):=by simp[Jw,EC,IV,c1,c2,c3,c4]
    rw[hg];have kg:=amn p.cls x.sp y.sp hc;have kf:=Bo p.nu p.de (pY x.sp y.sp p.cls 0);simp[sE,sF,Qa,s9,EC,IV,Zq,Qm,c1,c2,c3,c4];exact⟨by simpa[Qa,Zq,Qm]using ka,kr,by simpa[Qa,Zq,Qm]using kb,kg,kf⟩
structure Bd where
 p:Pl
 at_:Int
 us:List (Int×Int)
 en:List (Int×Int)
 rv:List (Int×(Rt×List Sp))
 li:List (Int×Int)
 pm:List ((Int×Int)×List Sp)
abbrev iA(n:Int):AV:=I n
def rM(x:It):AV:=.agg (Qm x)
def rvA(x:Rt×List Sp):AV:=.sl x.1 (x.2.map Qe)
def S6(l:List ((Int×Int)×List Sp)):List (P2×AV):=l.map fun x=>([x.1.1,x.1.2],.sl .ro (x.2.map Qe))
def Qp(k:Nat)(b:Bd):PQ:=Qa b.p++[I b.at_,.mp (k+1),.mp (k+2),.mp (k+3),.mp (k+4),.mp (k+5),.mp (k+6),.mp (k+7),.mp (k+8)]
def bh(k:Nat)(b:Bd)(post:X2):X2:=
 Qa b.p::[.aL 0 (bF iA (DH b.p))]::[.aL 0 (bF rM (Af b.p))]::[.aL 0 (bF iA (Yx b.p))]::[.aL 0 (bF iA b.us)]::[.aL 0 (bF iA b.en)]::
  [.aL 0 (bF rvA b.rv)]::[.aL 0 (bF iA b.li)]::[.aL 2 (S6 b.pm)]::Qp k b::post
def aP(pre:X2)(b:Bd)(post:X2)(ls:P1):AM:=⟨pre++bh pre.length b post,ls,fun _=>.gone,0⟩
def amq(b:Bd):Prop:=∀k v,af k b.li=some v->v=Wn b.p k
def ae2(pre post:X2)(ls:P1)(b:Bd)(it:Int)(hc:b.p.cls.length<=1000000000)(cN:b.p.aO.length<=1000000000)(hli:amq b)(Y:YT)(K:UV)
  (hK:∀li,amq {b with li:=li}->K (I (Wn b.p it)) (aP pre {b with li:=li} post ls)):
  aA Tryz.prog aD Y 139 [.ptr (pre.length+9) 0,I it] (aP pre b post ls) K:=by
 have axJ:=ae1 b.p it hc cN;refine Xh acA (fun _ _ _=>I (Wn b.p it)) zd ?_;rcases Xu iA it b.li 0 with⟨h1,h2,h3,h4⟩|⟨u,n,h1,h2,_,_,_,h4⟩
 ·simp[TN,TO,aP,bh,Qp,Qa,h2];refine⟨by simpa[Qa]using axJ,?_⟩
  have:=hK (Vi it (Wn b.p it) b.li) (fun k v h=>by
   rw[Uy]at h;split at h
   ·rename_i e;cases h;rw[e]
   exact hli k v h)
  have S7:bF iA b.li++[([it],I (Wn b.p it))]=bF iA (Vi it (Wn b.p it) b.li):=h4 _;rw[S7];exact this
 simp[TN,TO,aP,bh,Qp,Qa,h2];have hu:=hli it u h1;subst hu;exact hK b.li hli
def ae3(b:Bd):Prop:=∀k x,af k b.rv=some x->∀it y,Xg it b.p.aO=some y->y.sp=k->x.2.Perm (Kr b.p it)
def xS(p:Pl)(it:Int)(L:List (Int×Int)):List Sp:=L.filterMap fun x=>if 0<Jw p x.2 it then some (x.1,Jw p x.2 it)else none
def atL{α:Type}(d:α)(L:List α)(seen:P1):List α:=seen.map fun i=>L.getD i d
def ae4{α:Type}(d:α)(L:List α)(seen:P1)(hn:seen.Nodup)(bD:∀i,i<L.length->i∈seen)(hb:∀i∈seen,i<L.length):(atL d L seen).Perm L:=by
 have hp:seen.Perm (List.range L.length):=by
  rw[zzgl hn zzdo];intro i;simp only[zzba];exact⟨hb i,bD i⟩
 have h1:=hp.map fun i=>L.getD i d
 have h2:(List.range L.length).map (fun i=>L.getD i d)=L:=by
  apply zzey zd;intro i h1 h2;simp[h2]
 rw[h2]at h1;exact h1
def ae5{p:Pl}{a i j:Int}{x y:It}(hi:Xg i p.aO=some x)(hj:Xg j p.aO=some y)(h:x.sp=y.sp):Jw p a i=Jw p a j:=by
 simp only[Jw,hi,hj];cases Xg a p.aO with
 |none=>rfl
 |some z=>simp only[h]
def ae6{p:Pl}{i j:Int}{x y:It}(hi:Xg i p.aO=some x)(hj:Xg j p.aO=some y)(h:x.sp=y.sp):Kr p i=Kr p j:=by
 simp only[Kr,hi,hj,h];cases af y.sp (Yx p)with
 |none=>rfl
 |some _=>simp only[ae5 hi hj h]
def xU:∀(l:List It)(a:List (Int×It))(s:List (Int×Int)),af 0 s=none->af 0 (Ae l a s)=none
 |[],a,s,h=>h
 |x::r,a,s,h=>by
  rw[Ae];cases af x.id a with
  |some _=>exact xU r a s h
  |none=>
   refine xU r _ _ ?_;split
   ·rw[Uy,if_neg zE];exact h
   exact h
def Xa(n:Int):PQ:=[I n]
def YO(LL:List (Rt×List Sp))(f:Nat->AV)(m:AM):Prop:=∃(i:Nat)(bx:X2),f 11=I i/\i<=LL.length/\f 3=I (((LL.take i).map fun x=>x.2).flatten.length:Nat)/\m=⟨bx,[],fun _=>.gone,0⟩
def YP(LL:List (Rt×List Sp))(f:Nat->AV)(m:AM):Prop:=∃(i:Nat)(rt:Rt)(ls:P1)(bx:X2),f 27=I i/\i<=LL.length/\f 6=.sl rt (((LL.take i).map fun x=>x.2).flatten.map Qe)/\
 (((LL.take i).map fun x=>x.2).flatten=[]/\rt=.nil/\i=0\/∃k,rt=.own k 2/\ls[k]?=some ((LL.take i).map fun x=>x.2).flatten.length)/\m=⟨bx,ls,fun _=>.gone,0⟩
def Oz(LL:List (Rt×List Sp)){i:Nat}{x:Rt×List Sp}(h:LL[i]?=some x):((LL.take (i+1)).map fun x=>x.2).flatten=((LL.take i).map fun x=>x.2).flatten++x.2:=by
 simp[zzax,h]
def OA(LL:List (Rt×List Sp))(i:Nat):((LL.take i).map fun x=>x.2).flatten.length<=(LL.map fun x=>x.2).flatten.length:=by
 have h:(LL.map fun x=>x.2)=((LL.take i).map fun x=>x.2)++(LL.drop i).map fun x=>x.2:=by rw[<- zzch,zzdq]
 rw[h,zzem,zzah];omega
def uT:X1:=fun _ f _=>if f=261 then .gd false .junk else .junk
def Ro(LL:List (Rt×List Sp))(aJ:LL≠[])(hl:LL.length<=1000000)(hf:(LL.map fun x=>x.2).flatten.length<=1000000000):Pure Tryz.prog aD 246 [.sl .full (LL.map fun x=>[.sl x.1 (x.2.map Qe)])] (.sl .ro ((LL.map fun x=>x.2).flatten.map Qe)):=by
 have iW:=zzdf.2 aJ;have iJ:LL.take LL.length=LL:=zzbs;refine Qn adQ uT zd ?_;simp[aiG];refine Qj CN (YO LL) (fun f _=>LL.length-(numOf (f 11)).toNat) ?_ ?_
 ·exact⟨0,[],zd,zE,zd,rfl⟩
 rintro f m ⟨i,bx,pL,hi,h3,rfl⟩;rcases zzab i LL.length with aa|bu
 ·obtain⟨x,hx⟩:=aY aa;have ai:Qg (LL.map fun x=>[.sl x.1 (x.2.map Qe)]) i=[.sl x.1 (x.2.map Qe)]:=Qv (by simp[hx]);have ah:(i:Int)<(LL.length:Int):=zE
  have hw:=bR i zE;have hc:=Oz LL hx;have oU:=OA LL (i+1);obtain⟨n,hn⟩:∃n,((LL.take i).map fun x=>x.2).flatten.length=n:=⟨_,rfl⟩;have hcn:((LL.take (i+1)).map fun x=>x.2).flatten.length=n+x.2.length:=by rw[hc,zzah,hn]
  rw[hn]at h3;have fE:IntKind.i64.wrap ((n:Int)+(x.2.length:Int))=((n+x.2.length:Nat):Int):=by rw[Qi]<;>omega
  have A2:¬(n:Int)+(x.2.length:Int)<0:=zE
  simp[pL,h3,aa,ah,ai,CN,hw,fE,A2];refine⟨aR,⟨i+1,_,zd,zE,by rw[hcn];simp[fE],rfl⟩,zE⟩
 have bU:¬(i:Int)<(LL.length:Int):=zE
 obtain rfl:i=LL.length:=zE
 rw[iJ]at h3;obtain⟨n,hn⟩:∃n,(LL.map fun x=>x.2).flatten.length=n:=⟨_,rfl⟩;rw[hn]at h3 hf;have fin:∀(rt:Rt)(ls:P1),(rt=.nil\/∃k,rt=.own k 2/\ls[k]?=some 0)->∀(E:R0),True:=fun _ _ _ _=>trivial;simp[pL,h3,bU,zzbn.2 bu,CN,uT];refine ae7 hf (fun h0=>?_) (fun h0=>?_)
 all_goals
  try simp[pL,h3,CN]
  refine Qj CO (YP LL) (fun f _=>LL.length-(numOf (f 27)).toNat) ?_ ?_
 ·exact⟨0,.nil,[],bx,zd,zE,zd,.inl ⟨zd,rfl,rfl⟩,rfl⟩
 rotate_left
 ·exact⟨0,.own 0 2,[0],bx,zd,zE,zd,.inr ⟨0,rfl,zd⟩,rfl⟩
 all_goals
  clear h0;rintro f m ⟨i,rt,ls,bx,h27,hi,h6,bk,rfl⟩;rcases zzab i LL.length with aa|bu
  ·obtain⟨x,hx⟩:=aY aa;have ai:Qg (LL.map fun x=>[.sl x.1 (x.2.map Qe)]) i=[.sl x.1 (x.2.map Qe)]:=Qv (by simp[hx]);have ah:(i:Int)<(LL.length:Int):=zE
   have hw:=bR i zE;have hc:=Oz LL hx;have oU:=OA LL (i+1);obtain⟨F,hF⟩:∃F,((LL.take i).map fun x=>x.2).flatten=F:=⟨_,rfl⟩;rw[hF]at h6 bk hc;rw[hc,zzah,hn]at oU;obtain⟨rfl,rfl,rfl⟩|⟨k,rfl,hk⟩:=bk
   ·have iL:IntKind.i64.wrap 1=1:=by decide
    simp[h27,h6,aa,ah,ai,CO,hw,iL,uT];refine⟨⟨?_,zE⟩,aR,⟨1,.own ls.length 2,_,bx,zd,zE,by rw[hc];simp,.inr ⟨ls.length,rfl,by rw[hc];simp⟩,rfl⟩,zE⟩
    ·rintro a b row _ rfl;rfl
   have sM:=(zza.1 hk).1;simp[h27,h6,aa,ah,ai,CO,hw,hk,uT];refine⟨⟨?_,zE⟩,aR,⟨i+1,.own k 2,_,bx,zd,zE,by rw[hc];simp,.inr ⟨k,rfl,by rw[hc];simp[sM]⟩,rfl⟩,zE⟩
   ·rintro row (⟨a,b,_,rfl⟩|⟨a,b,_,rfl⟩)<;>rfl
  have bU:¬(i:Int)<(LL.length:Int):=zE
  obtain rfl:i=LL.length:=zE
  rw[iJ]at h6 bk;obtain⟨_,_,h0⟩|⟨k,rfl,hk⟩:=bk
  ·omega
  simp[h27,h6,bU,zzbn.2 bu,CO,aiH]
def ae8(LL:List (Rt×P2))(f:Nat->AV)(m:AM):Prop:=∃(i:Nat)(bx:X2),f 11=I i/\i<=LL.length/\f 3=I (((LL.take i).map fun x=>x.2).flatten.length:Nat)/\m=⟨bx,[],fun _=>.gone,0⟩
def ae9(LL:List (Rt×P2))(f:Nat->AV)(m:AM):Prop:=∃(i:Nat)(rt:Rt)(ls:P1)(bx:X2),f 27=I i/\i<=LL.length/\f 6=.sl rt (((LL.take i).map fun x=>x.2).flatten.map Xa)/\
 (((LL.take i).map fun x=>x.2).flatten=[]/\rt=.nil/\i=0\/∃k,rt=.own k 1/\ls[k]?=some ((LL.take i).map fun x=>x.2).flatten.length)/\m=⟨bx,ls,fun _=>.gone,0⟩
def YQ(LL:List (Rt×P2)){i:Nat}{x:Rt×P2}(h:LL[i]?=some x):((LL.take (i+1)).map fun x=>x.2).flatten=((LL.take i).map fun x=>x.2).flatten++x.2:=by
 simp[zzax,h]
def YR(LL:List (Rt×P2))(i:Nat):((LL.take i).map fun x=>x.2).flatten.length<=(LL.map fun x=>x.2).flatten.length:=by
 have h:(LL.map fun x=>x.2)=((LL.take i).map fun x=>x.2)++(LL.drop i).map fun x=>x.2:=by rw[<- zzch,zzdq]
 rw[h,zzem,zzah];omega
def DJ:X1:=fun _ f _=>if f=190 then .gd false .junk else .junk
def YS(LL:List (Rt×P2))(aJ:LL≠[])(hl:LL.length<=1000000)(hf:(LL.map fun x=>x.2).flatten.length<=1000000000):Pure Tryz.prog aD 143 [.sl .full (LL.map fun x=>[.sl x.1 (x.2.map Xa)])] (.sl .ro ((LL.map fun x=>x.2).flatten.map Xa)):=by
 have iW:=zzdf.2 aJ;have iJ:LL.take LL.length=LL:=zzbs;refine Qn acD DJ zd ?_;simp[ahm];refine Qj Cx (ae8 LL) (fun f _=>LL.length-(numOf (f 11)).toNat) ?_ ?_
 ·exact⟨0,[],zd,zE,zd,rfl⟩
 rintro f m ⟨i,bx,pL,hi,h3,rfl⟩;rcases zzab i LL.length with aa|bu
 ·obtain⟨x,hx⟩:=aY aa;have ai:Qg (LL.map fun x=>[.sl x.1 (x.2.map Xa)]) i=[.sl x.1 (x.2.map Xa)]:=Qv (by simp[hx]);have ah:(i:Int)<(LL.length:Int):=zE
  have hw:=bR i zE;have hc:=YQ LL hx;have oU:=YR LL (i+1);obtain⟨n,hn⟩:∃n,((LL.take i).map fun x=>x.2).flatten.length=n:=⟨_,rfl⟩;have hcn:((LL.take (i+1)).map fun x=>x.2).flatten.length=n+x.2.length:=by rw[hc,zzah,hn]
  rw[hn]at h3;have fE:IntKind.i64.wrap ((n:Int)+(x.2.length:Int))=((n+x.2.length:Nat):Int):=by rw[Qi]<;>omega
  have A2:¬(n:Int)+(x.2.length:Int)<0:=zE
  simp[pL,h3,aa,ah,ai,Cx,hw,fE,A2];refine⟨aR,⟨i+1,_,zd,zE,by rw[hcn];simp[fE],rfl⟩,zE⟩
 have bU:¬(i:Int)<(LL.length:Int):=zE
 obtain rfl:i=LL.length:=zE
 rw[iJ]at h3;obtain⟨n,hn⟩:∃n,(LL.map fun x=>x.2).flatten.length=n:=⟨_,rfl⟩;rw[hn]at h3 hf;have fin:∀(rt:Rt)(ls:P1),(rt=.nil\/∃k,rt=.own k 1/\ls[k]?=some 0)->∀(E:R0),True:=fun _ _ _ _=>trivial;simp[pL,h3,bU,zzbn.2 bu,Cx,DJ];refine afa hf (fun h0=>?_) (fun h0=>?_)
 all_goals
  try simp[pL,h3,Cx]
  refine Qj Cy (ae9 LL) (fun f _=>LL.length-(numOf (f 27)).toNat) ?_ ?_
 ·exact⟨0,.nil,[],bx,zd,zE,zd,.inl ⟨zd,rfl,rfl⟩,rfl⟩
 rotate_left
 ·exact⟨0,.own 0 1,[0],bx,zd,zE,zd,.inr ⟨0,rfl,zd⟩,rfl⟩
 all_goals
  clear h0;rintro f m ⟨i,rt,ls,bx,h27,hi,h6,bk,rfl⟩;rcases zzab i LL.length with aa|bu
  ·obtain⟨x,hx⟩:=aY aa;have ai:Qg (LL.map fun x=>[.sl x.1 (x.2.map Xa)]) i=[.sl x.1 (x.2.map Xa)]:=Qv (by simp[hx]);have ah:(i:Int)<(LL.length:Int):=zE
   have hw:=bR i zE;have hc:=YQ LL hx;have oU:=YR LL (i+1);obtain⟨F,hF⟩:∃F,((LL.take i).map fun x=>x.2).flatten=F:=⟨_,rfl⟩;rw[hF]at h6 bk hc;rw[hc,zzah,hn]at oU;obtain⟨rfl,rfl,rfl⟩|⟨k,rfl,hk⟩:=bk
   ·have iL:IntKind.i64.wrap 1=1:=by decide
    simp[h27,h6,aa,ah,ai,Cy,hw,iL,DJ];refine⟨⟨?_,zE⟩,aR,⟨1,.own ls.length 1,_,bx,zd,zE,by rw[hc];simp,.inr ⟨ls.length,rfl,by rw[hc];simp⟩,rfl⟩,zE⟩
    ·first|(rintro a _;rfl)|(rintro row a _ rfl;rfl)
   have sM:=(zza.1 hk).1;simp[h27,h6,aa,ah,ai,Cy,hw,hk,DJ];refine⟨⟨?_,zE⟩,aR,⟨i+1,.own k 1,_,bx,zd,zE,by rw[hc];simp,.inr ⟨k,rfl,by rw[hc];simp[sM]⟩,rfl⟩,zE⟩
   ·rintro row (⟨a,_,rfl⟩|⟨a,_,rfl⟩)<;>rfl
  have bU:¬(i:Int)<(LL.length:Int):=zE
  obtain rfl:i=LL.length:=zE
  rw[iJ]at h6 bk;obtain⟨_,_,h0⟩|⟨k,rfl,hk⟩:=bk
  ·omega
  simp[h27,h6,bU,zzbn.2 bu,Cy,ahn]
def YU(A B:List Sp)(h:A.length+B.length<=100000000):Pure Tryz.prog aD 225 [.sl .ro (A.map Qe),.sl .ro (B.map Qe)] (.sl .ro ((Xj (A++B)).map Qe)):=by
 have asu:=Ro [(.ro,A),(.ro,B)] zd zd (by simp;omega);have YV:=Uo (A++B) (by simp;omega);refine Qn adC (fun _ f _=>if f=246 then .sl .ro ((A++B).map Qe)else .sl .ro ((Xj (A++B)).map Qe)) zd ?_;simp at asu YV;simp[aiq,air];exact⟨asu,YV⟩
def afb(s:Sp)(h1:0<=s.1)(h2:s.1<=s.2)(h3:s.2<=9223372036854775807):Pure Tryz.prog aD 224 [.agg (Qe s)] (.int .u64 (s.2-s.1)):=by
 have w1:IntKind.u64.wrap s.1=s.1:=by simp[IntKind.wrap,IntKind.bits,IntKind.signed];omega
 have w2:IntKind.u64.wrap s.2=s.2:=by simp[IntKind.wrap,IntKind.bits,IntKind.signed];omega
 have w3:IntKind.u64.wrap (s.2-s.1)=s.2-s.1:=by simp[IntKind.wrap,IntKind.bits,IntKind.signed];omega
 refine Qn adB (fun _ _ _=>.junk) zd ?_;simp[aio,aip,Qe,w1,w2,w3]
def Wt:Option Int->AV
 |some s=>.aQ [I s,.bool true]
 |none=>.aQ [I 0,.bool false]
def GX(L:List Sp):X1:=fun _ f l=>if f=222 then .sl .ro (L.map Qe)else if f=223 then(match l with|[.agg [.int _ a,.int _ b]]=>.bool (decide (b<=a))|_=>.junk)else
 (match l with|[.agg [.int _ a,.int _ b]]=>.int .u64 (b-a)|_=>.junk)
def asv(a n:Int)(L:List Sp)(T:Option Int)(f:Nat->AV)(m:AM):Prop:=∃(i:Nat)(bx:X2),f 17=I i/\i<=L.length/\GU a n (L.drop i)=T/\m=⟨bx,[],fun _=>.gone,0⟩
def GY(l:List Sp)(a n:Int)(hl:l.length<=100000000)(ha:0<=a)(hn:1<=n/\n<=1000000)(hb:∀s∈l,s.1<=1000000000000/\s.2<=1000000000000):Pure Tryz.prog aD 188 [.sl .ro (l.map Qe),I a,I n] (Wt (lQ l a n)):=by
 have YV:=Uo l hl;obtain⟨T,hT⟩:∃T,lQ l a n=T:=⟨_,rfl⟩;rw[hT];rw[lQ,if_neg zE]at hT;have hbL:=YW (P:=fun x=>x<=1000000000000) (l:=l) hb;have hLl:=Yt l;generalize Xj l=L at YV hT hbL hLl;have eO:¬n<=0:=zE
 refine Qn ade (GX L) zd ?_;simp[T8,GX,eO];refine⟨YV,?_⟩;refine Qj vG (asv a n L T) (fun f _=>L.length-(numOf (f 17)).toNat) ?_ ?_
 ·exact⟨0,[],zd,zE,Pi hT,rfl⟩
 rintro f m ⟨i,bx,h17,hi,hx,rfl⟩;rcases zzab i L.length with aa|bu
 ·obtain⟨s,hs⟩:=aY aa;have ai:Qg (L.map Qe) i=Qe s:=Zv hs;have ah:(i:Int)<(L.length:Int):=zE
  have hw:=bR i zE;rw[Zb hs,GU]at hx;obtain⟨q,hq⟩:∃q,max s.1 a=q:=⟨_,rfl⟩;have hqm:(if s.1<a then a else s.1)=q:=zE
  have YX:Abs.Pure Tryz.prog aD 223 [.agg (Qe (q,s.2))] (.bool (decide (s.2<=q))):=nO (q,s.2);rw[hq]at hx;have hu:IntKind.u64.wrap n=n:=by simp[IntKind.wrap,IntKind.bits,IntKind.signed];omega
  by_cases c1:s.2<=q
  ·rw[if_neg zE]at hx;rw[decide_eq_true c1]at YX;simp[h17,aa,ah,ai,Qe,hqm,c1,vG,hw,GX];refine⟨by simpa[Qe]using YX,aR,⟨i+1,_,zd,zE,hx,rfl⟩,zE⟩
  have asw:=afb (q,s.2) (by simp only;omega) (by simp only;omega) (by
   have:=hbL s (zzac hs);simp only;omega)
  rw[decide_eq_false c1]at YX;by_cases c2:n<=s.2-q
  ·rw[if_pos zE]at hx;subst hx;simp[h17,aa,ah,ai,Qe,hqm,c1,c2,hu,vG,T9,GX,Wt];exact⟨by simpa[Qe]using YX,by simpa[Qe]using asw⟩
  rw[if_neg zE]at hx;simp[h17,aa,ah,ai,Qe,hqm,c1,c2,hu,vG,hw,GX];refine⟨by simpa[Qe]using YX,by simpa[Qe]using asw,aR,⟨i+1,_,zd,zE,hx,rfl⟩,zE⟩
 have bU:¬(i:Int)<(L.length:Int):=zE
 rw[zzam bu]at hx;have hx:none=T:=hx;subst hx;simp[h17,bU,zzbn.2 bu,vG,T9,Wt]
def pf(k:Int×Int):List ((Int×Int)×List Sp)->Option (List Sp)
 |[]=>none
 |x::r=>if x.1=k then some x.2 else pf k r
def GZ(k:Int×Int):∀(l:List ((Int×Int)×List Sp))(i:Nat),(pf k l=none/\Xi [k.1,k.2] (S6 l) i=none)\/∃v n,pf k l=some v/\Xi [k.1,k.2] (S6 l) i=some (n,.sl .ro (v.map Qe))
 |[],i=>.inl ⟨rfl,rfl⟩
 |x::r,i=>by
  by_cases h:x.1=k
  ·exact .inr ⟨x.2,i,by rw[pf,if_pos h],by simp[S6,Xi,h]⟩
  have hk:¬([k.1,k.2]:P2)=[x.1.1,x.1.2]:=by
   intro e;simp only[List.cons.injEq,and_true]at e;exact h (Prod.ext e.1.symm e.2.symm)
  rcases GZ k r (i+1)with⟨h1,h2⟩|⟨v,n,h1,h2⟩
  ·refine .inl ⟨by rw[pf,if_neg h];exact h1,?_⟩;simp only[S6,zzay,Xi];rw[if_neg hk];exact h2
  refine .inr ⟨v,n,by rw[pf,if_neg h];exact h1,?_⟩;simp only[S6,zzay,Xi];rw[if_neg hk];exact h2
def YY(k q:Int×Int)(v:List Sp):∀(l:List ((Int×Int)×List Sp)),pf q (l++[(k,v)])=match pf q l with|some u=>some u|none=>if k=q then some v else none
 |[]=>rfl
 |x::r=>by
  rw[zzae,pf,YY k q v r,pf];by_cases h:x.1=q<;>simp[h]
def Lw(b:Bd):Prop:=∀k v,pf k b.pm=some v->v=Xz b.p k.1 k.2
def pmN(b:Bd)(it n:Int):List ((Int×Int)×List Sp):=match pf (it,n) b.pm with
 |some _=>b.pm
 |none=>b.pm++[((it,n),Xz b.p it n)]
def amr{b:Bd}(h:Lw b)(it n:Int):Lw {b with pm:=pmN b it n}:=fun k v hk=>by
 simp only[pmN]at hk;cases hp:pf (it,n) b.pm with
 |some u=>rw[hp]at hk;exact h k v hk
 |none=>
  rw[hp]at hk;simp only[YY]at hk;cases hq:pf k b.pm with
  |some u=>rw[hq]at hk;cases hk;exact h k _ hq
  |none=>
   rw[hq]at hk;simp only at hk;split at hk
   ·rename_i e;cases hk;rw[<- e]
   cases hk
def Lx{pre post:X2}{b:Bd}(pm:List ((Int×Int)×List Sp))(ls:P1)(id:Nat)(cells:PQ)(h:(aP pre {b with pm:=pm} post ls).boxes[id]?=some cells):(aP pre b post ls).boxes[id]?=some cells\/YZ cells:=by
 simp only[aP]at h |-
 rcases zzab id pre.length with aa|bu
 ·rw[zzak aa]at h |-
  exact .inl h
 rw[zzat bu]at h |-
 match hk:id-pre.length,h with
 |0,h=>exact .inl h
 |1,h=>exact .inl h
 |2,h=>exact .inl h
 |3,h=>exact .inl h
 |4,h=>exact .inl h
 |5,h=>exact .inl h
 |6,h=>exact .inl h
 |7,h=>exact .inl h
 |8,h=>
  refine .inr (.inr ⟨2,S6 pm,?_,?_⟩)
  ·simp[bh]at h;exact h.symm
  intro e he;obtain⟨x,_,rfl⟩:=zzbh.1 he;exact Idle.ro _
 |9,h=>exact .inl h
 |k+10,h=>exact .inl h
def FrK(pre:X2)(b:Bd)(pm:List ((Int×Int)×List Sp))(post:X2)(ls:P1)(K:UV)(r:AV)(m:AM):Prop:=∃ex,m=aP pre {b with pm:=pm} (post++ex) ls/\Idle r/\K r (aP pre {b with pm:=pm} post ls)
def frK{pre:X2}{b:Bd}{pm:List ((Int×Int)×List Sp)}{post:X2}{ls:P1}{K:UV}{r:AV}{m:AM}(ex:X2)(h:m=aP pre {b with pm:=pm} (post++ex) ls)(hi:Idle r)(hK:K r (aP pre {b with pm:=pm} post ls)):FrK pre b pm post ls K r m:=⟨ex,h,hi,hK⟩
def Rp{f:FuncId}{xs:PQ}{pre post:X2}{b:Bd}{pm:List ((Int×Int)×List Sp)}{ls:P1}{Y:YT}{K:UV}(h:aA Tryz.prog aD Y f xs (aP pre b post ls) (FrK pre b pm post ls K)):aA Tryz.prog aD Y f xs (aP pre b post ls) K:=by
 refine aA.forget (aA.mono h ?_);rintro r m' ⟨ex,rfl,h1,h2⟩;refine⟨aP pre {b with pm:=pm} post ls,ex,?_,?_,rfl,fun id cells hc=>Lx pm ls id cells hc,h1,h2⟩
 ·simp[aP,bh]
 simp[aP,bh]
def ajl(p:Pl)(it:Int):X1:=fun d f l=>if f=194 then(match l with|[_,_,_,.agg [.int _ a,.int _ c]]=>.sl .ro ((Vo p it 0 (a,c)).map Qe)|_=>.junk)else
 (match l with|[.sl _ a,.sl _ c]=>.sl .ro ((Xj (a.map rF++c.map rF)).map Qe)|_=>.junk)
def pZ(l:List Sp):(l.map Qe).map rF=l:=by
 rw[zzdc]
 conv=>rhs;rw[<- List.map_id l]
 exact zzde fun x _=>rfl
def Rq(pre post:X2)(ls:P1)(b:Bd)(it n:Int)(hn:0<=n/\n<=1000)(hc:b.p.cls.length<=1000000)(fP:b.p.sh.length<=1000000000)(cN:b.p.aO.length<=1000000000)(hpm:Lw b)(Y:YT)(K:UV)
  (hK:K (.sl .ro ((Xz b.p it n).map Qe)) (aP pre {b with pm:=pmN b it n} post ls)):
  aA Tryz.prog aD Y 189 [.ptr (pre.length+9) 0,.agg [I it,I n]] (aP pre b post ls) K:=by
 refine Rp (pm:=pmN b it n) ?_;have w1:IntKind.i64.wrap (n*1000000)=n*1000000:=by rw[Qi]<;>omega
 have w2:IntKind.i64.wrap (n+1)=n+1:=by rw[Qi]<;>omega
 have w3:IntKind.i64.wrap ((n+1)*1000000)=(n+1)*1000000:=by rw[Qi]<;>omega
 have w4:IntKind.i64.wrap (n+2)=n+2:=by rw[Qi]<;>omega
 have w5:IntKind.i64.wrap ((n+2)*1000000)=(n+2)*1000000:=by rw[Qi]<;>omega
 have k1:=nM b.p it 0 (n*1000000,(n+1)*1000000) hc fP cN (by simp only;omega) (by simp only;omega);have k2:=nM b.p it 0 ((n+1)*1000000,(n+2)*1000000) hc fP cN (by simp only;omega) (by simp only;omega);have l1:=Qcu b.p it 0 (n*1000000,(n+1)*1000000);have l2:=Qcu b.p it 0 ((n+1)*1000000,(n+2)*1000000);have k3:=YU (Vo b.p it 0 (n*1000000,(n+1)*1000000)) (Vo b.p it 0 ((n+1)*1000000,(n+2)*1000000)) zE;have zQ:Xz b.p it n=Xj (Vo b.p it 0 (n*1000000,(n+1)*1000000)++Vo b.p it 0 ((n+1)*1000000,(n+2)*1000000)):=rfl;rw[<- zQ]at k3;obtain⟨R,hR⟩:∃R,Xz b.p it n=R:=⟨_,rfl⟩;refine Xh adf (ajl b.p it) zd ?_;rcases GZ (it,n) b.pm 0 with⟨h1,h2⟩|⟨v,j,h1,h2⟩
 ·have hp:pmN b it n=b.pm++[((it,n),Xz b.p it n)]:=by simp only[pmN,h1]
  have kz:S6 (pmN b it n)=S6 b.pm++[([it,n],.sl .ro ((Xz b.p it n).map Qe))]:=by rw[hp];simp[S6]
  simp[Up,UA,aP,bh,Qp,Qa,h2,w1,w2,w3,w4,w5,ajl,pZ,<- zQ];refine⟨by simpa[Qa]using k1,by simpa[Qa]using k2,k3,?_⟩;rw[<- kz];exact frK [[I it,I n]] rfl (Idle.ro _) hK
 have hv:=hpm _ _ h1;have hp:pmN b it n=b.pm:=by simp only[pmN,h1]
 rw[hp]at hK |-
 rw[<- hv]at hK;simp[Up,UA,aP,bh,Qp,Qa,h2];exact frK [[I it,I n]] rfl (Idle.ro _) hK
def LA{p:Pl}{it n:Int}:∀s∈Xz p it n,s.1<=1000000000000/\s.2<=1000000000000:=fun s hs=>by
 have hv:=(Zy (Vo p it 0 (n*1000000,(n+1)*1000000)++Vo p it 0 ((n+1)*1000000,(n+2)*1000000))).1.1 s hs;have h1:Xr (Xz p it n) s.1:=⟨s,hs,zE,zE⟩;have h2:Xr (Xz p it n) (s.2-1):=⟨s,hs,zE,zE⟩;rw[Qbz]at h1 h2;obtain⟨_,_,_,_,_,PK,_⟩:=h1;obtain⟨_,_,_,_,_,hx2,_⟩:=h2;omega
def G1(p:Pl)(it n:Int):(Xz p it n).length<=2000000:=by
 have h:=Yt (Vo p it 0 (n*1000000,(n+1)*1000000)++Vo p it 0 ((n+1)*1000000,(n+2)*1000000));have l1:=Qcu p it 0 (n*1000000,(n+1)*1000000);have l2:=Qcu p it 0 ((n+1)*1000000,(n+2)*1000000);rw[zzah]at h;have:(Xz p it n).length<=_:=h;omega
def uU:X1:=fun _ f l=>if f=189 then .gd false .junk else(match l with|[.sl _ a,.int _ x,.int _ n]=>Wt (lQ (a.map rF) x n)|_=>.junk)
def afc(pre:X2)(b:Bd)(post:X2)(ls:P1)(e:En)(last from_:Int)(T:Option Int)(f:Nat->AV)(m:AM):Prop:=∃(n:Int)(pm:List ((Int×Int)×List Sp)),
 f 9=I n/\(0<=n/\n<=9223372036854)/\S5 b.p e last from_ n=T/\Lw {b with pm:=pm}/\m=aP pre {b with pm:=pm} (post++[Qd e]) ls
def afd{from_:Int}(h0:0<=from_)(h1:from_<=9223372036854775807):0<=from_.tdiv 1000000/\from_.tdiv 1000000<=9223372036854:=by
 rw[zzcj h0];omega
def OB(pre post:X2)(ls:P1)(b:Bd)(e:En)(from_:Int)(hc:b.p.cls.length<=1000000)(fP:b.p.sh.length<=1000000000)(cN:b.p.aO.length<=1000000000)(ei:b.p.ln<=9223372036854775807)(zQ:from_<=9223372036854775807)
  (hpm:Lw b)(Y:YT)(K:UV)(hK:∀pm ex,Lw {b with pm:=pm}->K (Wt (Yc b.p e from_)) (aP pre {b with pm:=pm} (post++ex) ls)):
  aA Tryz.prog aD Y 141 [.ptr (pre.length+9) 0,.agg (Qd e),I from_] (aP pre b post ls) K:=by
 refine Xh acC uU zd ?_
 have no:Yc b.p e from_=none->K (.aQ [I 0,.bool false]) (aP pre b (post++[Qd e]) ls):=fun h=>by
  have:=hK b.pm [Qd e] hpm;rw[h]at this;exact this
 by_cases c1:e.fr<1
 ·simp[AE,vu,aP,bh,Qp,Qa,Qd,c1];exact no (by rw[Yc,if_pos (.inl c1)])
 by_cases c2:1000000<e.fr
 ·simp[AE,vu,aP,bh,Qp,Qa,Qd,c1,c2];exact no (by rw[Yc,if_pos (.inr (.inl c2))])
 by_cases c3:b.p.ln<e.fr
 ·simp[AE,vu,aP,bh,Qp,Qa,Qd,c1,c2,c3];exact no (by rw[Yc,if_pos (.inr (.inr c3))])
 have hS:Yc b.p e from_=S5 b.p e (mC b.p e) (max from_ 0) ((max from_ 0).tdiv 1000000):=by rw[Yc,if_neg zE]
 rw[hS]at hK;clear no;obtain⟨fm,hfm⟩:∃fm,max from_ 0=fm:=⟨_,rfl⟩;have axK:(if from_<0 then 0 else from_)=fm:=zE
 have hf0:0<=fm/\fm<=9223372036854775807:=zE
 obtain⟨d1,d2⟩:=afd hf0.1 hf0.2;rw[hfm]at hK;have hwq:IntKind.i64.wrap (fm.tdiv 1000000)=fm.tdiv 1000000:=by rw[Qi]<;>omega
 have hwl:IntKind.i64.wrap (b.p.ln-e.fr)=b.p.ln-e.fr:=by rw[Qi]<;>omega
 obtain⟨q,hq⟩:∃q,fm.tdiv 1000000=q:=⟨_,rfl⟩;rw[hq]at hwq d1 d2 hK;obtain⟨la,hla⟩:∃la,mC b.p e=la:=⟨_,rfl⟩;have hlb:la<=100000000:=by rw[<- hla,mC];omega
 rw[hla]at hK;obtain⟨T,hT⟩:∃T,S5 b.p e la fm q=T:=⟨_,rfl⟩;rw[hT]at hK;simp[AE,aP,bh,Qp,Qa,Qd,c1,c2,c3,hwl,axK,hq,hwq]
 have eE:U2 false (U2 false e.la (b.p.ln-e.fr)) 100000000=la:=by
  rw[<- hla,mC];simp only[U2];simp;omega
 rw[eE];refine Qj iP (afc pre b post ls e la fm T) (fun f _=>(la-numOf (f 9)*1000000+1000000).toNat) ?_ ?_
 ·exact⟨q,b.pm,zd,⟨d1,d2⟩,hT,hpm,by simp[aP,bh,Qp,Qa,Qd]⟩
 rintro f m ⟨n,pm,h9,hn,cc,hpm',rfl⟩;have IX:IntKind.i64.wrap (n*1000000)=n*1000000:=by rw[Qi]<;>omega
 have hwn:IntKind.i64.wrap (n+1)=n+1:=by rw[Qi]<;>omega
 rw[S5]at cc;by_cases c4:n*1000000<=la
 ·rw[if_pos c4]at cc;have Rr:=GY (Xz b.p e.it n) fm e.fr (by have:=G1 b.p e.it n;omega) hf0.1 zE LA;obtain⟨R,hR⟩:∃R,Xz b.p e.it n=R:=⟨_,rfl⟩;have kf:=fun K'=>Rq pre (post++[Qd e]) ls {b with pm:=pm} e.it n zE hc fP cN hpm' Y K';have hpn:=amr hpm' e.it n;obtain⟨OC,axL⟩:∃OC,pmN {b with pm:=pm} e.it n=OC:=⟨_,rfl⟩;rw[axL]at kf hpn;simp only at kf;rw[hR]at cc Rr kf;cases hes:lQ R fm e.fr with
  |none=>
   rw[hes]at cc Rr;simp[h9,iP,IX,c4,aP,bh,Qp,Qa,Qd];refine Qaw [(.sl .ro (R.map Qe),aP pre {b with pm:=OC} (post++[Qd e]) ls)] ?_;simp[h9,iP,IX,c4,aP,bh,Qp,Qa,Qd,uU,pZ,hes,Wt,hwn];refine⟨kf _ ⟨rfl,rfl⟩,Rr,aR,⟨n+1,OC,zd,zE,cc,hpn,by simp[aP,bh,Qp,Qa,Qd]⟩,zE⟩
  |some s=>
   rw[hes]at cc Rr;simp only at cc;by_cases c5:la<s
   ·rw[if_pos c5]at cc;subst cc;have:=hK OC [Qd e] hpn;simp[h9,iP,IX,c4,aP,bh,Qp,Qa,Qd];refine Qaw [(.sl .ro (R.map Qe),aP pre {b with pm:=OC} (post++[Qd e]) ls)] ?_;simp[h9,iP,IX,c4,aP,bh,Qp,Qa,Qd,uU,pZ,hes,Wt,c5,vu];refine⟨kf _ ⟨rfl,rfl⟩,Rr,?_⟩;simpa[aP,bh,Qp,Qa,Qd,Wt]using this
   rw[if_neg c5]at cc;subst cc;have:=hK OC [Qd e] hpn;simp[h9,iP,IX,c4,aP,bh,Qp,Qa,Qd];refine Qaw [(.sl .ro (R.map Qe),aP pre {b with pm:=OC} (post++[Qd e]) ls)] ?_;simp[h9,iP,IX,c4,aP,bh,Qp,Qa,Qd,uU,pZ,hes,Wt,c5,vu];refine⟨kf _ ⟨rfl,rfl⟩,Rr,?_⟩;simpa[aP,bh,Qp,Qa,Qd,Wt]using this
 rw[if_neg c4]at cc;subst cc;have:=hK pm [Qd e] hpm';simp[h9,iP,IX,c4,vu];simpa[aP,bh,Qp,Qa,Qd,Wt]using this
def p5(n:Int)(us:List (Int×Int)):Prop:=∀k v,af k us=some v->0<=v/\v<=n
def p5.note{n:Int}{us:List (Int×Int)}(h:p5 n us)(hn:0<=n)(it:Int):p5 (n+1) (Vs us it):=fun k v hk=>by
 rw[Vs,Uy]at hk;split at hk
 ·cases hk;cases ha:af it us with
  |none=>simp;omega
  |some u=>have:=h it u ha;simp;omega
 have:=h k v hk;omega
def Qcy(p:Pl)(it:Int):(∃n y,Xg it p.aO=some y/\Xi [it] (bF rM (Af p)) 0=some (n,rM y))\/(Xg it p.aO=none/\Xi [it] (bF rM (Af p)) 0=none):=by
 rcases Xu rM it (Af p) 0 with⟨h1,h2,_,_⟩|⟨u,n,h1,h2,_⟩
 ·rw[uR]at h1;exact .inr ⟨h1,h2⟩
 rw[uR]at h1;exact .inl ⟨_,u,h1,h2⟩
def xV(us:List (Int×Int))(it:Int):(Xi [it] (bF iA us) 0=none/\bF iA us++[([it],.int .i64 1)]=bF iA (Vs us it))\/∃u n,af it us=some u/\Xi [it] (bF iA us) 0=some (n,.int .i64 u)/\(bF iA us).set n ([it],.int .i64 (u+1))=bF iA (Vs us it):=by
 rcases Xu iA it us 0 with⟨h1,h2,_,h4⟩|⟨u,n,h1,h2,_,_,_,h4⟩
 ·exact .inl ⟨h2,by rw[Vs,h1];exact h4 1⟩
 exact .inr ⟨u,n,h1,by rw[h2,zzbm],by rw[Vs,h1];exact h4 (u+1)⟩
def Qds(p:Pl)(en:List (Int×Int))(it e:Int){y:It}(hy:Xg it p.aO=some y):(Xi [y.sp] (bF iA en) 0=none/\bF iA en++[([y.sp],.int .i64 (if 0<e then e else 0))]=bF iA (Zn p en it e))\/∃u n,af y.sp en=some u/\Xi [y.sp] (bF iA en) 0=some (n,.int .i64 u)/\(bF iA en).set n ([y.sp],.int .i64 (if u<e then e else u))=bF iA (Zn p en it e):=by
 rcases Xu iA y.sp en 0 with⟨h1,h2,_,h4⟩|⟨u,n,h1,h2,_,_,_,h4⟩
 ·refine .inl ⟨h2,?_⟩;have:(if 0<e then e else 0)=max 0 e:=zE
  simp only[Zn,hy,h1,this];exact h4 _
 refine .inr ⟨u,n,h1,by rw[h2,zzbm],?_⟩;have:(if u<e then e else u)=max u e:=zE
 simp only[Zn,hy,h1,this];exact h4 _
def Y8(pre p0 bx:X2)(ls:P1)(b:Bd)(us en:List (Int×Int))(it e:Int)(hu:p5 1000000000 us)(Y:YT)(K:UV)(hK:∀ex,K (.aQ []) (aP pre b (p0++([.aL 0 (bF iA (Vs us it))]::[.aL 0 (bF iA (Zn b.p en it e))]::(bx++ex))) ls)):
  aA Tryz.prog aD Y 137 [.ptr (pre.length+9) 0,.mp (pre.length+(p0.length+10)),.mp (pre.length+(p0.length+11)),I it,I e] (aP pre b (p0++([.aL 0 (bF iA us)]::[.aL 0 (bF iA en)]::bx)) ls) K:=by
 refine Xh Na (fun _ _ _=>.junk) zd ?_;have w1:IntKind.i64.wrap 1=1:=by decide
 rcases xV us it with⟨u2,u4⟩|⟨u,n,u1,u2,u4⟩
 ·rcases Qcy b.p it with⟨ni,y,hy,hi⟩|⟨hy,hi⟩
  ·rcases Qds b.p en it e hy with⟨e2,e4⟩|⟨v,nv,e1,e2,e4⟩
   ·simp[fR,fS,aP,bh,Qp,Qa,hi,rM,Qm,u2,e2,w1];rw[u4,e4];simpa[aP,bh,Qp,Qa,Qm]using hK [Qm y]
   simp[fR,fS,aP,bh,Qp,Qa,hi,rM,Qm,u2,e2,w1];rw[u4,e4];simpa[aP,bh,Qp,Qa,Qm]using hK [Qm y]
  have he:Zn b.p en it e=en:=by simp only[Zn,hy]
  rw[he]at hK;simp[fR,fS,aP,bh,Qp,Qa,hi,u2,w1];rw[u4];simpa[aP,bh,Qp,Qa]using hK [[I 0,I 0,I 0,I 0,I 0]]
 have hb:=hu it u u1;have wu:IntKind.i64.wrap (u+1)=u+1:=by rw[Qi]<;>omega
 rcases Qcy b.p it with⟨ni,y,hy,hi⟩|⟨hy,hi⟩
 ·rcases Qds b.p en it e hy with⟨e2,e4⟩|⟨v,nv,e1,e2,e4⟩
  ·simp[fR,fS,aP,bh,Qp,Qa,hi,rM,Qm,u2,e2,wu];rw[u4,e4];simpa[aP,bh,Qp,Qa,Qm]using hK [Qm y]
  simp[fR,fS,aP,bh,Qp,Qa,hi,rM,Qm,u2,e2,wu];rw[u4,e4];simpa[aP,bh,Qp,Qa,Qm]using hK [Qm y]
 have he:Zn b.p en it e=en:=by simp only[Zn,hy]
 rw[he]at hK;simp[fR,fS,aP,bh,Qp,Qa,hi,u2,wu];rw[u4];simpa[aP,bh,Qp,Qa]using hK [[I 0,I 0,I 0,I 0,I 0]]
def afe(pre post:X2)(ls:P1)(b:Bd)(us en:List (Int×Int))(it e:Int)(hu:p5 1000000000 us)(Y:YT)(K:UV)(hK:∀ex,K (.aQ []) (aP pre {b with us:=Vs us it,en:=Zn b.p en it e} (post++ex) ls)):
  aA Tryz.prog aD Y 137 [.ptr (pre.length+9) 0,.mp (pre.length+4),.mp (pre.length+5),I it,I e] (aP pre {b with us:=us,en:=en} post ls) K:=by
 refine Xh Na (fun _ _ _=>.junk) zd ?_;have w1:IntKind.i64.wrap 1=1:=by decide
 rcases xV us it with⟨u2,u4⟩|⟨u,n,u1,u2,u4⟩
 ·rcases Qcy b.p it with⟨ni,y,hy,hi⟩|⟨hy,hi⟩
  ·rcases Qds b.p en it e hy with⟨e2,e4⟩|⟨v,nv,e1,e2,e4⟩
   ·simp[fR,fS,aP,bh,Qp,Qa,hi,rM,Qm,u2,e2,w1];rw[u4,e4];simpa[aP,bh,Qp,Qa,Qm]using hK [Qm y]
   simp[fR,fS,aP,bh,Qp,Qa,hi,rM,Qm,u2,e2,w1];rw[u4,e4];simpa[aP,bh,Qp,Qa,Qm]using hK [Qm y]
  have he:Zn b.p en it e=en:=by simp only[Zn,hy]
  rw[he]at hK;simp[fR,fS,aP,bh,Qp,Qa,hi,u2,w1];rw[u4];simpa[aP,bh,Qp,Qa]using hK [[I 0,I 0,I 0,I 0,I 0]]
 have hb:=hu it u u1;have wu:IntKind.i64.wrap (u+1)=u+1:=by rw[Qi]<;>omega
 rcases Qcy b.p it with⟨ni,y,hy,hi⟩|⟨hy,hi⟩
 ·rcases Qds b.p en it e hy with⟨e2,e4⟩|⟨v,nv,e1,e2,e4⟩
  ·simp[fR,fS,aP,bh,Qp,Qa,hi,rM,Qm,u2,e2,wu];rw[u4,e4];simpa[aP,bh,Qp,Qa,Qm]using hK [Qm y]
  simp[fR,fS,aP,bh,Qp,Qa,hi,rM,Qm,u2,e2,wu];rw[u4,e4];simpa[aP,bh,Qp,Qa,Qm]using hK [Qm y]
 have he:Zn b.p en it e=en:=by simp only[Zn,hy]
 rw[he]at hK;simp[fR,fS,aP,bh,Qp,Qa,hi,u2,wu];rw[u4];simpa[aP,bh,Qp,Qa]using hK [[I 0,I 0,I 0,I 0,I 0]]
def axM(of:Int)(sh:List Sp)(x fr to:Int):Bool:=
 if Yb of sh=false\/x<0\/10000000000<x\/fr<0\/86400<=fr\/to<0\/86400<=to then false else
 if fr<to then decide (fr<=(x+xQ of sh x)%86400)&&decide ((x+xQ of sh x)%86400<to)else decide (fr<=(x+xQ of sh x)%86400)||decide ((x+xQ of sh x)%86400<to)
def axN(s r:Int):Bool:=if 0<=r/\r<8 then decide ((s/2 ^ r.toNat)%2=1)else false
def asx(c:Cl)(k item region:Int):Bool:=decide (c.ki=k)&&(Xv c&&(decide (c.it=item)&&axN c.re region))
def hasB(l:List Sp)(x:Int):Bool:=l.any fun s=>decide (s.1<=x)&&decide (x<s.2)
def ajm(a:Int):PQ:=[I a]
def ams:P2->Int->P2
 |[],x=>[x]
 |a::r,x=>if a<x then a::ams r x else if a=x then a::r else x::a::r
def amt(item region:Int)(c:Cl):Bool:=asx c 1 item region||asx c 2 item region
def edS(C:List Cl):P2:=C.foldl (fun e c=>ams (ams e c.fr) c.to) []
def amu(C:List Cl)(Ed:P2):Nat->List Sp
 |0=>[]
 |j+1=>if grX C (Ed.getD j 0)=true then nD (amu C Ed j) (Ed.getD j 0) (Ed.getD (j+1) 0)else amu C Ed j
def axO(cs:List Cl)(item region:Int):List Sp:=amu (cs.filter (amt item region)) (edS (cs.filter (amt item region))) ((edS (cs.filter (amt item region))).length-1)
def asy:PQ->Int
 |[.int _ a]=>a
 |_=>0
@[simp] def aff(l:P2):(l.map ajm).map asy=l:=by
 induction l with
 |nil=>rfl
 |cons a l ih=>simp only[zzay,ih];rfl
@[simp] def asz(l:P2):l.map (asy ∘ ajm)=l:=by rw[<- zzdc];exact aff l
def asA(p:Pl)(item region f:Int):Bool:=match Xg item p.aO with
 |none=>false
 |some it=>if region<0\/8<=region\/f<0\/100000000<f then false else if it.ki=5 then true else if Jz p=false then false else
  hasB (axO p.cls item region) (p.ep+Yk p.nu p.de f)&&(uI p.cls it.ra).all fun w=>axM p.of p.sh (p.ep+Yk p.nu p.de f) w.1 w.2
def azi(p:Pl)(last f:Int):Int:=if Jz p=true then min last (wX p.nu p.de (Yk p.nu p.de f+1))else last
def azj(p:Pl)(item region first f:Int)(L:List Sp):Prop:=VS L/\(∀s∈L,s.2<=f)/\(∀x,Xr L x<->first<=x/\x<f/\asA p item region x=true)/\(L.length:Int)<=f-first
