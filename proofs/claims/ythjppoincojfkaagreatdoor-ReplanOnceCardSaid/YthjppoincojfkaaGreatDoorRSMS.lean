import Derived.Test.YthjppoincojfkaaGreatDoorRSMM
import Derived.Test.YthjppoincojfkaaGreatDoorRSMQ
set_option linter.all false
set_option maxRecDepth 100000
set_option maxHeartbeats 64000000
namespace Go.Proofs.YthjppoincojfkaaGreatDoor
open Go Go.Abs
def QZ(x:Int)(c:Cl):Bool:=decide (c.fr<=x/\x<c.to)
def grX(C:List Cl)(x:Int):Bool:=match C.reverse.find? (QZ x)with
 |some c=>decide (c.ki=1)
 |none=>false
def find_congr{α:Type}{p q:α->Bool}:∀{l:List α},(∀a∈l,p a=q a)->l.find? p=l.find? q
 |[],_=>rfl
 |a::l,h=>by
  have h1:=h a zd;have ih:=find_congr (l:=l) fun b hb=>h b (by simp[hb]);rw[zzfd,zzfd,h1,ih]
def Zv{x:Int}:∀{l:Pi}{j:Nat}{v:Int},l.Pairwise (·<·)->l[j]?=some v->(j<qV l x<->v<x)
 |[],j,v,_,h=>by simp at h
 |a::r,j,v,hp,h=>by
  obtain⟨h1,h2⟩:=zzcd.1 hp
  have e:qV (a::r) x=qV r x+if a<x then 1 else 0:=by
   unfold qV;rw[zzcx];by_cases ha:a<x<;>simp[ha]
  have hz:¬a<x->qV r x=0:=by
   intro ha;unfold qV;rw[zzbx,zzfj];intro y hy;have:=h1 y hy;simp;omega
  rw[e];cases j with
  |zero=>
   simp at h;subst h;by_cases ha:a<x
   ·simp[ha]
   simp[ha,hz ha]
  |succ j=>
   simp at h;have hav:=h1 v (zzad h);have ih:=Zv (x:=x) h2 h;by_cases ha:a<x
   ·simp only[ha,if_true];omega
   have:=hz ha;simp only[ha,if_false];omega
def Gf(Bd:Pi)(j:Nat)(c:Cl):Bool:=decide (qV Bd c.fr<=j/\j<qV Bd c.to)
def Gg(Bd:Pi)(j:Nat):∀(R:List Cl)(s:GS),(R.foldl (QE Bd) s)[j]?=(s[j]?).map fun o=>match o with
  |some v=>some v
  |none=>(R.find? (Gf Bd j)).map fun c=>decide (c.ki=1)
 |[],s=>by
  cases h:s[j]? with
  |none=>simp[h]
  |some o=>cases o<;>simp[h]
 |c::R,s=>by
  rw[zzcz,Gg Bd j R,QE,Ux,zzfd];cases h:s[j]? with
  |none=>simp
  |some o=>
   cases o with
   |some v=>simp
   |none=>
    by_cases hc:qV Bd c.fr<=j/\j<qV Bd c.to
    ·simp[Gf,hc]
    simp[Gf,hc]
def Gh(Bd:Pi)(s:GS)(x:Int):∀n,Xr (nD Bd s n) x<->∃j,j<n/\s[j]?=some (some true)/\Bd.getD j 0<=x/\x<Bd.getD (j+1) 0
 |0=>by simp[nD]
 |n+1=>by
  rw[qX,Yq,Gh Bd s x n];unfold C2;constructor
  ·rintro(⟨j,h1,h2⟩|h)
   ·exact⟨j,zE,h2⟩
   split at h
   ·rename_i hs;rw[Xf]at h;obtain h|h:=h
    ·exact⟨n,zE,hs,h⟩
    simp at h
   simp at h
  rintro⟨j,h1,h2,h3⟩;rcases zzaa j n with h|h
  ·exact .inl ⟨j,h,h2,h3⟩
  obtain rfl:j=n:=zE
  right;rw[if_pos h2,Xf];exact .inl h3
def uP{l:Pi}{j:Nat}{v:Int}(h:l[j]?=some v):l.getD j 0=v:=by
 simp[zzax,h]
def ar3(C:List Cl)(hC:∀c∈C,c.fr<c.to)(x:Int):Xr (nD (dK C) (w9 C) (dK C).length) x<->grX C x=true:=by
 have nF:=NU C;have dD:∀c∈C,c.fr∈dK C/\c.to∈dK C:=fun c hc=>⟨(uI _ _).2 (pe hc).1,(uI _ _).2 (pe hc).2⟩
 have FP:∀j,j<(dK C).length->(w9 C)[j]?=some ((C.reverse.find? (Gf (dK C) j)).map fun c=>decide (c.ki=1)):=by
  intro j hj;rw[w9,Gg];have:(List.replicate (dK C).length (none:Option Bool))[j]?=some none:=by simp[hj]
  rw[this];rfl
 have key:∀(j:Nat)(u w:Int),(dK C)[j]?=some u->(dK C)[j+1]?=some w->u<=x->x<w->∀c∈C.reverse,Gf (dK C) j c=QZ x c:=by
  intro j u w hu hw h1 h2 c hc;have uv:=zzfk.1 hc;have a1:=Zv (x:=c.fr) nF hu;have a2:=Zv (x:=c.fr) nF hw;have a3:=Zv (x:=c.to) nF hu;have a4:=Zv (x:=c.to) nF hw;obtain⟨m1,m2⟩:=dD c uv
  have gap:∀y∈dK C,y<=u\/w<=y:=by
   intro y hy;obtain⟨k,hk⟩:=zzfo hy;rcases zzaa j k with h|h
   ·right;have q1:=Zv (x:=w) nF hk;have q2:=Zv (x:=w) nF hw;omega
   left;have q1:=Zv (x:=y) nF hk;have q2:=Zv (x:=y) nF hu;omega
  have g1:=gap _ m1;have g2:=gap _ m2;unfold Gf QZ;apply decide_eq_decide.2;omega
 have YA:∀(j:Nat)(u w:Int),(dK C)[j]?=some u->(dK C)[j+1]?=some w->u<=x->x<w->((w9 C)[j]?=some (some true)<->grX C x=true):=by
  intro j u w hu hw h1 h2;rw[FP j (zza.1 hu).1,find_congr (key j u w hu hw h1 h2),grX];cases C.reverse.find? (QZ x)<;>simp
 rw[Gh];constructor
 ·rintro⟨j,hj,hs,h1,h2⟩;have dM:=hs;rw[FP j hj]at hs;cases hf:C.reverse.find? (Gf (dK C) j)with
  |none=>rw[hf]at hs;simp at hs
  |some c=>
   have hc:=zzfk.1 (zzdt hf);have hi:=zzfp hf;simp only[Gf,decide_eq_true_eq]at hi;have hl:=KE (dD c hc).2;have dX:j+1<(dK C).length:=zE
   obtain⟨u,hu⟩:∃u,(dK C)[j]?=some u:=⟨_,zzaf hj⟩;obtain⟨w,hw⟩:∃w,(dK C)[j+1]?=some w:=⟨_,zzaf dX⟩;rw[uP hu]at h1;rw[uP hw]at h2;exact(YA j u w hu hw h1 h2).1 dM
 intro hg;have hg':=hg;rw[grX]at hg;cases hf:C.reverse.find? (QZ x)with
 |none=>rw[hf]at hg;simp at hg
 |some c=>
  have hc:=zzfk.1 (zzdt hf);have hi:=zzfp hf;simp only[QZ,decide_eq_true_eq]at hi;obtain⟨m1,m2⟩:=dD c hc;obtain⟨k1,dF⟩:=zzfo m1;obtain⟨k2,ef⟩:=zzfo m2;have a1:=(Zv (x:=x+1) nF dF).2 zE;have a2:=Zv (x:=x+1) nF ef;have l2:=(zza.1 ef).1;obtain⟨j,hj⟩:∃j,qV (dK C) (x+1)=j+1:=⟨qV (dK C) (x+1)-1,zE⟩;have dX:j+1<(dK C).length:=zE
  obtain⟨u,hu⟩:∃u,(dK C)[j]?=some u:=⟨_,zzaf zE⟩;obtain⟨w,hw⟩:∃w,(dK C)[j+1]?=some w:=⟨_,zzaf dX⟩;have b1:=Zv (x:=x+1) nF hu;have b2:=Zv (x:=x+1) nF hw;exact⟨j,zE,(YA j u w hu hw zE zE).2 hg',by rw[uP hu];omega,by rw[uP hw];omega⟩
def aer{cs:List Cl}{item region:Int}:∀c∈Wo cs item region,c.fr<c.to:=by
 intro c hc;simp only[Wo,zzca,FL,Zc,Wz,zzac,decide_eq_true_eq]at hc;obtain⟨_,h1,_,_,h2⟩:=hc;rw[if_pos h1]at h2;simp at h2;omega
def KV(cs:List Cl)(item region x:Int):Xr (Qcq cs item region) x<->grX (Wo cs item region) x=true:=by
 rw[Qcq,(Zx _).2,ar3 _ aer]
def NE(L:List Sp):Prop:=∀s∈L,s.1<s.2
def aes{L:List Sp}{f t:Int}(h:NE L):NE (nH L f t)/\∀x,Xr (nH L f t) x<->Xr L x\/(f<=x/\x<t):=by
 unfold nH;split
 ·rename_i IB;cases hl:L.getLast? with
  |none=>
   have:L=[]:=by simpa using hl
   subst this;refine⟨by intro s hs;simp at hs;subst hs;exact IB,fun x=>zd⟩
  |some s=>
   obtain⟨D,rfl⟩:∃D,L=D++[s]:=by
    have aO:L≠[]:=by rintro rfl;simp at hl
    refine⟨L.dropLast,?_⟩;have h1:=zzew aO;rw[List.getLast?_eq_some_getLast aO]at hl;cases hl;exact h1.symm
   have hs:=h s zd;simp only;split
   ·rename_i e;simp only[zzfq];refine⟨?_,fun x=>?_⟩
    ·intro u hu;rw[zzao]at hu;obtain hu|hu:=hu
     ·exact h u (by simp[hu])
     simp at hu;subst hu;simp only;omega
    simp only[Yq,Xf,Yn,or_false,or_assoc];constructor
    ·rintro(h|h)
     ·exact .inl h
     by_cases x<s.2
     ·exact .inr (.inl zE)
     exact .inr (.inr zE)
    rintro(h|h|h)
    ·exact .inl h
    ·exact .inr zE
    exact .inr zE
   refine⟨?_,fun x=>by simp[or_assoc]⟩;intro u hu;rw[zzao]at hu;obtain hu|hu:=hu
   ·exact h u hu
   simp at hu;subst hu;exact IB
 refine⟨h,fun x=>?_⟩;constructor
 ·exact .inl
 rintro(h|h)
 ·exact h
 omega
def inW(W:List Sp)(n:Int):Prop:=∃w∈W,w.1<=n/\n<w.2
def N3(sf st mid:Int):∀{W L:List Sp},NE L->NE (pz sf st mid W L)/\∀x,Xr (pz sf st mid W L) x<->Xr L x\/(sf<=x/\x<st/\inW W (x-mid))
 |[],L,h=>⟨h,fun x=>by simp[pz,inW]⟩
 |w::W,L,h=>by
  obtain⟨a1,a2⟩:=aes (f:=max sf (mid+w.1)) (t:=min st (mid+w.2)) h;obtain⟨b1,b2⟩:=N3 sf st mid (W:=W) a1;refine⟨b1,fun x=>?_⟩;rw[pz,b2,a2];simp only[inW,zzam,exists_eq_or_imp];constructor
  ·rintro((h|h)|⟨h1,h2,h3⟩)
   ·exact .inl h
   ·exact .inr ⟨zE,zE,.inl zE⟩
   exact .inr ⟨h1,h2,.inr h3⟩
  rintro(h|⟨h1,h2,h3|h3⟩)
  ·exact .inl (.inl h)
  ·exact .inl (.inr zE)
  exact .inr ⟨h1,h2,h3⟩
def aet(W:List Sp):Prop:=∀w∈W,0<=w.1/\w.2<=86400
def aeu{W:List Sp}(hW:aet W)(sf st o:Int):∀(n:Nat)(d:Int){L:List Sp},(st-(d*86400-o)).toNat<=n->NE L->NE (nI W sf st (d*86400-o) L)/\
  ∀x,Xr (nI W sf st (d*86400-o) L) x<->Xr L x\/(sf<=x/\x<st/\d<=(x+o)/86400/\inW W ((x+o)%86400)):=by
 intro n;induction n with
 |zero=>
  intro d L h hL;rw[nI,if_neg zE];refine⟨hL,fun x=>⟨.inl,?_⟩⟩;rintro(h|⟨h1,h2,h3,h4⟩)
  ·exact h
  omega
 |succ n ih=>
  intro d L h hL;rw[nI];split
  ·rename_i hm;obtain⟨a1,a2⟩:=N3 sf st (d*86400-o) (W:=W) hL;have e:d*86400-o+86400=(d+1)*86400-o:=zE
   rw[e];obtain⟨b1,b2⟩:=ih (d+1) zE a1;refine⟨b1,fun x=>?_⟩;rw[b2,a2];constructor
   ·rintro((h|⟨h1,h2,w,hw,h3,h4⟩)|⟨h1,h2,h3,h4⟩)
    ·exact .inl h
    ·have:=hW w hw;have hd:(x+o)/86400=d:=zE
     exact .inr ⟨h1,h2,zE,w,hw,zE,zE⟩
    exact .inr ⟨h1,h2,zE,h4⟩
   rintro(h|⟨h1,h2,h3,h4⟩)
   ·exact .inl (.inl h)
   by_cases hd:(x+o)/86400=d
   ·obtain⟨w,hw,h5,h6⟩:=h4;exact .inl (.inr ⟨h1,h2,w,hw,zE,zE⟩)
   exact .inr ⟨h1,h2,zE,h4⟩
  rename_i hm;refine⟨hL,fun x=>⟨.inl,?_⟩⟩;rintro(h|⟨h1,h2,h3,h4⟩)
  ·exact h
  omega
def alP{s:Sp}{W:List Sp}(hW:aet W)(y:Int×Int×Int){L:List Sp}(hL:NE L):NE (stL s W y L)/\
  ∀x,Xr (stL s W y L) x<->Xr L x\/(y.1<=x/\x<y.2.1/\s.1<=x/\x<s.2/\inW W ((x+y.2.2)%86400)):=by
 unfold stL;split
 ·refine⟨hL,fun x=>⟨.inl,?_⟩⟩;rintro(h|⟨h1,h2,h3,h4,_⟩)
  ·exact h
  omega
 obtain⟨a1,a2⟩:=aeu hW (max y.1 s.1) (min y.2.1 s.2) y.2.2 _ ((max y.1 s.1+y.2.2)/86400) (zzab _) hL;refine⟨a1,fun x=>?_⟩;rw[a2];constructor
 ·rintro(h|⟨h1,h2,h3,h4⟩)
  ·exact .inl h
  exact .inr ⟨zE,zE,zE,zE,h4⟩
 rintro(h|⟨h1,h2,h3,h4,h5⟩)
 ·exact .inl h
 exact .inr ⟨zE,zE,zE,h5⟩
def N4{s:Sp}{W:List Sp}(hW:aet W):∀{xs:List (Int×Int×Int)}{L:List Sp},xs.Pairwise (fun a b=>a.1<=b.1)->NE L->∀x,Xr (tV s W xs L) x<->Xr L x\/(s.1<=x/\x<s.2/\∃y∈xs,y.1<=x/\x<y.2.1/\inW W ((x+y.2.2)%86400))
 |[],L,_,hL,x=>by simp[tV]
 |y::r,L,hp,hL,x=>by
  obtain⟨p1,p2⟩:=zzcd.1 hp;rw[tV];split
  ·rename_i hb;constructor
   ·exact .inl
   rintro(h|⟨h1,h2,z,hz,h3,h4,_⟩)
   ·exact h
   rcases zzam.1 hz with rfl|hz
   ·omega
   have:=p1 z hz;omega
  obtain⟨a1,a2⟩:=alP (s:=s) hW y hL;rw[N4 hW p2 a1,a2];simp only[zzam,exists_eq_or_imp];constructor
  ·rintro((h|⟨h1,h2,h3,h4,h5⟩)|⟨h1,h2,h3⟩)
   ·exact .inl h
   ·exact .inr ⟨h3,h4,.inl ⟨h1,h2,h5⟩⟩
   exact .inr ⟨h1,h2,.inr h3⟩
  rintro(h|⟨h1,h2,⟨h3,h4,h5⟩|h3⟩)
  ·exact .inl (.inl h)
  ·exact .inl (.inr ⟨h3,h4,h1,h2,h5⟩)
  exact .inr ⟨h1,h2,h3⟩
def xS(of:Int)(sh:List Sp)(x:Int):Int:=sh.foldl (fun n s=>if s.1<=x then s.2 else n) of
def Gi:∀{sh:List Sp}{last:Int},tW last sh=true->sh.Pairwise (fun a b=>a.1<b.1)/\∀s∈sh,last<s.1/\s.1<=10000000000/\gW s.2=true
 |[],_,_=>⟨.nil,fun _ h=>by cases h⟩
 |a::r,last,h=>by
  rw[tW]at h;split at h
  ·cases h
  rename_i hn;simp only[not_or,zzgh]at hn;obtain⟨h1,h2⟩:=Gi h;refine⟨zzcd.2 ⟨fun b hb=>(h2 b hb).1,h1⟩,?_⟩;intro s hs;rcases zzam.1 hs with rfl|hs
  ·exact⟨zE,zE,hn.2.2⟩
  have:=h2 s hs;exact⟨zE,this.2⟩
def Bl{x:Int}:∀{sh:List Sp}(o:Int),(∀s∈sh,x<s.1)->xS o sh x=o
 |[],o,_=>rfl
 |a::r,o,h=>by
  have:=h a zd;rw[xS,zzcz,if_neg zE];exact Bl o fun s hs=>h s (by simp[hs])
def Gj{P:Int->Prop}:∀{sh:List Sp}{f o:Int},(∀s∈sh,f<=s.1/\s.1<=10000000000)->sh.Pairwise (fun a b=>a.1<b.1)->f<=10000000000->∀x,(∃y∈uJ f o sh,y.1<=x/\x<y.2.1/\P y.2.2)<->f<=x/\x<=10000000000/\P (xS o sh x)
 |[],f,o,_,_,hf,x=>by
  simp only[uJ,zzcg,exists_eq_left,xS,List.foldl_nil];constructor
  ·rintro⟨h1,h2,h3⟩;exact⟨h1,zE,h3⟩
  rintro⟨h1,h2,h3⟩;exact⟨h1,zE,h3⟩
 |s::r,f,o,hb,hp,hf,x=>by
  obtain⟨p1,p2⟩:=zzcd.1 hp;have hs:=hb s zd;have ih:=Gj (P:=P) (o:=s.2) (f:=s.1) (sh:=r) (fun t ht=>⟨by have:=p1 t ht;omega,(hb t (by simp[ht])).2⟩) p2 hs.2 x
  have e:(∃y∈uJ f o (s::r),y.1<=x/\x<y.2.1/\P y.2.2)<->(f<=x/\x<s.1/\P o)\/∃y∈uJ s.1 s.2 r,y.1<=x/\x<y.2.1/\P y.2.2:=by
   rw[uJ];simp only[zzao,or_and_right,exists_or];refine or_congr ?_ Iff.rfl;split
   ·simp
   simp;intro h1 h2;omega
  have eo:xS o (s::r) x=xS (if s.1<=x then s.2 else o) r x:=rfl;rw[e,ih,eo];by_cases hx:s.1<=x
  ·rw[if_pos hx];constructor
   ·rintro(⟨h1,h2,h3⟩|⟨h1,h2,h3⟩)
    ·omega
    exact⟨zE,h2,h3⟩
   rintro⟨h1,h2,h3⟩;exact .inr ⟨hx,h2,h3⟩
  rw[if_neg hx];have hn:=Bl (x:=x) (sh:=r) o fun t ht=>by have:=p1 t ht;omega
  rw[hn];constructor
  ·rintro(⟨h1,h2,h3⟩|⟨h1,h2,h3⟩)
   ·exact⟨h1,zE,h3⟩
   omega
  rintro⟨h1,h2,h3⟩;exact .inl ⟨h1,zE,h3⟩
def Gk:∀{sh:List Sp}{f o:Int},(∀s∈sh,f<=s.1)->sh.Pairwise (fun a b=>a.1<b.1)->(uJ f o sh).Pairwise (fun a b=>a.1<=b.1)/\∀y∈uJ f o sh,f<=y.1
 |[],f,o,_,_=>by simp[uJ]
 |s::r,f,o,hb,hp=>by
  obtain⟨p1,p2⟩:=zzcd.1 hp;have hs:=hb s zd;obtain⟨i1,i2⟩:=Gk (f:=s.1) (o:=s.2) (sh:=r) (fun t ht=>by have:=p1 t ht;omega) p2;rw[uJ];refine⟨?_,?_⟩
  ·rw[List.pairwise_append];refine⟨by split<;>simp,i1,?_⟩;intro a ha b cM;have:=i2 b cM;split at ha
   ·simp at ha;subst ha;simp only;omega
   simp at ha
  intro y hy;rw[zzao]at hy;obtain hy|hy:=hy
  ·split at hy
   ·simp at hy;subst hy;exact zzby _
   simp at hy
  have:=i2 y hy;omega
def N5(of:Int)(sh:List Sp)(x fr to:Int):Prop:=0<=x/\x<=10000000000/\inW (zV fr to) ((x+xS of sh x)%86400)
def YB{of:Int}{sh:List Sp}{s:Sp}{fr to:Int}(h:xy of sh s fr to=true)(x:Int):Xr (iD of sh s fr to) x<->s.1<=x/\x<s.2/\N5 of sh x fr to:=by
 rw[iD,if_pos h];simp only[xy,Yg,zW,zzac,decide_eq_true_eq]at h;obtain⟨⟨⟨⟨⟨_,_⟩,ha⟩,h1⟩,h2⟩,_⟩:=h;obtain⟨a1,a2⟩:=Gi ha;have hW:aet (zV fr to):=fun w hw=>by have:=(uL h1 h2).2 w hw;omega
 rw[N4 hW (Gk (fun t ht=>by have:=a2 t ht;omega) a1).1 (fun _ h=>by cases h)];rw[Gj (P:=fun o=>inW (zV fr to) ((x+o)%86400)) (fun t ht=>by have:=a2 t ht;omega) a1 zE];simp only[Yn,false_or,N5]
def N6(p:Pl)(it:It)(region x:Int):Prop:=it.ki=5\/(Kj p=true/\grX (Wo p.cls it.id region) (p.ep+Yk p.nu p.de x)=true/\∀w∈uM p.cls it.ra,N5 p.of p.sh (p.ep+Yk p.nu p.de x) w.1 w.2)
def Q0(p:Pl)(id region x:Int):Prop:=∃it,Xj id p.aN=some it/\(0<=region/\region<8)/\(0<=x/\x<=100000000)/\N6 p it region x
def Gl:∀(Xs:List (List Sp))(a:List Sp)(y:Int),Xr (Xs.foldl zY a) y<->Xr a y/\∀l∈Xs,Xr l y
 |[],a,y=>zd
 |l::Xs,a,y=>by
  rw[zzcz,Gl Xs,(kQ a l).2];simp only[zzam,forall_eq_or_imp,and_assoc]
def Dh{nu de s f:Int}(hv:Ve nu de=true)(hs:0<=s/\s<=10000000000)(hf:0<=f/\f<=100000000):xD nu de s<=f<->s<=Yk nu de f:=by
 obtain⟨b1,b2,b3,b4,b5⟩:=Ju hv;rw[xD,if_pos ⟨hv,hs.1,hs.2⟩,Yk,if_pos ⟨hv,hf.1,hf.2⟩];have q0:0<=s*nu:=zzee hs.1 zE;have q1:0<=f*de:=zzee hf.1 zE;rw[zzcl zE,zzcl q1]
 have e1:(s*nu+de-1)/de<=f<->s*nu<=f*de:=by
  rw[<- Int.lt_add_one_iff,Int.ediv_lt_iff_lt_mul zE];have:(f+1)*de=f*de+de:=by rw[Int.add_mul];omega
  omega
 rw[e1,Int.le_ediv_iff_mul_le zE]
def KW{p:Pl}{U:List Sp}(hv:Ve p.nu p.de=true)(hU:∀w∈U,(0<=w.1-p.ep/\w.1-p.ep<=10000000000)/\(0<=w.2-p.ep/\w.2-p.ep<=10000000000)){f:Int}(hf:0<=f/\f<=100000000):
  Xr (U.map (uN p)) f<->Xr U (p.ep+Yk p.nu p.de f):=by
 unfold Xr;simp only[zzav];constructor
 ·rintro⟨_,⟨w,hw,rfl⟩,h1,h2⟩;obtain⟨u1,u2⟩:=hU w hw;have a1:=Dh hv u1 hf;have a2:=Dh hv u2 hf;simp only[uN]at h1 h2;exact⟨w,hw,zE,zE⟩
 rintro⟨w,hw,h1,h2⟩;obtain⟨u1,u2⟩:=hU w hw;have a1:=Dh hv u1 hf;have a2:=Dh hv u2 hf;exact⟨_,⟨w,hw,rfl⟩,by simp only[uN];omega,by simp only[uN];omega⟩
def YC{cs:List Cl}{ra:Int}:∀w∈uM cs ra,zW w.1=true/\zW w.2=true:=by
 intro w hw;simp only[uM,zzav,zzca,Gm,zzac,decide_eq_true_eq,Zc]at hw;obtain⟨c,⟨_,h1,_,_,h2⟩,rfl⟩:=hw;rw[Wz]at h2;simp only[h1]at h2;simp[Kq,wi]at h2;simp only[zW,decide_eq_true_eq];omega
def aev(s:Sp):0<=(QI s).1/\(QI s).2<=100000001/\∀x,((QI s).1<=x/\x<(QI s).2)<->(s.1<=x/\x<s.2/\0<=x/\x<=100000000):=by
 simp only[QI];refine⟨zE,zE,fun x=>?_⟩;omega
def kU(p:Pl)(id region:Int)(s:Sp)(hs:s.2-s.1<=1000000)(x:Int):Xr (Vu p id region s) x<->s.1<=x/\x<s.2/\Q0 p id region x:=by
 obtain⟨c0,c1,cx⟩:=aev s;have cl:(QI s).2-(QI s).1<=1000000:=by simp only[QI];omega
 unfold Vu Q0;generalize QI s=c at*
 cases hf:Xj id p.aN with
 |none=>simp
 |some it=>
  simp only[Option.some.injEq,exists_eq_left'];split
  ·rename_i hb;simp only[Yn,false_iff];rintro⟨h1,h2,h3,h4,_⟩;have:=(cx x).2 ⟨h1,h2,h4⟩;omega
  rename_i hb;simp only[not_or]at hb;split
  ·rename_i hk;simp only[Xf,Yn,or_false,N6,hk,true_or,and_true];rw[cx x];constructor
   ·rintro⟨h1,h2,h3,h4⟩;exact⟨h1,h2,zE,h3,h4⟩
   rintro⟨h1,h2,h3,h4⟩;exact⟨h1,h2,h4⟩
  rename_i hk;split
  ·rename_i ht;simp[N6,hk,ht]
  rename_i ht;have XU:Kj p=true:=by simpa using ht
  have hte:Ve p.nu p.de=true/\Yg p.of p.sh=true/\0<=p.ep/\p.ep<=9000000000:=by
   simp only[Kj,zzac,decide_eq_true_eq]at XU;exact⟨XU.1.1,XU.1.2,XU.2⟩
  obtain⟨hv,hz,he⟩:=hte;rw[(kQ _ _).2];obtain⟨u,hu⟩:∃u,uS p c=u:=⟨_,rfl⟩;have hu1:u.1=p.ep+Yk p.nu p.de c.1:=by rw[<- hu];rfl
  have JL:u.2=p.ep+Yk p.nu p.de (c.2-1)+1:=by rw[<- hu];rfl
  rw[hu];have hd:=kR (f:=c.1) (g:=c.2-1) hv zE zE zE;have hs1:=pE p.nu p.de c.1;have J7:=pE p.nu p.de (c.2-1)
  have Nt:0<=Yk p.nu p.de c.1:=by
   rw[Yk,if_pos ⟨hv,zE,zE⟩];exact Int.tdiv_nonneg (zzee zE (by have:=Ju hv;omega)) (by have:=Ju hv;omega)
  have cZ:iE p it region u (lN p it region u).length=(lN p it region u).foldl zY [u]:=by simp[iE]
  have bQ:SJ u.1 u.2 (iE p it region u (lN p it region u).length):=by
   rw[cZ];exact Db _ _ (by intro w hw;simp at hw;subst hw;omega)
  by_cases hx:c.1<=x/\x<c.2
  ·have iJ:=(cx x).1 hx;have m1:=kR (f:=c.1) (g:=x) hv zE zE zE;have m2:=kR (f:=x) (g:=c.2-1) hv zE zE zE;rw[KW hv (fun w hw=>by have:=bQ w hw;omega) ⟨zE,zE⟩,cZ,Gl];simp only[Xf,Yn,or_false,N6,hk,false_or,XU,true_and]
   have hl:(∀l∈lN p it region u,Xr l (p.ep+Yk p.nu p.de x))<->(grX (Wo p.cls it.id region) (p.ep+Yk p.nu p.de x)=true/\∀w∈uM p.cls it.ra,N5 p.of p.sh (p.ep+Yk p.nu p.de x) w.1 w.2):=by
    unfold lN;simp only[zzam,forall_eq_or_imp,zzav,forall_exists_index,and_imp,forall_apply_eq_imp_iff₂];rw[KV];refine and_congr Iff.rfl (forall_congr' fun w=>forall_congr' fun hw=>?_);obtain⟨d1,d2⟩:=YC w hw;rw[YB (by simp only[xy,hz,d1,d2,zzgd,zzdo,decide_eq_true_eq];omega)];constructor
    ·rintro⟨_,_,h⟩;exact h
    intro h;exact⟨zE,zE,h⟩
   rw[hl];constructor
   ·rintro⟨⟨_,h⟩,_⟩;exact⟨iJ.1,iJ.2.1,zE,iJ.2.2,h⟩
   rintro⟨_,_,_,_,h⟩;exact⟨⟨zE,h⟩,hx⟩
  simp only[Xf,Yn,or_false];constructor
  ·rintro⟨_,h⟩;exact absurd h hx
  rintro⟨h1,h2,_,h4,_⟩;exact absurd ((cx x).2 ⟨h1,h2,h4⟩) hx
def xU(p:Pl)(id region f n:Int):Xt p id region f n=true<->(1<=n/\n<=1000000/\0<=f/\f+n-1<=100000000)/\∀x,f<=x->x<f+n->Q0 p id region x:=by
 unfold Xt;split
 ·rename_i hb;simp only[zzbh,false_iff];rintro⟨⟨h1,h2,h3,h4⟩,_⟩;obtain h|h|h|h:=hb
  ·omega
  ·omega
  ·simp[XW]at h;omega
  simp[XW]at h;omega
 rename_i hb;simp only[not_or,zzgh,XW,decide_eq_true_eq]at hb;obtain⟨b1,b2,b3,b4⟩:=hb;rw[List.isEmpty_iff,KX (by simp only;omega)];constructor
 ·intro h;refine⟨zE,fun x h1 h2=>?_⟩;exact((kU p id region (f,f+n) (by simp only;omega) x).1 (h x h1 h2)).2.2
 rintro⟨_,h⟩ x h1 h2;exact(kU p id region (f,f+n) (by simp only;omega) x).2 ⟨h1,h2,h x h1 h2⟩
section
variable {α:Type}
def af(k:Int):List (Int×α)->Option α
 |[]=>none
 |x::r=>if x.1=k then some x.2 else af k r
def Vg(k:Int)(v:α):List (Int×α)->List (Int×α)
 |[]=>[(k,v)]
 |x::r=>if x.1=k then(k,v)::r else x::Vg k v r
def bG(row:α->AV)(l:List (Int×α)):List (Pi×AV):=l.map fun x=>([x.1],row x.2)
@[simp] theorem ave(row:α->AV):bG row []=[]:=rfl
@[simp] def avf(row:α->AV)(l:List (Int×α)):(bG row l).length=l.length:=by simp[bG]
def Xv(row:α->AV)(k:Int):∀(l:List (Int×α))(i:Nat),
  (af k l=none/\Xh [k] (bG row l) i=none/\(∀v,Vg k v l=l++[(k,v)])/\∀v,bG row l++[([k],row v)]=bG row (Vg k v l))\/
  ∃u n,af k l=some u/\Xh [k] (bG row l) i=some (i+n,row u)/\n<l.length/\(bG row l).getD n ([],.junk)=([k],row u)/\(∀v,(Vg k v l).length=l.length)/\∀v,(bG row l).set n ([k],row v)=bG row (Vg k v l)
 |[],i=>.inl ⟨rfl,rfl,fun _=>rfl,fun _=>rfl⟩
 |x::r,i=>by
  by_cases h:x.1=k
  ·refine .inr ⟨x.2,0,by rw[af,if_pos h],by simp[bG,Xh,h],zd,by simp[bG,h],fun v=>by rw[Vg,if_pos h];rfl,fun v=>by rw[Vg,if_pos h];simp[bG]⟩
  have hk:¬([k]:Pi)=[x.1]:=by intro e;cases e;exact h rfl
  rcases Xv row k r (i+1)with⟨h1,h2,h3,h4⟩|⟨u,n,h1,h2,h3,h4,h5,h6⟩
  ·refine .inl ⟨by rw[af,if_neg h];exact h1,?_,fun v=>by rw[Vg,if_neg h,h3];rfl,fun v=>?_⟩
   ·simp only[bG,zzas,Xh];rw[if_neg hk];exact h2
   rw[Vg,if_neg h];simp only[bG,zzas,zzae];exact congrArg _ (h4 v)
  refine .inr ⟨u,n+1,by rw[af,if_neg h];exact h1,?_,by simp;omega,by simpa[bG]using h4,fun v=>by rw[Vg,if_neg h];simp[h5 v],fun v=>?_⟩
  ·simp only[bG,zzas,Xh];rw[if_neg hk,zzff n 1,<- zzan];exact h2
  rw[Vg,if_neg h];simp only[bG,zzas,zzea];exact congrArg _ (h6 v)
def Ug(k q:Int)(v:α):∀l:List (Int×α),af q (Vg k v l)=if q=k then some v else af q l
 |[]=>by
  by_cases h:q=k
  ·subst h;simp[Vg,af]
  have:¬k=q:=fun e=>h e.symm;simp[Vg,af,h,this]
 |x::r=>by
  have ih:=Ug k q v r;by_cases h:x.1=k
  ·rw[Vg,if_pos h];by_cases hq:q=k
   ·subst hq;simp[af]
   have:¬k=q:=fun e=>hq e.symm;have hx:¬x.1=q:=zE
   simp[af,hq,this,hx]
  rw[Vg,if_neg h,af,ih,af];by_cases hx:x.1=q
  ·have:¬q=k:=zE
   simp[hx,this]
  rw[if_neg hx];by_cases hq:q=k<;>simp[hq,hx]
def Gn(k:Int)(v:α):∀l:List (Int×α),(Vg k v l).length<=l.length+1
 |[]=>by simp[Vg]
 |x::r=>by
  rw[Vg];split
  ·simp
  have:=Gn k v r;simp only[zzaz];omega
def ay9(l:List (Int×α)):Prop:=(l.map (·.1)).Nodup
end
def Gp:List En->Nat->List (Int×Int)->List (Int×Int)
 |[],_,a=>a
 |e::r,i,a=>Gp r (i+1) (match af e.id a with|some _=>a|none=>Vg e.id (i:Int) a)
def KY:List It->List (Int×It)->List (Int×It)
 |[],a=>a
 |x::r,a=>KY r (match af x.id a with|some _=>a|none=>Vg x.id x a)
def z8:List It->List (Int×It)->List (Int×Int)->List (Int×Int)
 |[],_,s=>s
 |x::r,a,s=>(match af x.id a with
  |some _=>z8 r a s
  |none=>z8 r (Vg x.id x a) (if 1<=x.sp/\x.sp<=200 then Vg x.sp x.id s else s))
def Di(p:Pl):List (Int×Int):=Gp p.ens 0 []
def Aa(p:Pl):List (Int×It):=KY p.aN []
def Yx(p:Pl):List (Int×Int):=z8 p.aN [] []
def zn(id:Int):List En->Nat->Option Nat
 |[],_=>none
 |e::r,i=>if e.id=id then some i else zn id r (i+1)
def N7(id:Int):∀(l:List En)(i:Nat)(a:List (Int×Int)),af id (Gp l i a)=match af id a with|some v=>some v|none=>(zn id l i).map fun n=>(n:Int)
 |[],i,a=>by simp only[Gp,zn];cases af id a<;>rfl
 |e::r,i,a=>by
  rw[Gp,N7 id r,zn];cases h:af e.id a with
  |some v=>
   simp only;cases h':af id a with
   |some u=>rfl
   |none=>
    have:¬e.id=id:=by rintro rfl;rw[h]at h';cases h'
    simp[this]
  |none=>
   simp only;rw[Ug];by_cases e1:id=e.id
   ·subst e1;simp[h]
   have e2:¬e.id=id:=fun h=>e1 h.symm;simp[e1,e2]
def uQ(p:Pl)(id:Int):af id (Di p)=(zn id p.ens 0).map fun n=>(n:Int):=by rw[Di,N7];rfl
def N8(id:Int):∀(l:List It)(a:List (Int×It)),af id (KY l a)=match af id a with|some v=>some v|none=>Xj id l
 |[],a=>by simp only[KY,Xj];cases af id a<;>rfl
 |e::r,a=>by
  rw[KY,N8 id r,Xj];cases h:af e.id a with
  |some v=>
   simp only;cases h':af id a with
   |some u=>rfl
   |none=>
    have:¬e.id=id:=by rintro rfl;rw[h]at h';cases h'
    simp[this]
  |none=>
   simp only;rw[Ug];by_cases e1:id=e.id
   ·subst e1;simp[h]
   have e2:¬e.id=id:=fun h=>e1 h.symm;simp[e1,e2]
def uR(p:Pl)(id:Int):af id (Aa p)=Xj id p.aN:=by rw[Aa,N8];rfl
structure Ad where
 it:Int
 re:Int
 fr:Int
 fs:Int
def Vj(a:Ad):P2:=[I a.it,I a.re,I a.fr,I a.fs]
def ry(a:Ad):Bool:=decide (a.re=0/\0<=a.fr/\a.fr<=100000000/\1<=a.fs/\a.fs<=100000000)
def Vw(u:List (Int×Int))(it:Int):List (Int×Int):=Vg it ((af it u).getD 0+1) u
def Zm(p:Pl)(en:List (Int×Int))(it e:Int):List (Int×Int):=match Xj it p.aN with
 |some x=>Vg x.sp (max ((af x.sp en).getD 0) e) en
 |none=>en
def N9:List Ad->List (Int×Int)->List (Int×Int)
 |[],u=>u
 |a::r,u=>N9 r (if ry a then Vw u a.it else u)
def Oa(p:Pl):List Ad->List (Int×Int)->List (Int×Int)
 |[],u=>u
 |a::r,u=>Oa p r (if ry a then Zm p u a.it (a.fr+a.fs)else u)
def Ob(ki it rg:Int):List Cl->Int->Int
 |[],n=>n
 |c::r,n=>Ob ki it rg r (if c.ki=ki/\gV c it rg=true/\Zc c=true then c.n else n)
def Ww(p:Pl)(it:Int):Int:=match Xj it p.aN with
 |some x=>if x.ki=5 then -1 else Ob 3 it 0 p.cls (-1)
 |none=>Ob 3 it 0 p.cls (-1)
def pL(a b:Int):List Cl->Int->Int
 |[],g=>g
 |c::r,g=>pL a b r (if c.ki=5/\(c.a=a/\c.b=b\/c.a=b/\c.b=a)/\Zc c=true then max g c.n else g)
def Kh(p:Pl)(a b:Int):Int:=match Xj a p.aN,Xj b p.aN with
 |some x,some y=>if x.sp=0\/Ve p.nu p.de=false\/y.sp=0\/x.sp=y.sp then 0 else xD p.nu p.de (pL x.sp y.sp p.cls 0)
 |_,_=>0
def Gq(at_ n:Int):List Sp->Option Int
 |[]=>none
 |s::r=>if max s.1 at_<s.2/\n<=s.2-max s.1 at_ then some (max s.1 at_)else Gq at_ n r
def lP(l:List Sp)(at_ n:Int):Option Int:=if n<=0 then some at_ else Gq at_ n (Xk l)
def Xy(p:Pl)(it n:Int):List Sp:=Xk (Vu p it 0 (n*1000000,(n+1)*1000000)++Vu p it 0 ((n+1)*1000000,(n+2)*1000000))
def SP(p:Pl)(e:En)(last from_ n:Int):Option Int:=
 if n*1000000<=last then
  match lP (Xy p e.it n) from_ e.fr with
  |none=>SP p e last from_ (n+1)
  |some s=>if last<s then none else some s
 else none
termination_by(last-n*1000000+1000000).toNat
decreasing_by omega
def mw(p:Pl)(e:En):Int:=min (min e.la (p.ln-e.fr)) 100000000
def Vr(p:Pl)(e:En)(from_:Int):Option Int:=
 if e.fr<1\/1000000<e.fr\/p.ln<e.fr then none else SP p e (mw p e) (max from_ 0) ((max from_ 0).tdiv 1000000)
def Kl(p:Pl)(it:Int):List Sp:=match Xj it p.aN with
 |none=>[]
 |some y=>match af y.sp (Yx p)with
  |none=>[]
  |some _=>(Yx p).filterMap fun x=>if 0<Kh p x.2 it then some (x.1,Kh p x.2 it)else none
def Ua(en:List (Int×Int)):List Sp->Int->Int
 |[],f=>f
 |r::l,f=>Ua en l (match af r.1 en with|some e=>max f (e+r.2)|none=>f)
def Ut(p:Pl):Pi->List (Int×Int)->List (Int×Int)->Int->Int->Option (List Sp)
 |[],_,_,_,_=>some []
 |id::r,us,en,free,last=>match zn id p.ens 0 with
  |none=>none
  |some k=>if(k:Int)<=last then none else match p.ens[k]? with
   |none=>none
   |some e=>if Ww p e.it≠ -1/\Ww p e.it<=(af e.it us).getD 0 then none else
    match Vr p e (Ua en (Kl p e.it) (max e.ea free))with
    |none=>none
    |some s=>match Ut p r (Vw us e.it) (Zm p en e.it (s+e.fr)) (s+e.fr) k with
     |none=>none
     |some l=>some ((id,s)::l)
def Yo(p:Pl)(at_:Int)(past:List Ad)(ids:Pi):Option (List Sp):=Ut p ids (N9 past []) (Oa p past []) at_ (-1)
def Dj{at_ n:Int}:∀{l:List Sp}{s:Int},Gq at_ n l=some s->∃a∈l,max a.1 at_=s/\s<a.2/\n<=a.2-s
 |a::r,s,h=>by
  rw[Gq]at h;split at h
  ·rename_i hc;cases h;exact⟨a,zd,rfl,hc.1,hc.2⟩
  obtain⟨b,hb,h1⟩:=Dj h;exact⟨b,by simp[hb],h1⟩
def Qch(p:Pl)(it n x:Int):Xr (Xy p it n) x<->n*1000000<=x/\x<(n+2)*1000000/\Q0 p it 0 x:=by
 rw[Xy,(Zx _).2,Yq,kU _ _ _ _ (by simp only;omega),kU _ _ _ _ (by simp only;omega)];simp only;constructor
 ·rintro(⟨h1,h2,h3⟩|⟨h1,h2,h3⟩)<;>exact⟨zE,zE,h3⟩
 rintro⟨h1,h2,h3⟩;by_cases h:x<(n+1)*1000000
 ·exact .inl ⟨h1,h,h3⟩
 exact .inr ⟨zE,h2,h3⟩
def aew{p:Pl}{it n at_ m s:Int}(hm:1<=m)(h:lP (Xy p it n) at_ m=some s):at_<=s/\∀x,s<=x->x<s+m->Q0 p it 0 x:=by
 rw[lP,if_neg zE]at h;obtain⟨a,ha,h1,h2,h3⟩:=Dj h;refine⟨zE,fun x hx QK=>?_⟩;have:Xr (Xk (Xy p it n)) x:=⟨a,ha,zE,zE⟩;rw[(Zx _).2,Qch]at this;exact this.2.2
def YD{p:Pl}{e:En}{last from_ n s:Int}(he:1<=e.fr)(h:SP p e last from_ n=some s):from_<=s/\s<=last/\∀x,s<=x->x<s+e.fr->Q0 p e.it 0 x:=by
 unfold SP at h;split at h
 ·rename_i hc;cases hs:lP (Xy p e.it n) from_ e.fr with
  |none=>rw[hs]at h;exact YD he h
  |some t=>
   rw[hs]at h;simp only at h;split at h
   ·cases h
   rename_i hl;cases h;obtain⟨h1,h2⟩:=aew he hs;exact⟨h1,zE,h2⟩
 cases h
termination_by(last-n*1000000+1000000).toNat
decreasing_by omega
def Jz{p:Pl}{e:En}{from_ s:Int}(h:Vr p e from_=some s):(1<=e.fr/\e.fr<=1000000)/\from_<=s/\0<=s/\s<=e.la/\s+e.fr<=p.ln/\s<=100000000/\∀x,s<=x->x<s+e.fr->Q0 p e.it 0 x:=by
 rw[Vr]at h;split at h
 ·cases h
 rename_i hc;obtain⟨h1,h2,h3⟩:=YD zE h;simp only[mw]at h2;exact⟨zE,zE,zE,zE,zE,zE,h3⟩
def xV(en:List (Int×Int)):∀(l:List Sp)(f:Int),f<=Ua en l f
 |[],f=>zzby _
 |r::l,f=>by
  rw[Ua];refine zzhi ?_ (xV en l _);split<;>omega
def xW(en:List (Int×Int)){l l':List Sp}(h:l.Perm l'):∀f,Ua en l f=Ua en l' f:=by
 induction h with
 |nil=>exact fun _=>rfl
 |cons x _ ih=>intro f;simp only[Ua,ih]
 |swap x y l=>
  intro f;simp only[Ua];congr 1;cases af x.1 en<;>cases af y.1 en<;>simp only<;>omega
 |trans _ _ ih1 ih2=>exact fun f=>(ih1 f).trans (ih2 f)
def kV{id:Int}:∀{l:List En}{i k:Nat},zn id l i=some k->i<=k/\∃e,l[k-i]?=some e/\e.id=id/\Xw id l=some e
 |[],i,k,h=>by cases h
 |e::r,i,k,h=>by
  rw[zn]at h;split at h
  ·rename_i hc;cases h;exact⟨zzab _,e,zd,hc,by simp[Xw,hc]⟩
  rename_i hc;obtain⟨h1,x,h2,h3,h4⟩:=kV h;refine⟨zE,x,?_,h3,by simp[Xw,hc,h4]⟩;obtain⟨d,hd⟩:∃d,k-i=d+1:=⟨k-i-1,zE⟩;rw[hd,zzcf,<- h2];congr 1;omega
def Q1(ki it rg:Int)(c:Cl):Bool:=decide (c.ki=ki)&&(gV c it rg&&Zc c)
def Bm(ki it rg:Int)(c:Cl):∀(l:List Cl)(n:Int),Ob ki it rg (l++[c]) n=if Q1 ki it rg c=true then c.n else Ob ki it rg l n
 |[],n=>by simp[Ob,Q1]
 |d::l,n=>by rw[zzae,Ob,Bm ki it rg c l,Ob]
def Bn(cs:List Cl)(ki it rg:Int):UV:=fun _ f l=>
 if f=193 then .fn 234 [] [.ep [.sl .ro (cs.map Qg)] 0]else if f=191 then(match l with
  |[.agg [.int _ a,.int _ b,.int _ c,.int _ d,.int _ e,.int _ f,.int _ g,.int _ h],_,_]=>.bool (gV ⟨a,b,c,d,e,f,g,h⟩ it rg)
  |_=>.junk)else(match l with
  |[.agg [.int _ a,.int _ b,.int _ c,.int _ d,.int _ e,.int _ f,.int _ g,.int _ h]]=>.bool (Zc ⟨a,b,c,d,e,f,g,h⟩)
  |_=>.junk)
def aex(cs:List Cl)(ki it rg no:Int)(hl:cs.length<=1000000000):Pure Tryz.prog aD 265 [.sl .ro (cs.map Qg),I ki,I it,I rg,I no] (I (Ob ki it rg cs no)):=by
 have alB:=mg cs;have cT:=mh cs hl;obtain⟨T,hT⟩:∃T,Ob ki it rg cs no=T:=⟨_,rfl⟩;rw[hT];refine Qp adI (Bn cs ki it rg) zd ?_;simp[aid,Bn];refine⟨alB,?_⟩;refine jx (xs:=QD cs cs.length) zd cT FN (fun i m=>i<=cs.length/\Ob ki it rg (cs.take (cs.length-i)) no=T/\∃bx,m.boxes=[I ki]::[I it]::[I rg]::[I 0]::bx) (fun ex m=>ex=.ret/\∃bx,m.boxes=[I ki]::[I it]::[I rg]::[I T]::bx) ?_ ?_ ?_ ?_ ?_ ?_
 ·exact⟨zE,Nm hT,[],zd⟩
 ·rintro i m m' ⟨h1,h2,bx,h3⟩ ⟨⟨b2,e1⟩,_,_⟩;exact⟨h1,h2,bx++b2,by rw[e1,h3];rfl⟩
 ·rintro ex m m' ⟨h1,bx,h3⟩ ⟨⟨b2,e1⟩,_,_⟩;exact⟨h1,bx++b2,by rw[e1,h3];rfl⟩
 ·rintro l i m x hg hr ⟨h1,h2,bx,hb⟩ hx K' k1 k2 _;obtain⟨k,c,hc,hk,rfl⟩:=xg cs cs.length i x (zzab _) hx;rw[Jm]at hb
  have bB:cs.take (cs.length-i)=cs.take (cs.length-(i+1))++[c]:=by
   rw[show cs.length-i=k+1 by omega,show cs.length-(i+1)=k by omega,zzb,hc];rfl
  rw[bB,Bm]at h2;have c1:=mj c it rg;have c2:=We c;by_cases e1:c.ki=ki
  ·subst e1;cases e2:gV c it rg with
   |false=>
    rw[e2]at c1;rw[if_neg (by simp[Q1,e2])]at h2;simp[hr,Zr,hb,Qg,Bn,e2];refine⟨by simpa[Qg]using c1,k1 _ ⟨zE,h2,bx++[Qg c],?_⟩⟩;simp[Qg]
   |true=>
    rw[e2]at c1;cases e3:Zc c with
    |false=>
     rw[e3]at c2;rw[if_neg (by simp[Q1,e3])]at h2;simp[hr,Zr,hb,Qg,Bn,e2,e3];refine⟨by simpa[Qg]using c1,by simpa[Qg]using c2,k1 _ ⟨zE,h2,bx++[Qg c],?_⟩⟩;simp[Qg]
    |true=>
     rw[e3]at c2;rw[if_pos (by simp[Q1,e2,e3])]at h2;simp[hr,Zr,hb,Qg,Bn,e2,e3];refine⟨by simpa[Qg]using c1,by simpa[Qg]using c2,k2 _ ⟨rfl,bx++[Qg c],?_⟩⟩;simp[Qg,h2]
  rw[if_neg (by simp[Q1,e1])]at h2;simp[hr,Zr,hb,Qg,Bn,e1];refine k1 _ ⟨zE,h2,bx++[Qg c],?_⟩;simp[Qg]
 ·rintro m ⟨h1,h2,bx,hb⟩;rw[FM,zzfr,zzha]at h2;have h2:no=T:=h2;simp[hb,US,h2]
 rintro ex m ⟨rfl,bx,hb⟩;simp[hb,US]
def aey(p:Pl)(it:Int)(hc:p.cls.length<=1000000000)(cT:p.aN.length<=1000000000):Pure Tryz.prog aD 226 [.agg (Qa p),I it,I 0] (I (Ww p it)):=by
 have sL:=kS p it cT;have axh:=aex p.cls 3 it 0 (-1) hc
 have ar4:Pure Tryz.prog aD 249 [.sl .ro (p.cls.map Qg),I it,I 0] (I (Ob 3 it 0 p.cls (-1))):=by
  refine Qp adA (fun _ _ _=>I (Ob 3 it 0 p.cls (-1))) zd ?_;simp[ah4,ah5];exact axh
 refine Qp adm (fun _ f _=>if f=80 then Zq (Xj it p.aN)else I (Ob 3 it 0 p.cls (-1))) zd ?_;cases hf:Xj it p.aN with
 |none=>
  rw[hf]at sL;simp[Nj,Nk,Qa,hf,Zq,Ww];exact⟨by simpa[Qa,Zq]using sL,ar4⟩
 |some x=>
  rw[hf]at sL;by_cases h5:x.ki=5
  ·simp[Nj,Nk,Qa,hf,Zq,Qm,Ww,h5];simpa[Qa,Zq,Qm,h5]using sL
  simp[Nj,Nk,Qa,hf,Zq,Qm,Ww,h5];exact⟨by simpa[Qa,Zq,Qm]using sL,ar4⟩
def KZ(a b:Int)(c:Cl):Bool:=(decide (c.a=a)&&decide (c.b=b))||(decide (c.a=b)&&decide (c.b=a))
def YF(a b:Int)(c:Cl):Bool:=decide (c.ki=5)&&(KZ a b c&&Zc c)
def Bo(a b:Int)(c:Cl)(r:List Cl)(g:Int):pL a b (c::r) g=pL a b r (if YF a b c=true then max g c.n else g):=by
 rw[pL];congr 1;by_cases h:c.ki=5/\(c.a=a/\c.b=b\/c.a=b/\c.b=a)/\Zc c=true
 ·rw[if_pos h,if_pos (by simp[YF,KZ,h.1,h.2.2];exact h.2.1)]
 rw[if_neg h,if_neg (by intro h';apply h;simp[YF,KZ]at h';exact⟨h'.1,h'.2.1,h'.2.2⟩)]
def Gr{c:Cl}(h:Zc c=true)(h5:c.ki=5):0<=c.n/\c.n<=86400:=by
 unfold Zc at h;simp only[zzac]at h;have h2:=h.2;unfold Wz at h2;simp[h5,wi]at h2;omega
def Oc(a b:Int):∀(l:List Cl)(g:Int),0<=g/\g<=86400->0<=pL a b l g/\pL a b l g<=86400
 |[],g,h=>h
 |c::r,g,h=>by
  rw[Bo];apply Oc a b r;split
  ·rename_i hh;simp[YF]at hh;have:=Gr hh.2.2 hh.1;omega
  exact h
def axi(a b T:Int)(cs:List Cl)(f:Nat->AV)(m:AM):Prop:=∃(i:Nat)(g:Int)(bx:T5),f 13=I i/\f 7=I g/\i<=cs.length/\pL a b (cs.drop i) g=T/\m=⟨bx,[],fun _=>.gone,0⟩
def alQ(cs:List Cl)(a b:Int)(hl:cs.length<=1000000000):Pure Tryz.prog aD 250 [.sl .ro (cs.map Qg),I a,I b] (I (pL a b cs 0)):=by
 obtain⟨T,hT⟩:∃T,pL a b cs 0=T:=⟨_,rfl⟩;rw[hT];refine Qp adB Bh zd ?_;simp[UR];refine Qi vM (axi a b T cs) (fun f _=>cs.length-(numOf (f 13)).toNat) ?_ ?_
 ·exact⟨0,0,_,zd,zd,zE,Nm hT,rfl⟩
 rintro f m ⟨i,g,bx,eT,h7,hi,hx,rfl⟩;rcases zzaa i cs.length with ah|bq
 ·obtain⟨c,hc⟩:=aV ah;have ai:Qh (cs.map Qg) i=Qg c:=Qu (by simp[hc]);have aa:(i:Int)<(cs.length:Int):=zE
  have hw:=bO i zE;have k:=We c;rw[Za hc,Bo]at hx;have axj:∀E,fN vM E E:=fun E=>Qb _ _;obtain⟨v0,h0⟩:∃v,(c.ki==5)=v:=⟨_,rfl⟩;obtain⟨v1,h1⟩:∃v,(c.a==a)=v:=⟨_,rfl⟩;obtain⟨v2,h2⟩:∃v,(c.b==b)=v:=⟨_,rfl⟩;obtain⟨v3,h3⟩:∃v,(c.a==b)=v:=⟨_,rfl⟩;obtain⟨v4,h4⟩:∃v,(c.b==a)=v:=⟨_,rfl⟩
  have hh:YF a b c=(v0&&(((v1&&v2)||(v3&&v4))&&Zc c)):=by
   rw[<- h0,<- h1,<- h2,<- h3,<- h4];rfl
  obtain⟨v5,h5⟩:∃v,Zc c=v:=⟨_,rfl⟩;have hk5:v5=true->v0=true->0<=c.n/\c.n<=86400:=fun e e'=>Gr (h5.trans e) (by rw[e']at h0;simpa using h0);rw[hh,h5]at hx;rw[h5]at k;have k':Abs.Pure Tryz.prog aD 48 [.agg [I c.ki,I c.it,I c.fr,I c.to,I c.re,I c.n,I c.a,I c.b]] (.bool v5):=k;clear hh k;cases v0
  ·cases v1<;>cases v2<;>cases v3<;>cases v4<;>simp only[Bool.false_and,zzbh,if_false]at hx
   all_goals
    simp[eT,h7,ah,aa,ai,Qg,Bh,h0,h1,h2,h3,h4,vM,hw];refine⟨aQ,⟨i+1,g,_,zd,by simp[h7],zE,hx,rfl⟩,zE⟩
  cases v1<;>cases v2<;>cases v3<;>cases v4<;>cases v5<;>simp only[zzgd,zzhb,zzdo,Bool.false_and,Bool.or_true,Bool.or_false,Bool.true_or,Bool.false_or,zzbh,if_false,if_true,Bool.or_self,Bool.and_self]at hx
  all_goals
   simp[eT,h7,ah,aa,ai,Qg,Bh,h0,h1,h2,h3,h4,h5,vM,hw];first
   |(
    refine⟨ag ?_,⟨i+1,g,_,zd,by simp[h7],zE,hx,rfl⟩,zE⟩;repeat(first|exact Qb _ _|refine Qc _ rfl ?_))
   |(
    refine⟨k',ag ?_,⟨i+1,g,_,zd,by simp[h7],zE,hx,rfl⟩,zE⟩;repeat(first|exact Qb _ _|refine Qc _ rfl ?_))
   |(
    refine⟨k',ag ?_,⟨i+1,max g c.n,_,zd,by simp;omega,zE,hx,rfl⟩,zE⟩;repeat(first|exact Qb _ _|refine Qc _ rfl ?_))
 have bQ:¬(i:Int)<(cs.length:Int):=zE
 rw[zzal bq]at hx;have hx:g=T:=hx;subst hx;simp[eT,h7,bQ,zzbk.2 bq,vM,ah6]
def sX(p:Pl)(a b:Int):UV:=fun d f l=>
 if f=80 then(match l with|[_,.int _ n]=>Zq (Xj n p.aN)|_=>.junk)else if f=132 then .bool (Ve p.nu p.de)else if f=250 then(match l with|[_,.int _ x,.int _ y]=>I (pL x y p.cls 0)|_=>.junk)else
 if f=86 then(match l with|[_,.int _ x]=>I (xD p.nu p.de x)|_=>.junk)else .junk
def alR(p:Pl)(a b:Int)(hc:p.cls.length<=1000000000)(cT:p.aN.length<=1000000000):Pure Tryz.prog aD 227 [.agg (Qa p),I a,I b] (I (Kh p a b)):=by
 have ka:=kS p a cT;have kb:=kS p b cT;have kr:=Wv p.nu p.de;refine Qp adn (sX p a b) zd ?_;cases Ej:Xj a p.aN with
 |none=>
  rw[Ej]at ka;have hg:Kh p a b=0:=by simp[Kh,Ej]
  rw[hg];simp[sg,si,Qa,sX,Ej,Zq];simpa[Qa,Zq]using ka
 |some x=>
  rw[Ej]at ka;by_cases c1:x.sp=0
  ·have hg:Kh p a b=0:=by cases IE:Xj b p.aN<;>simp[Kh,Ej,IE,c1]
   rw[hg];simp[sg,si,Qa,sX,Ej,Zq,Qm,c1];simpa[Qa,Zq,Qm,c1]using ka
  cases c2:Ve p.nu p.de with
  |false=>
   rw[c2]at kr;have hg:Kh p a b=0:=by cases IE:Xj b p.aN<;>simp[Kh,Ej,IE,c2]
   rw[hg];simp[sg,si,Qa,sX,Ej,Zq,Qm,c1,c2];exact⟨by simpa[Qa,Zq,Qm]using ka,kr⟩
  |true=>
   rw[c2]at kr;cases IE:Xj b p.aN with
   |none=>
    rw[IE]at kb;have hg:Kh p a b=0:=by simp[Kh,Ej,IE]
    rw[hg];simp[sg,si,Qa,sX,Ej,IE,Zq,Qm,c1,c2];exact⟨by simpa[Qa,Zq,Qm]using ka,kr,by simpa[Qa,Zq,Qm]using kb⟩
   |some y=>
    rw[IE]at kb;by_cases c3:y.sp=0
    ·have hg:Kh p a b=0:=by simp[Kh,Ej,IE,c3]
     rw[hg];simp[sg,si,Qa,sX,Ej,IE,Zq,Qm,c1,c2,c3];exact⟨by simpa[Qa,Zq,Qm]using ka,kr,by simpa[Qa,Zq,Qm,c3]using kb⟩
    by_cases c4:x.sp=y.sp
    ·have hg:Kh p a b=0:=by simp[Kh,Ej,IE,c4]
     rw[hg];simp[sg,si,Qa,sX,Ej,IE,Zq,Qm,c1,c2,c3,<- c4];rw[<- c4]at c3;exact⟨by simpa[Qa,Zq,Qm]using ka,kr,by simpa[Qa,Zq,Qm,c4]using kb⟩
    have hg:Kh p a b=xD p.nu p.de (pL x.sp y.sp p.cls 0):=by simp[Kh,Ej,IE,c1,c2,c3,c4]
    rw[hg];have kg:=alQ p.cls x.sp y.sp hc;have kf:=Bc p.nu p.de (pL x.sp y.sp p.cls 0);simp[sg,si,Qa,sX,Ej,IE,Zq,Qm,c1,c2,c3,c4];exact⟨by simpa[Qa,Zq,Qm]using ka,kr,by simpa[Qa,Zq,Qm]using kb,kg,kf⟩
structure Bd where
 p:Pl
 at_:Int
 us:List (Int×Int)
 en:List (Int×Int)
 rv:List (Int×(Rt×List Sp))
 li:List (Int×Int)
 pm:List ((Int×Int)×List Sp)
abbrev iA(n:Int):AV:=I n
def rz(x:It):AV:=.agg (Qm x)
def rvA(x:Rt×List Sp):AV:=.sl x.1 (x.2.map Qe)
def SQ(l:List ((Int×Int)×List Sp)):List (Pi×AV):=l.map fun x=>([x.1.1,x.1.2],.sl .ro (x.2.map Qe))
def Qo(k:Nat)(b:Bd):P2:=Qa b.p++[I b.at_,.mp (k+1),.mp (k+2),.mp (k+3),.mp (k+4),.mp (k+5),.mp (k+6),.mp (k+7),.mp (k+8)]
def aW(k:Nat)(b:Bd)(post:T5):T5:=
 Qa b.p::[.aJ 0 (bG iA (Di b.p))]::[.aJ 0 (bG rz (Aa b.p))]::[.aJ 0 (bG iA (Yx b.p))]::[.aJ 0 (bG iA b.us)]::[.aJ 0 (bG iA b.en)]::
  [.aJ 0 (bG rvA b.rv)]::[.aJ 0 (bG iA b.li)]::[.aJ 2 (SQ b.pm)]::Qo k b::post
def aP(pre:T5)(b:Bd)(post:T5)(ls:Pa):AM:=⟨pre++aW pre.length b post,ls,fun _=>.gone,0⟩
def alS(b:Bd):Prop:=∀k v,af k b.li=some v->v=Ww b.p k
def aez(pre post:T5)(ls:Pa)(b:Bd)(it:Int)(hc:b.p.cls.length<=1000000000)(cT:b.p.aN.length<=1000000000)(hli:alS b)(Y:YT)(K:So)
  (hK:∀li,alS {b with li:=li}->K (I (Ww b.p it)) (aP pre {b with li:=li} post ls)):
  aB Tryz.prog aD Y 170 [.ptr (pre.length+9) 0,I it] (aP pre b post ls) K:=by
 have axk:=aey b.p it hc cT;refine Xl acK (fun _ _ _=>I (Ww b.p it)) zd ?_;rcases Xv iA it b.li 0 with⟨h1,h2,h3,h4⟩|⟨u,n,h1,h2,_,_,_,h4⟩
 ·simp[T8,T9,aP,aW,Qo,Qa,h2];refine⟨by simpa[Qa]using axk,?_⟩
  have:=hK (Vg it (Ww b.p it) b.li) (fun k v h=>by
   rw[Ug]at h;split at h
   ·rename_i e;cases h;rw[e]
   exact hli k v h)
  have SR:bG iA b.li++[([it],I (Ww b.p it))]=bG iA (Vg it (Ww b.p it) b.li):=h4 _;rw[SR];exact this
 simp[T8,T9,aP,aW,Qo,Qa,h2];have hu:=hli it u h1;subst hu;exact hK b.li hli
def aeA(b:Bd):Prop:=∀k x,af k b.rv=some x->∀it y,Xj it b.p.aN=some y->y.sp=k->x.2.Perm (Kl b.p it)
def xX(p:Pl)(it:Int)(L:List (Int×Int)):List Sp:=L.filterMap fun x=>if 0<Kh p x.2 it then some (x.1,Kh p x.2 it)else none
def atL{α:Type}(d:α)(L:List α)(seen:Pa):List α:=seen.map fun i=>L.getD i d
def aeB{α:Type}(d:α)(L:List α)(seen:Pa)(hn:seen.Nodup)(bD:∀i,i<L.length->i∈seen)(hb:∀i∈seen,i<L.length):(atL d L seen).Perm L:=by
 have hp:seen.Perm (List.range L.length):=by
  rw[zzge hn zzdl];intro i;simp only[zzaw];exact⟨hb i,bD i⟩
 have h1:=hp.map fun i=>L.getD i d
 have h2:(List.range L.length).map (fun i=>L.getD i d)=L:=by
  apply zzey zd;intro i h1 h2;simp[h2]
 rw[h2]at h1;exact h1
def aeC{p:Pl}{a i j:Int}{x y:It}(hi:Xj i p.aN=some x)(hj:Xj j p.aN=some y)(h:x.sp=y.sp):Kh p a i=Kh p a j:=by
 simp only[Kh,hi,hj];cases Xj a p.aN with
 |none=>rfl
 |some z=>simp only[h]
def aeD{p:Pl}{i j:Int}{x y:It}(hi:Xj i p.aN=some x)(hj:Xj j p.aN=some y)(h:x.sp=y.sp):Kl p i=Kl p j:=by
 simp only[Kl,hi,hj,h];cases af y.sp (Yx p)with
 |none=>rfl
 |some _=>simp only[aeC hi hj h]
def xY:∀(l:List It)(a:List (Int×It))(s:List (Int×Int)),af 0 s=none->af 0 (z8 l a s)=none
 |[],a,s,h=>h
 |x::r,a,s,h=>by
  rw[z8];cases af x.id a with
  |some _=>exact xY r a s h
  |none=>
   refine xY r _ _ ?_;split
   ·rw[Ug,if_neg zE];exact h
   exact h
def Qy(n:Int):P2:=[I n]
def YG(LL:List (Rt×List Sp))(f:Nat->AV)(m:AM):Prop:=∃(i:Nat)(bx:T5),f 11=I i/\i<=LL.length/\f 3=I (((LL.take i).map fun x=>x.2).flatten.length:Nat)/\m=⟨bx,[],fun _=>.gone,0⟩
def YH(LL:List (Rt×List Sp))(f:Nat->AV)(m:AM):Prop:=∃(i:Nat)(rt:Rt)(ls:Pa)(bx:T5),f 27=I i/\i<=LL.length/\f 6=.sl rt (((LL.take i).map fun x=>x.2).flatten.map Qe)/\
 (((LL.take i).map fun x=>x.2).flatten=[]/\rt=.nil/\i=0\/∃k,rt=.own k 2/\ls[k]?=some ((LL.take i).map fun x=>x.2).flatten.length)/\m=⟨bx,ls,fun _=>.gone,0⟩
def Oe(LL:List (Rt×List Sp)){i:Nat}{x:Rt×List Sp}(h:LL[i]?=some x):((LL.take (i+1)).map fun x=>x.2).flatten=((LL.take i).map fun x=>x.2).flatten++x.2:=by
 simp[zzb,h]
def Of(LL:List (Rt×List Sp))(i:Nat):((LL.take i).map fun x=>x.2).flatten.length<=(LL.map fun x=>x.2).flatten.length:=by
 have h:(LL.map fun x=>x.2)=((LL.take i).map fun x=>x.2)++(LL.drop i).map fun x=>x.2:=by rw[<- zzci,zzec]
 rw[h,zzek,zzak];omega
def uT:UV:=fun _ f _=>if f=270 then .gd false .junk else .junk
def Q2(LL:List (Rt×List Sp))(aO:LL≠[])(hl:LL.length<=1000000)(hf:(LL.map fun x=>x.2).flatten.length<=1000000000):Pure Tryz.prog aD 266 [.sl .full (LL.map fun x=>[.sl x.1 (x.2.map Qe)])] (.sl .ro ((LL.map fun x=>x.2).flatten.map Qe)):=by
 have ij:=zzdh.2 aO;have lZ:LL.take LL.length=LL:=zzbu;refine Qp adJ uT zd ?_;simp[aie];refine Qi Cp (YG LL) (fun f _=>LL.length-(numOf (f 11)).toNat) ?_ ?_
 ·exact⟨0,[],zd,zE,zd,rfl⟩
 rintro f m ⟨i,bx,pn,hi,h3,rfl⟩;rcases zzaa i LL.length with ah|bq
 ·obtain⟨x,hx⟩:=aV ah;have ai:Qh (LL.map fun x=>[.sl x.1 (x.2.map Qe)]) i=[.sl x.1 (x.2.map Qe)]:=Qu (by simp[hx]);have aa:(i:Int)<(LL.length:Int):=zE
  have hw:=bO i zE;have hc:=Oe LL hx;have qs:=Of LL (i+1);obtain⟨n,hn⟩:∃n,((LL.take i).map fun x=>x.2).flatten.length=n:=⟨_,rfl⟩;have hcn:((LL.take (i+1)).map fun x=>x.2).flatten.length=n+x.2.length:=by rw[hc,zzak,hn]
  rw[hn]at h3;have eL:IntKind.i64.wrap ((n:Int)+(x.2.length:Int))=((n+x.2.length:Nat):Int):=by rw[Ql]<;>omega
  have AI:¬(n:Int)+(x.2.length:Int)<0:=zE
  simp[pn,h3,ah,aa,ai,Cp,hw,eL,AI];refine⟨aQ,⟨i+1,_,zd,zE,by rw[hcn];simp[eL],rfl⟩,zE⟩
 have bQ:¬(i:Int)<(LL.length:Int):=zE
 obtain rfl:i=LL.length:=zE
 rw[lZ]at h3;obtain⟨n,hn⟩:∃n,(LL.map fun x=>x.2).flatten.length=n:=⟨_,rfl⟩;rw[hn]at h3 hf;have fin:∀(rt:Rt)(ls:Pa),(rt=.nil\/∃k,rt=.own k 2/\ls[k]?=some 0)->∀(E:QQ),True:=fun _ _ _ _=>trivial;simp[pn,h3,bQ,zzbk.2 bq,Cp,uT];refine aeE hf (fun h0=>?_) (fun h0=>?_)
 all_goals
  try simp[pn,h3,Cp]
  refine Qi Cq (YH LL) (fun f _=>LL.length-(numOf (f 27)).toNat) ?_ ?_
 ·exact⟨0,.nil,[],bx,zd,zE,zd,.inl ⟨zd,rfl,rfl⟩,rfl⟩
 rotate_left
 ·exact⟨0,.own 0 2,[0],bx,zd,zE,zd,.inr ⟨0,rfl,zd⟩,rfl⟩
 all_goals
  clear h0;rintro f m ⟨i,rt,ls,bx,h27,hi,h6,aX,rfl⟩;rcases zzaa i LL.length with ah|bq
  ·obtain⟨x,hx⟩:=aV ah;have ai:Qh (LL.map fun x=>[.sl x.1 (x.2.map Qe)]) i=[.sl x.1 (x.2.map Qe)]:=Qu (by simp[hx]);have aa:(i:Int)<(LL.length:Int):=zE
   have hw:=bO i zE;have hc:=Oe LL hx;have qs:=Of LL (i+1);obtain⟨F,hF⟩:∃F,((LL.take i).map fun x=>x.2).flatten=F:=⟨_,rfl⟩;rw[hF]at h6 aX hc;rw[hc,zzak,hn]at qs;obtain⟨rfl,rfl,rfl⟩|⟨k,rfl,hk⟩:=aX
   ·have gU:IntKind.i64.wrap 1=1:=by decide
    simp[h27,h6,ah,aa,ai,Cq,hw,gU,uT];refine⟨⟨?_,zE⟩,aQ,⟨1,.own ls.length 2,_,bx,zd,zE,by rw[hc];simp,.inr ⟨ls.length,rfl,by rw[hc];simp⟩,rfl⟩,zE⟩
    ·rintro a b row _ rfl;rfl
   have qt:=(zza.1 hk).1;simp[h27,h6,ah,aa,ai,Cq,hw,hk,uT];refine⟨⟨?_,zE⟩,aQ,⟨i+1,.own k 2,_,bx,zd,zE,by rw[hc];simp,.inr ⟨k,rfl,by rw[hc];simp[qt]⟩,rfl⟩,zE⟩
   ·rintro row (⟨a,b,_,rfl⟩|⟨a,b,_,rfl⟩)<;>rfl
  have bQ:¬(i:Int)<(LL.length:Int):=zE
  obtain rfl:i=LL.length:=zE
  rw[lZ]at h6 aX;obtain⟨_,_,h0⟩|⟨k,rfl,hk⟩:=aX
  ·omega
  simp[h27,h6,bQ,zzbk.2 bq,Cq,aif]
def aeF(LL:List (Rt×Pi))(f:Nat->AV)(m:AM):Prop:=∃(i:Nat)(bx:T5),f 11=I i/\i<=LL.length/\f 3=I (((LL.take i).map fun x=>x.2).flatten.length:Nat)/\m=⟨bx,[],fun _=>.gone,0⟩
def aeG(LL:List (Rt×Pi))(f:Nat->AV)(m:AM):Prop:=∃(i:Nat)(rt:Rt)(ls:Pa)(bx:T5),f 27=I i/\i<=LL.length/\f 6=.sl rt (((LL.take i).map fun x=>x.2).flatten.map Qy)/\
 (((LL.take i).map fun x=>x.2).flatten=[]/\rt=.nil/\i=0\/∃k,rt=.own k 1/\ls[k]?=some ((LL.take i).map fun x=>x.2).flatten.length)/\m=⟨bx,ls,fun _=>.gone,0⟩
def YI(LL:List (Rt×Pi)){i:Nat}{x:Rt×Pi}(h:LL[i]?=some x):((LL.take (i+1)).map fun x=>x.2).flatten=((LL.take i).map fun x=>x.2).flatten++x.2:=by
 simp[zzb,h]
def YJ(LL:List (Rt×Pi))(i:Nat):((LL.take i).map fun x=>x.2).flatten.length<=(LL.map fun x=>x.2).flatten.length:=by
 have h:(LL.map fun x=>x.2)=((LL.take i).map fun x=>x.2)++(LL.drop i).map fun x=>x.2:=by rw[<- zzci,zzec]
 rw[h,zzek,zzak];omega
def Dk:UV:=fun _ f _=>if f=230 then .gd false .junk else .junk
def YK(LL:List (Rt×Pi))(aO:LL≠[])(hl:LL.length<=1000000)(hf:(LL.map fun x=>x.2).flatten.length<=1000000000):Pure Tryz.prog aD 174 [.sl .full (LL.map fun x=>[.sl x.1 (x.2.map Qy)])] (.sl .ro ((LL.map fun x=>x.2).flatten.map Qy)):=by
 have ij:=zzdh.2 aO;have lZ:LL.take LL.length=LL:=zzbu;refine Qp acN Dk zd ?_;simp[aha];refine Qi Cg (aeF LL) (fun f _=>LL.length-(numOf (f 11)).toNat) ?_ ?_
 ·exact⟨0,[],zd,zE,zd,rfl⟩
 rintro f m ⟨i,bx,pn,hi,h3,rfl⟩;rcases zzaa i LL.length with ah|bq
 ·obtain⟨x,hx⟩:=aV ah;have ai:Qh (LL.map fun x=>[.sl x.1 (x.2.map Qy)]) i=[.sl x.1 (x.2.map Qy)]:=Qu (by simp[hx]);have aa:(i:Int)<(LL.length:Int):=zE
  have hw:=bO i zE;have hc:=YI LL hx;have qs:=YJ LL (i+1);obtain⟨n,hn⟩:∃n,((LL.take i).map fun x=>x.2).flatten.length=n:=⟨_,rfl⟩;have hcn:((LL.take (i+1)).map fun x=>x.2).flatten.length=n+x.2.length:=by rw[hc,zzak,hn]
  rw[hn]at h3;have eL:IntKind.i64.wrap ((n:Int)+(x.2.length:Int))=((n+x.2.length:Nat):Int):=by rw[Ql]<;>omega
  have AI:¬(n:Int)+(x.2.length:Int)<0:=zE
  simp[pn,h3,ah,aa,ai,Cg,hw,eL,AI];refine⟨aQ,⟨i+1,_,zd,zE,by rw[hcn];simp[eL],rfl⟩,zE⟩
 have bQ:¬(i:Int)<(LL.length:Int):=zE
 obtain rfl:i=LL.length:=zE
 rw[lZ]at h3;obtain⟨n,hn⟩:∃n,(LL.map fun x=>x.2).flatten.length=n:=⟨_,rfl⟩;rw[hn]at h3 hf;have fin:∀(rt:Rt)(ls:Pa),(rt=.nil\/∃k,rt=.own k 1/\ls[k]?=some 0)->∀(E:QQ),True:=fun _ _ _ _=>trivial;simp[pn,h3,bQ,zzbk.2 bq,Cg,Dk];refine aeH hf (fun h0=>?_) (fun h0=>?_)
 all_goals
  try simp[pn,h3,Cg]
  refine Qi Ch (aeG LL) (fun f _=>LL.length-(numOf (f 27)).toNat) ?_ ?_
 ·exact⟨0,.nil,[],bx,zd,zE,zd,.inl ⟨zd,rfl,rfl⟩,rfl⟩
 rotate_left
 ·exact⟨0,.own 0 1,[0],bx,zd,zE,zd,.inr ⟨0,rfl,zd⟩,rfl⟩
 all_goals
  clear h0;rintro f m ⟨i,rt,ls,bx,h27,hi,h6,aX,rfl⟩;rcases zzaa i LL.length with ah|bq
  ·obtain⟨x,hx⟩:=aV ah;have ai:Qh (LL.map fun x=>[.sl x.1 (x.2.map Qy)]) i=[.sl x.1 (x.2.map Qy)]:=Qu (by simp[hx]);have aa:(i:Int)<(LL.length:Int):=zE
   have hw:=bO i zE;have hc:=YI LL hx;have qs:=YJ LL (i+1);obtain⟨F,hF⟩:∃F,((LL.take i).map fun x=>x.2).flatten=F:=⟨_,rfl⟩;rw[hF]at h6 aX hc;rw[hc,zzak,hn]at qs;obtain⟨rfl,rfl,rfl⟩|⟨k,rfl,hk⟩:=aX
   ·have gU:IntKind.i64.wrap 1=1:=by decide
    simp[h27,h6,ah,aa,ai,Ch,hw,gU,Dk];refine⟨⟨?_,zE⟩,aQ,⟨1,.own ls.length 1,_,bx,zd,zE,by rw[hc];simp,.inr ⟨ls.length,rfl,by rw[hc];simp⟩,rfl⟩,zE⟩
    ·first|(rintro a _;rfl)|(rintro row a _ rfl;rfl)
   have qt:=(zza.1 hk).1;simp[h27,h6,ah,aa,ai,Ch,hw,hk,Dk];refine⟨⟨?_,zE⟩,aQ,⟨i+1,.own k 1,_,bx,zd,zE,by rw[hc];simp,.inr ⟨k,rfl,by rw[hc];simp[qt]⟩,rfl⟩,zE⟩
   ·rintro row (⟨a,_,rfl⟩|⟨a,_,rfl⟩)<;>rfl
  have bQ:¬(i:Int)<(LL.length:Int):=zE
  obtain rfl:i=LL.length:=zE
  rw[lZ]at h6 aX;obtain⟨_,_,h0⟩|⟨k,rfl,hk⟩:=aX
  ·omega
  simp[h27,h6,bQ,zzbk.2 bq,Ch,ahb]
def YL(A B:List Sp)(h:A.length+B.length<=100000000):Pure Tryz.prog aD 252 [.sl .ro (A.map Qe),.sl .ro (B.map Qe)] (.sl .ro ((Xk (A++B)).map Qe)):=by
 have ar5:=Q2 [(.ro,A),(.ro,B)] zd zd (by simp;omega);have YM:=Uo (A++B) (by simp;omega);refine Qp adD (fun _ f _=>if f=266 then .sl .ro ((A++B).map Qe)else .sl .ro ((Xk (A++B)).map Qe)) zd ?_;simp at ar5 YM;simp[ah9,aia];exact⟨ar5,YM⟩
def aeI(s:Sp)(h1:0<=s.1)(h2:s.1<=s.2)(h3:s.2<=9223372036854775807):Pure Tryz.prog aD 251 [.agg (Qe s)] (.int .u64 (s.2-s.1)):=by
 have w1:IntKind.u64.wrap s.1=s.1:=by simp[IntKind.wrap,IntKind.bits,IntKind.signed];omega
 have w2:IntKind.u64.wrap s.2=s.2:=by simp[IntKind.wrap,IntKind.bits,IntKind.signed];omega
 have w3:IntKind.u64.wrap (s.2-s.1)=s.2-s.1:=by simp[IntKind.wrap,IntKind.bits,IntKind.signed];omega
 refine Qp adC (fun _ _ _=>.junk) zd ?_;simp[ah7,ah8,Qe,w1,w2,w3]
def Gs:Option Int->AV
 |some s=>.aS [I s,.bool true]
 |none=>.aS [I 0,.bool false]
def Gt(L:List Sp):UV:=fun _ f l=>if f=131 then .sl .ro (L.map Qe)else if f=185 then(match l with|[.agg [.int _ a,.int _ b]]=>.bool (decide (b<=a))|_=>.junk)else
 (match l with|[.agg [.int _ a,.int _ b]]=>.int .u64 (b-a)|_=>.junk)
def ar6(a n:Int)(L:List Sp)(T:Option Int)(f:Nat->AV)(m:AM):Prop:=∃(i:Nat)(bx:T5),f 17=I i/\i<=L.length/\Gq a n (L.drop i)=T/\m=⟨bx,[],fun _=>.gone,0⟩
def Gu(l:List Sp)(a n:Int)(hl:l.length<=100000000)(ha:0<=a)(hn:1<=n/\n<=1000000)(hb:∀s∈l,s.1<=1000000000000/\s.2<=1000000000000):Pure Tryz.prog aD 228 [.sl .ro (l.map Qe),I a,I n] (Gs (lP l a n)):=by
 have YM:=Uo l hl;obtain⟨T,hT⟩:∃T,lP l a n=T:=⟨_,rfl⟩;rw[hT];rw[lP,if_neg zE]at hT;have hbL:=YN (P:=fun x=>x<=1000000000000) (l:=l) hb;have hLl:=Yu l;generalize Xk l=L at YM hT hbL hLl;have fB:¬n<=0:=zE
 refine Qp ado (Gt L) zd ?_;simp[UK,Gt,fB];refine⟨YM,?_⟩;refine Qi vK (ar6 a n L T) (fun f _=>L.length-(numOf (f 17)).toNat) ?_ ?_
 ·exact⟨0,[],zd,zE,Nm hT,rfl⟩
 rintro f m ⟨i,bx,h17,hi,hx,rfl⟩;rcases zzaa i L.length with ah|bq
 ·obtain⟨s,hs⟩:=aV ah;have ai:Qh (L.map Qe) i=Qe s:=Zw hs;have aa:(i:Int)<(L.length:Int):=zE
  have hw:=bO i zE;rw[Za hs,Gq]at hx;obtain⟨q,hq⟩:∃q,max s.1 a=q:=⟨_,rfl⟩;have hqm:(if s.1<a then a else s.1)=q:=zE
  have YO:Abs.Pure Tryz.prog aD 185 [.agg (Qe (q,s.2))] (.bool (decide (s.2<=q))):=nL (q,s.2);rw[hq]at hx;have hu:IntKind.u64.wrap n=n:=by simp[IntKind.wrap,IntKind.bits,IntKind.signed];omega
  by_cases c1:s.2<=q
  ·rw[if_neg zE]at hx;rw[decide_eq_true c1]at YO;simp[h17,ah,aa,ai,Qe,hqm,c1,vK,hw,Gt];refine⟨by simpa[Qe]using YO,aQ,⟨i+1,_,zd,zE,hx,rfl⟩,zE⟩
  have ar7:=aeI (q,s.2) (by simp only;omega) (by simp only;omega) (by
   have:=hbL s (zzad hs);simp only;omega)
  rw[decide_eq_false c1]at YO;by_cases c2:n<=s.2-q
  ·rw[if_pos zE]at hx;subst hx;simp[h17,ah,aa,ai,Qe,hqm,c1,c2,hu,vK,UL,Gt,Gs];exact⟨by simpa[Qe]using YO,by simpa[Qe]using ar7⟩
  rw[if_neg zE]at hx;simp[h17,ah,aa,ai,Qe,hqm,c1,c2,hu,vK,hw,Gt];refine⟨by simpa[Qe]using YO,by simpa[Qe]using ar7,aQ,⟨i+1,_,zd,zE,hx,rfl⟩,zE⟩
 have bQ:¬(i:Int)<(L.length:Int):=zE
 rw[zzal bq]at hx;have hx:none=T:=hx;subst hx;simp[h17,bQ,zzbk.2 bq,vK,UL,Gs]
def pf(k:Int×Int):List ((Int×Int)×List Sp)->Option (List Sp)
 |[]=>none
 |x::r=>if x.1=k then some x.2 else pf k r
def Gv(k:Int×Int):∀(l:List ((Int×Int)×List Sp))(i:Nat),(pf k l=none/\Xh [k.1,k.2] (SQ l) i=none)\/∃v n,pf k l=some v/\Xh [k.1,k.2] (SQ l) i=some (n,.sl .ro (v.map Qe))
 |[],i=>.inl ⟨rfl,rfl⟩
 |x::r,i=>by
  by_cases h:x.1=k
  ·exact .inr ⟨x.2,i,by rw[pf,if_pos h],by simp[SQ,Xh,h]⟩
  have hk:¬([k.1,k.2]:Pi)=[x.1.1,x.1.2]:=by
   intro e;simp only[List.cons.injEq,and_true]at e;exact h (Prod.ext e.1.symm e.2.symm)
  rcases Gv k r (i+1)with⟨h1,h2⟩|⟨v,n,h1,h2⟩
  ·refine .inl ⟨by rw[pf,if_neg h];exact h1,?_⟩;simp only[SQ,zzas,Xh];rw[if_neg hk];exact h2
  refine .inr ⟨v,n,by rw[pf,if_neg h];exact h1,?_⟩;simp only[SQ,zzas,Xh];rw[if_neg hk];exact h2
def YP(k q:Int×Int)(v:List Sp):∀(l:List ((Int×Int)×List Sp)),pf q (l++[(k,v)])=match pf q l with|some u=>some u|none=>if k=q then some v else none
 |[]=>rfl
 |x::r=>by
  rw[zzae,pf,YP k q v r,pf];by_cases h:x.1=q<;>simp[h]
def K3(b:Bd):Prop:=∀k v,pf k b.pm=some v->v=Xy b.p k.1 k.2
def pmN(b:Bd)(it n:Int):List ((Int×Int)×List Sp):=match pf (it,n) b.pm with
 |some _=>b.pm
 |none=>b.pm++[((it,n),Xy b.p it n)]
def alT{b:Bd}(h:K3 b)(it n:Int):K3 {b with pm:=pmN b it n}:=fun k v hk=>by
 simp only[pmN]at hk;cases hp:pf (it,n) b.pm with
 |some u=>rw[hp]at hk;exact h k v hk
 |none=>
  rw[hp]at hk;simp only[YP]at hk;cases hq:pf k b.pm with
  |some u=>rw[hq]at hk;cases hk;exact h k _ hq
  |none=>
   rw[hq]at hk;simp only at hk;split at hk
   ·rename_i e;cases hk;rw[<- e]
   cases hk
def K4{pre post:T5}{b:Bd}(pm:List ((Int×Int)×List Sp))(ls:Pa)(id:Nat)(cells:P2)(h:(aP pre {b with pm:=pm} post ls).boxes[id]?=some cells):(aP pre b post ls).boxes[id]?=some cells\/YQ cells:=by
 simp only[aP]at h |-
 rcases zzaa id pre.length with ah|bq
 ·rw[zzaj ah]at h |-
  exact .inl h
 rw[zzap bq]at h |-
 match hk:id-pre.length,h with
 |0,h=>exact .inl h
 |1,h=>exact .inl h
 |2,h=>exact .inl h
 |3,h=>exact .inl h
 |4,h=>exact .inl h
 |5,h=>exact .inl h
 |6,h=>exact .inl h
 |7,h=>exact .inl h
 |8,h=>
  refine .inr (.inr ⟨2,SQ pm,?_,?_⟩)
  ·simp[aW]at h;exact h.symm
  intro e he;obtain⟨x,_,rfl⟩:=zzav.1 he;exact Idle.ro _
 |9,h=>exact .inl h
 |k+10,h=>exact .inl h
def FrK(pre:T5)(b:Bd)(pm:List ((Int×Int)×List Sp))(post:T5)(ls:Pa)(K:So)(r:AV)(m:AM):Prop:=∃ex,m=aP pre {b with pm:=pm} (post++ex) ls/\Idle r/\K r (aP pre {b with pm:=pm} post ls)
def frK{pre:T5}{b:Bd}{pm:List ((Int×Int)×List Sp)}{post:T5}{ls:Pa}{K:So}{r:AV}{m:AM}(ex:T5)(h:m=aP pre {b with pm:=pm} (post++ex) ls)(hi:Idle r)(hK:K r (aP pre {b with pm:=pm} post ls)):FrK pre b pm post ls K r m:=⟨ex,h,hi,hK⟩
def Q3{f:FuncId}{xs:P2}{pre post:T5}{b:Bd}{pm:List ((Int×Int)×List Sp)}{ls:Pa}{Y:YT}{K:So}(h:aB Tryz.prog aD Y f xs (aP pre b post ls) (FrK pre b pm post ls K)):aB Tryz.prog aD Y f xs (aP pre b post ls) K:=by
 refine aB.forget (aB.mono h ?_);rintro r m' ⟨ex,rfl,h1,h2⟩;refine⟨aP pre {b with pm:=pm} post ls,ex,?_,?_,rfl,fun id cells hc=>K4 pm ls id cells hc,h1,h2⟩
 ·simp[aP,aW]
 simp[aP,aW]
def aiE(p:Pl)(it:Int):UV:=fun d f l=>if f=40 then(match l with|[_,_,_,.agg [.int _ a,.int _ c]]=>.sl .ro ((Vu p it 0 (a,c)).map Qe)|_=>.junk)else
 (match l with|[.sl _ a,.sl _ c]=>.sl .ro ((Xk (a.map rj++c.map rj)).map Qe)|_=>.junk)
def pM(l:List Sp):(l.map Qe).map rj=l:=by
 rw[zzcu]
 conv=>rhs;rw[<- List.map_id l]
 exact zzcr fun x _=>rfl
def Q4(pre post:T5)(ls:Pa)(b:Bd)(it n:Int)(hn:0<=n/\n<=1000)(hc:b.p.cls.length<=1000000)(fE:b.p.sh.length<=1000000000)(cT:b.p.aN.length<=1000000000)(hpm:K3 b)(Y:YT)(K:So)
  (hK:K (.sl .ro ((Xy b.p it n).map Qe)) (aP pre {b with pm:=pmN b it n} post ls)):
  aB Tryz.prog aD Y 229 [.ptr (pre.length+9) 0,.agg [I it,I n]] (aP pre b post ls) K:=by
 refine Q3 (pm:=pmN b it n) ?_;have w1:IntKind.i64.wrap (n*1000000)=n*1000000:=by rw[Ql]<;>omega
 have w2:IntKind.i64.wrap (n+1)=n+1:=by rw[Ql]<;>omega
 have w3:IntKind.i64.wrap ((n+1)*1000000)=(n+1)*1000000:=by rw[Ql]<;>omega
 have w4:IntKind.i64.wrap (n+2)=n+2:=by rw[Ql]<;>omega
 have w5:IntKind.i64.wrap ((n+2)*1000000)=(n+2)*1000000:=by rw[Ql]<;>omega
 have k1:=nJ b.p it 0 (n*1000000,(n+1)*1000000) hc fE cT (by simp only;omega) (by simp only;omega);have k2:=nJ b.p it 0 ((n+1)*1000000,(n+2)*1000000) hc fE cT (by simp only;omega) (by simp only;omega);have l1:=Qdb b.p it 0 (n*1000000,(n+1)*1000000);have l2:=Qdb b.p it 0 ((n+1)*1000000,(n+2)*1000000);have k3:=YL (Vu b.p it 0 (n*1000000,(n+1)*1000000)) (Vu b.p it 0 ((n+1)*1000000,(n+2)*1000000)) zE;have zL:Xy b.p it n=Xk (Vu b.p it 0 (n*1000000,(n+1)*1000000)++Vu b.p it 0 ((n+1)*1000000,(n+2)*1000000)):=rfl;rw[<- zL]at k3;obtain⟨R,hR⟩:∃R,Xy b.p it n=R:=⟨_,rfl⟩;refine Xl adp (aiE b.p it) zd ?_;rcases Gv (it,n) b.pm 0 with⟨h1,h2⟩|⟨v,j,h1,h2⟩
 ·have hp:pmN b it n=b.pm++[((it,n),Xy b.p it n)]:=by simp only[pmN,h1]
  have kJ:SQ (pmN b it n)=SQ b.pm++[([it,n],.sl .ro ((Xy b.p it n).map Qe))]:=by rw[hp];simp[SQ]
  simp[UM,UN,aP,aW,Qo,Qa,h2,w1,w2,w3,w4,w5,aiE,pM,<- zL];refine⟨by simpa[Qa]using k1,by simpa[Qa]using k2,k3,?_⟩;rw[<- kJ];exact frK [[I it,I n]] rfl (Idle.ro _) hK
 have hv:=hpm _ _ h1;have hp:pmN b it n=b.pm:=by simp only[pmN,h1]
 rw[hp]at hK |-
 rw[<- hv]at hK;simp[UM,UN,aP,aW,Qo,Qa,h2];exact frK [[I it,I n]] rfl (Idle.ro _) hK
def K5{p:Pl}{it n:Int}:∀s∈Xy p it n,s.1<=1000000000000/\s.2<=1000000000000:=fun s hs=>by
 have hv:=(Zx (Vu p it 0 (n*1000000,(n+1)*1000000)++Vu p it 0 ((n+1)*1000000,(n+2)*1000000))).1.1 s hs;have h1:Xr (Xy p it n) s.1:=⟨s,hs,zE,zE⟩;have h2:Xr (Xy p it n) (s.2-1):=⟨s,hs,zE,zE⟩;rw[Qch]at h1 h2;obtain⟨_,_,_,_,_,Pr,_⟩:=h1;obtain⟨_,_,_,_,_,QK,_⟩:=h2;omega
def Gw(p:Pl)(it n:Int):(Xy p it n).length<=2000000:=by
 have h:=Yu (Vu p it 0 (n*1000000,(n+1)*1000000)++Vu p it 0 ((n+1)*1000000,(n+2)*1000000));have l1:=Qdb p it 0 (n*1000000,(n+1)*1000000);have l2:=Qdb p it 0 ((n+1)*1000000,(n+2)*1000000);rw[zzak]at h;have:(Xy p it n).length<=_:=h;omega
def uU:UV:=fun _ f l=>if f=229 then .gd false .junk else(match l with|[.sl _ a,.int _ x,.int _ n]=>Gs (lP (a.map rj) x n)|_=>.junk)
def aeJ(pre:T5)(b:Bd)(post:T5)(ls:Pa)(e:En)(last from_:Int)(T:Option Int)(f:Nat->AV)(m:AM):Prop:=∃(n:Int)(pm:List ((Int×Int)×List Sp)),
 f 9=I n/\(0<=n/\n<=9223372036854)/\SP b.p e last from_ n=T/\K3 {b with pm:=pm}/\m=aP pre {b with pm:=pm} (post++[Qd e]) ls
def aeK{from_:Int}(h0:0<=from_)(h1:from_<=9223372036854775807):0<=from_.tdiv 1000000/\from_.tdiv 1000000<=9223372036854:=by
 rw[zzcl h0];omega
def Og(pre post:T5)(ls:Pa)(b:Bd)(e:En)(from_:Int)(hc:b.p.cls.length<=1000000)(fE:b.p.sh.length<=1000000000)(cT:b.p.aN.length<=1000000000)(dA:b.p.ln<=9223372036854775807)(zL:from_<=9223372036854775807)
  (hpm:K3 b)(Y:YT)(K:So)(hK:∀pm ex,K3 {b with pm:=pm}->K (Gs (Vr b.p e from_)) (aP pre {b with pm:=pm} (post++ex) ls)):
  aB Tryz.prog aD Y 172 [.ptr (pre.length+9) 0,.agg (Qd e),I from_] (aP pre b post ls) K:=by
 refine Xl acM uU zd ?_
 have no:Vr b.p e from_=none->K (.aS [I 0,.bool false]) (aP pre b (post++[Qd e]) ls):=fun h=>by
  have:=hK b.pm [Qd e] hpm;rw[h]at this;exact this
 by_cases c1:e.fr<1
 ·simp[Az,vG,aP,aW,Qo,Qa,Qd,c1];exact no (by rw[Vr,if_pos (.inl c1)])
 by_cases c2:1000000<e.fr
 ·simp[Az,vG,aP,aW,Qo,Qa,Qd,c1,c2];exact no (by rw[Vr,if_pos (.inr (.inl c2))])
 by_cases c3:b.p.ln<e.fr
 ·simp[Az,vG,aP,aW,Qo,Qa,Qd,c1,c2,c3];exact no (by rw[Vr,if_pos (.inr (.inr c3))])
 have hS:Vr b.p e from_=SP b.p e (mw b.p e) (max from_ 0) ((max from_ 0).tdiv 1000000):=by rw[Vr,if_neg zE]
 rw[hS]at hK;clear no;obtain⟨fm,hfm⟩:∃fm,max from_ 0=fm:=⟨_,rfl⟩;have axl:(if from_<0 then 0 else from_)=fm:=zE
 have hf0:0<=fm/\fm<=9223372036854775807:=zE
 obtain⟨d1,d2⟩:=aeK hf0.1 hf0.2;rw[hfm]at hK;have hwq:IntKind.i64.wrap (fm.tdiv 1000000)=fm.tdiv 1000000:=by rw[Ql]<;>omega
 have hwl:IntKind.i64.wrap (b.p.ln-e.fr)=b.p.ln-e.fr:=by rw[Ql]<;>omega
 obtain⟨q,hq⟩:∃q,fm.tdiv 1000000=q:=⟨_,rfl⟩;rw[hq]at hwq d1 d2 hK;obtain⟨la,hla⟩:∃la,mw b.p e=la:=⟨_,rfl⟩;have hlb:la<=100000000:=by rw[<- hla,mw];omega
 rw[hla]at hK;obtain⟨T,hT⟩:∃T,SP b.p e la fm q=T:=⟨_,rfl⟩;rw[hT]at hK;simp[Az,aP,aW,Qo,Qa,Qd,c1,c2,c3,hwl,axl,hq,hwq]
 have gR:Po false (Po false e.la (b.p.ln-e.fr)) 100000000=la:=by
  rw[<- hla,mw];simp only[Po];simp;omega
 rw[gR];refine Qi iU (aeJ pre b post ls e la fm T) (fun f _=>(la-numOf (f 9)*1000000+1000000).toNat) ?_ ?_
 ·exact⟨q,b.pm,zd,⟨d1,d2⟩,hT,hpm,by simp[aP,aW,Qo,Qa,Qd]⟩
 rintro f m ⟨n,pm,h9,hn,bY,hpm',rfl⟩;have IG:IntKind.i64.wrap (n*1000000)=n*1000000:=by rw[Ql]<;>omega
 have hwn:IntKind.i64.wrap (n+1)=n+1:=by rw[Ql]<;>omega
 rw[SP]at bY;by_cases c4:n*1000000<=la
 ·rw[if_pos c4]at bY;have Q5:=Gu (Xy b.p e.it n) fm e.fr (by have:=Gw b.p e.it n;omega) hf0.1 zE K5;obtain⟨R,hR⟩:∃R,Xy b.p e.it n=R:=⟨_,rfl⟩;have kf:=fun K'=>Q4 pre (post++[Qd e]) ls {b with pm:=pm} e.it n zE hc fE cT hpm' Y K';have hpn:=alT hpm' e.it n;obtain⟨Oh,axm⟩:∃Oh,pmN {b with pm:=pm} e.it n=Oh:=⟨_,rfl⟩;rw[axm]at kf hpn;simp only at kf;rw[hR]at bY Q5 kf;cases hes:lP R fm e.fr with
  |none=>
   rw[hes]at bY Q5;simp[h9,iU,IG,c4,aP,aW,Qo,Qa,Qd];refine Qbj [(.sl .ro (R.map Qe),aP pre {b with pm:=Oh} (post++[Qd e]) ls)] ?_;simp[h9,iU,IG,c4,aP,aW,Qo,Qa,Qd,uU,pM,hes,Gs,hwn];refine⟨kf _ ⟨rfl,rfl⟩,Q5,aQ,⟨n+1,Oh,zd,zE,bY,hpn,by simp[aP,aW,Qo,Qa,Qd]⟩,zE⟩
  |some s=>
   rw[hes]at bY Q5;simp only at bY;by_cases c5:la<s
   ·rw[if_pos c5]at bY;subst bY;have:=hK Oh [Qd e] hpn;simp[h9,iU,IG,c4,aP,aW,Qo,Qa,Qd];refine Qbj [(.sl .ro (R.map Qe),aP pre {b with pm:=Oh} (post++[Qd e]) ls)] ?_;simp[h9,iU,IG,c4,aP,aW,Qo,Qa,Qd,uU,pM,hes,Gs,c5,vG];refine⟨kf _ ⟨rfl,rfl⟩,Q5,?_⟩;simpa[aP,aW,Qo,Qa,Qd,Gs]using this
   rw[if_neg c5]at bY;subst bY;have:=hK Oh [Qd e] hpn;simp[h9,iU,IG,c4,aP,aW,Qo,Qa,Qd];refine Qbj [(.sl .ro (R.map Qe),aP pre {b with pm:=Oh} (post++[Qd e]) ls)] ?_;simp[h9,iU,IG,c4,aP,aW,Qo,Qa,Qd,uU,pM,hes,Gs,c5,vG];refine⟨kf _ ⟨rfl,rfl⟩,Q5,?_⟩;simpa[aP,aW,Qo,Qa,Qd,Gs]using this
 rw[if_neg c4]at bY;subst bY;have:=hK pm [Qd e] hpm';simp[h9,iU,IG,c4,vG];simpa[aP,aW,Qo,Qa,Qd,Gs]using this
def pN(n:Int)(us:List (Int×Int)):Prop:=∀k v,af k us=some v->0<=v/\v<=n
def pN.note{n:Int}{us:List (Int×Int)}(h:pN n us)(hn:0<=n)(it:Int):pN (n+1) (Vw us it):=fun k v hk=>by
 rw[Vw,Ug]at hk;split at hk
 ·cases hk;cases ha:af it us with
  |none=>simp;omega
  |some u=>have:=h it u ha;simp;omega
 have:=h k v hk;omega
def Qdg(p:Pl)(it:Int):(∃n y,Xj it p.aN=some y/\Xh [it] (bG rz (Aa p)) 0=some (n,rz y))\/(Xj it p.aN=none/\Xh [it] (bG rz (Aa p)) 0=none):=by
 rcases Xv rz it (Aa p) 0 with⟨h1,h2,_,_⟩|⟨u,n,h1,h2,_⟩
 ·rw[uR]at h1;exact .inr ⟨h1,h2⟩
 rw[uR]at h1;exact .inl ⟨_,u,h1,h2⟩
def xZ(us:List (Int×Int))(it:Int):(Xh [it] (bG iA us) 0=none/\bG iA us++[([it],.int .i64 1)]=bG iA (Vw us it))\/∃u n,af it us=some u/\Xh [it] (bG iA us) 0=some (n,.int .i64 u)/\(bG iA us).set n ([it],.int .i64 (u+1))=bG iA (Vw us it):=by
 rcases Xv iA it us 0 with⟨h1,h2,_,h4⟩|⟨u,n,h1,h2,_,_,_,h4⟩
 ·exact .inl ⟨h2,by rw[Vw,h1];exact h4 1⟩
 exact .inr ⟨u,n,h1,by rw[h2,zzbs],by rw[Vw,h1];exact h4 (u+1)⟩
def Qed(p:Pl)(en:List (Int×Int))(it e:Int){y:It}(hy:Xj it p.aN=some y):(Xh [y.sp] (bG iA en) 0=none/\bG iA en++[([y.sp],.int .i64 (if 0<e then e else 0))]=bG iA (Zm p en it e))\/∃u n,af y.sp en=some u/\Xh [y.sp] (bG iA en) 0=some (n,.int .i64 u)/\(bG iA en).set n ([y.sp],.int .i64 (if u<e then e else u))=bG iA (Zm p en it e):=by
 rcases Xv iA y.sp en 0 with⟨h1,h2,_,h4⟩|⟨u,n,h1,h2,_,_,_,h4⟩
 ·refine .inl ⟨h2,?_⟩;have:(if 0<e then e else 0)=max 0 e:=zE
  simp only[Zm,hy,h1,this];exact h4 _
 refine .inr ⟨u,n,h1,by rw[h2,zzbs],?_⟩;have:(if u<e then e else u)=max u e:=zE
 simp only[Zm,hy,h1,this];exact h4 _
def YR(pre p0 bx:T5)(ls:Pa)(b:Bd)(us en:List (Int×Int))(it e:Int)(hu:pN 1000000000 us)(Y:YT)(K:So)(hK:∀ex,K (.aS []) (aP pre b (p0++([.aJ 0 (bG iA (Vw us it))]::[.aJ 0 (bG iA (Zm b.p en it e))]::(bx++ex))) ls)):
  aB Tryz.prog aD Y 168 [.ptr (pre.length+9) 0,.mp (pre.length+(p0.length+10)),.mp (pre.length+(p0.length+11)),I it,I e] (aP pre b (p0++([.aJ 0 (bG iA us)]::[.aJ 0 (bG iA en)]::bx)) ls) K:=by
 refine Xl M0 (fun _ _ _=>.junk) zd ?_;have w1:IntKind.i64.wrap 1=1:=by decide
 rcases xZ us it with⟨u2,u4⟩|⟨u,n,u1,u2,u4⟩
 ·rcases Qdg b.p it with⟨ni,y,hy,hi⟩|⟨hy,hi⟩
  ·rcases Qed b.p en it e hy with⟨e2,e4⟩|⟨v,nv,e1,e2,e4⟩
   ·simp[fG,fH,aP,aW,Qo,Qa,hi,rz,Qm,u2,e2,w1];rw[u4,e4];simpa[aP,aW,Qo,Qa,Qm]using hK [Qm y]
   simp[fG,fH,aP,aW,Qo,Qa,hi,rz,Qm,u2,e2,w1];rw[u4,e4];simpa[aP,aW,Qo,Qa,Qm]using hK [Qm y]
  have he:Zm b.p en it e=en:=by simp only[Zm,hy]
  rw[he]at hK;simp[fG,fH,aP,aW,Qo,Qa,hi,u2,w1];rw[u4];simpa[aP,aW,Qo,Qa]using hK [[I 0,I 0,I 0,I 0,I 0]]
 have hb:=hu it u u1;have wu:IntKind.i64.wrap (u+1)=u+1:=by rw[Ql]<;>omega
 rcases Qdg b.p it with⟨ni,y,hy,hi⟩|⟨hy,hi⟩
 ·rcases Qed b.p en it e hy with⟨e2,e4⟩|⟨v,nv,e1,e2,e4⟩
  ·simp[fG,fH,aP,aW,Qo,Qa,hi,rz,Qm,u2,e2,wu];rw[u4,e4];simpa[aP,aW,Qo,Qa,Qm]using hK [Qm y]
  simp[fG,fH,aP,aW,Qo,Qa,hi,rz,Qm,u2,e2,wu];rw[u4,e4];simpa[aP,aW,Qo,Qa,Qm]using hK [Qm y]
 have he:Zm b.p en it e=en:=by simp only[Zm,hy]
 rw[he]at hK;simp[fG,fH,aP,aW,Qo,Qa,hi,u2,wu];rw[u4];simpa[aP,aW,Qo,Qa]using hK [[I 0,I 0,I 0,I 0,I 0]]
def aeL(pre post:T5)(ls:Pa)(b:Bd)(us en:List (Int×Int))(it e:Int)(hu:pN 1000000000 us)(Y:YT)(K:So)(hK:∀ex,K (.aS []) (aP pre {b with us:=Vw us it,en:=Zm b.p en it e} (post++ex) ls)):
  aB Tryz.prog aD Y 168 [.ptr (pre.length+9) 0,.mp (pre.length+4),.mp (pre.length+5),I it,I e] (aP pre {b with us:=us,en:=en} post ls) K:=by
 refine Xl M0 (fun _ _ _=>.junk) zd ?_;have w1:IntKind.i64.wrap 1=1:=by decide
 rcases xZ us it with⟨u2,u4⟩|⟨u,n,u1,u2,u4⟩
 ·rcases Qdg b.p it with⟨ni,y,hy,hi⟩|⟨hy,hi⟩
  ·rcases Qed b.p en it e hy with⟨e2,e4⟩|⟨v,nv,e1,e2,e4⟩
   ·simp[fG,fH,aP,aW,Qo,Qa,hi,rz,Qm,u2,e2,w1];rw[u4,e4];simpa[aP,aW,Qo,Qa,Qm]using hK [Qm y]
   simp[fG,fH,aP,aW,Qo,Qa,hi,rz,Qm,u2,e2,w1];rw[u4,e4];simpa[aP,aW,Qo,Qa,Qm]using hK [Qm y]
  have he:Zm b.p en it e=en:=by simp only[Zm,hy]
  rw[he]at hK;simp[fG,fH,aP,aW,Qo,Qa,hi,u2,w1];rw[u4];simpa[aP,aW,Qo,Qa]using hK [[I 0,I 0,I 0,I 0,I 0]]
 have hb:=hu it u u1;have wu:IntKind.i64.wrap (u+1)=u+1:=by rw[Ql]<;>omega
 rcases Qdg b.p it with⟨ni,y,hy,hi⟩|⟨hy,hi⟩
 ·rcases Qed b.p en it e hy with⟨e2,e4⟩|⟨v,nv,e1,e2,e4⟩
  ·simp[fG,fH,aP,aW,Qo,Qa,hi,rz,Qm,u2,e2,wu];rw[u4,e4];simpa[aP,aW,Qo,Qa,Qm]using hK [Qm y]
  simp[fG,fH,aP,aW,Qo,Qa,hi,rz,Qm,u2,e2,wu];rw[u4,e4];simpa[aP,aW,Qo,Qa,Qm]using hK [Qm y]
 have he:Zm b.p en it e=en:=by simp only[Zm,hy]
 rw[he]at hK;simp[fG,fH,aP,aW,Qo,Qa,hi,u2,wu];rw[u4];simpa[aP,aW,Qo,Qa]using hK [[I 0,I 0,I 0,I 0,I 0]]
def axn(of:Int)(sh:List Sp)(x fr to:Int):Bool:=
 if Yg of sh=false\/x<0\/10000000000<x\/fr<0\/86400<=fr\/to<0\/86400<=to then false else
 if fr<to then decide (fr<=(x+xS of sh x)%86400)&&decide ((x+xS of sh x)%86400<to)else decide (fr<=(x+xS of sh x)%86400)||decide ((x+xS of sh x)%86400<to)
def axo(s r:Int):Bool:=if 0<=r/\r<8 then decide ((s/2 ^ r.toNat)%2=1)else false
def ar8(c:Cl)(k item region:Int):Bool:=decide (c.ki=k)&&(Zc c&&(decide (c.it=item)&&axo c.re region))
def hasB(l:List Sp)(x:Int):Bool:=l.any fun s=>decide (s.1<=x)&&decide (x<s.2)
def aiF(a:Int):P2:=[I a]
def alU:Pi->Int->Pi
 |[],x=>[x]
 |a::r,x=>if a<x then a::alU r x else if a=x then a::r else x::a::r
def alV(item region:Int)(c:Cl):Bool:=ar8 c 1 item region||ar8 c 2 item region
def edS(C:List Cl):Pi:=C.foldl (fun e c=>alU (alU e c.fr) c.to) []
def alW(C:List Cl)(Ed:Pi):Nat->List Sp
 |0=>[]
 |j+1=>if grX C (Ed.getD j 0)=true then nH (alW C Ed j) (Ed.getD j 0) (Ed.getD (j+1) 0)else alW C Ed j
def axp(cs:List Cl)(item region:Int):List Sp:=alW (cs.filter (alV item region)) (edS (cs.filter (alV item region))) ((edS (cs.filter (alV item region))).length-1)
def ar9:P2->Int
 |[.int _ a]=>a
 |_=>0
@[simp] def aeM(l:Pi):(l.map aiF).map ar9=l:=by
 induction l with
 |nil=>rfl
 |cons a l ih=>simp only[zzas,ih];rfl
@[simp] def asa(l:Pi):l.map (ar9 ∘ aiF)=l:=by rw[<- zzcu];exact aeM l
def asb(p:Pl)(item region f:Int):Bool:=match Xj item p.aN with
 |none=>false
 |some it=>if region<0\/8<=region\/f<0\/100000000<f then false else if it.ki=5 then true else if Kj p=false then false else
  hasB (axp p.cls item region) (p.ep+Yk p.nu p.de f)&&(uM p.cls it.ra).all fun w=>axn p.of p.sh (p.ep+Yk p.nu p.de f) w.1 w.2
def aza(p:Pl)(last f:Int):Int:=if Kj p=true then min last (xD p.nu p.de (Yk p.nu p.de f+1))else last
def azb(p:Pl)(item region first f:Int)(L:List Sp):Prop:=VS L/\(∀s∈L,s.2<=f)/\(∀x,Xr L x<->first<=x/\x<f/\asb p item region x=true)/\(L.length:Int)<=f-first
