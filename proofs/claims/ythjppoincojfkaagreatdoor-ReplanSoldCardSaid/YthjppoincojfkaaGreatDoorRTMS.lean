import Derived.Test.YthjppoincojfkaaGreatDoorRTMM
import Derived.Test.YthjppoincojfkaaGreatDoorRTMQ
set_option linter.all false
set_option maxRecDepth 100000
set_option maxHeartbeats 64000000
namespace Go.Proofs.YthjppoincojfkaaGreatDoor
open Go Go.Abs
def Q8(x:Int)(c:Cl):Bool:=decide (c.fr<=x/\x<c.to)
def grX(C:List Cl)(x:Int):Bool:=match C.reverse.find? (Q8 x)with
 |some c=>decide (c.ki=1)
 |none=>false
def find_congr{α:Type}{p q:α->Bool}:∀{l:List α},(∀a∈l,p a=q a)->l.find? p=l.find? q
 |[],_=>rfl
 |a::l,h=>by
  have h1:=h a zd;have ih:=find_congr (l:=l) fun b hb=>h b (by simp[hb]);rw[zzfk,zzfk,h1,ih]
def Zw{x:Int}:∀{l:Pi}{j:Nat}{v:Int},l.Pairwise (·<·)->l[j]?=some v->(j<qR l x<->v<x)
 |[],j,v,_,h=>by simp at h
 |a::r,j,v,hp,h=>by
  obtain⟨h1,h2⟩:=zzcg.1 hp
  have e:qR (a::r) x=qR r x+if a<x then 1 else 0:=by
   unfold qR;rw[zzdp];by_cases ha:a<x<;>simp[ha]
  have hz:¬a<x->qR r x=0:=by
   intro ha;unfold qR;rw[zzcd,zzfs];intro y hy;have:=h1 y hy;simp;omega
  rw[e];cases j with
  |zero=>
   simp at h;subst h;by_cases ha:a<x
   ·simp[ha]
   simp[ha,hz ha]
  |succ j=>
   simp at h;have hav:=h1 v (zzad h);have ih:=Zw (x:=x) h2 h;by_cases ha:a<x
   ·simp only[ha,if_true];omega
   have:=hz ha;simp only[ha,if_false];omega
def Gf(Bd:Pi)(j:Nat)(c:Cl):Bool:=decide (qR Bd c.fr<=j/\j<qR Bd c.to)
def Gg(Bd:Pi)(j:Nat):∀(R:List Cl)(s:GS),(R.foldl (QO Bd) s)[j]?=(s[j]?).map fun o=>match o with
  |some v=>some v
  |none=>(R.find? (Gf Bd j)).map fun c=>decide (c.ki=1)
 |[],s=>by
  cases h:s[j]? with
  |none=>simp[h]
  |some o=>cases o<;>simp[h]
 |c::R,s=>by
  rw[zzda,Gg Bd j R,QO,Ux,zzfk];cases h:s[j]? with
  |none=>simp
  |some o=>
   cases o with
   |some v=>simp
   |none=>
    by_cases hc:qR Bd c.fr<=j/\j<qR Bd c.to
    ·simp[Gf,hc]
    simp[Gf,hc]
def Gh(Bd:Pi)(s:GS)(x:Int):∀n,Xu (nj Bd s n) x<->∃j,j<n/\s[j]?=some (some true)/\Bd.getD j 0<=x/\x<Bd.getD (j+1) 0
 |0=>by simp[nj]
 |n+1=>by
  rw[qT,Yu,Gh Bd s x n];unfold CY;constructor
  ·rintro(⟨j,h1,h2⟩|h)
   ·exact⟨j,zE,h2⟩
   split at h
   ·rename_i hs;rw[Xf]at h;obtain h|h:=h
    ·exact⟨n,zE,hs,h⟩
    simp at h
   simp at h
  rintro⟨j,h1,h2,h3⟩;rcases zzaa j n with h|h
  ·exact .inl ⟨j,h,h2,h3⟩
  obtain rfl:j=n:=zE
  right;rw[ac h2,Xf];exact .inl h3
def uJ{l:Pi}{j:Nat}{v:Int}(h:l[j]?=some v):l.getD j 0=v:=by
 simp[zzaw,h]
def asn(C:List Cl)(hC:∀c∈C,c.fr<c.to)(x:Int):Xu (nj (dD C) (wO C) (dD C).length) x<->grX C x=true:=by
 have nr:=NX C;have dJ:∀c∈C,c.fr∈dD C/\c.to∈dD C:=fun c hc=>⟨(uB _ _).2 (oU hc).1,(uB _ _).2 (oU hc).2⟩
 have FQ:∀j,j<(dD C).length->(wO C)[j]?=some ((C.reverse.find? (Gf (dD C) j)).map fun c=>decide (c.ki=1)):=by
  intro j hj;rw[wO,Gg];have:(List.replicate (dD C).length (none:Option Bool))[j]?=some none:=by simp[hj]
  rw[this];rfl
 have key:∀(j:Nat)(u w:Int),(dD C)[j]?=some u->(dD C)[j+1]?=some w->u<=x->x<w->∀c∈C.reverse,Gf (dD C) j c=Q8 x c:=by
  intro j u w hu hw h1 h2 c hc;have uh:=zzft.1 hc;have a1:=Zw (x:=c.fr) nr hu;have a2:=Zw (x:=c.fr) nr hw;have a3:=Zw (x:=c.to) nr hu;have a4:=Zw (x:=c.to) nr hw;obtain⟨m1,m2⟩:=dJ c uh
  have gap:∀y∈dD C,y<=u\/w<=y:=by
   intro y hy;obtain⟨k,hk⟩:=zzfy hy;rcases zzaa j k with h|h
   ·right;have q1:=Zw (x:=w) nr hk;have q2:=Zw (x:=w) nr hw;omega
   left;have q1:=Zw (x:=y) nr hk;have q2:=Zw (x:=y) nr hu;omega
  have g1:=gap _ m1;have g2:=gap _ m2;unfold Gf Q8;apply decide_eq_decide.2;omega
 have YI:∀(j:Nat)(u w:Int),(dD C)[j]?=some u->(dD C)[j+1]?=some w->u<=x->x<w->((wO C)[j]?=some (some true)<->grX C x=true):=by
  intro j u w hu hw h1 h2;rw[FQ j (zza.1 hu).1,find_congr (key j u w hu hw h1 h2),grX];cases C.reverse.find? (Q8 x)<;>simp
 rw[Gh];constructor
 ·rintro⟨j,hj,hs,h1,h2⟩;have dz:=hs;rw[FQ j hj]at hs;cases hf:C.reverse.find? (Gf (dD C) j)with
  |none=>rw[hf]at hs;simp at hs
  |some c=>
   have hc:=zzft.1 (zzdg hf);have hi:=zzfl hf;simp only[Gf,am]at hi;have hl:=KC (dJ c hc).2;have dX:j+1<(dD C).length:=zE
   obtain⟨u,hu⟩:∃u,(dD C)[j]?=some u:=⟨_,zzaf hj⟩;obtain⟨w,hw⟩:∃w,(dD C)[j+1]?=some w:=⟨_,zzaf dX⟩;rw[uJ hu]at h1;rw[uJ hw]at h2;exact(YI j u w hu hw h1 h2).1 dz
 intro hg;have hg':=hg;rw[grX]at hg;cases hf:C.reverse.find? (Q8 x)with
 |none=>rw[hf]at hg;simp at hg
 |some c=>
  have hc:=zzft.1 (zzdg hf);have hi:=zzfl hf;simp only[Q8,am]at hi;obtain⟨m1,m2⟩:=dJ c hc;obtain⟨k1,dK⟩:=zzfy m1;obtain⟨k2,eE⟩:=zzfy m2;have a1:=(Zw (x:=x+1) nr dK).2 zE;have a2:=Zw (x:=x+1) nr eE;have l2:=(zza.1 eE).1;obtain⟨j,hj⟩:∃j,qR (dD C) (x+1)=j+1:=⟨qR (dD C) (x+1)-1,zE⟩;have dX:j+1<(dD C).length:=zE
  obtain⟨u,hu⟩:∃u,(dD C)[j]?=some u:=⟨_,zzaf zE⟩;obtain⟨w,hw⟩:∃w,(dD C)[j+1]?=some w:=⟨_,zzaf dX⟩;have b1:=Zw (x:=x+1) nr hu;have b2:=Zw (x:=x+1) nr hw;exact⟨j,zE,(YI j u w hu hw zE zE).2 hg',by rw[uJ hu];omega,by rw[uJ hw];omega⟩
def aeJ{cs:List Cl}{item region:Int}:∀c∈Wj cs item region,c.fr<c.to:=by
 intro c hc;simp only[Wj,zzbp,FL,Zd,Ww,zzac,am]at hc;obtain⟨_,h1,_,_,h2⟩:=hc;rw[ac h1]at h2;simp at h2;omega
def KS(cs:List Cl)(item region x:Int):Xu (Qck cs item region) x<->grX (Wj cs item region) x=true:=by
 rw[Qck,(Va _).2,asn _ aeJ]
def NE(L:List Sp):Prop:=∀s∈L,s.1<s.2
def aeK{L:List Sp}{f t:Int}(h:NE L):NE (nx L f t)/\∀x,Xu (nx L f t) x<->Xu L x\/(f<=x/\x<t):=by
 unfold nx;split
 ·rename_i Ej;cases hl:L.getLast? with
  |none=>
   have:L=[]:=by simpa using hl
   subst this;refine⟨by intro s hs;simp at hs;subst hs;exact Ej,fun x=>zd⟩
  |some s=>
   obtain⟨D,rfl⟩:∃D,L=D++[s]:=by
    have aO:L≠[]:=by rintro rfl;simp at hl
    refine⟨L.dropLast,?_⟩;have h1:=zzfb aO;rw[List.getLast?_eq_some_getLast aO]at hl;cases hl;exact h1.symm
   have hs:=h s zd;simp only;split
   ·rename_i e;simp only[zzfz];refine⟨?_,fun x=>?_⟩
    ·intro u hu;rw[zzaj]at hu;obtain hu|hu:=hu
     ·exact h u (by simp[hu])
     simp at hu;subst hu;simp only;omega
    simp only[Yu,Xf,Yq,or_false,or_assoc];constructor
    ·rintro(h|h)
     ·exact .inl h
     by_cases x<s.2
     ·exact .inr (.inl zE)
     exact .inr (.inr zE)
    rintro(h|h|h)
    ·exact .inl h
    ·exact .inr zE
    exact .inr zE
   refine⟨?_,fun x=>by simp[or_assoc]⟩;intro u hu;rw[zzaj]at hu;obtain hu|hu:=hu
   ·exact h u hu
   simp at hu;subst hu;exact Ej
 refine⟨h,fun x=>?_⟩;constructor
 ·exact .inl
 rintro(h|h)
 ·exact h
 omega
def inW(W:List Sp)(n:Int):Prop:=∃w∈W,w.1<=n/\n<w.2
def N7(sf st mid:Int):∀{W L:List Sp},NE L->NE (oW sf st mid W L)/\∀x,Xu (oW sf st mid W L) x<->Xu L x\/(sf<=x/\x<st/\inW W (x-mid))
 |[],L,h=>⟨h,fun x=>by simp[oW,inW]⟩
 |w::W,L,h=>by
  obtain⟨a1,a2⟩:=aeK (f:=max sf (mid+w.1)) (t:=min st (mid+w.2)) h;obtain⟨b1,b2⟩:=N7 sf st mid (W:=W) a1;refine⟨b1,fun x=>?_⟩;rw[oW,b2,a2];simp only[inW,zzao,exists_eq_or_imp];constructor
  ·rintro((h|h)|⟨h1,h2,h3⟩)
   ·exact .inl h
   ·exact .inr ⟨zE,zE,.inl zE⟩
   exact .inr ⟨h1,h2,.inr h3⟩
  rintro(h|⟨h1,h2,h3|h3⟩)
  ·exact .inl (.inl h)
  ·exact .inl (.inr zE)
  exact .inr ⟨h1,h2,h3⟩
def aeL(W:List Sp):Prop:=∀w∈W,0<=w.1/\w.2<=86400
def aeM{W:List Sp}(hW:aeL W)(sf st o:Int):∀(n:Nat)(d:Int){L:List Sp},(st-(d*86400-o)).toNat<=n->NE L->NE (ny W sf st (d*86400-o) L)/\
  ∀x,Xu (ny W sf st (d*86400-o) L) x<->Xu L x\/(sf<=x/\x<st/\d<=(x+o)/86400/\inW W ((x+o)%86400)):=by
 intro n;induction n with
 |zero=>
  intro d L h hL;rw[ny,ab zE];refine⟨hL,fun x=>⟨.inl,?_⟩⟩;rintro(h|⟨h1,h2,h3,h4⟩)
  ·exact h
  omega
 |succ n ih=>
  intro d L h hL;rw[ny];split
  ·rename_i hm;obtain⟨a1,a2⟩:=N7 sf st (d*86400-o) (W:=W) hL;have e:d*86400-o+86400=(d+1)*86400-o:=zE
   rw[e];obtain⟨b1,b2⟩:=ih (d+1) zE a1;refine⟨b1,fun x=>?_⟩;rw[b2,a2];constructor
   ·rintro((h|⟨h1,h2,w,hw,h3,h4⟩)|⟨h1,h2,h3,h4⟩)
    ·exact .inl h
    ·have:=hW w hw;have hd:(x+o)/86400=d:=zE
     exact .inr ⟨h1,h2,zE,w,hw,zE,zE⟩
    exact .inr ⟨h1,h2,zE,h4⟩
   rintro(h|⟨h1,h2,h3,h4⟩)
   ·exact .inl (.inl h)
   by_cases hd:(x+o)/86400=d
   ·obtain⟨w,hw,h5,h6⟩:=h4;exact .inl (.inr ⟨h1,h2,w,hw,zE,zE⟩)
   exact .inr ⟨h1,h2,zE,h4⟩
  rename_i hm;refine⟨hL,fun x=>⟨.inl,?_⟩⟩;rintro(h|⟨h1,h2,h3,h4⟩)
  ·exact h
  omega
def al7{s:Sp}{W:List Sp}(hW:aeL W)(y:Int×Int×Int){L:List Sp}(hL:NE L):NE (stL s W y L)/\
  ∀x,Xu (stL s W y L) x<->Xu L x\/(y.1<=x/\x<y.2.1/\s.1<=x/\x<s.2/\inW W ((x+y.2.2)%86400)):=by
 unfold stL;split
 ·refine⟨hL,fun x=>⟨.inl,?_⟩⟩;rintro(h|⟨h1,h2,h3,h4,_⟩)
  ·exact h
  omega
 obtain⟨a1,a2⟩:=aeM hW (max y.1 s.1) (min y.2.1 s.2) y.2.2 _ ((max y.1 s.1+y.2.2)/86400) (zzab _) hL;refine⟨a1,fun x=>?_⟩;rw[a2];constructor
 ·rintro(h|⟨h1,h2,h3,h4⟩)
  ·exact .inl h
  exact .inr ⟨zE,zE,zE,zE,h4⟩
 rintro(h|⟨h1,h2,h3,h4,h5⟩)
 ·exact .inl h
 exact .inr ⟨zE,zE,zE,h5⟩
def N8{s:Sp}{W:List Sp}(hW:aeL W):∀{xs:List (Int×Int×Int)}{L:List Sp},xs.Pairwise (fun a b=>a.1<=b.1)->NE L->∀x,Xu (tL s W xs L) x<->Xu L x\/(s.1<=x/\x<s.2/\∃y∈xs,y.1<=x/\x<y.2.1/\inW W ((x+y.2.2)%86400))
 |[],L,_,hL,x=>by simp[tL]
 |y::r,L,hp,hL,x=>by
  obtain⟨p1,p2⟩:=zzcg.1 hp;rw[tL];split
  ·rename_i hb;constructor
   ·exact .inl
   rintro(h|⟨h1,h2,z,hz,h3,h4,_⟩)
   ·exact h
   rcases zzao.1 hz with rfl|hz
   ·omega
   have:=p1 z hz;omega
  obtain⟨a1,a2⟩:=al7 (s:=s) hW y hL;rw[N8 hW p2 a1,a2];simp only[zzao,exists_eq_or_imp];constructor
  ·rintro((h|⟨h1,h2,h3,h4,h5⟩)|⟨h1,h2,h3⟩)
   ·exact .inl h
   ·exact .inr ⟨h3,h4,.inl ⟨h1,h2,h5⟩⟩
   exact .inr ⟨h1,h2,.inr h3⟩
  rintro(h|⟨h1,h2,⟨h3,h4,h5⟩|h3⟩)
  ·exact .inl (.inl h)
  ·exact .inl (.inr ⟨h3,h4,h1,h2,h5⟩)
  exact .inr ⟨h1,h2,h3⟩
def xJ(of:Int)(sh:List Sp)(x:Int):Int:=sh.foldl (fun n s=>if s.1<=x then s.2 else n) of
def Gi:∀{sh:List Sp}{last:Int},tM last sh=true->sh.Pairwise (fun a b=>a.1<b.1)/\∀s∈sh,last<s.1/\s.1<=10000000000/\gO s.2=true
 |[],_,_=>⟨.nil,fun _ h=>by cases h⟩
 |a::r,last,h=>by
  rw[tM]at h;split at h
  ·cases h
  rename_i hn;simp only[not_or,zzgr]at hn;obtain⟨h1,h2⟩:=Gi h;refine⟨zzcg.2 ⟨fun b hb=>(h2 b hb).1,h1⟩,?_⟩;intro s hs;rcases zzao.1 hs with rfl|hs
  ·exact⟨zE,zE,hn.2.2⟩
  have:=h2 s hs;exact⟨zE,this.2⟩
def Bf{x:Int}:∀{sh:List Sp}(o:Int),(∀s∈sh,x<s.1)->xJ o sh x=o
 |[],o,_=>rfl
 |a::r,o,h=>by
  have:=h a zd;rw[xJ,zzda,ab zE];exact Bf o fun s hs=>h s (by simp[hs])
def Gj{P:Int->Prop}:∀{sh:List Sp}{f o:Int},(∀s∈sh,f<=s.1/\s.1<=10000000000)->sh.Pairwise (fun a b=>a.1<b.1)->f<=10000000000->∀x,(∃y∈uC f o sh,y.1<=x/\x<y.2.1/\P y.2.2)<->f<=x/\x<=10000000000/\P (xJ o sh x)
 |[],f,o,_,_,hf,x=>by
  simp only[uC,zzbx,exists_eq_left,xJ,List.foldl_nil];constructor
  ·rintro⟨h1,h2,h3⟩;exact⟨h1,zE,h3⟩
  rintro⟨h1,h2,h3⟩;exact⟨h1,zE,h3⟩
 |s::r,f,o,hb,hp,hf,x=>by
  obtain⟨p1,p2⟩:=zzcg.1 hp;have hs:=hb s zd;have ih:=Gj (P:=P) (o:=s.2) (f:=s.1) (sh:=r) (fun t ht=>⟨by have:=p1 t ht;omega,(hb t (by simp[ht])).2⟩) p2 hs.2 x
  have e:(∃y∈uC f o (s::r),y.1<=x/\x<y.2.1/\P y.2.2)<->(f<=x/\x<s.1/\P o)\/∃y∈uC s.1 s.2 r,y.1<=x/\x<y.2.1/\P y.2.2:=by
   rw[uC];simp only[zzaj,or_and_right,exists_or];refine or_congr ?_ Iff.rfl;split
   ·simp
   simp;intro h1 h2;omega
  have eo:xJ o (s::r) x=xJ (if s.1<=x then s.2 else o) r x:=rfl;rw[e,ih,eo];by_cases hx:s.1<=x
  ·rw[ac hx];constructor
   ·rintro(⟨h1,h2,h3⟩|⟨h1,h2,h3⟩)
    ·omega
    exact⟨zE,h2,h3⟩
   rintro⟨h1,h2,h3⟩;exact .inr ⟨hx,h2,h3⟩
  rw[ab hx];have hn:=Bf (x:=x) (sh:=r) o fun t ht=>by have:=p1 t ht;omega
  rw[hn];constructor
  ·rintro(⟨h1,h2,h3⟩|⟨h1,h2,h3⟩)
   ·exact⟨h1,zE,h3⟩
   omega
  rintro⟨h1,h2,h3⟩;exact .inl ⟨h1,zE,h3⟩
def Gk:∀{sh:List Sp}{f o:Int},(∀s∈sh,f<=s.1)->sh.Pairwise (fun a b=>a.1<b.1)->(uC f o sh).Pairwise (fun a b=>a.1<=b.1)/\∀y∈uC f o sh,f<=y.1
 |[],f,o,_,_=>by simp[uC]
 |s::r,f,o,hb,hp=>by
  obtain⟨p1,p2⟩:=zzcg.1 hp;have hs:=hb s zd;obtain⟨i1,i2⟩:=Gk (f:=s.1) (o:=s.2) (sh:=r) (fun t ht=>by have:=p1 t ht;omega) p2;rw[uC];refine⟨?_,?_⟩
  ·rw[List.pairwise_append];refine⟨by split<;>simp,i1,?_⟩;intro a ha b cK;have:=i2 b cK;split at ha
   ·simp at ha;subst ha;simp only;omega
   simp at ha
  intro y hy;rw[zzaj]at hy;obtain hy|hy:=hy
  ·split at hy
   ·simp at hy;subst hy;exact zzbd _
   simp at hy
  have:=i2 y hy;omega
def N9(of:Int)(sh:List Sp)(x fr to:Int):Prop:=0<=x/\x<=10000000000/\inW (zM fr to) ((x+xJ of sh x)%86400)
def YJ{of:Int}{sh:List Sp}{s:Sp}{fr to:Int}(h:xb of sh s fr to=true)(x:Int):Xu (iq of sh s fr to) x<->s.1<=x/\x<s.2/\N9 of sh x fr to:=by
 rw[iq,ac h];simp only[xb,Yj,zN,zzac,am]at h;obtain⟨⟨⟨⟨⟨_,_⟩,ha⟩,h1⟩,h2⟩,_⟩:=h;obtain⟨a1,a2⟩:=Gi ha;have hW:aeL (zM fr to):=fun w hw=>by have:=(uF h1 h2).2 w hw;omega
 rw[N8 hW (Gk (fun t ht=>by have:=a2 t ht;omega) a1).1 (fun _ h=>by cases h)];rw[Gj (P:=fun o=>inW (zM fr to) ((x+o)%86400)) (fun t ht=>by have:=a2 t ht;omega) a1 zE];simp only[Yq,false_or,N9]
def Oa(p:Pl)(it:It)(region x:Int):Prop:=it.ki=5\/(Kj p=true/\grX (Wj p.cls it.id region) (p.ep+Yn p.nu p.de x)=true/\∀w∈uG p.cls it.ra,N9 p.of p.sh (p.ep+Yn p.nu p.de x) w.1 w.2)
def II(p:Pl)(id region x:Int):Prop:=∃it,Xk id p.aM=some it/\(0<=region/\region<8)/\(0<=x/\x<=100000000)/\Oa p it region x
def Gl:∀(Xs:List (List Sp))(a:List Sp)(y:Int),Xu (Xs.foldl zQ a) y<->Xu a y/\∀l∈Xs,Xu l y
 |[],a,y=>zd
 |l::Xs,a,y=>by
  rw[zzda,Gl Xs,(ko a l).2];simp only[zzao,forall_eq_or_imp,and_assoc]
def Dd{nu de s f:Int}(hv:Vh nu de=true)(hs:0<=s/\s<=10000000000)(hf:0<=f/\f<=100000000):xh nu de s<=f<->s<=Yn nu de f:=by
 obtain⟨b1,b2,b3,b4,b5⟩:=Jw hv;rw[xh,ac ⟨hv,hs.1,hs.2⟩,Yn,ac ⟨hv,hf.1,hf.2⟩];have q0:0<=s*nu:=zzej hs.1 zE;have q1:0<=f*de:=zzej hf.1 zE;rw[zzcj zE,zzcj q1]
 have e1:(s*nu+de-1)/de<=f<->s*nu<=f*de:=by
  rw[<- Int.lt_add_one_iff,Int.ediv_lt_iff_lt_mul zE];have:(f+1)*de=f*de+de:=by rw[Int.add_mul];omega
  omega
 rw[e1,Int.le_ediv_iff_mul_le zE]
def KT{p:Pl}{U:List Sp}(hv:Vh p.nu p.de=true)(hU:∀w∈U,(0<=w.1-p.ep/\w.1-p.ep<=10000000000)/\(0<=w.2-p.ep/\w.2-p.ep<=10000000000)){f:Int}(hf:0<=f/\f<=100000000):
  Xu (U.map (uH p)) f<->Xu U (p.ep+Yn p.nu p.de f):=by
 unfold Xu;simp only[zzan];constructor
 ·rintro⟨_,⟨w,hw,rfl⟩,h1,h2⟩;obtain⟨u1,u2⟩:=hU w hw;have a1:=Dd hv u1 hf;have a2:=Dd hv u2 hf;simp only[uH]at h1 h2;exact⟨w,hw,zE,zE⟩
 rintro⟨w,hw,h1,h2⟩;obtain⟨u1,u2⟩:=hU w hw;have a1:=Dd hv u1 hf;have a2:=Dd hv u2 hf;exact⟨_,⟨w,hw,rfl⟩,by simp only[uH];omega,by simp only[uH];omega⟩
def YK{cs:List Cl}{ra:Int}:∀w∈uG cs ra,zN w.1=true/\zN w.2=true:=by
 intro w hw;simp only[uG,zzan,zzbp,Gm,zzac,am,Zd]at hw;obtain⟨c,⟨_,h1,_,_,h2⟩,rfl⟩:=hw;rw[Ww]at h2;simp only[h1]at h2;simp[Kn,wi]at h2;simp only[zN,am];omega
def aeN(s:Sp):0<=(QV s).1/\(QV s).2<=100000001/\∀x,((QV s).1<=x/\x<(QV s).2)<->(s.1<=x/\x<s.2/\0<=x/\x<=100000000):=by
 simp only[QV];refine⟨zE,zE,fun x=>?_⟩;omega
def kJ(p:Pl)(id region:Int)(s:Sp)(hs:s.2-s.1<=1000000)(x:Int):Xu (Vt p id region s) x<->s.1<=x/\x<s.2/\II p id region x:=by
 obtain⟨c0,c1,cx⟩:=aeN s;have cl:(QV s).2-(QV s).1<=1000000:=by simp only[QV];omega
 unfold Vt II;generalize QV s=c at*
 cases hf:Xk id p.aM with
 |none=>simp
 |some it=>
  simp only[Option.some.injEq,exists_eq_left'];split
  ·rename_i hb;simp only[Yq,false_iff];rintro⟨h1,h2,h3,h4,_⟩;have:=(cx x).2 ⟨h1,h2,h4⟩;omega
  rename_i hb;simp only[not_or]at hb;split
  ·rename_i hk;simp only[Xf,Yq,or_false,Oa,hk,true_or,and_true];rw[cx x];constructor
   ·rintro⟨h1,h2,h3,h4⟩;exact⟨h1,h2,zE,h3,h4⟩
   rintro⟨h1,h2,h3,h4⟩;exact⟨h1,h2,h4⟩
  rename_i hk;split
  ·rename_i ht;simp[Oa,hk,ht]
  rename_i ht;have X4:Kj p=true:=by simpa using ht
  have hte:Vh p.nu p.de=true/\Yj p.of p.sh=true/\0<=p.ep/\p.ep<=9000000000:=by
   simp only[Kj,zzac,am]at X4;exact⟨X4.1.1,X4.1.2,X4.2⟩
  obtain⟨hv,hz,he⟩:=hte;rw[(ko _ _).2];obtain⟨u,hu⟩:∃u,uS p c=u:=⟨_,rfl⟩;have hu1:u.1=p.ep+Yn p.nu p.de c.1:=by rw[<- hu];rfl
  have JM:u.2=p.ep+Yn p.nu p.de (c.2-1)+1:=by rw[<- hu];rfl
  rw[hu];have hd:=ku (f:=c.1) (g:=c.2-1) hv zE zE zE;have hs1:=oZ p.nu p.de c.1;have QF:=oZ p.nu p.de (c.2-1)
  have Ee:0<=Yn p.nu p.de c.1:=by
   rw[Yn,ac ⟨hv,zE,zE⟩];exact Int.tdiv_nonneg (zzej zE (by have:=Jw hv;omega)) (by have:=Jw hv;omega)
  have cU:ir p it region u (lz p it region u).length=(lz p it region u).foldl zQ [u]:=by simp[ir]
  have bP:SJ u.1 u.2 (ir p it region u (lz p it region u).length):=by
   rw[cU];exact C7 _ _ (by intro w hw;simp at hw;subst hw;omega)
  by_cases hx:c.1<=x/\x<c.2
  ·have jY:=(cx x).1 hx;have m1:=ku (f:=c.1) (g:=x) hv zE zE zE;have m2:=ku (f:=x) (g:=c.2-1) hv zE zE zE;rw[KT hv (fun w hw=>by have:=bP w hw;omega) ⟨zE,zE⟩,cU,Gl];simp only[Xf,Yq,or_false,Oa,hk,false_or,X4,true_and]
   have hl:(∀l∈lz p it region u,Xu l (p.ep+Yn p.nu p.de x))<->(grX (Wj p.cls it.id region) (p.ep+Yn p.nu p.de x)=true/\∀w∈uG p.cls it.ra,N9 p.of p.sh (p.ep+Yn p.nu p.de x) w.1 w.2):=by
    unfold lz;simp only[zzao,forall_eq_or_imp,zzan,forall_exists_index,and_imp,forall_apply_eq_imp_iff₂];rw[KS];refine and_congr Iff.rfl (forall_congr' fun w=>forall_congr' fun hw=>?_);obtain⟨d1,d2⟩:=YK w hw;rw[YJ (by simp only[xb,hz,d1,d2,zzgn,zzdy,am];omega)];constructor
    ·rintro⟨_,_,h⟩;exact h
    intro h;exact⟨zE,zE,h⟩
   rw[hl];constructor
   ·rintro⟨⟨_,h⟩,_⟩;exact⟨jY.1,jY.2.1,zE,jY.2.2,h⟩
   rintro⟨_,_,_,_,h⟩;exact⟨⟨zE,h⟩,hx⟩
  simp only[Xf,Yq,or_false];constructor
  ·rintro⟨_,h⟩;exact absurd h hx
  rintro⟨h1,h2,_,h4,_⟩;exact absurd ((cx x).2 ⟨h1,h2,h4⟩) hx
def xK(p:Pl)(id region f n:Int):Xv p id region f n=true<->(1<=n/\n<=1000000/\0<=f/\f+n-1<=100000000)/\∀x,f<=x->x<f+n->II p id region x:=by
 unfold Xv;split
 ·rename_i hb;simp only[zzbi,false_iff];rintro⟨⟨h1,h2,h3,h4⟩,_⟩;obtain h|h|h|h:=hb
  ·omega
  ·omega
  ·simp[X6]at h;omega
  simp[X6]at h;omega
 rename_i hb;simp only[not_or,zzgr,X6,am]at hb;obtain⟨b1,b2,b3,b4⟩:=hb;rw[List.isEmpty_iff,KU (by simp only;omega)];constructor
 ·intro h;refine⟨zE,fun x h1 h2=>?_⟩;exact((kJ p id region (f,f+n) (by simp only;omega) x).1 (h x h1 h2)).2.2
 rintro⟨_,h⟩ x h1 h2;exact(kJ p id region (f,f+n) (by simp only;omega) x).2 ⟨h1,h2,h x h1 h2⟩
section
variable {α:Type}
def af(k:Int):List (Int×α)->Option α
 |[]=>none
 |x::r=>if x.1=k then some x.2 else af k r
def Vj(k:Int)(v:α):List (Int×α)->List (Int×α)
 |[]=>[(k,v)]
 |x::r=>if x.1=k then(k,v)::r else x::Vj k v r
def bG(row:α->AV)(l:List (Int×α)):List (Pi×AV):=l.map fun x=>([x.1],row x.2)
@[simp] theorem avt(row:α->AV):bG row []=[]:=rfl
@[simp] def avu(row:α->AV)(l:List (Int×α)):(bG row l).length=l.length:=by simp[bG]
def Xx(row:α->AV)(k:Int):∀(l:List (Int×α))(i:Nat),
  (af k l=none/\Xh [k] (bG row l) i=none/\(∀v,Vj k v l=l++[(k,v)])/\∀v,bG row l++[([k],row v)]=bG row (Vj k v l))\/
  ∃u n,af k l=some u/\Xh [k] (bG row l) i=some (i+n,row u)/\n<l.length/\(bG row l).getD n ([],.junk)=([k],row u)/\(∀v,(Vj k v l).length=l.length)/\∀v,(bG row l).set n ([k],row v)=bG row (Vj k v l)
 |[],i=>.inl ⟨rfl,rfl,fun _=>rfl,fun _=>rfl⟩
 |x::r,i=>by
  by_cases h:x.1=k
  ·refine .inr ⟨x.2,0,by rw[af,ac h],by simp[bG,Xh,h],zd,by simp[bG,h],fun v=>by rw[Vj,ac h];rfl,fun v=>by rw[Vj,ac h];simp[bG]⟩
  have hk:¬([k]:Pi)=[x.1]:=by intro e;cases e;exact h rfl
  rcases Xx row k r (i+1)with⟨h1,h2,h3,h4⟩|⟨u,n,h1,h2,h3,h4,h5,h6⟩
  ·refine .inl ⟨by rw[af,ab h];exact h1,?_,fun v=>by rw[Vj,ab h,h3];rfl,fun v=>?_⟩
   ·simp only[bG,zzar,Xh];rw[ab hk];exact h2
   rw[Vj,ab h];simp only[bG,zzar,zzae];exact congrArg _ (h4 v)
  refine .inr ⟨u,n+1,by rw[af,ab h];exact h1,?_,by simp;omega,by simpa[bG]using h4,fun v=>by rw[Vj,ab h];simp[h5 v],fun v=>?_⟩
  ·simp only[bG,zzar,Xh];rw[ab hk,zzfn n 1,<- zzap];exact h2
  rw[Vj,ab h];simp only[bG,zzar,zzec];exact congrArg _ (h6 v)
def Ul(k q:Int)(v:α):∀l:List (Int×α),af q (Vj k v l)=if q=k then some v else af q l
 |[]=>by
  by_cases h:q=k
  ·subst h;simp[Vj,af]
  have:¬k=q:=fun e=>h e.symm;simp[Vj,af,h,this]
 |x::r=>by
  have ih:=Ul k q v r;by_cases h:x.1=k
  ·rw[Vj,ac h];by_cases hq:q=k
   ·subst hq;simp[af]
   have:¬k=q:=fun e=>hq e.symm;have hx:¬x.1=q:=zE
   simp[af,hq,this,hx]
  rw[Vj,ab h,af,ih,af];by_cases hx:x.1=q
  ·have:¬q=k:=zE
   simp[hx,this]
  rw[ab hx];by_cases hq:q=k<;>simp[hq,hx]
def Gn(k:Int)(v:α):∀l:List (Int×α),(Vj k v l).length<=l.length+1
 |[]=>by simp[Vj]
 |x::r=>by
  rw[Vj];split
  ·simp
  have:=Gn k v r;simp only[zzbf];omega
def azl(l:List (Int×α)):Prop:=(l.map (·.1)).Nodup
end
def Gp:List En->Nat->List (Int×Int)->List (Int×Int)
 |[],_,a=>a
 |e::r,i,a=>Gp r (i+1) (match af e.id a with|some _=>a|none=>Vj e.id (i:Int) a)
def KV:List It->List (Int×It)->List (Int×It)
 |[],a=>a
 |x::r,a=>KV r (match af x.id a with|some _=>a|none=>Vj x.id x a)
def zU:List It->List (Int×It)->List (Int×Int)->List (Int×Int)
 |[],_,s=>s
 |x::r,a,s=>(match af x.id a with
  |some _=>zU r a s
  |none=>zU r (Vj x.id x a) (if 1<=x.sp/\x.sp<=200 then Vj x.sp x.id s else s))
def De(p:Pl):List (Int×Int):=Gp p.ens 0 []
def zV(p:Pl):List (Int×It):=KV p.aM []
def Ua(p:Pl):List (Int×Int):=zU p.aM [] []
def Wy(id:Int):List En->Nat->Option Nat
 |[],_=>none
 |e::r,i=>if e.id=id then some i else Wy id r (i+1)
def Ob(id:Int):∀(l:List En)(i:Nat)(a:List (Int×Int)),af id (Gp l i a)=match af id a with|some v=>some v|none=>(Wy id l i).map fun n=>(n:Int)
 |[],i,a=>by simp only[Gp,Wy];cases af id a<;>rfl
 |e::r,i,a=>by
  rw[Gp,Ob id r,Wy];cases h:af e.id a with
  |some v=>
   simp only;cases h':af id a with
   |some u=>rfl
   |none=>
    have:¬e.id=id:=by rintro rfl;rw[h]at h';cases h'
    simp[this]
  |none=>
   simp only;rw[Ul];by_cases e1:id=e.id
   ·subst e1;simp[h]
   have e2:¬e.id=id:=fun h=>e1 h.symm;simp[e1,e2]
def uK(p:Pl)(id:Int):af id (De p)=(Wy id p.ens 0).map fun n=>(n:Int):=by rw[De,Ob];rfl
def Oc(id:Int):∀(l:List It)(a:List (Int×It)),af id (KV l a)=match af id a with|some v=>some v|none=>Xk id l
 |[],a=>by simp only[KV,Xk];cases af id a<;>rfl
 |e::r,a=>by
  rw[KV,Oc id r,Xk];cases h:af e.id a with
  |some v=>
   simp only;cases h':af id a with
   |some u=>rfl
   |none=>
    have:¬e.id=id:=by rintro rfl;rw[h]at h';cases h'
    simp[this]
  |none=>
   simp only;rw[Ul];by_cases e1:id=e.id
   ·subst e1;simp[h]
   have e2:¬e.id=id:=fun h=>e1 h.symm;simp[e1,e2]
def uL(p:Pl)(id:Int):af id (zV p)=Xk id p.aM:=by rw[zV,Oc];rfl
structure Ad where
 it:Int
 re:Int
 fr:Int
 fs:Int
def Vl(a:Ad):P2:=[I a.it,I a.re,I a.fr,I a.fs]
def nC(a:Ad):Bool:=decide (a.re=0/\0<=a.fr/\a.fr<=100000000/\1<=a.fs/\a.fs<=100000000)
def Zx(u:List (Int×Int))(it:Int):List (Int×Int):=Vj it ((af it u).getD 0+1) u
def Xz(p:Pl)(en:List (Int×Int))(it e:Int):List (Int×Int):=match Xk it p.aM with
 |some x=>Vj x.sp (max ((af x.sp en).getD 0) e) en
 |none=>en
def Wt:List Ad->List (Int×Int)->List (Int×Int)
 |[],u=>u
 |a::r,u=>Wt r (if nC a then Zx u a.it else u)
def Wu(p:Pl):List Ad->List (Int×Int)->List (Int×Int)
 |[],u=>u
 |a::r,u=>Wu p r (if nC a then Xz p u a.it (a.fr+a.fs)else u)
def Oe(ki it rg:Int):List Cl->Int->Int
 |[],n=>n
 |c::r,n=>Oe ki it rg r (if c.ki=ki/\gN c it rg=true/\Zd c=true then c.n else n)
def Jf(p:Pl)(it:Int):Int:=match Xk it p.aM with
 |some x=>if x.ki=5 then -1 else Oe 3 it 0 p.cls (-1)
 |none=>Oe 3 it 0 p.cls (-1)
def pq(a b:Int):List Cl->Int->Int
 |[],g=>g
 |c::r,g=>pq a b r (if c.ki=5/\(c.a=a/\c.b=b\/c.a=b/\c.b=a)/\Zd c=true then max g c.n else g)
def Kh(p:Pl)(a b:Int):Int:=match Xk a p.aM,Xk b p.aM with
 |some x,some y=>if x.sp=0\/Vh p.nu p.de=false\/y.sp=0\/x.sp=y.sp then 0 else xh p.nu p.de (pq x.sp y.sp p.cls 0)
 |_,_=>0
def Gq(at_ n:Int):List Sp->Option Int
 |[]=>none
 |s::r=>if max s.1 at_<s.2/\n<=s.2-max s.1 at_ then some (max s.1 at_)else Gq at_ n r
def lB(l:List Sp)(at_ n:Int):Option Int:=if n<=0 then some at_ else Gq at_ n (Xm l)
def Za(p:Pl)(it n:Int):List Sp:=Xm (Vt p it 0 (n*1000000,(n+1)*1000000)++Vt p it 0 ((n+1)*1000000,(n+2)*1000000))
def SP(p:Pl)(e:En)(last from_ n:Int):Option Int:=
 if n*1000000<=last then
  match lB (Za p e.it n) from_ e.fr with
  |none=>SP p e last from_ (n+1)
  |some s=>if last<s then none else some s
 else none
termination_by(last-n*1000000+1000000).toNat
decreasing_by omega
def lW(p:Pl)(e:En):Int:=min (min e.la (p.ln-e.fr)) 100000000
def Vm(p:Pl)(e:En)(from_:Int):Option Int:=
 if e.fr<1\/1000000<e.fr\/p.ln<e.fr then none else SP p e (lW p e) (max from_ 0) ((max from_ 0).tdiv 1000000)
def Ub(p:Pl)(it:Int):List Sp:=match Xk it p.aM with
 |none=>[]
 |some y=>match af y.sp (Ua p)with
  |none=>[]
  |some _=>(Ua p).filterMap fun x=>if 0<Kh p x.2 it then some (x.1,Kh p x.2 it)else none
def Vr(en:List (Int×Int)):List Sp->Int->Int
 |[],f=>f
 |r::l,f=>Vr en l (match af r.1 en with|some e=>max f (e+r.2)|none=>f)
def Yt(p:Pl):Pi->List (Int×Int)->List (Int×Int)->Int->Int->Option (List Sp)
 |[],_,_,_,_=>some []
 |id::r,us,en,free,last=>match Wy id p.ens 0 with
  |none=>none
  |some k=>if(k:Int)<=last then none else match p.ens[k]? with
   |none=>none
   |some e=>if Jf p e.it≠ -1/\Jf p e.it<=(af e.it us).getD 0 then none else
    match Vm p e (Vr en (Ub p e.it) (max e.ea free))with
    |none=>none
    |some s=>match Yt p r (Zx us e.it) (Xz p en e.it (s+e.fr)) (s+e.fr) k with
     |none=>none
     |some l=>some ((id,s)::l)
def Ye(p:Pl)(at_:Int)(past:List Ad)(ids:Pi):Option (List Sp):=Yt p ids (Wt past []) (Wu p past []) at_ (-1)
def Df{at_ n:Int}:∀{l:List Sp}{s:Int},Gq at_ n l=some s->∃a∈l,max a.1 at_=s/\s<a.2/\n<=a.2-s
 |a::r,s,h=>by
  rw[Gq]at h;split at h
  ·rename_i hc;cases h;exact⟨a,zd,rfl,hc.1,hc.2⟩
  obtain⟨b,hb,h1⟩:=Df h;exact⟨b,by simp[hb],h1⟩
def Qcb(p:Pl)(it n x:Int):Xu (Za p it n) x<->n*1000000<=x/\x<(n+2)*1000000/\II p it 0 x:=by
 rw[Za,(Va _).2,Yu,kJ _ _ _ _ (by simp only;omega),kJ _ _ _ _ (by simp only;omega)];simp only;constructor
 ·rintro(⟨h1,h2,h3⟩|⟨h1,h2,h3⟩)<;>exact⟨zE,zE,h3⟩
 rintro⟨h1,h2,h3⟩;by_cases h:x<(n+1)*1000000
 ·exact .inl ⟨h1,h,h3⟩
 exact .inr ⟨zE,h2,h3⟩
def aeO{p:Pl}{it n at_ m s:Int}(hm:1<=m)(h:lB (Za p it n) at_ m=some s):at_<=s/\∀x,s<=x->x<s+m->II p it 0 x:=by
 rw[lB,ab zE]at h;obtain⟨a,ha,h1,h2,h3⟩:=Df h;refine⟨zE,fun x hx N2=>?_⟩;have:Xu (Xm (Za p it n)) x:=⟨a,ha,zE,zE⟩;rw[(Va _).2,Qcb]at this;exact this.2.2
def YL{p:Pl}{e:En}{last from_ n s:Int}(he:1<=e.fr)(h:SP p e last from_ n=some s):from_<=s/\s<=last/\∀x,s<=x->x<s+e.fr->II p e.it 0 x:=by
 unfold SP at h;split at h
 ·rename_i hc;cases hs:lB (Za p e.it n) from_ e.fr with
  |none=>rw[hs]at h;exact YL he h
  |some t=>
   rw[hs]at h;simp only at h;split at h
   ·cases h
   rename_i hl;cases h;obtain⟨h1,h2⟩:=aeO he hs;exact⟨h1,zE,h2⟩
 cases h
termination_by(last-n*1000000+1000000).toNat
decreasing_by omega
def Uh{p:Pl}{e:En}{from_ s:Int}(h:Vm p e from_=some s):(1<=e.fr/\e.fr<=1000000)/\from_<=s/\0<=s/\s<=e.la/\s+e.fr<=p.ln/\s<=100000000/\∀x,s<=x->x<s+e.fr->II p e.it 0 x:=by
 rw[Vm]at h;split at h
 ·cases h
 rename_i hc;obtain⟨h1,h2,h3⟩:=YL zE h;simp only[lW]at h2;exact⟨zE,zE,zE,zE,zE,zE,h3⟩
def pz(en:List (Int×Int)):∀(l:List Sp)(f:Int),f<=Vr en l f
 |[],f=>zzbd _
 |r::l,f=>by
  rw[Vr];refine zzem ?_ (pz en l _);split<;>omega
def xL(en:List (Int×Int)){l l':List Sp}(h:l.Perm l'):∀f,Vr en l f=Vr en l' f:=by
 induction h with
 |nil=>exact fun _=>rfl
 |cons x _ ih=>intro f;simp only[Vr,ih]
 |swap x y l=>
  intro f;simp only[Vr];congr 1;cases af x.1 en<;>cases af y.1 en<;>simp only<;>omega
 |trans _ _ ih1 ih2=>exact fun f=>(ih1 f).trans (ih2 f)
def Qdb{id:Int}:∀{l:List En}{i k:Nat},Wy id l i=some k->i<=k/\∃e,l[k-i]?=some e/\e.id=id/\Xn id l=some e
 |[],i,k,h=>by cases h
 |e::r,i,k,h=>by
  rw[Wy]at h;split at h
  ·rename_i hc;cases h;exact⟨zzab _,e,zd,hc,by simp[Xn,hc]⟩
  rename_i hc;obtain⟨h1,x,h2,h3,h4⟩:=Qdb h;refine⟨zE,x,?_,h3,by simp[Xn,hc,h4]⟩;obtain⟨d,hd⟩:∃d,k-i=d+1:=⟨k-i-1,zE⟩;rw[hd,zzcl,<- h2];congr 1;omega
def Q9(ki it rg:Int)(c:Cl):Bool:=decide (c.ki=ki)&&(gN c it rg&&Zd c)
def Bg(ki it rg:Int)(c:Cl):∀(l:List Cl)(n:Int),Oe ki it rg (l++[c]) n=if Q9 ki it rg c=true then c.n else Oe ki it rg l n
 |[],n=>by simp[Oe,Q9]
 |d::l,n=>by rw[zzae,Oe,Bg ki it rg c l,Oe]
def Bh(cs:List Cl)(ki it rg:Int):UV:=fun _ f l=>
 if f=193 then .fn 234 [] [.ep [.sl .ro (cs.map Qg)] 0]else if f=191 then(match l with
  |[.agg [.int _ a,.int _ b,.int _ c,.int _ d,.int _ e,.int _ f,.int _ g,.int _ h],_,_]=>.bool (gN ⟨a,b,c,d,e,f,g,h⟩ it rg)
  |_=>.junk)else(match l with
  |[.agg [.int _ a,.int _ b,.int _ c,.int _ d,.int _ e,.int _ f,.int _ g,.int _ h]]=>.bool (Zd ⟨a,b,c,d,e,f,g,h⟩)
  |_=>.junk)
def aeP(cs:List Cl)(ki it rg no:Int)(hl:cs.length<=1000000000):Pure Tryz.prog aD 265 [.sl .ro (cs.map Qg),I ki,I it,I rg,I no] (I (Oe ki it rg cs no)):=by
 have alR:=lS cs;have cR:=lT cs hl;obtain⟨T,hT⟩:∃T,Oe ki it rg cs no=T:=⟨_,rfl⟩;rw[hT];refine Qp ad0 (Bh cs ki it rg) zd ?_;simp[aiA,Bh];refine⟨alR,?_⟩;refine je (xs:=QN cs cs.length) zd cR FO (fun i m=>i<=cs.length/\Oe ki it rg (cs.take (cs.length-i)) no=T/\∃bx,m.boxes=[I ki]::[I it]::[I rg]::[I 0]::bx) (fun ex m=>ex=.ret/\∃bx,m.boxes=[I ki]::[I it]::[I rg]::[I T]::bx) ?_ ?_ ?_ ?_ ?_ ?_
 ·exact⟨zE,Nm hT,[],zd⟩
 ·rintro i m m' ⟨h1,h2,bx,h3⟩ ⟨⟨b2,e1⟩,_,_⟩;exact⟨h1,h2,bx++b2,by rw[e1,h3];rfl⟩
 ·rintro ex m m' ⟨h1,bx,h3⟩ ⟨⟨b2,e1⟩,_,_⟩;exact⟨h1,bx++b2,by rw[e1,h3];rfl⟩
 ·rintro l i m x hg hr ⟨h1,h2,bx,hb⟩ hx K' k1 k2 _;obtain⟨k,c,hc,hk,rfl⟩:=wU cs cs.length i x (zzab _) hx;rw[Jp]at hb
  have bz:cs.take (cs.length-i)=cs.take (cs.length-(i+1))++[c]:=by
   rw[show cs.length-i=k+1 by omega,show cs.length-(i+1)=k by omega,zzay,hc];rfl
  rw[bz,Bg]at h2;have c1:=lU c it rg;have c2:=Kv c;by_cases e1:c.ki=ki
  ·subst e1;cases e2:gN c it rg with
   |false=>
    rw[e2]at c1;rw[ab (by simp[Q9,e2])]at h2;simp[hr,Zt,hb,Qg,Bh,e2];refine⟨by simpa[Qg]using c1,k1 _ ⟨zE,h2,bx++[Qg c],?_⟩⟩;simp[Qg]
   |true=>
    rw[e2]at c1;cases e3:Zd c with
    |false=>
     rw[e3]at c2;rw[ab (by simp[Q9,e3])]at h2;simp[hr,Zt,hb,Qg,Bh,e2,e3];refine⟨by simpa[Qg]using c1,by simpa[Qg]using c2,k1 _ ⟨zE,h2,bx++[Qg c],?_⟩⟩;simp[Qg]
    |true=>
     rw[e3]at c2;rw[ac (by simp[Q9,e2,e3])]at h2;simp[hr,Zt,hb,Qg,Bh,e2,e3];refine⟨by simpa[Qg]using c1,by simpa[Qg]using c2,k2 _ ⟨rfl,bx++[Qg c],?_⟩⟩;simp[Qg,h2]
  rw[ab (by simp[Q9,e1])]at h2;simp[hr,Zt,hb,Qg,Bh,e1];refine k1 _ ⟨zE,h2,bx++[Qg c],?_⟩;simp[Qg]
 ·rintro m ⟨h1,h2,bx,hb⟩;rw[FN,zzg,zzhh]at h2;have h2:no=T:=h2;simp[hb,UY,h2]
 rintro ex m ⟨rfl,bx,hb⟩;simp[hb,UY]
def aeQ(p:Pl)(it:Int)(hc:p.cls.length<=1000000000)(cR:p.aM.length<=1000000000):Pure Tryz.prog aD 226 [.agg (Qa p),I it,I 0] (I (Jf p it)):=by
 have sH:=kz p it cR;have axw:=aeP p.cls 3 it 0 (-1) hc
 have aso:Pure Tryz.prog aD 249 [.sl .ro (p.cls.map Qg),I it,I 0] (I (Oe 3 it 0 p.cls (-1))):=by
  refine Qp adU (fun _ _ _=>I (Oe 3 it 0 p.cls (-1))) zd ?_;simp[aiq,ais];exact axw
 refine Qp adG (fun _ f _=>if f=80 then Zr (Xk it p.aM)else I (Oe 3 it 0 p.cls (-1))) zd ?_;cases hf:Xk it p.aM with
 |none=>
  rw[hf]at sH;simp[Nl,Nn,Qa,hf,Zr,Jf];exact⟨by simpa[Qa,Zr]using sH,aso⟩
 |some x=>
  rw[hf]at sH;by_cases h5:x.ki=5
  ·simp[Nl,Nn,Qa,hf,Zr,Qm,Jf,h5];simpa[Qa,Zr,Qm,h5]using sH
  simp[Nl,Nn,Qa,hf,Zr,Qm,Jf,h5];exact⟨by simpa[Qa,Zr,Qm]using sH,aso⟩
def KW(a b:Int)(c:Cl):Bool:=(decide (c.a=a)&&decide (c.b=b))||(decide (c.a=b)&&decide (c.b=a))
def YM(a b:Int)(c:Cl):Bool:=decide (c.ki=5)&&(KW a b c&&Zd c)
def Bi(a b:Int)(c:Cl)(r:List Cl)(g:Int):pq a b (c::r) g=pq a b r (if YM a b c=true then max g c.n else g):=by
 rw[pq];congr 1;by_cases h:c.ki=5/\(c.a=a/\c.b=b\/c.a=b/\c.b=a)/\Zd c=true
 ·rw[ac h,ac (by simp[YM,KW,h.1,h.2.2];exact h.2.1)]
 rw[ab h,ab (by intro h';apply h;simp[YM,KW]at h';exact⟨h'.1,h'.2.1,h'.2.2⟩)]
def Gr{c:Cl}(h:Zd c=true)(h5:c.ki=5):0<=c.n/\c.n<=86400:=by
 unfold Zd at h;simp only[zzac]at h;have h2:=h.2;unfold Ww at h2;simp[h5,wi]at h2;omega
def Of(a b:Int):∀(l:List Cl)(g:Int),0<=g/\g<=86400->0<=pq a b l g/\pq a b l g<=86400
 |[],g,h=>h
 |c::r,g,h=>by
  rw[Bi];apply Of a b r;split
  ·rename_i hh;simp[YM]at hh;have:=Gr hh.2.2 hh.1;omega
  exact h
def axx(a b T:Int)(cs:List Cl)(f:Nat->AV)(m:AM):Prop:=∃(i:Nat)(g:Int)(bx:T5),f 13=I i/\f 7=I g/\i<=cs.length/\pq a b (cs.drop i) g=T/\m=⟨bx,[],fun _=>.gone,0⟩
def al8(cs:List Cl)(a b:Int)(hl:cs.length<=1000000000):Pure Tryz.prog aD 250 [.sl .ro (cs.map Qg),I a,I b] (I (pq a b cs 0)):=by
 obtain⟨T,hT⟩:∃T,pq a b cs 0=T:=⟨_,rfl⟩;rw[hT];refine Qp adV Bb zd ?_;simp[UX];refine Qj vC (axx a b T cs) (fun f _=>cs.length-(numOf (f 13)).toNat) ?_ ?_
 ·exact⟨0,0,_,zd,zd,zE,Nm hT,rfl⟩
 rintro f m ⟨i,g,bx,eS,h7,hi,hx,rfl⟩;rcases zzaa i cs.length with ah|bu
 ·obtain⟨c,hc⟩:=aV ah;have ai:Qi (cs.map Qg) i=Qg c:=Qw (by simp[hc]);have aa:(i:Int)<(cs.length:Int):=zE
  have hw:=bO i zE;have k:=Kv c;rw[Zc hc,Bi]at hx;have axy:∀E,fL vC E E:=fun E=>Qb _ _;obtain⟨v0,h0⟩:∃v,(c.ki==5)=v:=⟨_,rfl⟩;obtain⟨v1,h1⟩:∃v,(c.a==a)=v:=⟨_,rfl⟩;obtain⟨v2,h2⟩:∃v,(c.b==b)=v:=⟨_,rfl⟩;obtain⟨v3,h3⟩:∃v,(c.a==b)=v:=⟨_,rfl⟩;obtain⟨v4,h4⟩:∃v,(c.b==a)=v:=⟨_,rfl⟩
  have hh:YM a b c=(v0&&(((v1&&v2)||(v3&&v4))&&Zd c)):=by
   rw[<- h0,<- h1,<- h2,<- h3,<- h4];rfl
  obtain⟨v5,h5⟩:∃v,Zd c=v:=⟨_,rfl⟩;have hk5:v5=true->v0=true->0<=c.n/\c.n<=86400:=fun e e'=>Gr (h5.trans e) (by rw[e']at h0;simpa using h0);rw[hh,h5]at hx;rw[h5]at k;have k':Abs.Pure Tryz.prog aD 48 [.agg [I c.ki,I c.it,I c.fr,I c.to,I c.re,I c.n,I c.a,I c.b]] (.bool v5):=k;clear hh k;cases v0
  ·cases v1<;>cases v2<;>cases v3<;>cases v4<;>simp only[Bool.false_and,zzbi,if_false]at hx
   all_goals
    simp[eS,h7,ah,aa,ai,Qg,Bb,h0,h1,h2,h3,h4,vC,hw];refine⟨aQ,⟨i+1,g,_,zd,by simp[h7],zE,hx,rfl⟩,zE⟩
  cases v1<;>cases v2<;>cases v3<;>cases v4<;>cases v5<;>simp only[zzgn,zzhi,zzdy,Bool.false_and,Bool.or_true,Bool.or_false,Bool.true_or,Bool.false_or,zzbi,if_false,if_true,Bool.or_self,Bool.and_self]at hx
  all_goals
   simp[eS,h7,ah,aa,ai,Qg,Bb,h0,h1,h2,h3,h4,h5,vC,hw];first
   |(
    refine⟨ag ?_,⟨i+1,g,_,zd,by simp[h7],zE,hx,rfl⟩,zE⟩;repeat(first|exact Qb _ _|refine Qc _ rfl ?_))
   |(
    refine⟨k',ag ?_,⟨i+1,g,_,zd,by simp[h7],zE,hx,rfl⟩,zE⟩;repeat(first|exact Qb _ _|refine Qc _ rfl ?_))
   |(
    refine⟨k',ag ?_,⟨i+1,max g c.n,_,zd,by simp;omega,zE,hx,rfl⟩,zE⟩;repeat(first|exact Qb _ _|refine Qc _ rfl ?_))
 have bP:¬(i:Int)<(cs.length:Int):=zE
 rw[zzam bu]at hx;have hx:g=T:=hx;subst hx;simp[eS,h7,bP,zzbm.2 bu,vC,ait]
def sQ(p:Pl)(a b:Int):UV:=fun d f l=>
 if f=80 then(match l with|[_,.int _ n]=>Zr (Xk n p.aM)|_=>.junk)else if f=132 then .bool (Vh p.nu p.de)else if f=250 then(match l with|[_,.int _ x,.int _ y]=>I (pq x y p.cls 0)|_=>.junk)else
 if f=86 then(match l with|[_,.int _ x]=>I (xh p.nu p.de x)|_=>.junk)else .junk
def al9(p:Pl)(a b:Int)(hc:p.cls.length<=1000000000)(cR:p.aM.length<=1000000000):Pure Tryz.prog aD 227 [.agg (Qa p),I a,I b] (I (Kh p a b)):=by
 have ka:=kz p a cR;have kb:=kz p b cR;have kr:=Wq p.nu p.de;refine Qp adH (sQ p a b) zd ?_;cases Ek:Xk a p.aM with
 |none=>
  rw[Ek]at ka;have hg:Kh p a b=0:=by simp[Kh,Ek]
  rw[hg];simp[sd,se,Qa,sQ,Ek,Zr];simpa[Qa,Zr]using ka
 |some x=>
  rw[Ek]at ka;by_cases c1:x.sp=0
  ·have hg:Kh p a b=0:=by cases IE:Xk b p.aM<;>simp[Kh,Ek,IE,c1]
   rw[hg];simp[sd,se,Qa,sQ,Ek,Zr,Qm,c1];simpa[Qa,Zr,Qm,c1]using ka
  cases c2:Vh p.nu p.de with
  |false=>
   rw[c2]at kr;have hg:Kh p a b=0:=by cases IE:Xk b p.aM<;>simp[Kh,Ek,IE,c2]
   rw[hg];simp[sd,se,Qa,sQ,Ek,Zr,Qm,c1,c2];exact⟨by simpa[Qa,Zr,Qm]using ka,kr⟩
  |true=>
   rw[c2]at kr;cases IE:Xk b p.aM with
   |none=>
    rw[IE]at kb;have hg:Kh p a b=0:=by simp[Kh,Ek,IE]
    rw[hg];simp[sd,se,Qa,sQ,Ek,IE,Zr,Qm,c1,c2];exact⟨by simpa[Qa,Zr,Qm]using ka,kr,by simpa[Qa,Zr,Qm]using kb⟩
   |some y=>
    rw[IE]at kb;by_cases c3:y.sp=0
    ·have hg:Kh p a b=0:=by simp[Kh,Ek,IE,c3]
     rw[hg];simp[sd,se,Qa,sQ,Ek,IE,Zr,Qm,c1,c2,c3];exact⟨by simpa[Qa,Zr,Qm]using ka,kr,by simpa[Qa,Zr,Qm,c3]using kb⟩
    by_cases c4:x.sp=y.sp
    ·have hg:Kh p a b=0:=by simp[Kh,Ek,IE,c4]
     rw[hg];simp[sd,se,Qa,sQ,Ek,IE,Zr,Qm,c1,c2,c3,<- c4];rw[<- c4]at c3;exact⟨by simpa[Qa,Zr,Qm]using ka,kr,by simpa[Qa,Zr,Qm,c4]using kb⟩
    have hg:Kh p a b=xh p.nu p.de (pq x.sp y.sp p.cls 0):=by simp[Kh,Ek,IE,c1,c2,c3,c4]
    rw[hg];have kg:=al8 p.cls x.sp y.sp hc;have kf:=A7 p.nu p.de (pq x.sp y.sp p.cls 0);simp[sd,se,Qa,sQ,Ek,IE,Zr,Qm,c1,c2,c3,c4];exact⟨by simpa[Qa,Zr,Qm]using ka,kr,by simpa[Qa,Zr,Qm]using kb,kg,kf⟩
structure Bd where
 p:Pl
 at_:Int
 us:List (Int×Int)
 en:List (Int×Int)
 rv:List (Int×(Rt×List Sp))
 li:List (Int×Int)
 pm:List ((Int×Int)×List Sp)
abbrev iA(n:Int):AV:=I n
def ri(x:It):AV:=.agg (Qm x)
def rvA(x:Rt×List Sp):AV:=.sl x.1 (x.2.map Qe)
def SQ(l:List ((Int×Int)×List Sp)):List (Pi×AV):=l.map fun x=>([x.1.1,x.1.2],.sl .ro (x.2.map Qe))
def Qo(k:Nat)(b:Bd):P2:=Qa b.p++[I b.at_,.mp (k+1),.mp (k+2),.mp (k+3),.mp (k+4),.mp (k+5),.mp (k+6),.mp (k+7),.mp (k+8)]
def aX(k:Nat)(b:Bd)(post:T5):T5:=
 Qa b.p::[.aJ 0 (bG iA (De b.p))]::[.aJ 0 (bG ri (zV b.p))]::[.aJ 0 (bG iA (Ua b.p))]::[.aJ 0 (bG iA b.us)]::[.aJ 0 (bG iA b.en)]::
  [.aJ 0 (bG rvA b.rv)]::[.aJ 0 (bG iA b.li)]::[.aJ 2 (SQ b.pm)]::Qo k b::post
def aP(pre:T5)(b:Bd)(post:T5)(ls:Pa):AM:=⟨pre++aX pre.length b post,ls,fun _=>.gone,0⟩
def ama(b:Bd):Prop:=∀k v,af k b.li=some v->v=Jf b.p k
def aeR(pre post:T5)(ls:Pa)(b:Bd)(it:Int)(hc:b.p.cls.length<=1000000000)(cR:b.p.aM.length<=1000000000)(hli:ama b)(Y:YT)(K:So)
  (hK:∀li,ama {b with li:=li}->K (I (Jf b.p it)) (aP pre {b with li:=li} post ls)):
  aB Tryz.prog aD Y 170 [.ptr (pre.length+9) 0,I it] (aP pre b post ls) K:=by
 have axz:=aeQ b.p it hc cR;refine Xo ac2 (fun _ _ _=>I (Jf b.p it)) zd ?_;rcases Xx iA it b.li 0 with⟨h1,h2,h3,h4⟩|⟨u,n,h1,h2,_,_,_,h4⟩
 ·simp[UC,UD,aP,aX,Qo,Qa,h2];refine⟨by simpa[Qa]using axz,?_⟩
  have:=hK (Vj it (Jf b.p it) b.li) (fun k v h=>by
   rw[Ul]at h;split at h
   ·rename_i e;cases h;rw[e]
   exact hli k v h)
  have SR:bG iA b.li++[([it],I (Jf b.p it))]=bG iA (Vj it (Jf b.p it) b.li):=h4 _;rw[SR];exact this
 simp[UC,UD,aP,aX,Qo,Qa,h2];have hu:=hli it u h1;subst hu;exact hK b.li hli
def aeS(b:Bd):Prop:=∀k x,af k b.rv=some x->∀it y,Xk it b.p.aM=some y->y.sp=k->x.2.Perm (Ub b.p it)
def xM(p:Pl)(it:Int)(L:List (Int×Int)):List Sp:=L.filterMap fun x=>if 0<Kh p x.2 it then some (x.1,Kh p x.2 it)else none
def atL{α:Type}(d:α)(L:List α)(seen:Pa):List α:=seen.map fun i=>L.getD i d
def aeT{α:Type}(d:α)(L:List α)(seen:Pa)(hn:seen.Nodup)(bD:∀i,i<L.length->i∈seen)(hb:∀i∈seen,i<L.length):(atL d L seen).Perm L:=by
 have hp:seen.Perm (List.range L.length):=by
  rw[zzgo hn zzdn];intro i;simp only[zzb];exact⟨hb i,bD i⟩
 have h1:=hp.map fun i=>L.getD i d
 have h2:(List.range L.length).map (fun i=>L.getD i d)=L:=by
  apply zzfd zd;intro i h1 h2;simp[h2]
 rw[h2]at h1;exact h1
def aeU{p:Pl}{a i j:Int}{x y:It}(hi:Xk i p.aM=some x)(hj:Xk j p.aM=some y)(h:x.sp=y.sp):Kh p a i=Kh p a j:=by
 simp only[Kh,hi,hj];cases Xk a p.aM with
 |none=>rfl
 |some z=>simp only[h]
def aeV{p:Pl}{i j:Int}{x y:It}(hi:Xk i p.aM=some x)(hj:Xk j p.aM=some y)(h:x.sp=y.sp):Ub p i=Ub p j:=by
 simp only[Ub,hi,hj,h];cases af y.sp (Ua p)with
 |none=>rfl
 |some _=>simp only[aeU hi hj h]
def xN:∀(l:List It)(a:List (Int×It))(s:List (Int×Int)),af 0 s=none->af 0 (zU l a s)=none
 |[],a,s,h=>h
 |x::r,a,s,h=>by
  rw[zU];cases af x.id a with
  |some _=>exact xN r a s h
  |none=>
   refine xN r _ _ ?_;split
   ·rw[Ul,ab zE];exact h
   exact h
def Qz(n:Int):P2:=[I n]
def YN(LL:List (Rt×List Sp))(f:Nat->AV)(m:AM):Prop:=∃(i:Nat)(bx:T5),f 11=I i/\i<=LL.length/\f 3=I (((LL.take i).map fun x=>x.2).flatten.length:Nat)/\m=⟨bx,[],fun _=>.gone,0⟩
def YO(LL:List (Rt×List Sp))(f:Nat->AV)(m:AM):Prop:=∃(i:Nat)(rt:Rt)(ls:Pa)(bx:T5),f 27=I i/\i<=LL.length/\f 6=.sl rt (((LL.take i).map fun x=>x.2).flatten.map Qe)/\
 (((LL.take i).map fun x=>x.2).flatten=[]/\rt=.nil/\i=0\/∃k,rt=.own k 2/\ls[k]?=some ((LL.take i).map fun x=>x.2).flatten.length)/\m=⟨bx,ls,fun _=>.gone,0⟩
def Og(LL:List (Rt×List Sp)){i:Nat}{x:Rt×List Sp}(h:LL[i]?=some x):((LL.take (i+1)).map fun x=>x.2).flatten=((LL.take i).map fun x=>x.2).flatten++x.2:=by
 simp[zzay,h]
def Oh(LL:List (Rt×List Sp))(i:Nat):((LL.take i).map fun x=>x.2).flatten.length<=(LL.map fun x=>x.2).flatten.length:=by
 have h:(LL.map fun x=>x.2)=((LL.take i).map fun x=>x.2)++(LL.drop i).map fun x=>x.2:=by rw[<- zzcb,zzdt]
 rw[h,zzer,zzal];omega
def uM:UV:=fun _ f _=>if f=270 then .gd false .junk else .junk
def Ra(LL:List (Rt×List Sp))(aO:LL≠[])(hl:LL.length<=1000000)(hf:(LL.map fun x=>x.2).flatten.length<=1000000000):Pure Tryz.prog aD 266 [.sl .full (LL.map fun x=>[.sl x.1 (x.2.map Qe)])] (.sl .ro ((LL.map fun x=>x.2).flatten.map Qe)):=by
 have kW:=zzdf.2 aO;have lQ:LL.take LL.length=LL:=zzbu;refine Qp ad1 uM zd ?_;simp[aiB];refine Qj Cj (YN LL) (fun f _=>LL.length-(numOf (f 11)).toNat) ?_ ?_
 ·exact⟨0,[],zd,zE,zd,rfl⟩
 rintro f m ⟨i,bx,nq,hi,h3,rfl⟩;rcases zzaa i LL.length with ah|bu
 ·obtain⟨x,hx⟩:=aV ah;have ai:Qi (LL.map fun x=>[.sl x.1 (x.2.map Qe)]) i=[.sl x.1 (x.2.map Qe)]:=Qw (by simp[hx]);have aa:(i:Int)<(LL.length:Int):=zE
  have hw:=bO i zE;have hc:=Og LL hx;have qj:=Oh LL (i+1);obtain⟨n,hn⟩:∃n,((LL.take i).map fun x=>x.2).flatten.length=n:=⟨_,rfl⟩;have hcn:((LL.take (i+1)).map fun x=>x.2).flatten.length=n+x.2.length:=by rw[hc,zzal,hn]
  rw[hn]at h3;have fV:IntKind.i64.wrap ((n:Int)+(x.2.length:Int))=((n+x.2.length:Nat):Int):=by rw[Ql]<;>omega
  have AD:¬(n:Int)+(x.2.length:Int)<0:=zE
  simp[nq,h3,ah,aa,ai,Cj,hw,fV,AD];refine⟨aQ,⟨i+1,_,zd,zE,by rw[hcn];simp[fV],rfl⟩,zE⟩
 have bP:¬(i:Int)<(LL.length:Int):=zE
 obtain rfl:i=LL.length:=zE
 rw[lQ]at h3;obtain⟨n,hn⟩:∃n,(LL.map fun x=>x.2).flatten.length=n:=⟨_,rfl⟩;rw[hn]at h3 hf;have fin:∀(rt:Rt)(ls:Pa),(rt=.nil\/∃k,rt=.own k 2/\ls[k]?=some 0)->∀(E:QQ),True:=fun _ _ _ _=>trivial;simp[nq,h3,bP,zzbm.2 bu,Cj,uM];refine aeW hf (fun h0=>?_) (fun h0=>?_)
 all_goals
  try simp[nq,h3,Cj]
  refine Qj Ck (YO LL) (fun f _=>LL.length-(numOf (f 27)).toNat) ?_ ?_
 ·exact⟨0,.nil,[],bx,zd,zE,zd,.inl ⟨zd,rfl,rfl⟩,rfl⟩
 rotate_left
 ·exact⟨0,.own 0 2,[0],bx,zd,zE,zd,.inr ⟨0,rfl,zd⟩,rfl⟩
 all_goals
  clear h0;rintro f m ⟨i,rt,ls,bx,h27,hi,h6,aY,rfl⟩;rcases zzaa i LL.length with ah|bu
  ·obtain⟨x,hx⟩:=aV ah;have ai:Qi (LL.map fun x=>[.sl x.1 (x.2.map Qe)]) i=[.sl x.1 (x.2.map Qe)]:=Qw (by simp[hx]);have aa:(i:Int)<(LL.length:Int):=zE
   have hw:=bO i zE;have hc:=Og LL hx;have qj:=Oh LL (i+1);obtain⟨F,hF⟩:∃F,((LL.take i).map fun x=>x.2).flatten=F:=⟨_,rfl⟩;rw[hF]at h6 aY hc;rw[hc,zzal,hn]at qj;obtain⟨rfl,rfl,rfl⟩|⟨k,rfl,hk⟩:=aY
   ·have lq:IntKind.i64.wrap 1=1:=by decide
    simp[h27,h6,ah,aa,ai,Ck,hw,lq,uM];refine⟨⟨?_,zE⟩,aQ,⟨1,.own ls.length 2,_,bx,zd,zE,by rw[hc];simp,.inr ⟨ls.length,rfl,by rw[hc];simp⟩,rfl⟩,zE⟩
    ·rintro a b row _ rfl;rfl
   have ur:=(zza.1 hk).1;simp[h27,h6,ah,aa,ai,Ck,hw,hk,uM];refine⟨⟨?_,zE⟩,aQ,⟨i+1,.own k 2,_,bx,zd,zE,by rw[hc];simp,.inr ⟨k,rfl,by rw[hc];simp[ur]⟩,rfl⟩,zE⟩
   ·rintro row (⟨a,b,_,rfl⟩|⟨a,b,_,rfl⟩)<;>rfl
  have bP:¬(i:Int)<(LL.length:Int):=zE
  obtain rfl:i=LL.length:=zE
  rw[lQ]at h6 aY;obtain⟨_,_,h0⟩|⟨k,rfl,hk⟩:=aY
  ·omega
  simp[h27,h6,bP,zzbm.2 bu,Ck,aiC]
def aeX(LL:List (Rt×Pi))(f:Nat->AV)(m:AM):Prop:=∃(i:Nat)(bx:T5),f 11=I i/\i<=LL.length/\f 3=I (((LL.take i).map fun x=>x.2).flatten.length:Nat)/\m=⟨bx,[],fun _=>.gone,0⟩
def aeY(LL:List (Rt×Pi))(f:Nat->AV)(m:AM):Prop:=∃(i:Nat)(rt:Rt)(ls:Pa)(bx:T5),f 27=I i/\i<=LL.length/\f 6=.sl rt (((LL.take i).map fun x=>x.2).flatten.map Qz)/\
 (((LL.take i).map fun x=>x.2).flatten=[]/\rt=.nil/\i=0\/∃k,rt=.own k 1/\ls[k]?=some ((LL.take i).map fun x=>x.2).flatten.length)/\m=⟨bx,ls,fun _=>.gone,0⟩
def YP(LL:List (Rt×Pi)){i:Nat}{x:Rt×Pi}(h:LL[i]?=some x):((LL.take (i+1)).map fun x=>x.2).flatten=((LL.take i).map fun x=>x.2).flatten++x.2:=by
 simp[zzay,h]
def YQ(LL:List (Rt×Pi))(i:Nat):((LL.take i).map fun x=>x.2).flatten.length<=(LL.map fun x=>x.2).flatten.length:=by
 have h:(LL.map fun x=>x.2)=((LL.take i).map fun x=>x.2)++(LL.drop i).map fun x=>x.2:=by rw[<- zzcb,zzdt]
 rw[h,zzer,zzal];omega
def Dg:UV:=fun _ f _=>if f=230 then .gd false .junk else .junk
def YR(LL:List (Rt×Pi))(aO:LL≠[])(hl:LL.length<=1000000)(hf:(LL.map fun x=>x.2).flatten.length<=1000000000):Pure Tryz.prog aD 174 [.sl .full (LL.map fun x=>[.sl x.1 (x.2.map Qz)])] (.sl .ro ((LL.map fun x=>x.2).flatten.map Qz)):=by
 have kW:=zzdf.2 aO;have lQ:LL.take LL.length=LL:=zzbu;refine Qp ac5 Dg zd ?_;simp[ahv];refine Qj Cb (aeX LL) (fun f _=>LL.length-(numOf (f 11)).toNat) ?_ ?_
 ·exact⟨0,[],zd,zE,zd,rfl⟩
 rintro f m ⟨i,bx,nq,hi,h3,rfl⟩;rcases zzaa i LL.length with ah|bu
 ·obtain⟨x,hx⟩:=aV ah;have ai:Qi (LL.map fun x=>[.sl x.1 (x.2.map Qz)]) i=[.sl x.1 (x.2.map Qz)]:=Qw (by simp[hx]);have aa:(i:Int)<(LL.length:Int):=zE
  have hw:=bO i zE;have hc:=YP LL hx;have qj:=YQ LL (i+1);obtain⟨n,hn⟩:∃n,((LL.take i).map fun x=>x.2).flatten.length=n:=⟨_,rfl⟩;have hcn:((LL.take (i+1)).map fun x=>x.2).flatten.length=n+x.2.length:=by rw[hc,zzal,hn]
  rw[hn]at h3;have fV:IntKind.i64.wrap ((n:Int)+(x.2.length:Int))=((n+x.2.length:Nat):Int):=by rw[Ql]<;>omega
  have AD:¬(n:Int)+(x.2.length:Int)<0:=zE
  simp[nq,h3,ah,aa,ai,Cb,hw,fV,AD];refine⟨aQ,⟨i+1,_,zd,zE,by rw[hcn];simp[fV],rfl⟩,zE⟩
 have bP:¬(i:Int)<(LL.length:Int):=zE
 obtain rfl:i=LL.length:=zE
 rw[lQ]at h3;obtain⟨n,hn⟩:∃n,(LL.map fun x=>x.2).flatten.length=n:=⟨_,rfl⟩;rw[hn]at h3 hf;have fin:∀(rt:Rt)(ls:Pa),(rt=.nil\/∃k,rt=.own k 1/\ls[k]?=some 0)->∀(E:QQ),True:=fun _ _ _ _=>trivial;simp[nq,h3,bP,zzbm.2 bu,Cb,Dg];refine aeZ hf (fun h0=>?_) (fun h0=>?_)
 all_goals
  try simp[nq,h3,Cb]
  refine Qj Cc (aeY LL) (fun f _=>LL.length-(numOf (f 27)).toNat) ?_ ?_
 ·exact⟨0,.nil,[],bx,zd,zE,zd,.inl ⟨zd,rfl,rfl⟩,rfl⟩
 rotate_left
 ·exact⟨0,.own 0 1,[0],bx,zd,zE,zd,.inr ⟨0,rfl,zd⟩,rfl⟩
 all_goals
  clear h0;rintro f m ⟨i,rt,ls,bx,h27,hi,h6,aY,rfl⟩;rcases zzaa i LL.length with ah|bu
  ·obtain⟨x,hx⟩:=aV ah;have ai:Qi (LL.map fun x=>[.sl x.1 (x.2.map Qz)]) i=[.sl x.1 (x.2.map Qz)]:=Qw (by simp[hx]);have aa:(i:Int)<(LL.length:Int):=zE
   have hw:=bO i zE;have hc:=YP LL hx;have qj:=YQ LL (i+1);obtain⟨F,hF⟩:∃F,((LL.take i).map fun x=>x.2).flatten=F:=⟨_,rfl⟩;rw[hF]at h6 aY hc;rw[hc,zzal,hn]at qj;obtain⟨rfl,rfl,rfl⟩|⟨k,rfl,hk⟩:=aY
   ·have lq:IntKind.i64.wrap 1=1:=by decide
    simp[h27,h6,ah,aa,ai,Cc,hw,lq,Dg];refine⟨⟨?_,zE⟩,aQ,⟨1,.own ls.length 1,_,bx,zd,zE,by rw[hc];simp,.inr ⟨ls.length,rfl,by rw[hc];simp⟩,rfl⟩,zE⟩
    ·first|(rintro a _;rfl)|(rintro row a _ rfl;rfl)
   have ur:=(zza.1 hk).1;simp[h27,h6,ah,aa,ai,Cc,hw,hk,Dg];refine⟨⟨?_,zE⟩,aQ,⟨i+1,.own k 1,_,bx,zd,zE,by rw[hc];simp,.inr ⟨k,rfl,by rw[hc];simp[ur]⟩,rfl⟩,zE⟩
   ·rintro row (⟨a,_,rfl⟩|⟨a,_,rfl⟩)<;>rfl
  have bP:¬(i:Int)<(LL.length:Int):=zE
  obtain rfl:i=LL.length:=zE
  rw[lQ]at h6 aY;obtain⟨_,_,h0⟩|⟨k,rfl,hk⟩:=aY
  ·omega
  simp[h27,h6,bP,zzbm.2 bu,Cc,ahw]
def YS(A B:List Sp)(h:A.length+B.length<=100000000):Pure Tryz.prog aD 252 [.sl .ro (A.map Qe),.sl .ro (B.map Qe)] (.sl .ro ((Xm (A++B)).map Qe)):=by
 have asp:=Ra [(.ro,A),(.ro,B)] zd zd (by simp;omega);have YU:=Us (A++B) (by simp;omega);refine Qp adX (fun _ f _=>if f=266 then .sl .ro ((A++B).map Qe)else .sl .ro ((Xm (A++B)).map Qe)) zd ?_;simp at asp YU;simp[aiw,aix];exact⟨asp,YU⟩
def ae0(s:Sp)(h1:0<=s.1)(h2:s.1<=s.2)(h3:s.2<=9223372036854775807):Pure Tryz.prog aD 251 [.agg (Qe s)] (.int .u64 (s.2-s.1)):=by
 have w1:IntKind.u64.wrap s.1=s.1:=by simp[IntKind.wrap,IntKind.bits,IntKind.signed];omega
 have w2:IntKind.u64.wrap s.2=s.2:=by simp[IntKind.wrap,IntKind.bits,IntKind.signed];omega
 have w3:IntKind.u64.wrap (s.2-s.1)=s.2-s.1:=by simp[IntKind.wrap,IntKind.bits,IntKind.signed];omega
 refine Qp adW (fun _ _ _=>.junk) zd ?_;simp[aiu,aiv,Qe,w1,w2,w3]
def Wz:Option Int->AV
 |some s=>.aS [I s,.bool true]
 |none=>.aS [I 0,.bool false]
def Gs(L:List Sp):UV:=fun _ f l=>if f=131 then .sl .ro (L.map Qe)else if f=185 then(match l with|[.agg [.int _ a,.int _ b]]=>.bool (decide (b<=a))|_=>.junk)else
 (match l with|[.agg [.int _ a,.int _ b]]=>.int .u64 (b-a)|_=>.junk)
def asq(a n:Int)(L:List Sp)(T:Option Int)(f:Nat->AV)(m:AM):Prop:=∃(i:Nat)(bx:T5),f 17=I i/\i<=L.length/\Gq a n (L.drop i)=T/\m=⟨bx,[],fun _=>.gone,0⟩
def Gt(l:List Sp)(a n:Int)(hl:l.length<=100000000)(ha:0<=a)(hn:1<=n/\n<=1000000)(hb:∀s∈l,s.1<=1000000000000/\s.2<=1000000000000):Pure Tryz.prog aD 228 [.sl .ro (l.map Qe),I a,I n] (Wz (lB l a n)):=by
 have YU:=Us l hl;obtain⟨T,hT⟩:∃T,lB l a n=T:=⟨_,rfl⟩;rw[hT];rw[lB,ab zE]at hT;have hbL:=YV (P:=fun x=>x<=1000000000000) (l:=l) hb;have hLl:=Yx l;generalize Xm l=L at YU hT hbL hLl;have gq:¬n<=0:=zE
 refine Qp adI (Gs L) zd ?_;simp[UP,Gs,gq];refine⟨YU,?_⟩;refine Qj vA (asq a n L T) (fun f _=>L.length-(numOf (f 17)).toNat) ?_ ?_
 ·exact⟨0,[],zd,zE,Nm hT,rfl⟩
 rintro f m ⟨i,bx,h17,hi,hx,rfl⟩;rcases zzaa i L.length with ah|bu
 ·obtain⟨s,hs⟩:=aV ah;have ai:Qi (L.map Qe) i=Qe s:=Zy hs;have aa:(i:Int)<(L.length:Int):=zE
  have hw:=bO i zE;rw[Zc hs,Gq]at hx;obtain⟨q,hq⟩:∃q,max s.1 a=q:=⟨_,rfl⟩;have hqm:(if s.1<a then a else s.1)=q:=zE
  have YW:Abs.Pure Tryz.prog aD 185 [.agg (Qe (q,s.2))] (.bool (decide (s.2<=q))):=nD (q,s.2);rw[hq]at hx;have hu:IntKind.u64.wrap n=n:=by simp[IntKind.wrap,IntKind.bits,IntKind.signed];omega
  by_cases c1:s.2<=q
  ·rw[ab zE]at hx;rw[decide_eq_true c1]at YW;simp[h17,ah,aa,ai,Qe,hqm,c1,vA,hw,Gs];refine⟨by simpa[Qe]using YW,aQ,⟨i+1,_,zd,zE,hx,rfl⟩,zE⟩
  have asr:=ae0 (q,s.2) (by simp only;omega) (by simp only;omega) (by
   have:=hbL s (zzad hs);simp only;omega)
  rw[decide_eq_false c1]at YW;by_cases c2:n<=s.2-q
  ·rw[ac zE]at hx;subst hx;simp[h17,ah,aa,ai,Qe,hqm,c1,c2,hu,vA,UQ,Gs,Wz];exact⟨by simpa[Qe]using YW,by simpa[Qe]using asr⟩
  rw[ab zE]at hx;simp[h17,ah,aa,ai,Qe,hqm,c1,c2,hu,vA,hw,Gs];refine⟨by simpa[Qe]using YW,by simpa[Qe]using asr,aQ,⟨i+1,_,zd,zE,hx,rfl⟩,zE⟩
 have bP:¬(i:Int)<(L.length:Int):=zE
 rw[zzam bu]at hx;have hx:none=T:=hx;subst hx;simp[h17,bP,zzbm.2 bu,vA,UQ,Wz]
def pf(k:Int×Int):List ((Int×Int)×List Sp)->Option (List Sp)
 |[]=>none
 |x::r=>if x.1=k then some x.2 else pf k r
def Gu(k:Int×Int):∀(l:List ((Int×Int)×List Sp))(i:Nat),(pf k l=none/\Xh [k.1,k.2] (SQ l) i=none)\/∃v n,pf k l=some v/\Xh [k.1,k.2] (SQ l) i=some (n,.sl .ro (v.map Qe))
 |[],i=>.inl ⟨rfl,rfl⟩
 |x::r,i=>by
  by_cases h:x.1=k
  ·exact .inr ⟨x.2,i,by rw[pf,ac h],by simp[SQ,Xh,h]⟩
  have hk:¬([k.1,k.2]:Pi)=[x.1.1,x.1.2]:=by
   intro e;simp only[List.cons.injEq,and_true]at e;exact h (Prod.ext e.1.symm e.2.symm)
  rcases Gu k r (i+1)with⟨h1,h2⟩|⟨v,n,h1,h2⟩
  ·refine .inl ⟨by rw[pf,ab h];exact h1,?_⟩;simp only[SQ,zzar,Xh];rw[ab hk];exact h2
  refine .inr ⟨v,n,by rw[pf,ab h];exact h1,?_⟩;simp only[SQ,zzar,Xh];rw[ab hk];exact h2
def YX(k q:Int×Int)(v:List Sp):∀(l:List ((Int×Int)×List Sp)),pf q (l++[(k,v)])=match pf q l with|some u=>some u|none=>if k=q then some v else none
 |[]=>rfl
 |x::r=>by
  rw[zzae,pf,YX k q v r,pf];by_cases h:x.1=q<;>simp[h]
def KX(b:Bd):Prop:=∀k v,pf k b.pm=some v->v=Za b.p k.1 k.2
def pmN(b:Bd)(it n:Int):List ((Int×Int)×List Sp):=match pf (it,n) b.pm with
 |some _=>b.pm
 |none=>b.pm++[((it,n),Za b.p it n)]
def amb{b:Bd}(h:KX b)(it n:Int):KX {b with pm:=pmN b it n}:=fun k v hk=>by
 simp only[pmN]at hk;cases hp:pf (it,n) b.pm with
 |some u=>rw[hp]at hk;exact h k v hk
 |none=>
  rw[hp]at hk;simp only[YX]at hk;cases hq:pf k b.pm with
  |some u=>rw[hq]at hk;cases hk;exact h k _ hq
  |none=>
   rw[hq]at hk;simp only at hk;split at hk
   ·rename_i e;cases hk;rw[<- e]
   cases hk
def KY{pre post:T5}{b:Bd}(pm:List ((Int×Int)×List Sp))(ls:Pa)(id:Nat)(cells:P2)(h:(aP pre {b with pm:=pm} post ls).boxes[id]?=some cells):(aP pre b post ls).boxes[id]?=some cells\/YY cells:=by
 simp only[aP]at h |-
 rcases zzaa id pre.length with ah|bu
 ·rw[zzak ah]at h |-
  exact .inl h
 rw[zzaq bu]at h |-
 match hk:id-pre.length,h with
 |0,h=>exact .inl h
 |1,h=>exact .inl h
 |2,h=>exact .inl h
 |3,h=>exact .inl h
 |4,h=>exact .inl h
 |5,h=>exact .inl h
 |6,h=>exact .inl h
 |7,h=>exact .inl h
 |8,h=>
  refine .inr (.inr ⟨2,SQ pm,?_,?_⟩)
  ·simp[aX]at h;exact h.symm
  intro e he;obtain⟨x,_,rfl⟩:=zzan.1 he;exact Idle.ro _
 |9,h=>exact .inl h
 |k+10,h=>exact .inl h
def FrK(pre:T5)(b:Bd)(pm:List ((Int×Int)×List Sp))(post:T5)(ls:Pa)(K:So)(r:AV)(m:AM):Prop:=∃ex,m=aP pre {b with pm:=pm} (post++ex) ls/\Idle r/\K r (aP pre {b with pm:=pm} post ls)
def frK{pre:T5}{b:Bd}{pm:List ((Int×Int)×List Sp)}{post:T5}{ls:Pa}{K:So}{r:AV}{m:AM}(ex:T5)(h:m=aP pre {b with pm:=pm} (post++ex) ls)(hi:Idle r)(hK:K r (aP pre {b with pm:=pm} post ls)):FrK pre b pm post ls K r m:=⟨ex,h,hi,hK⟩
def Rb{f:FuncId}{xs:P2}{pre post:T5}{b:Bd}{pm:List ((Int×Int)×List Sp)}{ls:Pa}{Y:YT}{K:So}(h:aB Tryz.prog aD Y f xs (aP pre b post ls) (FrK pre b pm post ls K)):aB Tryz.prog aD Y f xs (aP pre b post ls) K:=by
 refine aB.forget (aB.mono h ?_);rintro r m' ⟨ex,rfl,h1,h2⟩;refine⟨aP pre {b with pm:=pm} post ls,ex,?_,?_,rfl,fun id cells hc=>KY pm ls id cells hc,h1,h2⟩
 ·simp[aP,aX]
 simp[aP,aX]
def ai0(p:Pl)(it:Int):UV:=fun d f l=>if f=40 then(match l with|[_,_,_,.agg [.int _ a,.int _ c]]=>.sl .ro ((Vt p it 0 (a,c)).map Qe)|_=>.junk)else
 (match l with|[.sl _ a,.sl _ c]=>.sl .ro ((Xm (a.map qY++c.map qY)).map Qe)|_=>.junk)
def pE(l:List Sp):(l.map Qe).map qY=l:=by
 rw[zzcw]
 conv=>rhs;rw[<- List.map_id l]
 exact zzcs fun x _=>rfl
def Rf(pre post:T5)(ls:Pa)(b:Bd)(it n:Int)(hn:0<=n/\n<=1000)(hc:b.p.cls.length<=1000000)(fC:b.p.sh.length<=1000000000)(cR:b.p.aM.length<=1000000000)(hpm:KX b)(Y:YT)(K:So)
  (hK:K (.sl .ro ((Za b.p it n).map Qe)) (aP pre {b with pm:=pmN b it n} post ls)):
  aB Tryz.prog aD Y 229 [.ptr (pre.length+9) 0,.agg [I it,I n]] (aP pre b post ls) K:=by
 refine Rb (pm:=pmN b it n) ?_;have w1:IntKind.i64.wrap (n*1000000)=n*1000000:=by rw[Ql]<;>omega
 have w2:IntKind.i64.wrap (n+1)=n+1:=by rw[Ql]<;>omega
 have w3:IntKind.i64.wrap ((n+1)*1000000)=(n+1)*1000000:=by rw[Ql]<;>omega
 have w4:IntKind.i64.wrap (n+2)=n+2:=by rw[Ql]<;>omega
 have w5:IntKind.i64.wrap ((n+2)*1000000)=(n+2)*1000000:=by rw[Ql]<;>omega
 have k1:=nA b.p it 0 (n*1000000,(n+1)*1000000) hc fC cR (by simp only;omega) (by simp only;omega);have k2:=nA b.p it 0 ((n+1)*1000000,(n+2)*1000000) hc fC cR (by simp only;omega) (by simp only;omega);have l1:=Qcv b.p it 0 (n*1000000,(n+1)*1000000);have l2:=Qcv b.p it 0 ((n+1)*1000000,(n+2)*1000000);have k3:=YS (Vt b.p it 0 (n*1000000,(n+1)*1000000)) (Vt b.p it 0 ((n+1)*1000000,(n+2)*1000000)) zE;have zF:Za b.p it n=Xm (Vt b.p it 0 (n*1000000,(n+1)*1000000)++Vt b.p it 0 ((n+1)*1000000,(n+2)*1000000)):=rfl;rw[<- zF]at k3;obtain⟨R,hR⟩:∃R,Za b.p it n=R:=⟨_,rfl⟩;refine Xo adJ (ai0 b.p it) zd ?_;rcases Gu (it,n) b.pm 0 with⟨h1,h2⟩|⟨v,j,h1,h2⟩
 ·have hp:pmN b it n=b.pm++[((it,n),Za b.p it n)]:=by simp only[pmN,h1]
  have jX:SQ (pmN b it n)=SQ b.pm++[([it,n],.sl .ro ((Za b.p it n).map Qe))]:=by rw[hp];simp[SQ]
  simp[UR,US,aP,aX,Qo,Qa,h2,w1,w2,w3,w4,w5,ai0,pE,<- zF];refine⟨by simpa[Qa]using k1,by simpa[Qa]using k2,k3,?_⟩;rw[<- jX];exact frK [[I it,I n]] rfl (Idle.ro _) hK
 have hv:=hpm _ _ h1;have hp:pmN b it n=b.pm:=by simp only[pmN,h1]
 rw[hp]at hK |-
 rw[<- hv]at hK;simp[UR,US,aP,aX,Qo,Qa,h2];exact frK [[I it,I n]] rfl (Idle.ro _) hK
def KZ{p:Pl}{it n:Int}:∀s∈Za p it n,s.1<=1000000000000/\s.2<=1000000000000:=fun s hs=>by
 have hv:=(Va (Vt p it 0 (n*1000000,(n+1)*1000000)++Vt p it 0 ((n+1)*1000000,(n+2)*1000000))).1.1 s hs;have h1:Xu (Za p it n) s.1:=⟨s,hs,zE,zE⟩;have h2:Xu (Za p it n) (s.2-1):=⟨s,hs,zE,zE⟩;rw[Qcb]at h1 h2;obtain⟨_,_,_,_,_,JF,_⟩:=h1;obtain⟨_,_,_,_,_,N2,_⟩:=h2;omega
def Gv(p:Pl)(it n:Int):(Za p it n).length<=2000000:=by
 have h:=Yx (Vt p it 0 (n*1000000,(n+1)*1000000)++Vt p it 0 ((n+1)*1000000,(n+2)*1000000));have l1:=Qcv p it 0 (n*1000000,(n+1)*1000000);have l2:=Qcv p it 0 ((n+1)*1000000,(n+2)*1000000);rw[zzal]at h;have:(Za p it n).length<=_:=h;omega
def uN:UV:=fun _ f l=>if f=229 then .gd false .junk else(match l with|[.sl _ a,.int _ x,.int _ n]=>Wz (lB (a.map qY) x n)|_=>.junk)
def ae1(pre:T5)(b:Bd)(post:T5)(ls:Pa)(e:En)(last from_:Int)(T:Option Int)(f:Nat->AV)(m:AM):Prop:=∃(n:Int)(pm:List ((Int×Int)×List Sp)),
 f 9=I n/\(0<=n/\n<=9223372036854)/\SP b.p e last from_ n=T/\KX {b with pm:=pm}/\m=aP pre {b with pm:=pm} (post++[Qd e]) ls
def ae2{from_:Int}(h0:0<=from_)(h1:from_<=9223372036854775807):0<=from_.tdiv 1000000/\from_.tdiv 1000000<=9223372036854:=by
 rw[zzcj h0];omega
def Oi(pre post:T5)(ls:Pa)(b:Bd)(e:En)(from_:Int)(hc:b.p.cls.length<=1000000)(fC:b.p.sh.length<=1000000000)(cR:b.p.aM.length<=1000000000)(dQ:b.p.ln<=9223372036854775807)(zF:from_<=9223372036854775807)
  (hpm:KX b)(Y:YT)(K:So)(hK:∀pm ex,KX {b with pm:=pm}->K (Wz (Vm b.p e from_)) (aP pre {b with pm:=pm} (post++ex) ls)):
  aB Tryz.prog aD Y 172 [.ptr (pre.length+9) 0,.agg (Qd e),I from_] (aP pre b post ls) K:=by
 refine Xo ac4 uN zd ?_
 have no:Vm b.p e from_=none->K (.aS [I 0,.bool false]) (aP pre b (post++[Qd e]) ls):=fun h=>by
  have:=hK b.pm [Qd e] hpm;rw[h]at this;exact this
 by_cases c1:e.fr<1
 ·simp[As,vr,aP,aX,Qo,Qa,Qd,c1];exact no (by rw[Vm,ac (.inl c1)])
 by_cases c2:1000000<e.fr
 ·simp[As,vr,aP,aX,Qo,Qa,Qd,c1,c2];exact no (by rw[Vm,ac (.inr (.inl c2))])
 by_cases c3:b.p.ln<e.fr
 ·simp[As,vr,aP,aX,Qo,Qa,Qd,c1,c2,c3];exact no (by rw[Vm,ac (.inr (.inr c3))])
 have hS:Vm b.p e from_=SP b.p e (lW b.p e) (max from_ 0) ((max from_ 0).tdiv 1000000):=by rw[Vm,ab zE]
 rw[hS]at hK;clear no;obtain⟨fm,hfm⟩:∃fm,max from_ 0=fm:=⟨_,rfl⟩;have axA:(if from_<0 then 0 else from_)=fm:=zE
 have hf0:0<=fm/\fm<=9223372036854775807:=zE
 obtain⟨d1,d2⟩:=ae2 hf0.1 hf0.2;rw[hfm]at hK;have hwq:IntKind.i64.wrap (fm.tdiv 1000000)=fm.tdiv 1000000:=by rw[Ql]<;>omega
 have hwl:IntKind.i64.wrap (b.p.ln-e.fr)=b.p.ln-e.fr:=by rw[Ql]<;>omega
 obtain⟨q,hq⟩:∃q,fm.tdiv 1000000=q:=⟨_,rfl⟩;rw[hq]at hwq d1 d2 hK;obtain⟨la,hla⟩:∃la,lW b.p e=la:=⟨_,rfl⟩;have hlb:la<=100000000:=by rw[<- hla,lW];omega
 rw[hla]at hK;obtain⟨T,hT⟩:∃T,SP b.p e la fm q=T:=⟨_,rfl⟩;rw[hT]at hK;simp[As,aP,aX,Qo,Qa,Qd,c1,c2,c3,hwl,axA,hq,hwq]
 have gL:Px false (Px false e.la (b.p.ln-e.fr)) 100000000=la:=by
  rw[<- hla,lW];simp only[Px];simp;omega
 rw[gL];refine Qj iJ (ae1 pre b post ls e la fm T) (fun f _=>(la-numOf (f 9)*1000000+1000000).toNat) ?_ ?_
 ·exact⟨q,b.pm,zd,⟨d1,d2⟩,hT,hpm,by simp[aP,aX,Qo,Qa,Qd]⟩
 rintro f m ⟨n,pm,h9,hn,bM,hpm',rfl⟩;have IG:IntKind.i64.wrap (n*1000000)=n*1000000:=by rw[Ql]<;>omega
 have hwn:IntKind.i64.wrap (n+1)=n+1:=by rw[Ql]<;>omega
 rw[SP]at bM;by_cases c4:n*1000000<=la
 ·rw[ac c4]at bM;have Rg:=Gt (Za b.p e.it n) fm e.fr (by have:=Gv b.p e.it n;omega) hf0.1 zE KZ;obtain⟨R,hR⟩:∃R,Za b.p e.it n=R:=⟨_,rfl⟩;have kf:=fun K'=>Rf pre (post++[Qd e]) ls {b with pm:=pm} e.it n zE hc fC cR hpm' Y K';have hpn:=amb hpm' e.it n;obtain⟨Oj,axB⟩:∃Oj,pmN {b with pm:=pm} e.it n=Oj:=⟨_,rfl⟩;rw[axB]at kf hpn;simp only at kf;rw[hR]at bM Rg kf;cases hes:lB R fm e.fr with
  |none=>
   rw[hes]at bM Rg;simp[h9,iJ,IG,c4,aP,aX,Qo,Qa,Qd];refine Qaz [(.sl .ro (R.map Qe),aP pre {b with pm:=Oj} (post++[Qd e]) ls)] ?_;simp[h9,iJ,IG,c4,aP,aX,Qo,Qa,Qd,uN,pE,hes,Wz,hwn];refine⟨kf _ ⟨rfl,rfl⟩,Rg,aQ,⟨n+1,Oj,zd,zE,bM,hpn,by simp[aP,aX,Qo,Qa,Qd]⟩,zE⟩
  |some s=>
   rw[hes]at bM Rg;simp only at bM;by_cases c5:la<s
   ·rw[ac c5]at bM;subst bM;have:=hK Oj [Qd e] hpn;simp[h9,iJ,IG,c4,aP,aX,Qo,Qa,Qd];refine Qaz [(.sl .ro (R.map Qe),aP pre {b with pm:=Oj} (post++[Qd e]) ls)] ?_;simp[h9,iJ,IG,c4,aP,aX,Qo,Qa,Qd,uN,pE,hes,Wz,c5,vr];refine⟨kf _ ⟨rfl,rfl⟩,Rg,?_⟩;simpa[aP,aX,Qo,Qa,Qd,Wz]using this
   rw[ab c5]at bM;subst bM;have:=hK Oj [Qd e] hpn;simp[h9,iJ,IG,c4,aP,aX,Qo,Qa,Qd];refine Qaz [(.sl .ro (R.map Qe),aP pre {b with pm:=Oj} (post++[Qd e]) ls)] ?_;simp[h9,iJ,IG,c4,aP,aX,Qo,Qa,Qd,uN,pE,hes,Wz,c5,vr];refine⟨kf _ ⟨rfl,rfl⟩,Rg,?_⟩;simpa[aP,aX,Qo,Qa,Qd,Wz]using this
 rw[ab c4]at bM;subst bM;have:=hK pm [Qd e] hpm';simp[h9,iJ,IG,c4,vr];simpa[aP,aX,Qo,Qa,Qd,Wz]using this
def pF(n:Int)(us:List (Int×Int)):Prop:=∀k v,af k us=some v->0<=v/\v<=n
def pF.note{n:Int}{us:List (Int×Int)}(h:pF n us)(hn:0<=n)(it:Int):pF (n+1) (Zx us it):=fun k v hk=>by
 rw[Zx,Ul]at hk;split at hk
 ·cases hk;cases ha:af it us with
  |none=>simp;omega
  |some u=>have:=h it u ha;simp;omega
 have:=h k v hk;omega
def Qcy(p:Pl)(it:Int):(∃n y,Xk it p.aM=some y/\Xh [it] (bG ri (zV p)) 0=some (n,ri y))\/(Xk it p.aM=none/\Xh [it] (bG ri (zV p)) 0=none):=by
 rcases Xx ri it (zV p) 0 with⟨h1,h2,_,_⟩|⟨u,n,h1,h2,_⟩
 ·rw[uL]at h1;exact .inr ⟨h1,h2⟩
 rw[uL]at h1;exact .inl ⟨_,u,h1,h2⟩
def xO(us:List (Int×Int))(it:Int):(Xh [it] (bG iA us) 0=none/\bG iA us++[([it],.int .i64 1)]=bG iA (Zx us it))\/∃u n,af it us=some u/\Xh [it] (bG iA us) 0=some (n,.int .i64 u)/\(bG iA us).set n ([it],.int .i64 (u+1))=bG iA (Zx us it):=by
 rcases Xx iA it us 0 with⟨h1,h2,_,h4⟩|⟨u,n,h1,h2,_,_,_,h4⟩
 ·exact .inl ⟨h2,by rw[Zx,h1];exact h4 1⟩
 exact .inr ⟨u,n,h1,by rw[h2,zzbs],by rw[Zx,h1];exact h4 (u+1)⟩
def Qea(p:Pl)(en:List (Int×Int))(it e:Int){y:It}(hy:Xk it p.aM=some y):(Xh [y.sp] (bG iA en) 0=none/\bG iA en++[([y.sp],.int .i64 (if 0<e then e else 0))]=bG iA (Xz p en it e))\/∃u n,af y.sp en=some u/\Xh [y.sp] (bG iA en) 0=some (n,.int .i64 u)/\(bG iA en).set n ([y.sp],.int .i64 (if u<e then e else u))=bG iA (Xz p en it e):=by
 rcases Xx iA y.sp en 0 with⟨h1,h2,_,h4⟩|⟨u,n,h1,h2,_,_,_,h4⟩
 ·refine .inl ⟨h2,?_⟩;have:(if 0<e then e else 0)=max 0 e:=zE
  simp only[Xz,hy,h1,this];exact h4 _
 refine .inr ⟨u,n,h1,by rw[h2,zzbs],?_⟩;have:(if u<e then e else u)=max u e:=zE
 simp only[Xz,hy,h1,this];exact h4 _
def YZ(pre p0 bx:T5)(ls:Pa)(b:Bd)(us en:List (Int×Int))(it e:Int)(hu:pF 1000000000 us)(Y:YT)(K:So)(hK:∀ex,K (.aS []) (aP pre b (p0++([.aJ 0 (bG iA (Zx us it))]::[.aJ 0 (bG iA (Xz b.p en it e))]::(bx++ex))) ls)):
  aB Tryz.prog aD Y 168 [.ptr (pre.length+9) 0,.mp (pre.length+(p0.length+10)),.mp (pre.length+(p0.length+11)),I it,I e] (aP pre b (p0++([.aJ 0 (bG iA us)]::[.aJ 0 (bG iA en)]::bx)) ls) K:=by
 refine Xo M3 (fun _ _ _=>.junk) zd ?_;have w1:IntKind.i64.wrap 1=1:=by decide
 rcases xO us it with⟨u2,u4⟩|⟨u,n,u1,u2,u4⟩
 ·rcases Qcy b.p it with⟨ni,y,hy,hi⟩|⟨hy,hi⟩
  ·rcases Qea b.p en it e hy with⟨e2,e4⟩|⟨v,nv,e1,e2,e4⟩
   ·simp[fE,fF,aP,aX,Qo,Qa,hi,ri,Qm,u2,e2,w1];rw[u4,e4];simpa[aP,aX,Qo,Qa,Qm]using hK [Qm y]
   simp[fE,fF,aP,aX,Qo,Qa,hi,ri,Qm,u2,e2,w1];rw[u4,e4];simpa[aP,aX,Qo,Qa,Qm]using hK [Qm y]
  have he:Xz b.p en it e=en:=by simp only[Xz,hy]
  rw[he]at hK;simp[fE,fF,aP,aX,Qo,Qa,hi,u2,w1];rw[u4];simpa[aP,aX,Qo,Qa]using hK [[I 0,I 0,I 0,I 0,I 0]]
 have hb:=hu it u u1;have wu:IntKind.i64.wrap (u+1)=u+1:=by rw[Ql]<;>omega
 rcases Qcy b.p it with⟨ni,y,hy,hi⟩|⟨hy,hi⟩
 ·rcases Qea b.p en it e hy with⟨e2,e4⟩|⟨v,nv,e1,e2,e4⟩
  ·simp[fE,fF,aP,aX,Qo,Qa,hi,ri,Qm,u2,e2,wu];rw[u4,e4];simpa[aP,aX,Qo,Qa,Qm]using hK [Qm y]
  simp[fE,fF,aP,aX,Qo,Qa,hi,ri,Qm,u2,e2,wu];rw[u4,e4];simpa[aP,aX,Qo,Qa,Qm]using hK [Qm y]
 have he:Xz b.p en it e=en:=by simp only[Xz,hy]
 rw[he]at hK;simp[fE,fF,aP,aX,Qo,Qa,hi,u2,wu];rw[u4];simpa[aP,aX,Qo,Qa]using hK [[I 0,I 0,I 0,I 0,I 0]]
def ae3(pre post:T5)(ls:Pa)(b:Bd)(us en:List (Int×Int))(it e:Int)(hu:pF 1000000000 us)(Y:YT)(K:So)(hK:∀ex,K (.aS []) (aP pre {b with us:=Zx us it,en:=Xz b.p en it e} (post++ex) ls)):
  aB Tryz.prog aD Y 168 [.ptr (pre.length+9) 0,.mp (pre.length+4),.mp (pre.length+5),I it,I e] (aP pre {b with us:=us,en:=en} post ls) K:=by
 refine Xo M3 (fun _ _ _=>.junk) zd ?_;have w1:IntKind.i64.wrap 1=1:=by decide
 rcases xO us it with⟨u2,u4⟩|⟨u,n,u1,u2,u4⟩
 ·rcases Qcy b.p it with⟨ni,y,hy,hi⟩|⟨hy,hi⟩
  ·rcases Qea b.p en it e hy with⟨e2,e4⟩|⟨v,nv,e1,e2,e4⟩
   ·simp[fE,fF,aP,aX,Qo,Qa,hi,ri,Qm,u2,e2,w1];rw[u4,e4];simpa[aP,aX,Qo,Qa,Qm]using hK [Qm y]
   simp[fE,fF,aP,aX,Qo,Qa,hi,ri,Qm,u2,e2,w1];rw[u4,e4];simpa[aP,aX,Qo,Qa,Qm]using hK [Qm y]
  have he:Xz b.p en it e=en:=by simp only[Xz,hy]
  rw[he]at hK;simp[fE,fF,aP,aX,Qo,Qa,hi,u2,w1];rw[u4];simpa[aP,aX,Qo,Qa]using hK [[I 0,I 0,I 0,I 0,I 0]]
 have hb:=hu it u u1;have wu:IntKind.i64.wrap (u+1)=u+1:=by rw[Ql]<;>omega
 rcases Qcy b.p it with⟨ni,y,hy,hi⟩|⟨hy,hi⟩
 ·rcases Qea b.p en it e hy with⟨e2,e4⟩|⟨v,nv,e1,e2,e4⟩
  ·simp[fE,fF,aP,aX,Qo,Qa,hi,ri,Qm,u2,e2,wu];rw[u4,e4];simpa[aP,aX,Qo,Qa,Qm]using hK [Qm y]
  simp[fE,fF,aP,aX,Qo,Qa,hi,ri,Qm,u2,e2,wu];rw[u4,e4];simpa[aP,aX,Qo,Qa,Qm]using hK [Qm y]
 have he:Xz b.p en it e=en:=by simp only[Xz,hy]
 rw[he]at hK;simp[fE,fF,aP,aX,Qo,Qa,hi,u2,wu];rw[u4];simpa[aP,aX,Qo,Qa]using hK [[I 0,I 0,I 0,I 0,I 0]]
def axC(of:Int)(sh:List Sp)(x fr to:Int):Bool:=
 if Yj of sh=false\/x<0\/10000000000<x\/fr<0\/86400<=fr\/to<0\/86400<=to then false else
 if fr<to then decide (fr<=(x+xJ of sh x)%86400)&&decide ((x+xJ of sh x)%86400<to)else decide (fr<=(x+xJ of sh x)%86400)||decide ((x+xJ of sh x)%86400<to)
def axD(s r:Int):Bool:=if 0<=r/\r<8 then decide ((s/2 ^ r.toNat)%2=1)else false
def ass(c:Cl)(k item region:Int):Bool:=decide (c.ki=k)&&(Zd c&&(decide (c.it=item)&&axD c.re region))
def hasB(l:List Sp)(x:Int):Bool:=l.any fun s=>decide (s.1<=x)&&decide (x<s.2)
def ai1(a:Int):P2:=[I a]
def amc:Pi->Int->Pi
 |[],x=>[x]
 |a::r,x=>if a<x then a::amc r x else if a=x then a::r else x::a::r
def amd(item region:Int)(c:Cl):Bool:=ass c 1 item region||ass c 2 item region
def edS(C:List Cl):Pi:=C.foldl (fun e c=>amc (amc e c.fr) c.to) []
def ame(C:List Cl)(Ed:Pi):Nat->List Sp
 |0=>[]
 |j+1=>if grX C (Ed.getD j 0)=true then nx (ame C Ed j) (Ed.getD j 0) (Ed.getD (j+1) 0)else ame C Ed j
def axE(cs:List Cl)(item region:Int):List Sp:=ame (cs.filter (amd item region)) (edS (cs.filter (amd item region))) ((edS (cs.filter (amd item region))).length-1)
def ast:P2->Int
 |[.int _ a]=>a
 |_=>0
@[simp] def ae4(l:Pi):(l.map ai1).map ast=l:=by
 induction l with
 |nil=>rfl
 |cons a l ih=>simp only[zzar,ih];rfl
@[simp] def asu(l:Pi):l.map (ast ∘ ai1)=l:=by rw[<- zzcw];exact ae4 l
def asv(p:Pl)(item region f:Int):Bool:=match Xk item p.aM with
 |none=>false
 |some it=>if region<0\/8<=region\/f<0\/100000000<f then false else if it.ki=5 then true else if Kj p=false then false else
  hasB (axE p.cls item region) (p.ep+Yn p.nu p.de f)&&(uG p.cls it.ra).all fun w=>axC p.of p.sh (p.ep+Yn p.nu p.de f) w.1 w.2
def azm(p:Pl)(last f:Int):Int:=if Kj p=true then min last (xh p.nu p.de (Yn p.nu p.de f+1))else last
def azn(p:Pl)(item region first f:Int)(L:List Sp):Prop:=VS L/\(∀s∈L,s.2<=f)/\(∀x,Xu L x<->first<=x/\x<f/\asv p item region x=true)/\(L.length:Int)<=f-first
