import Derived.Test.YthjppoincojfkaaGreatDoorRAMM
set_option linter.all false
namespace Go.Proofs.YthjppoincojfkaaGreatDoor
open Go Go.Abs
def RI(x:Int)(c:Cl):Bool:=decide (c.fr<=x/\x<c.to)
def grX(C:List Cl)(x:Int):Bool:=match C.reverse.find? (RI x)with
 |some c=>decide (c.ki=1)
 |none=>false
def find_congr{α:Type}{p q:α->Bool}:∀{l:List α},(∀a∈l,p a=q a)->l.find? p=l.find? q
 |[],_=>rfl
 |a::l,h=>by
  have h1:=h a zd;have ih:=find_congr (l:=l) fun b hb=>h b (by simp[hb]);rw[zzfa,zzfa,h1,ih]
def Zw{x:Int}:∀{l:Pi}{j:Nat}{v:Int},l.Pairwise (·<·)->l[j]?=some v->(j<qZ l x<->v<x)
 |[],j,v,_,h=>by simp at h
 |a::r,j,v,hp,h=>by
  obtain⟨h1,h2⟩:=zzcb.1 hp
  have e:qZ (a::r) x=qZ r x+if a<x then 1 else 0:=by
   unfold qZ;rw[zzee];by_cases ha:a<x<;>simp[ha]
  have hz:¬a<x->qZ r x=0:=by
   intro ha;unfold qZ;rw[zzbz,zzgx];intro y hy;have:=h1 y hy;simp;omega
  rw[e];cases j with
  |zero=>
   simp at h;subst h;by_cases ha:a<x
   ·simp[ha]
   simp[ha,hz ha]
  |succ j=>
   simp at h;have hav:=h1 v (zzae h);have ih:=Zw (x:=x) h2 h;by_cases ha:a<x
   ·simp only[ha,if_true];omega
   have:=hz ha;simp only[ha,if_false];omega
def HF(Bd:Pi)(j:Nat)(c:Cl):Bool:=decide (qZ Bd c.fr<=j/\j<qZ Bd c.to)
def HG(Bd:Pi)(j:Nat):∀(R:List Cl)(s:GS),(R.foldl (P8 Bd) s)[j]?=(s[j]?).map fun o=>match o with
  |some v=>some v
  |none=>(R.find? (HF Bd j)).map fun c=>decide (c.ki=1)
 |[],s=>by
  cases h:s[j]? with
  |none=>simp[h]
  |some o=>cases o<;>simp[h]
 |c::R,s=>by
  rw[zzcy,HG Bd j R,P8,Ux,zzfa];cases h:s[j]? with
  |none=>simp
  |some o=>
   cases o with
   |some v=>simp
   |none=>
    by_cases hc:qZ Bd c.fr<=j/\j<qZ Bd c.to
    ·simp[HF,hc]
    simp[HF,hc]
def HH(Bd:Pi)(s:GS)(x:Int):∀n,Xv (nG Bd s n) x<->∃j,j<n/\s[j]?=some (some true)/\Bd.getD j 0<=x/\x<Bd.getD (j+1) 0
 |0=>by simp[nG]
 |n+1=>by
  rw[ri,Yv,HH Bd s x n];unfold C2;constructor
  ·rintro(⟨j,h1,h2⟩|h)
   ·exact⟨j,zE,h2⟩
   split at h
   ·rename_i hs;rw[Xf]at h;obtain h|h:=h
    ·exact⟨n,zE,hs,h⟩
    simp at h
   simp at h
  rintro⟨j,h1,h2,h3⟩;rcases zzaa j n with h|h
  ·exact .inl ⟨j,h,h2,h3⟩
  obtain rfl:j=n:=zE
  right;rw[if_pos h2,Xf];exact .inl h3
def u7{l:Pi}{j:Nat}{v:Int}(h:l[j]?=some v):l.getD j 0=v:=by
 simp[zzaw,h]
def atx(C:List Cl)(hC:∀c∈C,c.fr<c.to)(x:Int):Xv (nG (dJ C) (xd C) (dJ C).length) x<->grX C x=true:=by
 have nI:=NQ C;have dB:∀c∈C,c.fr∈dJ C/\c.to∈dJ C:=fun c hc=>⟨(uI _ _).2 (pz hc).1,(uI _ _).2 (pz hc).2⟩
 have FU:∀j,j<(dJ C).length->(xd C)[j]?=some ((C.reverse.find? (HF (dJ C) j)).map fun c=>decide (c.ki=1)):=by
  intro j hj;rw[xd,HG];have:(List.replicate (dJ C).length (none:Option Bool))[j]?=some none:=by simp[hj]
  rw[this];rfl
 have key:∀(j:Nat)(u w:Int),(dJ C)[j]?=some u->(dJ C)[j+1]?=some w->u<=x->x<w->∀c∈C.reverse,HF (dJ C) j c=RI x c:=by
  intro j u w hu hw h1 h2 c hc;have uv:=zzfh.1 hc;have a1:=Zw (x:=c.fr) nI hu;have a2:=Zw (x:=c.fr) nI hw;have a3:=Zw (x:=c.to) nI hu;have a4:=Zw (x:=c.to) nI hw;obtain⟨m1,m2⟩:=dB c uv
  have gap:∀y∈dJ C,y<=u\/w<=y:=by
   intro y hy;obtain⟨k,hk⟩:=zzfp hy;rcases zzaa j k with h|h
   ·right;have q1:=Zw (x:=w) nI hk;have q2:=Zw (x:=w) nI hw;omega
   left;have q1:=Zw (x:=y) nI hk;have q2:=Zw (x:=y) nI hu;omega
  have g1:=gap _ m1;have g2:=gap _ m2;unfold HF RI;apply decide_eq_decide.2;omega
 have aai:∀(j:Nat)(u w:Int),(dJ C)[j]?=some u->(dJ C)[j+1]?=some w->u<=x->x<w->((xd C)[j]?=some (some true)<->grX C x=true):=by
  intro j u w hu hw h1 h2;rw[FU j (zza.1 hu).1,find_congr (key j u w hu hw h1 h2),grX];cases C.reverse.find? (RI x)<;>simp
 rw[HH];constructor
 ·rintro⟨j,hj,hs,h1,h2⟩;have dK:=hs;rw[FU j hj]at hs;cases hf:C.reverse.find? (HF (dJ C) j)with
  |none=>rw[hf]at hs;simp at hs
  |some c=>
   have hc:=zzfh.1 (zzea hf);have hi:=zzgv hf;simp only[HF,decide_eq_true_eq]at hi;have hl:=KB (dB c hc).2;have dW:j+1<(dJ C).length:=zE
   obtain⟨u,hu⟩:∃u,(dJ C)[j]?=some u:=⟨_,zzaf hj⟩;obtain⟨w,hw⟩:∃w,(dJ C)[j+1]?=some w:=⟨_,zzaf dW⟩;rw[u7 hu]at h1;rw[u7 hw]at h2;exact(aai j u w hu hw h1 h2).1 dK
 intro hg;have hg':=hg;rw[grX]at hg;cases hf:C.reverse.find? (RI x)with
 |none=>rw[hf]at hg;simp at hg
 |some c=>
  have hc:=zzfh.1 (zzea hf);have hi:=zzgv hf;simp only[RI,decide_eq_true_eq]at hi;obtain⟨m1,m2⟩:=dB c hc;obtain⟨k1,dD⟩:=zzfp m1;obtain⟨k2,ee⟩:=zzfp m2;have a1:=(Zw (x:=x+1) nI dD).2 zE;have a2:=Zw (x:=x+1) nI ee;have l2:=(zza.1 ee).1;obtain⟨j,hj⟩:∃j,qZ (dJ C) (x+1)=j+1:=⟨qZ (dJ C) (x+1)-1,zE⟩;have dW:j+1<(dJ C).length:=zE
  obtain⟨u,hu⟩:∃u,(dJ C)[j]?=some u:=⟨_,zzaf zE⟩;obtain⟨w,hw⟩:∃w,(dJ C)[j+1]?=some w:=⟨_,zzaf dW⟩;have b1:=Zw (x:=x+1) nI hu;have b2:=Zw (x:=x+1) nI hw;exact⟨j,zE,(aai j u w hu hw zE zE).2 hg',by rw[u7 hu];omega,by rw[u7 hw];omega⟩
def afE{cs:List Cl}{item region:Int}:∀c∈Wm cs item region,c.fr<c.to:=by
 intro c hc;simp only[Wm,zzce,FO,Zd,Wx,zzac,decide_eq_true_eq]at hc;obtain⟨_,h1,_,_,h2⟩:=hc;rw[if_pos h1]at h2;simp at h2;omega
def LX(cs:List Cl)(item region x:Int):Xv (Qcq cs item region) x<->grX (Wm cs item region) x=true:=by
 rw[Qcq,(Zy _).2,atx _ afE]
def NE(L:List Sp):Prop:=∀s∈L,s.1<s.2
def afF{L:List Sp}{f t:Int}(h:NE L):NE (nK L f t)/\∀x,Xv (nK L f t) x<->Xv L x\/(f<=x/\x<t):=by
 unfold nK;split
 ·rename_i Ir;cases hl:L.getLast? with
  |none=>
   have:L=[]:=by simpa using hl
   subst this;refine⟨by intro s hs;simp at hs;subst hs;exact Ir,fun x=>zd⟩
  |some s=>
   obtain⟨D,rfl⟩:∃D,L=D++[s]:=by
    have aO:L≠[]:=by rintro rfl;simp at hl
    refine⟨L.dropLast,?_⟩;have h1:=zzet aO;rw[List.getLast?_eq_some_getLast aO]at hl;cases hl;exact h1.symm
   have hs:=h s zd;simp only;split
   ·rename_i e;simp only[zzfq];refine⟨?_,fun x=>?_⟩
    ·intro u hu;rw[zzam]at hu;obtain hu|hu:=hu
     ·exact h u (by simp[hu])
     simp at hu;subst hu;simp only;omega
    simp only[Yv,Xf,Yr,or_false,or_assoc];constructor
    ·rintro(h|h)
     ·exact .inl h
     by_cases x<s.2
     ·exact .inr (.inl zE)
     exact .inr (.inr zE)
    rintro(h|h|h)
    ·exact .inl h
    ·exact .inr zE
    exact .inr zE
   refine⟨?_,fun x=>by simp[or_assoc]⟩;intro u hu;rw[zzam]at hu;obtain hu|hu:=hu
   ·exact h u hu
   simp at hu;subst hu;exact Ir
 refine⟨h,fun x=>?_⟩;constructor
 ·exact .inl
 rintro(h|h)
 ·exact h
 omega
def inW(W:List Sp)(n:Int):Prop:=∃w∈W,w.1<=n/\n<w.2
def OD(sf st mid:Int):∀{W L:List Sp},NE L->NE (pG sf st mid W L)/\∀x,Xv (pG sf st mid W L) x<->Xv L x\/(sf<=x/\x<st/\inW W (x-mid))
 |[],L,h=>⟨h,fun x=>by simp[pG,inW]⟩
 |w::W,L,h=>by
  obtain⟨a1,a2⟩:=afF (f:=max sf (mid+w.1)) (t:=min st (mid+w.2)) h;obtain⟨b1,b2⟩:=OD sf st mid (W:=W) a1;refine⟨b1,fun x=>?_⟩;rw[pG,b2,a2];simp only[inW,zzao,exists_eq_or_imp];constructor
  ·rintro((h|h)|⟨h1,h2,h3⟩)
   ·exact .inl h
   ·exact .inr ⟨zE,zE,.inl zE⟩
   exact .inr ⟨h1,h2,.inr h3⟩
  rintro(h|⟨h1,h2,h3|h3⟩)
  ·exact .inl (.inl h)
  ·exact .inl (.inr zE)
  exact .inr ⟨h1,h2,h3⟩
def afG(W:List Sp):Prop:=∀w∈W,0<=w.1/\w.2<=86400
def afH{W:List Sp}(hW:afG W)(sf st o:Int):∀(n:Nat)(d:Int){L:List Sp},(st-(d*86400-o)).toNat<=n->NE L->NE (nL W sf st (d*86400-o) L)/\
  ∀x,Xv (nL W sf st (d*86400-o) L) x<->Xv L x\/(sf<=x/\x<st/\d<=(x+o)/86400/\inW W ((x+o)%86400)):=by
 intro n;induction n with
 |zero=>
  intro d L h hL;rw[nL,if_neg zE];refine⟨hL,fun x=>⟨.inl,?_⟩⟩;rintro(h|⟨h1,h2,h3,h4⟩)
  ·exact h
  omega
 |succ n ih=>
  intro d L h hL;rw[nL];split
  ·rename_i hm;obtain⟨a1,a2⟩:=OD sf st (d*86400-o) (W:=W) hL;have e:d*86400-o+86400=(d+1)*86400-o:=zE
   rw[e];obtain⟨b1,b2⟩:=ih (d+1) zE a1;refine⟨b1,fun x=>?_⟩;rw[b2,a2];constructor
   ·rintro((h|⟨h1,h2,w,hw,h3,h4⟩)|⟨h1,h2,h3,h4⟩)
    ·exact .inl h
    ·have:=hW w hw;have hd:(x+o)/86400=d:=zE
     exact .inr ⟨h1,h2,zE,w,hw,zE,zE⟩
    exact .inr ⟨h1,h2,zE,h4⟩
   rintro(h|⟨h1,h2,h3,h4⟩)
   ·exact .inl (.inl h)
   by_cases hd:(x+o)/86400=d
   ·obtain⟨w,hw,h5,h6⟩:=h4;exact .inl (.inr ⟨h1,h2,w,hw,zE,zE⟩)
   exact .inr ⟨h1,h2,zE,h4⟩
  rename_i hm;refine⟨hL,fun x=>⟨.inl,?_⟩⟩;rintro(h|⟨h1,h2,h3,h4⟩)
  ·exact h
  omega
def amU{s:Sp}{W:List Sp}(hW:afG W)(y:Int×Int×Int){L:List Sp}(hL:NE L):NE (stL s W y L)/\
  ∀x,Xv (stL s W y L) x<->Xv L x\/(y.1<=x/\x<y.2.1/\s.1<=x/\x<s.2/\inW W ((x+y.2.2)%86400)):=by
 unfold stL;split
 ·refine⟨hL,fun x=>⟨.inl,?_⟩⟩;rintro(h|⟨h1,h2,h3,h4,_⟩)
  ·exact h
  omega
 obtain⟨a1,a2⟩:=afH hW (max y.1 s.1) (min y.2.1 s.2) y.2.2 _ ((max y.1 s.1+y.2.2)/86400) (zzab _) hL;refine⟨a1,fun x=>?_⟩;rw[a2];constructor
 ·rintro(h|⟨h1,h2,h3,h4⟩)
  ·exact .inl h
  exact .inr ⟨zE,zE,zE,zE,h4⟩
 rintro(h|⟨h1,h2,h3,h4,h5⟩)
 ·exact .inl h
 exact .inr ⟨zE,zE,zE,h5⟩
def OE{s:Sp}{W:List Sp}(hW:afG W):∀{xs:List (Int×Int×Int)}{L:List Sp},xs.Pairwise (fun a b=>a.1<=b.1)->NE L->∀x,Xv (tW s W xs L) x<->Xv L x\/(s.1<=x/\x<s.2/\∃y∈xs,y.1<=x/\x<y.2.1/\inW W ((x+y.2.2)%86400))
 |[],L,_,hL,x=>by simp[tW]
 |y::r,L,hp,hL,x=>by
  obtain⟨p1,p2⟩:=zzcb.1 hp;rw[tW];split
  ·rename_i hb;constructor
   ·exact .inl
   rintro(h|⟨h1,h2,z,hz,h3,h4,_⟩)
   ·exact h
   rcases zzao.1 hz with rfl|hz
   ·omega
   have:=p1 z hz;omega
  obtain⟨a1,a2⟩:=amU (s:=s) hW y hL;rw[OE hW p2 a1,a2];simp only[zzao,exists_eq_or_imp];constructor
  ·rintro((h|⟨h1,h2,h3,h4,h5⟩)|⟨h1,h2,h3⟩)
   ·exact .inl h
   ·exact .inr ⟨h3,h4,.inl ⟨h1,h2,h5⟩⟩
   exact .inr ⟨h1,h2,.inr h3⟩
  rintro(h|⟨h1,h2,⟨h3,h4,h5⟩|h3⟩)
  ·exact .inl (.inl h)
  ·exact .inl (.inr ⟨h3,h4,h1,h2,h5⟩)
  exact .inr ⟨h1,h2,h3⟩
def yQ(of:Int)(sh:List Sp)(x:Int):Int:=sh.foldl (fun n s=>if s.1<=x then s.2 else n) of
def HI:∀{sh:List Sp}{last:Int},tX last sh=true->sh.Pairwise (fun a b=>a.1<b.1)/\∀s∈sh,last<s.1/\s.1<=10000000000/\gT s.2=true
 |[],_,_=>⟨.nil,fun _ h=>by cases h⟩
 |a::r,last,h=>by
  rw[tX]at h;split at h
  ·cases h
  rename_i hn;simp only[not_or,zzgi]at hn;obtain⟨h1,h2⟩:=HI h;refine⟨zzcb.2 ⟨fun b hb=>(h2 b hb).1,h1⟩,?_⟩;intro s hs;rcases zzao.1 hs with rfl|hs
  ·exact⟨zE,zE,hn.2.2⟩
  have:=h2 s hs;exact⟨zE,this.2⟩
def BG{x:Int}:∀{sh:List Sp}(o:Int),(∀s∈sh,x<s.1)->yQ o sh x=o
 |[],o,_=>rfl
 |a::r,o,h=>by
  have:=h a zd;rw[yQ,zzcy,if_neg zE];exact BG o fun s hs=>h s (by simp[hs])
def HJ{P:Int->Prop}:∀{sh:List Sp}{f o:Int},(∀s∈sh,f<=s.1/\s.1<=10000000000)->sh.Pairwise (fun a b=>a.1<b.1)->f<=10000000000->∀x,(∃y∈uJ f o sh,y.1<=x/\x<y.2.1/\P y.2.2)<->f<=x/\x<=10000000000/\P (yQ o sh x)
 |[],f,o,_,_,hf,x=>by
  simp only[uJ,zzcq,exists_eq_left,yQ,List.foldl_nil];constructor
  ·rintro⟨h1,h2,h3⟩;exact⟨h1,zE,h3⟩
  rintro⟨h1,h2,h3⟩;exact⟨h1,zE,h3⟩
 |s::r,f,o,hb,hp,hf,x=>by
  obtain⟨p1,p2⟩:=zzcb.1 hp;have hs:=hb s zd;have ih:=HJ (P:=P) (o:=s.2) (f:=s.1) (sh:=r) (fun t ht=>⟨by have:=p1 t ht;omega,(hb t (by simp[ht])).2⟩) p2 hs.2 x
  have e:(∃y∈uJ f o (s::r),y.1<=x/\x<y.2.1/\P y.2.2)<->(f<=x/\x<s.1/\P o)\/∃y∈uJ s.1 s.2 r,y.1<=x/\x<y.2.1/\P y.2.2:=by
   rw[uJ];simp only[zzam,or_and_right,exists_or];refine or_congr ?_ Iff.rfl;split
   ·simp
   simp;intro h1 h2;omega
  have eo:yQ o (s::r) x=yQ (if s.1<=x then s.2 else o) r x:=rfl;rw[e,ih,eo];by_cases hx:s.1<=x
  ·rw[if_pos hx];constructor
   ·rintro(⟨h1,h2,h3⟩|⟨h1,h2,h3⟩)
    ·omega
    exact⟨zE,h2,h3⟩
   rintro⟨h1,h2,h3⟩;exact .inr ⟨hx,h2,h3⟩
  rw[if_neg hx];have hn:=BG (x:=x) (sh:=r) o fun t ht=>by have:=p1 t ht;omega
  rw[hn];constructor
  ·rintro(⟨h1,h2,h3⟩|⟨h1,h2,h3⟩)
   ·exact⟨h1,zE,h3⟩
   omega
  rintro⟨h1,h2,h3⟩;exact .inl ⟨h1,zE,h3⟩
def HK:∀{sh:List Sp}{f o:Int},(∀s∈sh,f<=s.1)->sh.Pairwise (fun a b=>a.1<b.1)->(uJ f o sh).Pairwise (fun a b=>a.1<=b.1)/\∀y∈uJ f o sh,f<=y.1
 |[],f,o,_,_=>by simp[uJ]
 |s::r,f,o,hb,hp=>by
  obtain⟨p1,p2⟩:=zzcb.1 hp;have hs:=hb s zd;obtain⟨i1,i2⟩:=HK (f:=s.1) (o:=s.2) (sh:=r) (fun t ht=>by have:=p1 t ht;omega) p2;rw[uJ];refine⟨?_,?_⟩
  ·rw[List.pairwise_append];refine⟨by split<;>simp,i1,?_⟩;intro a ha b cN;have:=i2 b cN;split at ha
   ·simp at ha;subst ha;simp only;omega
   simp at ha
  intro y hy;rw[zzam]at hy;obtain hy|hy:=hy
  ·split at hy
   ·simp at hy;subst hy;exact zzbu _
   simp at hy
  have:=i2 y hy;omega
def OF(of:Int)(sh:List Sp)(x fr to:Int):Prop:=0<=x/\x<=10000000000/\inW (zR fr to) ((x+yQ of sh x)%86400)
def aaj{of:Int}{sh:List Sp}{s:Sp}{fr to:Int}(h:xA of sh s fr to=true)(x:Int):Xv (iu of sh s fr to) x<->s.1<=x/\x<s.2/\OF of sh x fr to:=by
 rw[iu,if_pos h];simp only[xA,Yj,zS,zzac,decide_eq_true_eq]at h;obtain⟨⟨⟨⟨⟨_,_⟩,ha⟩,h1⟩,h2⟩,_⟩:=h;obtain⟨a1,a2⟩:=HI ha;have hW:afG (zR fr to):=fun w hw=>by have:=(uK h1 h2).2 w hw;omega
 rw[OE hW (HK (fun t ht=>by have:=a2 t ht;omega) a1).1 (fun _ h=>by cases h)];rw[HJ (P:=fun o=>inW (zR fr to) ((x+o)%86400)) (fun t ht=>by have:=a2 t ht;omega) a1 zE];simp only[Yr,false_or,OF]
open Go Go.Abs
def OG(p:Pl)(it:It)(region x:Int):Prop:=it.ki=5\/(Ki p=true/\grX (Wm p.cls it.id region) (p.ep+Yo p.nu p.de x)=true/\∀w∈uL p.cls it.ra,OF p.of p.sh (p.ep+Yo p.nu p.de x) w.1 w.2)
def gU(p:Pl)(id region x:Int):Prop:=∃it,Xk id p.aN=some it/\(0<=region/\region<8)/\(0<=x/\x<=100000000)/\OG p it region x
def HL:∀(Xs:List (List Sp))(a:List Sp)(y:Int),Xv (Xs.foldl zU a) y<->Xv a y/\∀l∈Xs,Xv l y
 |[],a,y=>zd
 |l::Xs,a,y=>by
  rw[zzcy,HL Xs,(kR a l).2];simp only[zzao,forall_eq_or_imp,and_assoc]
def DW{nu de s f:Int}(hv:Vh nu de=true)(hs:0<=s/\s<=10000000000)(hf:0<=f/\f<=100000000):xE nu de s<=f<->s<=Yo nu de f:=by
 obtain⟨b1,b2,b3,b4,b5⟩:=Jy hv;rw[xE,if_pos ⟨hv,hs.1,hs.2⟩,Yo,if_pos ⟨hv,hf.1,hf.2⟩];have q0:0<=s*nu:=zzeb hs.1 zE;have q1:0<=f*de:=zzeb hf.1 zE;rw[zzcj zE,zzcj q1]
 have e1:(s*nu+de-1)/de<=f<->s*nu<=f*de:=by
  rw[<- Int.lt_add_one_iff,Int.ediv_lt_iff_lt_mul zE];have:(f+1)*de=f*de+de:=by rw[Int.add_mul];omega
  omega
 rw[e1,Int.le_ediv_iff_mul_le zE]
def LY{p:Pl}{U:List Sp}(hv:Vh p.nu p.de=true)(hU:∀w∈U,(0<=w.1-p.ep/\w.1-p.ep<=10000000000)/\(0<=w.2-p.ep/\w.2-p.ep<=10000000000)){f:Int}(hf:0<=f/\f<=100000000):
  Xv (U.map (uM p)) f<->Xv U (p.ep+Yo p.nu p.de f):=by
 unfold Xv;simp only[zzbg];constructor
 ·rintro⟨_,⟨w,hw,rfl⟩,h1,h2⟩;obtain⟨u1,u2⟩:=hU w hw;have a1:=DW hv u1 hf;have a2:=DW hv u2 hf;simp only[uM]at h1 h2;exact⟨w,hw,zE,zE⟩
 rintro⟨w,hw,h1,h2⟩;obtain⟨u1,u2⟩:=hU w hw;have a1:=DW hv u1 hf;have a2:=DW hv u2 hf;exact⟨_,⟨w,hw,rfl⟩,by simp only[uM];omega,by simp only[uM];omega⟩
def aak{cs:List Cl}{ra:Int}:∀w∈uL cs ra,zS w.1=true/\zS w.2=true:=by
 intro w hw;simp only[uL,zzbg,zzce,HM,zzac,decide_eq_true_eq,Zd]at hw;obtain⟨c,⟨_,h1,_,_,h2⟩,rfl⟩:=hw;rw[Wx]at h2;simp only[h1]at h2;simp[Kn,wi]at h2;simp only[zS,decide_eq_true_eq];omega
def afI(s:Sp):0<=(QD s).1/\(QD s).2<=100000001/\∀x,((QD s).1<=x/\x<(QD s).2)<->(s.1<=x/\x<s.2/\0<=x/\x<=100000000):=by
 simp only[QD];refine⟨zE,zE,fun x=>?_⟩;omega
def kV(p:Pl)(id region:Int)(s:Sp)(hs:s.2-s.1<=1000000)(x:Int):Xv (Vw p id region s) x<->s.1<=x/\x<s.2/\gU p id region x:=by
 obtain⟨c0,c1,cx⟩:=afI s;have cl:(QD s).2-(QD s).1<=1000000:=by simp only[QD];omega
 unfold Vw gU;generalize QD s=c at*
 cases hf:Xk id p.aN with
 |none=>simp
 |some it=>
  simp only[Option.some.injEq,exists_eq_left'];split
  ·rename_i hb;simp only[Yr,false_iff];rintro⟨h1,h2,h3,h4,_⟩;have:=(cx x).2 ⟨h1,h2,h4⟩;omega
  rename_i hb;simp only[not_or]at hb;split
  ·rename_i hk;simp only[Xf,Yr,or_false,OG,hk,true_or,and_true];rw[cx x];constructor
   ·rintro⟨h1,h2,h3,h4⟩;exact⟨h1,h2,zE,h3,h4⟩
   rintro⟨h1,h2,h3,h4⟩;exact⟨h1,h2,h4⟩
  rename_i hk;split
  ·rename_i ht;simp[OG,hk,ht]
  rename_i ht;have XS:Ki p=true:=by simpa using ht
  have hte:Vh p.nu p.de=true/\Yj p.of p.sh=true/\0<=p.ep/\p.ep<=9000000000:=by
   simp only[Ki,zzac,decide_eq_true_eq]at XS;exact⟨XS.1.1,XS.1.2,XS.2⟩
  obtain⟨hv,hz,he⟩:=hte;rw[(kR _ _).2];obtain⟨u,hu⟩:∃u,uS p c=u:=⟨_,rfl⟩;have hu1:u.1=p.ep+Yo p.nu p.de c.1:=by rw[<- hu];rfl
  have JG:u.2=p.ep+Yo p.nu p.de (c.2-1)+1:=by rw[<- hu];rfl
  rw[hu];have hd:=kS (f:=c.1) (g:=c.2-1) hv zE zE zE;have hs1:=pH p.nu p.de c.1;have PO:=pH p.nu p.de (c.2-1)
  have Nn:0<=Yo p.nu p.de c.1:=by
   rw[Yo,if_pos ⟨hv,zE,zE⟩];exact Int.tdiv_nonneg (zzeb zE (by have:=Jy hv;omega)) (by have:=Jy hv;omega)
  have cE:iw p it region u (lN p it region u).length=(lN p it region u).foldl zU [u]:=by simp[iw]
  have bQ:Sl u.1 u.2 (iw p it region u (lN p it region u).length):=by
   rw[cE];exact C9 _ _ (by intro w hw;simp at hw;subst hw;omega)
  by_cases hx:c.1<=x/\x<c.2
  ·have iG:=(cx x).1 hx;have m1:=kS (f:=c.1) (g:=x) hv zE zE zE;have m2:=kS (f:=x) (g:=c.2-1) hv zE zE zE;rw[LY hv (fun w hw=>by have:=bQ w hw;omega) ⟨zE,zE⟩,cE,HL];simp only[Xf,Yr,or_false,OG,hk,false_or,XS,true_and]
   have hl:(∀l∈lN p it region u,Xv l (p.ep+Yo p.nu p.de x))<->(grX (Wm p.cls it.id region) (p.ep+Yo p.nu p.de x)=true/\∀w∈uL p.cls it.ra,OF p.of p.sh (p.ep+Yo p.nu p.de x) w.1 w.2):=by
    unfold lN;simp only[zzao,forall_eq_or_imp,zzbg,forall_exists_index,and_imp,forall_apply_eq_imp_iff₂];rw[LX];refine and_congr Iff.rfl (forall_congr' fun w=>forall_congr' fun hw=>?_);obtain⟨d1,d2⟩:=aak w hw;rw[aaj (by simp only[xA,hz,d1,d2,zzgd,zzds,decide_eq_true_eq];omega)];constructor
    ·rintro⟨_,_,h⟩;exact h
    intro h;exact⟨zE,zE,h⟩
   rw[hl];constructor
   ·rintro⟨⟨_,h⟩,_⟩;exact⟨iG.1,iG.2.1,zE,iG.2.2,h⟩
   rintro⟨_,_,_,_,h⟩;exact⟨⟨zE,h⟩,hx⟩
  simp only[Xf,Yr,or_false];constructor
  ·rintro⟨_,h⟩;exact absurd h hx
  rintro⟨h1,h2,_,h4,_⟩;exact absurd ((cx x).2 ⟨h1,h2,h4⟩) hx
def Lh(p:Pl)(id region f n:Int):Xy p id region f n=true<->(1<=n/\n<=1000000/\0<=f/\f+n-1<=100000000)/\∀x,f<=x->x<f+n->gU p id region x:=by
 unfold Xy;split
 ·rename_i hb;simp only[zzbh,false_iff];rintro⟨⟨h1,h2,h3,h4⟩,_⟩;obtain h|h|h|h:=hb
  ·omega
  ·omega
  ·simp[XU]at h;omega
  simp[XU]at h;omega
 rename_i hb;simp only[not_or,zzgi,XU,decide_eq_true_eq]at hb;obtain⟨b1,b2,b3,b4⟩:=hb;rw[List.isEmpty_iff,LZ (by simp only;omega)];constructor
 ·intro h;refine⟨zE,fun x h1 h2=>?_⟩;exact((kV p id region (f,f+n) (by simp only;omega) x).1 (h x h1 h2)).2.2
 rintro⟨_,h⟩ x h1 h2;exact(kV p id region (f,f+n) (by simp only;omega) x).2 ⟨h1,h2,h x h1 h2⟩
open Go Go.Abs
open Go Go.Abs
def ax1(of:Int)(sh:List Sp)(x fr to:Int):Bool:=
 if Yj of sh=false\/x<0\/10000000000<x\/fr<0\/86400<=fr\/to<0\/86400<=to then false else
 if fr<to then decide (fr<=(x+yQ of sh x)%86400)&&decide ((x+yQ of sh x)%86400<to)else decide (fr<=(x+yQ of sh x)%86400)||decide ((x+yQ of sh x)%86400<to)
open Go Go.Abs
def ax2(s r:Int):Bool:=if 0<=r/\r<8 then decide ((s/2 ^ r.toNat)%2=1)else false
def aty(c:Cl)(k item region:Int):Bool:=decide (c.ki=k)&&(Zd c&&(decide (c.it=item)&&ax2 c.re region))
open Go Go.Abs
def hasB(l:List Sp)(x:Int):Bool:=l.any fun s=>decide (s.1<=x)&&decide (x<s.2)
open Go Go.Abs
def ai2(a:Int):P2:=[I a]
def amV:Pi->Int->Pi
 |[],x=>[x]
 |a::r,x=>if a<x then a::amV r x else if a=x then a::r else x::a::r
open Go Go.Abs
def amW(item region:Int)(c:Cl):Bool:=aty c 1 item region||aty c 2 item region
def edS(C:List Cl):Pi:=C.foldl (fun e c=>amV (amV e c.fr) c.to) []
def amX(C:List Cl)(Ed:Pi):Nat->List Sp
 |0=>[]
 |j+1=>if grX C (Ed.getD j 0)=true then nK (amX C Ed j) (Ed.getD j 0) (Ed.getD (j+1) 0)else amX C Ed j
def ax3(cs:List Cl)(item region:Int):List Sp:=amX (cs.filter (amW item region)) (edS (cs.filter (amW item region))) ((edS (cs.filter (amW item region))).length-1)
def atz:P2->Int
 |[.int _ a]=>a
 |_=>0
@[simp] def afJ(l:Pi):(l.map ai2).map atz=l:=by
 induction l with
 |nil=>rfl
 |cons a l ih=>simp only[zzaz,ih];rfl
@[simp] def atA(l:Pi):l.map (atz ∘ ai2)=l:=by rw[<- zzcu];exact afJ l
open Go Go.Abs
def atB(p:Pl)(item region f:Int):Bool:=match Xk item p.aN with
 |none=>false
 |some it=>if region<0\/8<=region\/f<0\/100000000<f then false else if it.ki=5 then true else if Ki p=false then false else
  hasB (ax3 p.cls item region) (p.ep+Yo p.nu p.de f)&&(uL p.cls it.ra).all fun w=>ax1 p.of p.sh (p.ep+Yo p.nu p.de f) w.1 w.2
open Go Go.Abs
open Go Go.Abs
def ayX(p:Pl)(last f:Int):Int:=if Ki p=true then min last (xE p.nu p.de (Yo p.nu p.de f+1))else last
def ayY(p:Pl)(item region first f:Int)(L:List Sp):Prop:=VS L/\(∀s∈L,s.2<=f)/\(∀x,Xv L x<->first<=x/\x<f/\atB p item region x=true)/\(L.length:Int)<=f-first
