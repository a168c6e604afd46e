import Derived.Test.YtfliagpjbbkijaaGreatDoorVBMN
import Derived.Test.YtfliagpjbbkijaaGreatDoorVBMQ
set_option linter.all false
set_option maxRecDepth 100000
set_option maxHeartbeats 64000000
namespace Go.Proofs.YtfliagpjbbkijaaGreatDoor
open Go Go.Abs
def Rg(x:Int)(c:Cl):Bool:=decide (c.fr<=x/\x<c.to)
def grX(C:List Cl)(x:Int):Bool:=match C.reverse.find? (Rg x)with
 |some c=>decide (c.ki=1)
 |none=>false
def find_congr{α:Type}{p q:α->Bool}:∀{l:List α},(∀a∈l,p a=q a)->l.find? p=l.find? q
 |[],_=>rfl
 |a::l,h=>by
  have h1:=h a zd;have ih:=find_congr (l:=l) fun b hb=>h b (by simp[hb]);rw[zzfg,zzfg,h1,ih]
def Zz{x:Int}:∀{l:Pi}{j:Nat}{v:Int},l.Pairwise (·<·)->l[j]?=some v->(j<qV l x<->v<x)
 |[],j,v,_,h=>by simp at h
 |a::r,j,v,hp,h=>by
  obtain⟨h1,h2⟩:=zzc.1 hp
  have e:qV (a::r) x=qV r x+if a<x then 1 else 0:=by
   unfold qV;rw[zzeg];by_cases ha:a<x<;>simp[ha]
  have hz:¬a<x->qV r x=0:=by
   intro ha;unfold qV;rw[zzbl,zzgz];intro y hy;have:=h1 y hy;simp;omega
  rw[e];cases j with
  |zero=>
   simp at h;subst h;by_cases ha:a<x
   ·simp[ha]
   simp[ha,hz ha]
  |succ j=>
   simp at h;have hav:=h1 v (zzad h);have ih:=Zz (x:=x) h2 h;by_cases ha:a<x
   ·simp only[ha,if_true];omega
   have:=hz ha;simp only[ha,if_false];omega
def GB(Bd:Pi)(j:Nat)(c:Cl):Bool:=decide (qV Bd c.fr<=j/\j<qV Bd c.to)
def GC(Bd:Pi)(j:Nat):∀(R:List Cl)(s:GS),(R.foldl (QN Bd) s)[j]?=(s[j]?).map fun o=>match o with
  |some v=>some v
  |none=>(R.find? (GB Bd j)).map fun c=>decide (c.ki=1)
 |[],s=>by
  cases h:s[j]? with
  |none=>simp[h]
  |some o=>cases o<;>simp[h]
 |c::R,s=>by
  rw[zzcu,GC Bd j R,QN,Uv,zzfg];cases h:s[j]? with
  |none=>simp
  |some o=>
   cases o with
   |some v=>simp
   |none=>
    by_cases hc:qV Bd c.fr<=j/\j<qV Bd c.to
    ·simp[GB,hc]
    simp[GB,hc]
def GD(Bd:Pi)(s:GS)(x:Int):∀n,Xw (nk Bd s n) x<->∃j,j<n/\s[j]?=some (some true)/\Bd.getD j 0<=x/\x<Bd.getD (j+1) 0
 |0=>by simp[nk]
 |n+1=>by
  rw[qX,Yn,GD Bd s x n];unfold C3;constructor
  ·rintro(⟨j,h1,h2⟩|h)
   ·exact⟨j,zE,h2⟩
   split at h
   ·rename_i hs;rw[Xh]at h;obtain h|h:=h
    ·exact⟨n,zE,hs,h⟩
    simp at h
   simp at h
  rintro⟨j,h1,h2,h3⟩;rcases zzab j n with h|h
  ·exact .inl ⟨j,h,h2,h3⟩
  obtain rfl:j=n:=zE
  right;rw[if_pos h2,Xh];exact .inl h3
def uD{l:Pi}{j:Nat}{v:Int}(h:l[j]?=some v):l.getD j 0=v:=by
 simp[zzaq,h]
def atS(C:List Cl)(hC:∀c∈C,c.fr<c.to)(x:Int):Xw (nk (dN C) (wA C) (dN C).length) x<->grX C x=true:=by
 have nt:=N0 C;have lq:∀c∈C,c.fr∈dN C/\c.to∈dN C:=fun c hc=>⟨(ur _ _).2 (pF hc).1,(ur _ _).2 (pF hc).2⟩
 have nx:∀j,j<(dN C).length->(wA C)[j]?=some ((C.reverse.find? (GB (dN C) j)).map fun c=>decide (c.ki=1)):=by
  intro j hj;rw[wA,GC];have:(List.replicate (dN C).length (none:Option Bool))[j]?=some none:=by simp[hj]
  rw[this];rfl
 have key:∀(j:Nat)(u w:Int),(dN C)[j]?=some u->(dN C)[j+1]?=some w->u<=x->x<w->∀c∈C.reverse,GB (dN C) j c=Rg x c:=by
  intro j u w hu hw h1 h2 c hc;have kj:=zzfq.1 hc;have a1:=Zz (x:=c.fr) nt hu;have a2:=Zz (x:=c.fr) nt hw;have a3:=Zz (x:=c.to) nt hu;have a4:=Zz (x:=c.to) nt hw;obtain⟨m1,m2⟩:=lq c kj
  have gap:∀y∈dN C,y<=u\/w<=y:=by
   intro y hy;obtain⟨k,hk⟩:=zzft hy;rcases zzab j k with h|h
   ·right;have q1:=Zz (x:=w) nt hk;have q2:=Zz (x:=w) nt hw;omega
   left;have q1:=Zz (x:=y) nt hk;have q2:=Zz (x:=y) nt hu;omega
  have g1:=gap _ m1;have g2:=gap _ m2;unfold GB Rg;apply decide_eq_decide.2;omega
 have YB:∀(j:Nat)(u w:Int),(dN C)[j]?=some u->(dN C)[j+1]?=some w->u<=x->x<w->((wA C)[j]?=some (some true)<->grX C x=true):=by
  intro j u w hu hw h1 h2;rw[nx j (zza.1 hu).1,find_congr (key j u w hu hw h1 h2),grX];cases C.reverse.find? (Rg x)<;>simp
 rw[GD];constructor
 ·rintro⟨j,hj,hs,h1,h2⟩;have dR:=hs;rw[nx j hj]at hs;cases hf:C.reverse.find? (GB (dN C) j)with
  |none=>rw[hf]at hs;simp at hs
  |some c=>
   have hc:=zzfq.1 (zzfh hf);have hi:=List.find?_some hf;simp only[GB,decide_eq_true_eq]at hi;have hl:=KH (lq c hc).2;have ek:j+1<(dN C).length:=zE
   obtain⟨u,hu⟩:∃u,(dN C)[j]?=some u:=⟨_,zzac hj⟩;obtain⟨w,hw⟩:∃w,(dN C)[j+1]?=some w:=⟨_,zzac ek⟩;rw[uD hu]at h1;rw[uD hw]at h2;exact(YB j u w hu hw h1 h2).1 dR
 intro hg;have hg':=hg;rw[grX]at hg;cases hf:C.reverse.find? (Rg x)with
 |none=>rw[hf]at hg;simp at hg
 |some c=>
  have hc:=zzfq.1 (zzfh hf);have hi:=List.find?_some hf;simp only[Rg,decide_eq_true_eq]at hi;obtain⟨m1,m2⟩:=lq c hc;obtain⟨k1,cZ⟩:=zzft m1;obtain⟨k2,dM⟩:=zzft m2;have a1:=(Zz (x:=x+1) nt cZ).2 zE;have a2:=Zz (x:=x+1) nt dM;have l2:=(zza.1 dM).1;obtain⟨j,hj⟩:∃j,qV (dN C) (x+1)=j+1:=⟨qV (dN C) (x+1)-1,zE⟩;have ek:j+1<(dN C).length:=zE
  obtain⟨u,hu⟩:∃u,(dN C)[j]?=some u:=⟨_,zzac zE⟩;obtain⟨w,hw⟩:∃w,(dN C)[j+1]?=some w:=⟨_,zzac ek⟩;have b1:=Zz (x:=x+1) nt hu;have b2:=Zz (x:=x+1) nt hw;exact⟨j,zE,(YB j u w hu hw zE zE).2 hg',by rw[uD hu];omega,by rw[uD hw];omega⟩
def ae3{cs:List Cl}{item region:Int}:∀c∈Ku cs item region,c.fr<c.to:=by
 intro c hc;simp only[Ku,zzcq,FT,Xe,Ua,zzak,decide_eq_true_eq]at hc;obtain⟨_,h1,_,_,h2⟩:=hc;rw[if_pos h1]at h2;simp at h2;omega
def Lc(cs:List Cl)(item region x:Int):Xw (Qci cs item region) x<->grX (Ku cs item region) x=true:=by
 rw[Qci,(Yh _).2,atS _ ae3]
def NE(L:List Sp):Prop:=∀s∈L,s.1<s.2
def ae4{L:List Sp}{f t:Int}(h:NE L):NE (nB L f t)/\∀x,Xw (nB L f t) x<->Xw L x\/(f<=x/\x<t):=by
 unfold nB;split
 ·rename_i Iw;cases hl:L.getLast? with
  |none=>
   have:L=[]:=by simpa using hl
   subst this;refine⟨by intro s hs;simp at hs;subst hs;exact Iw,fun x=>zd⟩
  |some s=>
   obtain⟨D,rfl⟩:∃D,L=D++[s]:=by
    have aK:L≠[]:=by rintro rfl;simp at hl
    refine⟨L.dropLast,?_⟩;have h1:=zzev aK;rw[List.getLast?_eq_some_getLast aK]at hl;cases hl;exact h1.symm
   have hs:=h s zd;simp only;split
   ·rename_i e;simp only[zzfu];refine⟨?_,fun x=>?_⟩
    ·intro u hu;rw[zzat]at hu;obtain hu|hu:=hu
     ·exact h u (by simp[hu])
     simp at hu;subst hu;simp only;omega
    simp only[Yn,Xh,Ub,or_false,or_assoc];constructor
    ·rintro(h|h)
     ·exact .inl h
     by_cases x<s.2
     ·exact .inr (.inl zE)
     exact .inr (.inr zE)
    rintro(h|h|h)
    ·exact .inl h
    ·exact .inr zE
    exact .inr zE
   refine⟨?_,fun x=>by simp[or_assoc]⟩;intro u hu;rw[zzat]at hu;obtain hu|hu:=hu
   ·exact h u hu
   simp at hu;subst hu;exact Iw
 refine⟨h,fun x=>?_⟩;constructor
 ·exact .inl
 rintro(h|h)
 ·exact h
 omega
def inW(W:List Sp)(n:Int):Prop:=∃w∈W,w.1<=n/\n<w.2
def N8(sf st mid:Int):∀{W L:List Sp},NE L->NE (pL sf st mid W L)/\∀x,Xw (pL sf st mid W L) x<->Xw L x\/(sf<=x/\x<st/\inW W (x-mid))
 |[],L,h=>⟨h,fun x=>by simp[pL,inW]⟩
 |w::W,L,h=>by
  obtain⟨a1,a2⟩:=ae4 (f:=max sf (mid+w.1)) (t:=min st (mid+w.2)) h;obtain⟨b1,b2⟩:=N8 sf st mid (W:=W) a1;refine⟨b1,fun x=>?_⟩;rw[pL,b2,a2];simp only[inW,zzao,exists_eq_or_imp];constructor
  ·rintro((h|h)|⟨h1,h2,h3⟩)
   ·exact .inl h
   ·exact .inr ⟨zE,zE,.inl zE⟩
   exact .inr ⟨h1,h2,.inr h3⟩
  rintro(h|⟨h1,h2,h3|h3⟩)
  ·exact .inl (.inl h)
  ·exact .inl (.inr zE)
  exact .inr ⟨h1,h2,h3⟩
def ae5(W:List Sp):Prop:=∀w∈W,0<=w.1/\w.2<=86400
def ae6{W:List Sp}(hW:ae5 W)(sf st o:Int):∀(n:Nat)(d:Int){L:List Sp},(st-(d*86400-o)).toNat<=n->NE L->NE (nC W sf st (d*86400-o) L)/\
  ∀x,Xw (nC W sf st (d*86400-o) L) x<->Xw L x\/(sf<=x/\x<st/\d<=(x+o)/86400/\inW W ((x+o)%86400)):=by
 intro n;induction n with
 |zero=>
  intro d L h hL;rw[nC,if_neg zE];refine⟨hL,fun x=>⟨.inl,?_⟩⟩;rintro(h|⟨h1,h2,h3,h4⟩)
  ·exact h
  omega
 |succ n ih=>
  intro d L h hL;rw[nC];split
  ·rename_i hm;obtain⟨a1,a2⟩:=N8 sf st (d*86400-o) (W:=W) hL;have e:d*86400-o+86400=(d+1)*86400-o:=zE
   rw[e];obtain⟨b1,b2⟩:=ih (d+1) zE a1;refine⟨b1,fun x=>?_⟩;rw[b2,a2];constructor
   ·rintro((h|⟨h1,h2,w,hw,h3,h4⟩)|⟨h1,h2,h3,h4⟩)
    ·exact .inl h
    ·have:=hW w hw;have hd:(x+o)/86400=d:=zE
     exact .inr ⟨h1,h2,zE,w,hw,zE,zE⟩
    exact .inr ⟨h1,h2,zE,h4⟩
   rintro(h|⟨h1,h2,h3,h4⟩)
   ·exact .inl (.inl h)
   by_cases hd:(x+o)/86400=d
   ·obtain⟨w,hw,h5,h6⟩:=h4;exact .inl (.inr ⟨h1,h2,w,hw,zE,zE⟩)
   exact .inr ⟨h1,h2,zE,h4⟩
  rename_i hm;refine⟨hL,fun x=>⟨.inl,?_⟩⟩;rintro(h|⟨h1,h2,h3,h4⟩)
  ·exact h
  omega
def am5{s:Sp}{W:List Sp}(hW:ae5 W)(y:Int×Int×Int){L:List Sp}(hL:NE L):NE (stL s W y L)/\
  ∀x,Xw (stL s W y L) x<->Xw L x\/(y.1<=x/\x<y.2.1/\s.1<=x/\x<s.2/\inW W ((x+y.2.2)%86400)):=by
 unfold stL;split
 ·refine⟨hL,fun x=>⟨.inl,?_⟩⟩;rintro(h|⟨h1,h2,h3,h4,_⟩)
  ·exact h
  omega
 obtain⟨a1,a2⟩:=ae6 hW (max y.1 s.1) (min y.2.1 s.2) y.2.2 _ ((max y.1 s.1+y.2.2)/86400) (zzaa _) hL;refine⟨a1,fun x=>?_⟩;rw[a2];constructor
 ·rintro(h|⟨h1,h2,h3,h4⟩)
  ·exact .inl h
  exact .inr ⟨zE,zE,zE,zE,h4⟩
 rintro(h|⟨h1,h2,h3,h4,h5⟩)
 ·exact .inl h
 exact .inr ⟨zE,zE,zE,h5⟩
def N9{s:Sp}{W:List Sp}(hW:ae5 W):∀{xs:List (Int×Int×Int)}{L:List Sp},xs.Pairwise (fun a b=>a.1<=b.1)->NE L->∀x,Xw (tR s W xs L) x<->Xw L x\/(s.1<=x/\x<s.2/\∃y∈xs,y.1<=x/\x<y.2.1/\inW W ((x+y.2.2)%86400))
 |[],L,_,hL,x=>by simp[tR]
 |y::r,L,hp,hL,x=>by
  obtain⟨p1,p2⟩:=zzc.1 hp;rw[tR];split
  ·rename_i hb;constructor
   ·exact .inl
   rintro(h|⟨h1,h2,z,hz,h3,h4,_⟩)
   ·exact h
   rcases zzao.1 hz with rfl|hz
   ·omega
   have:=p1 z hz;omega
  obtain⟨a1,a2⟩:=am5 (s:=s) hW y hL;rw[N9 hW p2 a1,a2];simp only[zzao,exists_eq_or_imp];constructor
  ·rintro((h|⟨h1,h2,h3,h4,h5⟩)|⟨h1,h2,h3⟩)
   ·exact .inl h
   ·exact .inr ⟨h3,h4,.inl ⟨h1,h2,h5⟩⟩
   exact .inr ⟨h1,h2,.inr h3⟩
  rintro(h|⟨h1,h2,⟨h3,h4,h5⟩|h3⟩)
  ·exact .inl (.inl h)
  ·exact .inl (.inr ⟨h3,h4,h1,h2,h5⟩)
  exact .inr ⟨h1,h2,h3⟩
def xw(of:Int)(sh:List Sp)(x:Int):Int:=sh.foldl (fun n s=>if s.1<=x then s.2 else n) of
def GF:∀{sh:List Sp}{last:Int},tP last sh=true->sh.Pairwise (fun a b=>a.1<b.1)/\∀s∈sh,last<s.1/\s.1<=10000000000/\gY s.2=true
 |[],_,_=>⟨.nil,fun _ h=>by cases h⟩
 |a::r,last,h=>by
  rw[tP]at h;split at h
  ·cases h
  rename_i hn;simp only[not_or,Bool.not_eq_false]at hn;obtain⟨h1,h2⟩:=GF h;refine⟨zzc.2 ⟨fun b hb=>(h2 b hb).1,h1⟩,?_⟩;intro s hs;rcases zzao.1 hs with rfl|hs
  ·exact⟨zE,zE,hn.2.2⟩
  have:=h2 s hs;exact⟨zE,this.2⟩
def Bg{x:Int}:∀{sh:List Sp}(o:Int),(∀s∈sh,x<s.1)->xw o sh x=o
 |[],o,_=>rfl
 |a::r,o,h=>by
  have:=h a zd;rw[xw,zzcu,if_neg zE];exact Bg o fun s hs=>h s (by simp[hs])
def GG{P:Int->Prop}:∀{sh:List Sp}{f o:Int},(∀s∈sh,f<=s.1/\s.1<=10000000000)->sh.Pairwise (fun a b=>a.1<b.1)->f<=10000000000->∀x,(∃y∈uy f o sh,y.1<=x/\x<y.2.1/\P y.2.2)<->f<=x/\x<=10000000000/\P (xw o sh x)
 |[],f,o,_,_,hf,x=>by
  simp only[uy,zzcv,exists_eq_left,xw,List.foldl_nil];constructor
  ·rintro⟨h1,h2,h3⟩;exact⟨h1,zE,h3⟩
  rintro⟨h1,h2,h3⟩;exact⟨h1,zE,h3⟩
 |s::r,f,o,hb,hp,hf,x=>by
  obtain⟨p1,p2⟩:=zzc.1 hp;have hs:=hb s zd;have ih:=GG (P:=P) (o:=s.2) (f:=s.1) (sh:=r) (fun t ht=>⟨by have:=p1 t ht;omega,(hb t (by simp[ht])).2⟩) p2 hs.2 x
  have e:(∃y∈uy f o (s::r),y.1<=x/\x<y.2.1/\P y.2.2)<->(f<=x/\x<s.1/\P o)\/∃y∈uy s.1 s.2 r,y.1<=x/\x<y.2.1/\P y.2.2:=by
   rw[uy];simp only[zzat,or_and_right,exists_or];refine or_congr ?_ Iff.rfl;split
   ·simp
   simp;intro h1 h2;omega
  have eo:xw o (s::r) x=xw (if s.1<=x then s.2 else o) r x:=rfl;rw[e,ih,eo];by_cases hx:s.1<=x
  ·rw[if_pos hx];constructor
   ·rintro(⟨h1,h2,h3⟩|⟨h1,h2,h3⟩)
    ·omega
    exact⟨zE,h2,h3⟩
   rintro⟨h1,h2,h3⟩;exact .inr ⟨hx,h2,h3⟩
  rw[if_neg hx];have hn:=Bg (x:=x) (sh:=r) o fun t ht=>by have:=p1 t ht;omega
  rw[hn];constructor
  ·rintro(⟨h1,h2,h3⟩|⟨h1,h2,h3⟩)
   ·exact⟨h1,zE,h3⟩
   omega
  rintro⟨h1,h2,h3⟩;exact .inl ⟨h1,zE,h3⟩
def GH:∀{sh:List Sp}{f o:Int},(∀s∈sh,f<=s.1)->sh.Pairwise (fun a b=>a.1<b.1)->(uy f o sh).Pairwise (fun a b=>a.1<=b.1)/\∀y∈uy f o sh,f<=y.1
 |[],f,o,_,_=>by simp[uy]
 |s::r,f,o,hb,hp=>by
  obtain⟨p1,p2⟩:=zzc.1 hp;have hs:=hb s zd;obtain⟨i1,i2⟩:=GH (f:=s.1) (o:=s.2) (sh:=r) (fun t ht=>by have:=p1 t ht;omega) p2;rw[uy];refine⟨?_,?_⟩
  ·rw[List.pairwise_append];refine⟨by split<;>simp,i1,?_⟩;intro a ha b cU;have:=i2 b cU;split at ha
   ·simp at ha;subst ha;simp only;omega
   simp at ha
  intro y hy;rw[zzat]at hy;obtain hy|hy:=hy
  ·split at hy
   ·simp at hy;subst hy;exact zzcx _
   simp at hy
  have:=i2 y hy;omega
def Oa(of:Int)(sh:List Sp)(x fr to:Int):Prop:=0<=x/\x<=10000000000/\inW (zx fr to) ((x+xw of sh x)%86400)
def YC{of:Int}{sh:List Sp}{s:Sp}{fr to:Int}(h:wU of sh s fr to=true)(x:Int):Xw (iC of sh s fr to) x<->s.1<=x/\x<s.2/\Oa of sh x fr to:=by
 rw[iC,if_pos h];simp only[wU,Vy,zz,zzak,decide_eq_true_eq]at h;obtain⟨⟨⟨⟨⟨_,_⟩,ha⟩,h1⟩,h2⟩,_⟩:=h;obtain⟨a1,a2⟩:=GF ha;have hW:ae5 (zx fr to):=fun w hw=>by have:=(uz h1 h2).2 w hw;omega
 rw[N9 hW (GH (fun t ht=>by have:=a2 t ht;omega) a1).1 (fun _ h=>by cases h)];rw[GG (P:=fun o=>inW (zx fr to) ((x+o)%86400)) (fun t ht=>by have:=a2 t ht;omega) a1 zE];simp only[Ub,false_or,Oa]
def Ob(p:Pl)(it:It)(region x:Int):Prop:=it.ki=5\/(Jt p=true/\grX (Ku p.cls it.id region) (p.ep+Yf p.nu p.de x)=true/\∀w∈ux p.cls it.ra,Oa p.of p.sh (p.ep+Yf p.nu p.de x) w.1 w.2)
def jK(p:Pl)(id region x:Int):Prop:=∃it,Xk id p.aT=some it/\(0<=region/\region<8)/\(0<=x/\x<=100000000)/\Ob p it region x
def GI:∀(Xs:List (List Sp))(a:List Sp)(y:Int),Xw (Xs.foldl zq a) y<->Xw a y/\∀l∈Xs,Xw l y
 |[],a,y=>zd
 |l::Xs,a,y=>by
  rw[zzcu,GI Xs,(kR a l).2];simp only[zzao,forall_eq_or_imp,and_assoc]
def Dp{nu de s f:Int}(hv:Vf nu de=true)(hs:0<=s/\s<=10000000000)(hf:0<=f/\f<=100000000):wM nu de s<=f<->s<=Yf nu de f:=by
 obtain⟨b1,b2,b3,b4,b5⟩:=Jk hv;rw[wM,if_pos ⟨hv,hs.1,hs.2⟩,Yf,if_pos ⟨hv,hf.1,hf.2⟩];have q0:0<=s*nu:=zzee hs.1 zE;have q1:0<=f*de:=zzee hf.1 zE;rw[zzca zE,zzca q1]
 have e1:(s*nu+de-1)/de<=f<->s*nu<=f*de:=by
  rw[<- Int.lt_add_one_iff,Int.ediv_lt_iff_lt_mul zE];have:(f+1)*de=f*de+de:=by rw[Int.add_mul];omega
  omega
 rw[e1,Int.le_ediv_iff_mul_le zE]
def Ld{p:Pl}{U:List Sp}(hv:Vf p.nu p.de=true)(hU:∀w∈U,(0<=w.1-p.ep/\w.1-p.ep<=10000000000)/\(0<=w.2-p.ep/\w.2-p.ep<=10000000000)){f:Int}(hf:0<=f/\f<=100000000):
  Xw (U.map (uA p)) f<->Xw U (p.ep+Yf p.nu p.de f):=by
 unfold Xw;simp only[zzbk];constructor
 ·rintro⟨_,⟨w,hw,rfl⟩,h1,h2⟩;obtain⟨u1,u2⟩:=hU w hw;have a1:=Dp hv u1 hf;have a2:=Dp hv u2 hf;simp only[uA]at h1 h2;exact⟨w,hw,zE,zE⟩
 rintro⟨w,hw,h1,h2⟩;obtain⟨u1,u2⟩:=hU w hw;have a1:=Dp hv u1 hf;have a2:=Dp hv u2 hf;exact⟨_,⟨w,hw,rfl⟩,by simp only[uA];omega,by simp only[uA];omega⟩
def YD{cs:List Cl}{ra:Int}:∀w∈ux cs ra,zz w.1=true/\zz w.2=true:=by
 intro w hw;simp only[ux,zzbk,zzcq,Gc,zzak,decide_eq_true_eq,Xe]at hw;obtain⟨c,⟨_,h1,_,_,h2⟩,rfl⟩:=hw;rw[Ua]at h2;simp only[h1]at h2;simp[Vr,wi]at h2;simp only[zz,decide_eq_true_eq];omega
def ae7(s:Sp):0<=(QY s).1/\(QY s).2<=100000001/\∀x,((QY s).1<=x/\x<(QY s).2)<->(s.1<=x/\x<s.2/\0<=x/\x<=100000000):=by
 simp only[QY];refine⟨zE,zE,fun x=>?_⟩;omega
def Bh(p:Pl)(id region:Int)(s:Sp)(hs:s.2-s.1<=1000000)(x:Int):Xw (Vp p id region s) x<->s.1<=x/\x<s.2/\jK p id region x:=by
 obtain⟨c0,c1,cx⟩:=ae7 s;have cl:(QY s).2-(QY s).1<=1000000:=by simp only[QY];omega
 unfold Vp jK;generalize QY s=c at*
 cases hf:Xk id p.aT with
 |none=>simp
 |some it=>
  simp only[Option.some.injEq,exists_eq_left'];split
  ·rename_i hb;simp only[Ub,false_iff];rintro⟨h1,h2,h3,h4,_⟩;have:=(cx x).2 ⟨h1,h2,h4⟩;omega
  rename_i hb;simp only[not_or]at hb;split
  ·rename_i hk;simp only[Xh,Ub,or_false,Ob,hk,true_or,and_true];rw[cx x];constructor
   ·rintro⟨h1,h2,h3,h4⟩;exact⟨h1,h2,zE,h3,h4⟩
   rintro⟨h1,h2,h3,h4⟩;exact⟨h1,h2,h4⟩
  rename_i hk;split
  ·rename_i ht;simp[Ob,hk,ht]
  rename_i ht;have XW:Jt p=true:=by simpa using ht
  have hte:Vf p.nu p.de=true/\Vy p.of p.sh=true/\0<=p.ep/\p.ep<=9000000000:=by
   simp only[Jt,zzak,decide_eq_true_eq]at XW;exact⟨XW.1.1,XW.1.2,XW.2⟩
  obtain⟨hv,hz,he⟩:=hte;rw[(kR _ _).2];obtain⟨u,hu⟩:∃u,uS p c=u:=⟨_,rfl⟩;have hu1:u.1=p.ep+Yf p.nu p.de c.1:=by rw[<- hu];rfl
  have JU:u.2=p.ep+Yf p.nu p.de (c.2-1)+1:=by rw[<- hu];rfl
  rw[hu];have hd:=kS (f:=c.1) (g:=c.2-1) hv zE zE zE;have hs1:=pM p.nu p.de c.1;have QI:=pM p.nu p.de (c.2-1)
  have JR:0<=Yf p.nu p.de c.1:=by
   rw[Yf,if_pos ⟨hv,zE,zE⟩];exact Int.tdiv_nonneg (zzee zE (by have:=Jk hv;omega)) (by have:=Jk hv;omega)
  have eu:iD p it region u (lF p it region u).length=(lF p it region u).foldl zq [u]:=by simp[iD]
  have bT:SU u.1 u.2 (iD p it region u (lF p it region u).length):=by
   rw[eu];exact Dh _ _ (by intro w hw;simp at hw;subst hw;omega)
  by_cases hx:c.1<=x/\x<c.2
  ·have j8:=(cx x).1 hx;have m1:=kS (f:=c.1) (g:=x) hv zE zE zE;have m2:=kS (f:=x) (g:=c.2-1) hv zE zE zE;rw[Ld hv (fun w hw=>by have:=bT w hw;omega) ⟨zE,zE⟩,eu,GI];simp only[Xh,Ub,or_false,Ob,hk,false_or,XW,true_and]
   have hl:(∀l∈lF p it region u,Xw l (p.ep+Yf p.nu p.de x))<->(grX (Ku p.cls it.id region) (p.ep+Yf p.nu p.de x)=true/\∀w∈ux p.cls it.ra,Oa p.of p.sh (p.ep+Yf p.nu p.de x) w.1 w.2):=by
    unfold lF;simp only[zzao,forall_eq_or_imp,zzbk,forall_exists_index,and_imp,forall_apply_eq_imp_iff₂];rw[Lc];refine and_congr Iff.rfl (forall_congr' fun w=>forall_congr' fun hw=>?_);obtain⟨d1,d2⟩:=YD w hw;rw[YC (by simp only[wU,hz,d1,d2,zzhk,zzdt,decide_eq_true_eq];omega)];constructor
    ·rintro⟨_,_,h⟩;exact h
    intro h;exact⟨zE,zE,h⟩
   rw[hl];constructor
   ·rintro⟨⟨_,h⟩,_⟩;exact⟨j8.1,j8.2.1,zE,j8.2.2,h⟩
   rintro⟨_,_,_,_,h⟩;exact⟨⟨zE,h⟩,hx⟩
  simp only[Xh,Ub,or_false];constructor
  ·rintro⟨_,h⟩;exact absurd h hx
  rintro⟨h1,h2,_,h4,_⟩;exact absurd ((cx x).2 ⟨h1,h2,h4⟩) hx
section
variable {α:Type}
def af(k:Int):List (Int×α)->Option α
 |[]=>none
 |x::r=>if x.1=k then some x.2 else af k r
def Vi(k:Int)(v:α):List (Int×α)->List (Int×α)
 |[]=>[(k,v)]
 |x::r=>if x.1=k then(k,v)::r else x::Vi k v r
def bI(row:α->AV)(l:List (Int×α)):List (Pi×AV):=l.map fun x=>([x.1],row x.2)
@[simp] theorem aw2(row:α->AV):bI row []=[]:=rfl
@[simp] def aw3(row:α->AV)(l:List (Int×α)):(bI row l).length=l.length:=by simp[bI]
def Xx(row:α->AV)(k:Int):∀(l:List (Int×α))(i:Nat),
  (af k l=none/\Xg [k] (bI row l) i=none/\(∀v,Vi k v l=l++[(k,v)])/\∀v,bI row l++[([k],row v)]=bI row (Vi k v l))\/
  ∃u n,af k l=some u/\Xg [k] (bI row l) i=some (i+n,row u)/\n<l.length/\(bI row l).getD n ([],.junk)=([k],row u)/\(∀v,(Vi k v l).length=l.length)/\∀v,(bI row l).set n ([k],row v)=bI row (Vi k v l)
 |[],i=>.inl ⟨rfl,rfl,fun _=>rfl,fun _=>rfl⟩
 |x::r,i=>by
  by_cases h:x.1=k
  ·refine .inr ⟨x.2,0,by rw[af,if_pos h],by simp[bI,Xg,h],zd,by simp[bI,h],fun v=>by rw[Vi,if_pos h];rfl,fun v=>by rw[Vi,if_pos h];simp[bI]⟩
  have hk:¬([k]:Pi)=[x.1]:=by intro e;cases e;exact h rfl
  rcases Xx row k r (i+1)with⟨h1,h2,h3,h4⟩|⟨u,n,h1,h2,h3,h4,h5,h6⟩
  ·refine .inl ⟨by rw[af,if_neg h];exact h1,?_,fun v=>by rw[Vi,if_neg h,h3];rfl,fun v=>?_⟩
   ·simp only[bI,zzax,Xg];rw[if_neg hk];exact h2
   rw[Vi,if_neg h];simp only[bI,zzax,zzaf];exact congrArg _ (h4 v)
  refine .inr ⟨u,n+1,by rw[af,if_neg h];exact h1,?_,by simp;omega,by simpa[bI]using h4,fun v=>by rw[Vi,if_neg h];simp[h5 v],fun v=>?_⟩
  ·simp only[bI,zzax,Xg];rw[if_neg hk,zzer n 1,<- zzas];exact h2
  rw[Vi,if_neg h];simp only[bI,zzax,zzdn];exact congrArg _ (h6 v)
def Uz(k q:Int)(v:α):∀l:List (Int×α),af q (Vi k v l)=if q=k then some v else af q l
 |[]=>by
  by_cases h:q=k
  ·subst h;simp[Vi,af]
  have:¬k=q:=fun e=>h e.symm;simp[Vi,af,h,this]
 |x::r=>by
  have ih:=Uz k q v r;by_cases h:x.1=k
  ·rw[Vi,if_pos h];by_cases hq:q=k
   ·subst hq;simp[af]
   have:¬k=q:=fun e=>hq e.symm;have hx:¬x.1=q:=zE
   simp[af,hq,this,hx]
  rw[Vi,if_neg h,af,ih,af];by_cases hx:x.1=q
  ·have:¬q=k:=zE
   simp[hx,this]
  rw[if_neg hx];by_cases hq:q=k<;>simp[hq,hx]
def GJ(k:Int)(v:α):∀l:List (Int×α),(Vi k v l).length<=l.length+1
 |[]=>by simp[Vi]
 |x::r=>by
  rw[Vi];split
  ·simp
  have:=GJ k v r;simp only[zzba];omega
def az2(l:List (Int×α)):Prop:=(l.map (·.1)).Nodup
end
def GK:List En->Nat->List (Int×Int)->List (Int×Int)
 |[],_,a=>a
 |e::r,i,a=>GK r (i+1) (match af e.id a with|some _=>a|none=>Vi e.id (i:Int) a)
def Le:List It->List (Int×It)->List (Int×It)
 |[],a=>a
 |x::r,a=>Le r (match af x.id a with|some _=>a|none=>Vi x.id x a)
def zD:List It->List (Int×It)->List (Int×Int)->List (Int×Int)
 |[],_,s=>s
 |x::r,a,s=>(match af x.id a with
  |some _=>zD r a s
  |none=>zD r (Vi x.id x a) (if 1<=x.sp/\x.sp<=200 then Vi x.sp x.id s else s))
def Dq(p:Pl):List (Int×Int):=GK p.ens 0 []
def zF(p:Pl):List (Int×It):=Le p.aT []
def Yx(p:Pl):List (Int×Int):=zD p.aT [] []
def Bi(id:Int):List En->Nat->Option Nat
 |[],_=>none
 |e::r,i=>if e.id=id then some i else Bi id r (i+1)
def Oc(id:Int):∀(l:List En)(i:Nat)(a:List (Int×Int)),af id (GK l i a)=match af id a with|some v=>some v|none=>(Bi id l i).map fun n=>(n:Int)
 |[],i,a=>by simp only[GK,Bi];cases af id a<;>rfl
 |e::r,i,a=>by
  rw[GK,Oc id r,Bi];cases h:af e.id a with
  |some v=>
   simp only;cases h':af id a with
   |some u=>rfl
   |none=>
    have:¬e.id=id:=by rintro rfl;rw[h]at h';cases h'
    simp[this]
  |none=>
   simp only;rw[Uz];by_cases e1:id=e.id
   ·subst e1;simp[h]
   have e2:¬e.id=id:=fun h=>e1 h.symm;simp[e1,e2]
def uF(p:Pl)(id:Int):af id (Dq p)=(Bi id p.ens 0).map fun n=>(n:Int):=by rw[Dq,Oc];rfl
def Oe(id:Int):∀(l:List It)(a:List (Int×It)),af id (Le l a)=match af id a with|some v=>some v|none=>Xk id l
 |[],a=>by simp only[Le,Xk];cases af id a<;>rfl
 |e::r,a=>by
  rw[Le,Oe id r,Xk];cases h:af e.id a with
  |some v=>
   simp only;cases h':af id a with
   |some u=>rfl
   |none=>
    have:¬e.id=id:=by rintro rfl;rw[h]at h';cases h'
    simp[this]
  |none=>
   simp only;rw[Uz];by_cases e1:id=e.id
   ·subst e1;simp[h]
   have e2:¬e.id=id:=fun h=>e1 h.symm;simp[e1,e2]
def uG(p:Pl)(id:Int):af id (zF p)=Xk id p.aT:=by rw[zF,Oe];rfl
structure Ad where
 it:Int
 re:Int
 fr:Int
 fs:Int
def Vj(a:Ad):P1:=[I a.it,I a.re,I a.fr,I a.fs]
def rG(a:Ad):Bool:=decide (a.re=0/\0<=a.fr/\a.fr<=100000000/\1<=a.fs/\a.fs<=100000000)
def Vu(u:List (Int×Int))(it:Int):List (Int×Int):=Vi it ((af it u).getD 0+1) u
def Zx(p:Pl)(en:List (Int×Int))(it e:Int):List (Int×Int):=match Xk it p.aT with
 |some x=>Vi x.sp (max ((af x.sp en).getD 0) e) en
 |none=>en
def Of:List Ad->List (Int×Int)->List (Int×Int)
 |[],u=>u
 |a::r,u=>Of r (if rG a then Vu u a.it else u)
def Og(p:Pl):List Ad->List (Int×Int)->List (Int×Int)
 |[],u=>u
 |a::r,u=>Og p r (if rG a then Zx p u a.it (a.fr+a.fs)else u)
def Oh(ki it rg:Int):List Cl->Int->Int
 |[],n=>n
 |c::r,n=>Oh ki it rg r (if c.ki=ki/\gV c it rg=true/\Xe c=true then c.n else n)
def Wh(p:Pl)(it:Int):Int:=match Xk it p.aT with
 |some x=>if x.ki=5 then -1 else Oh 3 it 0 p.cls (-1)
 |none=>Oh 3 it 0 p.cls (-1)
def pT(a b:Int):List Cl->Int->Int
 |[],g=>g
 |c::r,g=>pT a b r (if c.ki=5/\(c.a=a/\c.b=b\/c.a=b/\c.b=a)/\Xe c=true then max g c.n else g)
def Jo(p:Pl)(a b:Int):Int:=match Xk a p.aT,Xk b p.aT with
 |some x,some y=>if x.sp=0\/Vf p.nu p.de=false\/y.sp=0\/x.sp=y.sp then 0 else wM p.nu p.de (pT x.sp y.sp p.cls 0)
 |_,_=>0
def GL(at_ n:Int):List Sp->Option Int
 |[]=>none
 |s::r=>if max s.1 at_<s.2/\n<=s.2-max s.1 at_ then some (max s.1 at_)else GL at_ n r
def lH(l:List Sp)(at_ n:Int):Option Int:=if n<=0 then some at_ else GL at_ n (Xi l)
def Xz(p:Pl)(it n:Int):List Sp:=Xi (Vp p it 0 (n*1000000,(n+1)*1000000)++Vp p it 0 ((n+1)*1000000,(n+2)*1000000))
def SZ(p:Pl)(e:En)(last from_ n:Int):Option Int:=
 if n*1000000<=last then
  match lH (Xz p e.it n) from_ e.fr with
  |none=>SZ p e last from_ (n+1)
  |some s=>if last<s then none else some s
 else none
termination_by(last-n*1000000+1000000).toNat
decreasing_by omega
def mq(p:Pl)(e:En):Int:=min (min e.la (p.ln-e.fr)) 100000000
def Ye(p:Pl)(e:En)(from_:Int):Option Int:=
 if e.fr<1\/1000000<e.fr\/p.ln<e.fr then none else SZ p e (mq p e) (max from_ 0) ((max from_ 0).tdiv 1000000)
def Wi(p:Pl)(it:Int):List Sp:=match Xk it p.aT with
 |none=>[]
 |some y=>match af y.sp (Yx p)with
  |none=>[]
  |some _=>(Yx p).filterMap fun x=>if 0<Jo p x.2 it then some (x.1,Jo p x.2 it)else none
def Ur(en:List (Int×Int)):List Sp->Int->Int
 |[],f=>f
 |r::l,f=>Ur en l (match af r.1 en with|some e=>max f (e+r.2)|none=>f)
def Jz(p:Pl):Pi->List (Int×Int)->List (Int×Int)->Int->Int->Option (List Sp)
 |[],_,_,_,_=>some []
 |id::r,us,en,free,last=>match Bi id p.ens 0 with
  |none=>none
  |some k=>if(k:Int)<=last then none else match p.ens[k]? with
   |none=>none
   |some e=>if Wh p e.it≠ -1/\Wh p e.it<=(af e.it us).getD 0 then none else
    match Ye p e (Ur en (Wi p e.it) (max e.ea free))with
    |none=>none
    |some s=>match Jz p r (Vu us e.it) (Zx p en e.it (s+e.fr)) (s+e.fr) k with
     |none=>none
     |some l=>some ((id,s)::l)
def Ud(p:Pl)(at_:Int)(past:List Ad)(ids:Pi):Option (List Sp):=Jz p ids (Of past []) (Og p past []) at_ (-1)
def Dr{at_ n:Int}:∀{l:List Sp}{s:Int},GL at_ n l=some s->∃a∈l,max a.1 at_=s/\s<a.2/\n<=a.2-s
 |a::r,s,h=>by
  rw[GL]at h;split at h
  ·rename_i hc;cases h;exact⟨a,zd,rfl,hc.1,hc.2⟩
  obtain⟨b,hb,h1⟩:=Dr h;exact⟨b,by simp[hb],h1⟩
def Qby(p:Pl)(it n x:Int):Xw (Xz p it n) x<->n*1000000<=x/\x<(n+2)*1000000/\jK p it 0 x:=by
 rw[Xz,(Yh _).2,Yn,Bh _ _ _ _ (by simp only;omega),Bh _ _ _ _ (by simp only;omega)];simp only;constructor
 ·rintro(⟨h1,h2,h3⟩|⟨h1,h2,h3⟩)<;>exact⟨zE,zE,h3⟩
 rintro⟨h1,h2,h3⟩;by_cases h:x<(n+1)*1000000
 ·exact .inl ⟨h1,h,h3⟩
 exact .inr ⟨zE,h2,h3⟩
def ae8{p:Pl}{it n at_ m s:Int}(hm:1<=m)(h:lH (Xz p it n) at_ m=some s):at_<=s/\∀x,s<=x->x<s+m->jK p it 0 x:=by
 rw[lH,if_neg zE]at h;obtain⟨a,ha,h1,h2,h3⟩:=Dr h;refine⟨zE,fun x hx Q0=>?_⟩;have:Xw (Xi (Xz p it n)) x:=⟨a,ha,zE,zE⟩;rw[(Yh _).2,Qby]at this;exact this.2.2
def YF{p:Pl}{e:En}{last from_ n s:Int}(he:1<=e.fr)(h:SZ p e last from_ n=some s):from_<=s/\s<=last/\∀x,s<=x->x<s+e.fr->jK p e.it 0 x:=by
 unfold SZ at h;split at h
 ·rename_i hc;cases hs:lH (Xz p e.it n) from_ e.fr with
  |none=>rw[hs]at h;exact YF he h
  |some t=>
   rw[hs]at h;simp only at h;split at h
   ·cases h
   rename_i hl;cases h;obtain⟨h1,h2⟩:=ae8 he hs;exact⟨h1,zE,h2⟩
 cases h
termination_by(last-n*1000000+1000000).toNat
decreasing_by omega
def Qcs{p:Pl}{e:En}{from_ s:Int}(h:Ye p e from_=some s):(1<=e.fr/\e.fr<=1000000)/\from_<=s/\0<=s/\s<=e.la/\s+e.fr<=p.ln/\s<=100000000/\∀x,s<=x->x<s+e.fr->jK p e.it 0 x:=by
 rw[Ye]at h;split at h
 ·cases h
 rename_i hc;obtain⟨h1,h2,h3⟩:=YF zE h;simp only[mq]at h2;exact⟨zE,zE,zE,zE,zE,zE,h3⟩
def GM(en:List (Int×Int)):∀(l:List Sp)(f:Int),f<=Ur en l f
 |[],f=>zzcx _
 |r::l,f=>by
  rw[Ur];refine zzho ?_ (GM en l _);split<;>omega
def xx(en:List (Int×Int)){l l':List Sp}(h:l.Perm l'):∀f,Ur en l f=Ur en l' f:=by
 induction h with
 |nil=>exact fun _=>rfl
 |cons x _ ih=>intro f;simp only[Ur,ih]
 |swap x y l=>
  intro f;simp only[Ur];congr 1;cases af x.1 en<;>cases af y.1 en<;>simp only<;>omega
 |trans _ _ ih1 ih2=>exact fun f=>(ih1 f).trans (ih2 f)
def rH{id:Int}:∀{l:List En}{i k:Nat},Bi id l i=some k->i<=k/\∃e,l[k-i]?=some e/\e.id=id/\Zo id l=some e
 |[],i,k,h=>by cases h
 |e::r,i,k,h=>by
  rw[Bi]at h;split at h
  ·rename_i hc;cases h;exact⟨zzaa _,e,zd,hc,by simp[Zo,hc]⟩
  rename_i hc;obtain⟨h1,x,h2,h3,h4⟩:=rH h;refine⟨zE,x,?_,h3,by simp[Zo,hc,h4]⟩;obtain⟨d,hd⟩:∃d,k-i=d+1:=⟨k-i-1,zE⟩;rw[hd,zzdh,<- h2];congr 1;omega
def Rh(ki it rg:Int)(c:Cl):Bool:=decide (c.ki=ki)&&(gV c it rg&&Xe c)
def Bj(ki it rg:Int)(c:Cl):∀(l:List Cl)(n:Int),Oh ki it rg (l++[c]) n=if Rh ki it rg c=true then c.n else Oh ki it rg l n
 |[],n=>by simp[Oh,Rh]
 |d::l,n=>by rw[zzaf,Oh,Bj ki it rg c l,Oh]
def Bl(cs:List Cl)(ki it rg:Int):X1:=fun _ f l=>
 if f=256 then .fn 271 [] [.ep [.sl .ro (cs.map Qj)] 0]else if f=257 then(match l with
  |[.agg [.int _ a,.int _ b,.int _ c,.int _ d,.int _ e,.int _ f,.int _ g,.int _ h],_,_]=>.bool (gV ⟨a,b,c,d,e,f,g,h⟩ it rg)
  |_=>.junk)else(match l with
  |[.agg [.int _ a,.int _ b,.int _ c,.int _ d,.int _ e,.int _ f,.int _ g,.int _ h]]=>.bool (Xe ⟨a,b,c,d,e,f,g,h⟩)
  |_=>.junk)
def ae9(cs:List Cl)(ki it rg no:Int)(hl:cs.length<=1000000000):Pure Tryz.prog aD 241 [.sl .ro (cs.map Qj),I ki,I it,I rg,I no] (I (Oh ki it rg cs no)):=by
 have amK:=lY cs;have cV:=lZ cs hl;obtain⟨T,hT⟩:∃T,Oh ki it rg cs no=T:=⟨_,rfl⟩;rw[hT];refine Qm adK (Bl cs ki it rg) zd ?_;simp[ait,Bl];refine⟨amK,?_⟩;refine ji (xs:=QM cs cs.length) zd cV FV (fun i m=>i<=cs.length/\Oh ki it rg (cs.take (cs.length-i)) no=T/\∃bx,m.boxes=[I ki]::[I it]::[I rg]::[I 0]::bx) (fun ex m=>ex=.ret/\∃bx,m.boxes=[I ki]::[I it]::[I rg]::[I T]::bx) ?_ ?_ ?_ ?_ ?_ ?_
 ·exact⟨zE,Nm hT,[],zd⟩
 ·rintro i m m' ⟨h1,h2,bx,h3⟩ ⟨⟨b2,e1⟩,_,_⟩;exact⟨h1,h2,bx++b2,by rw[e1,h3];rfl⟩
 ·rintro ex m m' ⟨h1,bx,h3⟩ ⟨⟨b2,e1⟩,_,_⟩;exact⟨h1,bx++b2,by rw[e1,h3];rfl⟩
 ·rintro l i m x hg hr ⟨h1,h2,bx,hb⟩ hx K' k1 k2 _;obtain⟨k,c,hc,hk,rfl⟩:=wE cs cs.length i x (zzaa _) hx;rw[Ut]at hb
  have bD:cs.take (cs.length-i)=cs.take (cs.length-(i+1))++[c]:=by
   rw[show cs.length-i=k+1 by omega,show cs.length-(i+1)=k by omega,zzap,hc];rfl
  rw[bD,Bj]at h2;have c1:=me c it rg;have c2:=Kj c;by_cases e1:c.ki=ki
  ·subst e1;cases e2:gV c it rg with
   |false=>
    rw[e2]at c1;rw[if_neg (by simp[Rh,e2])]at h2;simp[hr,Zk,hb,Qj,Bl,e2];refine⟨by simpa[Qj]using c1,k1 _ ⟨zE,h2,bx++[Qj c],?_⟩⟩;simp[Qj]
   |true=>
    rw[e2]at c1;cases e3:Xe c with
    |false=>
     rw[e3]at c2;rw[if_neg (by simp[Rh,e3])]at h2;simp[hr,Zk,hb,Qj,Bl,e2,e3];refine⟨by simpa[Qj]using c1,by simpa[Qj]using c2,k1 _ ⟨zE,h2,bx++[Qj c],?_⟩⟩;simp[Qj]
    |true=>
     rw[e3]at c2;rw[if_pos (by simp[Rh,e2,e3])]at h2;simp[hr,Zk,hb,Qj,Bl,e2,e3];refine⟨by simpa[Qj]using c1,by simpa[Qj]using c2,k2 _ ⟨rfl,bx++[Qj c],?_⟩⟩;simp[Qj,h2]
  rw[if_neg (by simp[Rh,e1])]at h2;simp[hr,Zk,hb,Qj,Bl,e1];refine k1 _ ⟨zE,h2,bx++[Qj c],?_⟩;simp[Qj]
 ·rintro m ⟨h1,h2,bx,hb⟩;rw[FU,zzex,zzgc]at h2;have h2:no=T:=h2;simp[hb,T8,h2]
 rintro ex m ⟨rfl,bx,hb⟩;simp[hb,T8]
def afa(p:Pl)(it:Int)(hc:p.cls.length<=1000000000)(cV:p.aT.length<=1000000000):Pure Tryz.prog aD 186 [.agg (Qc p),I it,I 0] (I (Wh p it)):=by
 have SV:=kP p it cV;have ayI:=ae9 p.cls 3 it 0 (-1) hc
 have atT:Pure Tryz.prog aD 219 [.sl .ro (p.cls.map Qj),I it,I 0] (I (Oh 3 it 0 p.cls (-1))):=by
  refine Qm ads (fun _ _ _=>I (Oh 3 it 0 p.cls (-1))) zd ?_;simp[ah8,ah9];exact ayI
 refine Qm ac6 (fun _ f _=>if f=218 then Zu (Xk it p.aT)else I (Oh 3 it 0 p.cls (-1))) zd ?_;cases hf:Xk it p.aT with
 |none=>
  rw[hf]at SV;simp[M9,Na,Qc,hf,Zu,Wh];exact⟨by simpa[Qc,Zu]using SV,atT⟩
 |some x=>
  rw[hf]at SV;by_cases h5:x.ki=5
  ·simp[M9,Na,Qc,hf,Zu,Ql,Wh,h5];simpa[Qc,Zu,Ql,h5]using SV
  simp[M9,Na,Qc,hf,Zu,Ql,Wh,h5];exact⟨by simpa[Qc,Zu,Ql]using SV,atT⟩
def Lg(a b:Int)(c:Cl):Bool:=(decide (c.a=a)&&decide (c.b=b))||(decide (c.a=b)&&decide (c.b=a))
def YG(a b:Int)(c:Cl):Bool:=decide (c.ki=5)&&(Lg a b c&&Xe c)
def Bm(a b:Int)(c:Cl)(r:List Cl)(g:Int):pT a b (c::r) g=pT a b r (if YG a b c=true then max g c.n else g):=by
 rw[pT];congr 1;by_cases h:c.ki=5/\(c.a=a/\c.b=b\/c.a=b/\c.b=a)/\Xe c=true
 ·rw[if_pos h,if_pos (by simp[YG,Lg,h.1,h.2.2];exact h.2.1)]
 rw[if_neg h,if_neg (by intro h';apply h;simp[YG,Lg]at h';exact⟨h'.1,h'.2.1,h'.2.2⟩)]
def GN{c:Cl}(h:Xe c=true)(h5:c.ki=5):0<=c.n/\c.n<=86400:=by
 unfold Xe at h;simp only[zzak]at h;have h2:=h.2;unfold Ua at h2;simp[h5,wi]at h2;omega
def Oi(a b:Int):∀(l:List Cl)(g:Int),0<=g/\g<=86400->0<=pT a b l g/\pT a b l g<=86400
 |[],g,h=>h
 |c::r,g,h=>by
  rw[Bm];apply Oi a b r;split
  ·rename_i hh;simp[YG]at hh;have:=GN hh.2.2 hh.1;omega
  exact h
def ayJ(a b T:Int)(cs:List Cl)(f:Nat->AV)(m:AM):Prop:=∃(i:Nat)(g:Int)(bx:X2),f 13=I i/\f 7=I g/\i<=cs.length/\pT a b (cs.drop i) g=T/\m=⟨bx,[],fun _=>.gone,0⟩
def am6(cs:List Cl)(a b:Int)(hl:cs.length<=1000000000):Pure Tryz.prog aD 221 [.sl .ro (cs.map Qj),I a,I b] (I (pT a b cs 0)):=by
 obtain⟨T,hT⟩:∃T,pT a b cs 0=T:=⟨_,rfl⟩;rw[hT];refine Qm adu Bb zd ?_;simp[T5];refine Qk vm (ayJ a b T cs) (fun f _=>cs.length-(numOf (f 13)).toNat) ?_ ?_
 ·exact⟨0,0,_,zd,zd,zE,Nm hT,rfl⟩
 rintro f m ⟨i,g,bx,fH,h7,hi,hx,rfl⟩;rcases zzab i cs.length with ah|bu
 ·obtain⟨c,hc⟩:=aX ah;have ai:Qf (cs.map Qj) i=Qj c:=Qv (by simp[hc]);have aa:(i:Int)<(cs.length:Int):=zE
  have hw:=bO i zE;have k:=Kj c;rw[Zb hc,Bm]at hx;have ayK:∀E,gj vm E E:=fun E=>Qa _ _;obtain⟨v0,h0⟩:∃v,(c.ki==5)=v:=⟨_,rfl⟩;obtain⟨v1,h1⟩:∃v,(c.a==a)=v:=⟨_,rfl⟩;obtain⟨v2,h2⟩:∃v,(c.b==b)=v:=⟨_,rfl⟩;obtain⟨v3,h3⟩:∃v,(c.a==b)=v:=⟨_,rfl⟩;obtain⟨v4,h4⟩:∃v,(c.b==a)=v:=⟨_,rfl⟩
  have hh:YG a b c=(v0&&(((v1&&v2)||(v3&&v4))&&Xe c)):=by
   rw[<- h0,<- h1,<- h2,<- h3,<- h4];rfl
  obtain⟨v5,h5⟩:∃v,Xe c=v:=⟨_,rfl⟩;have Ri:v5=true->v0=true->0<=c.n/\c.n<=86400:=fun e e'=>GN (h5.trans e) (by rw[e']at h0;simpa using h0);rw[hh,h5]at hx;rw[h5]at k;have k':Abs.Pure Tryz.prog aD 31 [.agg [I c.ki,I c.it,I c.fr,I c.to,I c.re,I c.n,I c.a,I c.b]] (.bool v5):=k;clear hh k;cases v0
  ·cases v1<;>cases v2<;>cases v3<;>cases v4<;>simp only[Bool.false_and,zzbo,if_false]at hx
   all_goals
    simp[fH,h7,ah,aa,ai,Qj,Bb,h0,h1,h2,h3,h4,vm,hw];refine⟨aP,⟨i+1,g,_,zd,by simp[h7],zE,hx,rfl⟩,zE⟩
  cases v1<;>cases v2<;>cases v3<;>cases v4<;>cases v5<;>simp only[zzhk,zzhf,zzdt,Bool.false_and,Bool.or_true,Bool.or_false,Bool.true_or,Bool.false_or,zzbo,if_false,if_true,Bool.or_self,Bool.and_self]at hx
  all_goals
   simp[fH,h7,ah,aa,ai,Qj,Bb,h0,h1,h2,h3,h4,h5,vm,hw];first
   |(
    refine⟨ag ?_,⟨i+1,g,_,zd,by simp[h7],zE,hx,rfl⟩,zE⟩;repeat(first|exact Qa _ _|refine Qb _ rfl ?_))
   |(
    refine⟨k',ag ?_,⟨i+1,g,_,zd,by simp[h7],zE,hx,rfl⟩,zE⟩;repeat(first|exact Qa _ _|refine Qb _ rfl ?_))
   |(
    refine⟨k',ag ?_,⟨i+1,max g c.n,_,zd,by simp;omega,zE,hx,rfl⟩,zE⟩;repeat(first|exact Qa _ _|refine Qb _ rfl ?_))
 have bT:¬(i:Int)<(cs.length:Int):=zE
 rw[zzaj bu]at hx;have hx:g=T:=hx;subst hx;simp[fH,h7,bT,zzbj.2 bu,vm,aia]
def sW(p:Pl)(a b:Int):X1:=fun d f l=>
 if f=218 then(match l with|[_,.int _ n]=>Zu (Xk n p.aT)|_=>.junk)else if f=176 then .bool (Vf p.nu p.de)else if f=221 then(match l with|[_,.int _ x,.int _ y]=>I (pT x y p.cls 0)|_=>.junk)else
 if f=220 then(match l with|[_,.int _ x]=>I (wM p.nu p.de x)|_=>.junk)else .junk
def am7(p:Pl)(a b:Int)(hc:p.cls.length<=1000000000)(cV:p.aT.length<=1000000000):Pure Tryz.prog aD 187 [.agg (Qc p),I a,I b] (I (Jo p a b)):=by
 have ka:=kP p a cV;have kb:=kP p b cV;have kr:=We p.nu p.de;refine Qm ac7 (sW p a b) zd ?_;cases hfa:Xk a p.aT with
 |none=>
  rw[hfa]at ka;have hg:Jo p a b=0:=by simp[Jo,hfa]
  rw[hg];simp[sr,sv,Qc,sW,hfa,Zu];simpa[Qc,Zu]using ka
 |some x=>
  rw[hfa]at ka;by_cases c1:x.sp=0
  ·have hg:Jo p a b=0:=by cases Iz:Xk b p.aT<;>simp[Jo,hfa,Iz,c1]
   rw[hg];simp[sr,sv,Qc,sW,hfa,Zu,Ql,c1];simpa[Qc,Zu,Ql,c1]using ka
  cases c2:Vf p.nu p.de with
  |false=>
   rw[c2]at kr;have hg:Jo p a b=0:=by cases Iz:Xk b p.aT<;>simp[Jo,hfa,Iz,c2]
   rw[hg];simp[sr,sv,Qc,sW,hfa,Zu,Ql,c1,c2];exact⟨by simpa[Qc,Zu,Ql]using ka,kr⟩
  |true=>
   rw[c2]at kr;cases Iz:Xk b p.aT with
   |none=>
    rw[Iz]at kb;have hg:Jo p a b=0:=by simp[Jo,hfa,Iz]
    rw[hg];simp[sr,sv,Qc,sW,hfa,Iz,Zu,Ql,c1,c2];exact⟨by simpa[Qc,Zu,Ql]using ka,kr,by simpa[Qc,Zu,Ql]using kb⟩
   |some y=>
    rw[Iz]at kb;by_cases c3:y.sp=0
    ·have hg:Jo p a b=0:=by simp[Jo,hfa,Iz,c3]
     rw[hg];simp[sr,sv,Qc,sW,hfa,Iz,Zu,Ql,c1,c2,c3];exact⟨by simpa[Qc,Zu,Ql]using ka,kr,by simpa[Qc,Zu,Ql,c3]using kb⟩
    by_cases c4:x.sp=y.sp
    ·have hg:Jo p a b=0:=by simp[Jo,hfa,Iz,c4]
     rw[hg];simp[sr,sv,Qc,sW,hfa,Iz,Zu,Ql,c1,c2,c3,<- c4];rw[<- c4]at c3;exact⟨by simpa[Qc,Zu,Ql]using ka,kr,by simpa[Qc,Zu,Ql,c4]using kb⟩
    have hg:Jo p a b=wM p.nu p.de (pT x.sp y.sp p.cls 0):=by simp[Jo,hfa,Iz,c1,c2,c3,c4]
    rw[hg];have kg:=am6 p.cls x.sp y.sp hc;have kf:=A4 p.nu p.de (pT x.sp y.sp p.cls 0);simp[sr,sv,Qc,sW,hfa,Iz,Zu,Ql,c1,c2,c3,c4];exact⟨by simpa[Qc,Zu,Ql]using ka,kr,by simpa[Qc,Zu,Ql]using kb,kg,kf⟩
structure Bd where
 p:Pl
 at_:Int
 us:List (Int×Int)
 en:List (Int×Int)
 rv:List (Int×(Rt×List Sp))
 li:List (Int×Int)
 pm:List ((Int×Int)×List Sp)
abbrev iA(n:Int):AV:=I n
def rI(x:It):AV:=.agg (Ql x)
def rvA(x:Rt×List Sp):AV:=.sl x.1 (x.2.map Qe)
def S0(l:List ((Int×Int)×List Sp)):List (Pi×AV):=l.map fun x=>([x.1.1,x.1.2],.sl .ro (x.2.map Qe))
def Qn(k:Nat)(b:Bd):P1:=Qc b.p++[I b.at_,.mp (k+1),.mp (k+2),.mp (k+3),.mp (k+4),.mp (k+5),.mp (k+6),.mp (k+7),.mp (k+8)]
def bk(k:Nat)(b:Bd)(post:X2):X2:=
 Qc b.p::[.aM 0 (bI iA (Dq b.p))]::[.aM 0 (bI rI (zF b.p))]::[.aM 0 (bI iA (Yx b.p))]::[.aM 0 (bI iA b.us)]::[.aM 0 (bI iA b.en)]::
  [.aM 0 (bI rvA b.rv)]::[.aM 0 (bI iA b.li)]::[.aM 2 (S0 b.pm)]::Qn k b::post
def aO(pre:X2)(b:Bd)(post:X2)(ls:P2):AM:=⟨pre++bk pre.length b post,ls,fun _=>.gone,0⟩
def am8(b:Bd):Prop:=∀k v,af k b.li=some v->v=Wh b.p k
def afb(pre post:X2)(ls:P2)(b:Bd)(it:Int)(hc:b.p.cls.length<=1000000000)(cV:b.p.aT.length<=1000000000)(hli:am8 b)(Y:YT)(K:UV)
  (hK:∀li,am8 {b with li:=li}->K (I (Wh b.p it)) (aO pre {b with li:=li} post ls)):
  aF Tryz.prog aD Y 139 [.ptr (pre.length+9) 0,I it] (aO pre b post ls) K:=by
 have ayL:=afa b.p it hc cV;refine Xn acy (fun _ _ _=>I (Wh b.p it)) zd ?_;rcases Xx iA it b.li 0 with⟨h1,h2,h3,h4⟩|⟨u,n,h1,h2,_,_,_,h4⟩
 ·simp[TG,TH,aO,bk,Qn,Qc,h2];refine⟨by simpa[Qc]using ayL,?_⟩
  have:=hK (Vi it (Wh b.p it) b.li) (fun k v h=>by
   rw[Uz]at h;split at h
   ·rename_i e;cases h;rw[e]
   exact hli k v h)
  have IC:bI iA b.li++[([it],I (Wh b.p it))]=bI iA (Vi it (Wh b.p it) b.li):=h4 _;rw[IC];exact this
 simp[TG,TH,aO,bk,Qn,Qc,h2];have hu:=hli it u h1;subst hu;exact hK b.li hli
def afc(b:Bd):Prop:=∀k x,af k b.rv=some x->∀it y,Xk it b.p.aT=some y->y.sp=k->x.2.Perm (Wi b.p it)
def xy(p:Pl)(it:Int)(L:List (Int×Int)):List Sp:=L.filterMap fun x=>if 0<Jo p x.2 it then some (x.1,Jo p x.2 it)else none
def atL{α:Type}(d:α)(L:List α)(seen:P2):List α:=seen.map fun i=>L.getD i d
def afd{α:Type}(d:α)(L:List α)(seen:P2)(hn:seen.Nodup)(bJ:∀i,i<L.length->i∈seen)(hb:∀i∈seen,i<L.length):(atL d L seen).Perm L:=by
 have hp:seen.Perm (List.range L.length):=by
  rw[zzgk hn zzdl];intro i;simp only[zzay];exact⟨hb i,bJ i⟩
 have h1:=hp.map fun i=>L.getD i d
 have h2:(List.range L.length).map (fun i=>L.getD i d)=L:=by
  apply zzey zd;intro i h1 h2;simp[h2]
 rw[h2]at h1;exact h1
def afe{p:Pl}{a i j:Int}{x y:It}(hi:Xk i p.aT=some x)(hj:Xk j p.aT=some y)(h:x.sp=y.sp):Jo p a i=Jo p a j:=by
 simp only[Jo,hi,hj];cases Xk a p.aT with
 |none=>rfl
 |some z=>simp only[h]
def aff{p:Pl}{i j:Int}{x y:It}(hi:Xk i p.aT=some x)(hj:Xk j p.aT=some y)(h:x.sp=y.sp):Wi p i=Wi p j:=by
 simp only[Wi,hi,hj,h];cases af y.sp (Yx p)with
 |none=>rfl
 |some _=>simp only[afe hi hj h]
def xA:∀(l:List It)(a:List (Int×It))(s:List (Int×Int)),af 0 s=none->af 0 (zD l a s)=none
 |[],a,s,h=>h
 |x::r,a,s,h=>by
  rw[zD];cases af x.id a with
  |some _=>exact xA r a s h
  |none=>
   refine xA r _ _ ?_;split
   ·rw[Uz,if_neg zE];exact h
   exact h
def Qy(n:Int):P1:=[I n]
def YH(LL:List (Rt×List Sp))(f:Nat->AV)(m:AM):Prop:=∃(i:Nat)(bx:X2),f 11=I i/\i<=LL.length/\f 3=I (((LL.take i).map fun x=>x.2).flatten.length:Nat)/\m=⟨bx,[],fun _=>.gone,0⟩
def YI(LL:List (Rt×List Sp))(f:Nat->AV)(m:AM):Prop:=∃(i:Nat)(rt:Rt)(ls:P2)(bx:X2),f 27=I i/\i<=LL.length/\f 6=.sl rt (((LL.take i).map fun x=>x.2).flatten.map Qe)/\
 (((LL.take i).map fun x=>x.2).flatten=[]/\rt=.nil/\i=0\/∃k,rt=.own k 2/\ls[k]?=some ((LL.take i).map fun x=>x.2).flatten.length)/\m=⟨bx,ls,fun _=>.gone,0⟩
def Oj(LL:List (Rt×List Sp)){i:Nat}{x:Rt×List Sp}(h:LL[i]?=some x):((LL.take (i+1)).map fun x=>x.2).flatten=((LL.take i).map fun x=>x.2).flatten++x.2:=by
 simp[zzap,h]
def Ol(LL:List (Rt×List Sp))(i:Nat):((LL.take i).map fun x=>x.2).flatten.length<=(LL.map fun x=>x.2).flatten.length:=by
 have h:(LL.map fun x=>x.2)=((LL.take i).map fun x=>x.2)++(LL.drop i).map fun x=>x.2:=by rw[<- zzcj,zze]
 rw[h,zzej,zzal];omega
def uH:X1:=fun _ f _=>if f=261 then .gd false .junk else .junk
def Rj(LL:List (Rt×List Sp))(aK:LL≠[])(hl:LL.length<=1000000)(hf:(LL.map fun x=>x.2).flatten.length<=1000000000):Pure Tryz.prog aD 246 [.sl .full (LL.map fun x=>[.sl x.1 (x.2.map Qe)])] (.sl .ro ((LL.map fun x=>x.2).flatten.map Qe)):=by
 have oC:=zzdi.2 aK;have iG:LL.take LL.length=LL:=zzbp;refine Qm adM uH zd ?_;simp[aiw];refine Qk Cp (YH LL) (fun f _=>LL.length-(numOf (f 11)).toNat) ?_ ?_
 ·exact⟨0,[],zd,zE,zd,rfl⟩
 rintro f m ⟨i,bx,pG,hi,h3,rfl⟩;rcases zzab i LL.length with ah|bu
 ·obtain⟨x,hx⟩:=aX ah;have ai:Qf (LL.map fun x=>[.sl x.1 (x.2.map Qe)]) i=[.sl x.1 (x.2.map Qe)]:=Qv (by simp[hx]);have aa:(i:Int)<(LL.length:Int):=zE
  have hw:=bO i zE;have hc:=Oj LL hx;have oJ:=Ol LL (i+1);obtain⟨n,hn⟩:∃n,((LL.take i).map fun x=>x.2).flatten.length=n:=⟨_,rfl⟩;have D7:((LL.take (i+1)).map fun x=>x.2).flatten.length=n+x.2.length:=by rw[hc,zzal,hn]
  rw[hn]at h3;have eY:IntKind.i64.wrap ((n:Int)+(x.2.length:Int))=((n+x.2.length:Nat):Int):=by rw[Qh]<;>omega
  have AA:¬(n:Int)+(x.2.length:Int)<0:=zE
  simp[pG,h3,ah,aa,ai,Cp,hw,eY,AA];refine⟨aP,⟨i+1,_,zd,zE,by rw[D7];simp[eY],rfl⟩,zE⟩
 have bT:¬(i:Int)<(LL.length:Int):=zE
 obtain rfl:i=LL.length:=zE
 rw[iG]at h3;obtain⟨n,hn⟩:∃n,(LL.map fun x=>x.2).flatten.length=n:=⟨_,rfl⟩;rw[hn]at h3 hf;have fin:∀(rt:Rt)(ls:P2),(rt=.nil\/∃k,rt=.own k 2/\ls[k]?=some 0)->∀(E:QP),True:=fun _ _ _ _=>trivial;simp[pG,h3,bT,zzbj.2 bu,Cp,uH];refine afg hf (fun h0=>?_) (fun h0=>?_)
 all_goals
  try simp[pG,h3,Cp]
  refine Qk Cq (YI LL) (fun f _=>LL.length-(numOf (f 27)).toNat) ?_ ?_
 ·exact⟨0,.nil,[],bx,zd,zE,zd,.inl ⟨zd,rfl,rfl⟩,rfl⟩
 rotate_left
 ·exact⟨0,.own 0 2,[0],bx,zd,zE,zd,.inr ⟨0,rfl,zd⟩,rfl⟩
 all_goals
  clear h0;rintro f m ⟨i,rt,ls,bx,h27,hi,h6,bn,rfl⟩;rcases zzab i LL.length with ah|bu
  ·obtain⟨x,hx⟩:=aX ah;have ai:Qf (LL.map fun x=>[.sl x.1 (x.2.map Qe)]) i=[.sl x.1 (x.2.map Qe)]:=Qv (by simp[hx]);have aa:(i:Int)<(LL.length:Int):=zE
   have hw:=bO i zE;have hc:=Oj LL hx;have oJ:=Ol LL (i+1);obtain⟨F,hF⟩:∃F,((LL.take i).map fun x=>x.2).flatten=F:=⟨_,rfl⟩;rw[hF]at h6 bn hc;rw[hc,zzal,hn]at oJ;obtain⟨rfl,rfl,rfl⟩|⟨k,rfl,hk⟩:=bn
   ·have gm:IntKind.i64.wrap 1=1:=by decide
    simp[h27,h6,ah,aa,ai,Cq,hw,gm,uH];refine⟨⟨?_,zE⟩,aP,⟨1,.own ls.length 2,_,bx,zd,zE,by rw[hc];simp,.inr ⟨ls.length,rfl,by rw[hc];simp⟩,rfl⟩,zE⟩
    ·rintro a b row _ rfl;rfl
   have qu:=(zza.1 hk).1;simp[h27,h6,ah,aa,ai,Cq,hw,hk,uH];refine⟨⟨?_,zE⟩,aP,⟨i+1,.own k 2,_,bx,zd,zE,by rw[hc];simp,.inr ⟨k,rfl,by rw[hc];simp[qu]⟩,rfl⟩,zE⟩
   ·rintro row (⟨a,b,_,rfl⟩|⟨a,b,_,rfl⟩)<;>rfl
  have bT:¬(i:Int)<(LL.length:Int):=zE
  obtain rfl:i=LL.length:=zE
  rw[iG]at h6 bn;obtain⟨_,_,h0⟩|⟨k,rfl,hk⟩:=bn
  ·omega
  simp[h27,h6,bT,zzbj.2 bu,Cq,aix]
def afh(LL:List (Rt×Pi))(f:Nat->AV)(m:AM):Prop:=∃(i:Nat)(bx:X2),f 11=I i/\i<=LL.length/\f 3=I (((LL.take i).map fun x=>x.2).flatten.length:Nat)/\m=⟨bx,[],fun _=>.gone,0⟩
def afi(LL:List (Rt×Pi))(f:Nat->AV)(m:AM):Prop:=∃(i:Nat)(rt:Rt)(ls:P2)(bx:X2),f 27=I i/\i<=LL.length/\f 6=.sl rt (((LL.take i).map fun x=>x.2).flatten.map Qy)/\
 (((LL.take i).map fun x=>x.2).flatten=[]/\rt=.nil/\i=0\/∃k,rt=.own k 1/\ls[k]?=some ((LL.take i).map fun x=>x.2).flatten.length)/\m=⟨bx,ls,fun _=>.gone,0⟩
def YJ(LL:List (Rt×Pi)){i:Nat}{x:Rt×Pi}(h:LL[i]?=some x):((LL.take (i+1)).map fun x=>x.2).flatten=((LL.take i).map fun x=>x.2).flatten++x.2:=by
 simp[zzap,h]
def YK(LL:List (Rt×Pi))(i:Nat):((LL.take i).map fun x=>x.2).flatten.length<=(LL.map fun x=>x.2).flatten.length:=by
 have h:(LL.map fun x=>x.2)=((LL.take i).map fun x=>x.2)++(LL.drop i).map fun x=>x.2:=by rw[<- zzcj,zze]
 rw[h,zzej,zzal];omega
def Ds:X1:=fun _ f _=>if f=190 then .gd false .junk else .junk
def YL(LL:List (Rt×Pi))(aK:LL≠[])(hl:LL.length<=1000000)(hf:(LL.map fun x=>x.2).flatten.length<=1000000000):Pure Tryz.prog aD 143 [.sl .full (LL.map fun x=>[.sl x.1 (x.2.map Qy)])] (.sl .ro ((LL.map fun x=>x.2).flatten.map Qy)):=by
 have oC:=zzdi.2 aK;have iG:LL.take LL.length=LL:=zzbp;refine Qm acB Ds zd ?_;simp[ahd];refine Qk B9 (afh LL) (fun f _=>LL.length-(numOf (f 11)).toNat) ?_ ?_
 ·exact⟨0,[],zd,zE,zd,rfl⟩
 rintro f m ⟨i,bx,pG,hi,h3,rfl⟩;rcases zzab i LL.length with ah|bu
 ·obtain⟨x,hx⟩:=aX ah;have ai:Qf (LL.map fun x=>[.sl x.1 (x.2.map Qy)]) i=[.sl x.1 (x.2.map Qy)]:=Qv (by simp[hx]);have aa:(i:Int)<(LL.length:Int):=zE
  have hw:=bO i zE;have hc:=YJ LL hx;have oJ:=YK LL (i+1);obtain⟨n,hn⟩:∃n,((LL.take i).map fun x=>x.2).flatten.length=n:=⟨_,rfl⟩;have D7:((LL.take (i+1)).map fun x=>x.2).flatten.length=n+x.2.length:=by rw[hc,zzal,hn]
  rw[hn]at h3;have eY:IntKind.i64.wrap ((n:Int)+(x.2.length:Int))=((n+x.2.length:Nat):Int):=by rw[Qh]<;>omega
  have AA:¬(n:Int)+(x.2.length:Int)<0:=zE
  simp[pG,h3,ah,aa,ai,B9,hw,eY,AA];refine⟨aP,⟨i+1,_,zd,zE,by rw[D7];simp[eY],rfl⟩,zE⟩
 have bT:¬(i:Int)<(LL.length:Int):=zE
 obtain rfl:i=LL.length:=zE
 rw[iG]at h3;obtain⟨n,hn⟩:∃n,(LL.map fun x=>x.2).flatten.length=n:=⟨_,rfl⟩;rw[hn]at h3 hf;have fin:∀(rt:Rt)(ls:P2),(rt=.nil\/∃k,rt=.own k 1/\ls[k]?=some 0)->∀(E:QP),True:=fun _ _ _ _=>trivial;simp[pG,h3,bT,zzbj.2 bu,B9,Ds];refine afj hf (fun h0=>?_) (fun h0=>?_)
 all_goals
  try simp[pG,h3,B9]
  refine Qk Cb (afi LL) (fun f _=>LL.length-(numOf (f 27)).toNat) ?_ ?_
 ·exact⟨0,.nil,[],bx,zd,zE,zd,.inl ⟨zd,rfl,rfl⟩,rfl⟩
 rotate_left
 ·exact⟨0,.own 0 1,[0],bx,zd,zE,zd,.inr ⟨0,rfl,zd⟩,rfl⟩
 all_goals
  clear h0;rintro f m ⟨i,rt,ls,bx,h27,hi,h6,bn,rfl⟩;rcases zzab i LL.length with ah|bu
  ·obtain⟨x,hx⟩:=aX ah;have ai:Qf (LL.map fun x=>[.sl x.1 (x.2.map Qy)]) i=[.sl x.1 (x.2.map Qy)]:=Qv (by simp[hx]);have aa:(i:Int)<(LL.length:Int):=zE
   have hw:=bO i zE;have hc:=YJ LL hx;have oJ:=YK LL (i+1);obtain⟨F,hF⟩:∃F,((LL.take i).map fun x=>x.2).flatten=F:=⟨_,rfl⟩;rw[hF]at h6 bn hc;rw[hc,zzal,hn]at oJ;obtain⟨rfl,rfl,rfl⟩|⟨k,rfl,hk⟩:=bn
   ·have gm:IntKind.i64.wrap 1=1:=by decide
    simp[h27,h6,ah,aa,ai,Cb,hw,gm,Ds];refine⟨⟨?_,zE⟩,aP,⟨1,.own ls.length 1,_,bx,zd,zE,by rw[hc];simp,.inr ⟨ls.length,rfl,by rw[hc];simp⟩,rfl⟩,zE⟩
    ·first|(rintro a _;rfl)|(rintro row a _ rfl;rfl)
   have qu:=(zza.1 hk).1;simp[h27,h6,ah,aa,ai,Cb,hw,hk,Ds];refine⟨⟨?_,zE⟩,aP,⟨i+1,.own k 1,_,bx,zd,zE,by rw[hc];simp,.inr ⟨k,rfl,by rw[hc];simp[qu]⟩,rfl⟩,zE⟩
   ·rintro row (⟨a,_,rfl⟩|⟨a,_,rfl⟩)<;>rfl
  have bT:¬(i:Int)<(LL.length:Int):=zE
  obtain rfl:i=LL.length:=zE
  rw[iG]at h6 bn;obtain⟨_,_,h0⟩|⟨k,rfl,hk⟩:=bn
  ·omega
  simp[h27,h6,bT,zzbj.2 bu,Cb,ahe]
def YM(A B:List Sp)(h:A.length+B.length<=100000000):Pure Tryz.prog aD 225 [.sl .ro (A.map Qe),.sl .ro (B.map Qe)] (.sl .ro ((Xi (A++B)).map Qe)):=by
 have atU:=Rj [(.ro,A),(.ro,B)] zd zd (by simp;omega);have YN:=Un (A++B) (by simp;omega);refine Qm ady (fun _ f _=>if f=246 then .sl .ro ((A++B).map Qe)else .sl .ro ((Xi (A++B)).map Qe)) zd ?_;simp at atU YN;simp[aif,aih];exact⟨atU,YN⟩
def afk(s:Sp)(h1:0<=s.1)(h2:s.1<=s.2)(h3:s.2<=9223372036854775807):Pure Tryz.prog aD 224 [.agg (Qe s)] (.int .u64 (s.2-s.1)):=by
 have w1:IntKind.u64.wrap s.1=s.1:=by simp[IntKind.wrap,IntKind.bits,IntKind.signed];omega
 have w2:IntKind.u64.wrap s.2=s.2:=by simp[IntKind.wrap,IntKind.bits,IntKind.signed];omega
 have w3:IntKind.u64.wrap (s.2-s.1)=s.2-s.1:=by simp[IntKind.wrap,IntKind.bits,IntKind.signed];omega
 refine Qm adx (fun _ _ _=>.junk) zd ?_;simp[aid,aie,Qe,w1,w2,w3]
def Wo:Option Int->AV
 |some s=>.aS [I s,.bool true]
 |none=>.aS [I 0,.bool false]
def GO(L:List Sp):X1:=fun _ f l=>if f=222 then .sl .ro (L.map Qe)else if f=223 then(match l with|[.agg [.int _ a,.int _ b]]=>.bool (decide (b<=a))|_=>.junk)else
 (match l with|[.agg [.int _ a,.int _ b]]=>.int .u64 (b-a)|_=>.junk)
def atV(a n:Int)(L:List Sp)(T:Option Int)(f:Nat->AV)(m:AM):Prop:=∃(i:Nat)(bx:X2),f 17=I i/\i<=L.length/\GL a n (L.drop i)=T/\m=⟨bx,[],fun _=>.gone,0⟩
def GP(l:List Sp)(a n:Int)(hl:l.length<=100000000)(ha:0<=a)(hn:1<=n/\n<=1000000)(hb:∀s∈l,s.1<=1000000000000/\s.2<=1000000000000):Pure Tryz.prog aD 188 [.sl .ro (l.map Qe),I a,I n] (Wo (lH l a n)):=by
 have YN:=Un l hl;obtain⟨T,hT⟩:∃T,lH l a n=T:=⟨_,rfl⟩;rw[hT];rw[lH,if_neg zE]at hT;have hbL:=YO (P:=fun x=>x<=1000000000000) (l:=l) hb;have hLl:=Yu l;generalize Xi l=L at YN hT hbL hLl;have fF:¬n<=0:=zE
 refine Qm ac8 (GO L) zd ?_;simp[TU,GO,fF];refine⟨YN,?_⟩;refine Qk vi (atV a n L T) (fun f _=>L.length-(numOf (f 17)).toNat) ?_ ?_
 ·exact⟨0,[],zd,zE,Nm hT,rfl⟩
 rintro f m ⟨i,bx,h17,hi,hx,rfl⟩;rcases zzab i L.length with ah|bu
 ·obtain⟨s,hs⟩:=aX ah;have ai:Qf (L.map Qe) i=Qe s:=Ze hs;have aa:(i:Int)<(L.length:Int):=zE
  have hw:=bO i zE;rw[Zb hs,GL]at hx;obtain⟨q,hq⟩:∃q,max s.1 a=q:=⟨_,rfl⟩;have hqm:(if s.1<a then a else s.1)=q:=zE
  have YP:Abs.Pure Tryz.prog aD 223 [.agg (Qe (q,s.2))] (.bool (decide (s.2<=q))):=nH (q,s.2);rw[hq]at hx;have hu:IntKind.u64.wrap n=n:=by simp[IntKind.wrap,IntKind.bits,IntKind.signed];omega
  by_cases c1:s.2<=q
  ·rw[if_neg zE]at hx;rw[decide_eq_true c1]at YP;simp[h17,ah,aa,ai,Qe,hqm,c1,vi,hw,GO];refine⟨by simpa[Qe]using YP,aP,⟨i+1,_,zd,zE,hx,rfl⟩,zE⟩
  have atW:=afk (q,s.2) (by simp only;omega) (by simp only;omega) (by
   have:=hbL s (zzad hs);simp only;omega)
  rw[decide_eq_false c1]at YP;by_cases c2:n<=s.2-q
  ·rw[if_pos zE]at hx;subst hx;simp[h17,ah,aa,ai,Qe,hqm,c1,c2,hu,vi,TV,GO,Wo];exact⟨by simpa[Qe]using YP,by simpa[Qe]using atW⟩
  rw[if_neg zE]at hx;simp[h17,ah,aa,ai,Qe,hqm,c1,c2,hu,vi,hw,GO];refine⟨by simpa[Qe]using YP,by simpa[Qe]using atW,aP,⟨i+1,_,zd,zE,hx,rfl⟩,zE⟩
 have bT:¬(i:Int)<(L.length:Int):=zE
 rw[zzaj bu]at hx;have hx:none=T:=hx;subst hx;simp[h17,bT,zzbj.2 bu,vi,TV,Wo]
def pf(k:Int×Int):List ((Int×Int)×List Sp)->Option (List Sp)
 |[]=>none
 |x::r=>if x.1=k then some x.2 else pf k r
def GQ(k:Int×Int):∀(l:List ((Int×Int)×List Sp))(i:Nat),(pf k l=none/\Xg [k.1,k.2] (S0 l) i=none)\/∃v n,pf k l=some v/\Xg [k.1,k.2] (S0 l) i=some (n,.sl .ro (v.map Qe))
 |[],i=>.inl ⟨rfl,rfl⟩
 |x::r,i=>by
  by_cases h:x.1=k
  ·exact .inr ⟨x.2,i,by rw[pf,if_pos h],by simp[S0,Xg,h]⟩
  have hk:¬([k.1,k.2]:Pi)=[x.1.1,x.1.2]:=by
   intro e;simp only[List.cons.injEq,and_true]at e;exact h (Prod.ext e.1.symm e.2.symm)
  rcases GQ k r (i+1)with⟨h1,h2⟩|⟨v,n,h1,h2⟩
  ·refine .inl ⟨by rw[pf,if_neg h];exact h1,?_⟩;simp only[S0,zzax,Xg];rw[if_neg hk];exact h2
  refine .inr ⟨v,n,by rw[pf,if_neg h];exact h1,?_⟩;simp only[S0,zzax,Xg];rw[if_neg hk];exact h2
def YQ(k q:Int×Int)(v:List Sp):∀(l:List ((Int×Int)×List Sp)),pf q (l++[(k,v)])=match pf q l with|some u=>some u|none=>if k=q then some v else none
 |[]=>rfl
 |x::r=>by
  rw[zzaf,pf,YQ k q v r,pf];by_cases h:x.1=q<;>simp[h]
def Lh(b:Bd):Prop:=∀k v,pf k b.pm=some v->v=Xz b.p k.1 k.2
def pmN(b:Bd)(it n:Int):List ((Int×Int)×List Sp):=match pf (it,n) b.pm with
 |some _=>b.pm
 |none=>b.pm++[((it,n),Xz b.p it n)]
def am9{b:Bd}(h:Lh b)(it n:Int):Lh {b with pm:=pmN b it n}:=fun k v hk=>by
 simp only[pmN]at hk;cases hp:pf (it,n) b.pm with
 |some u=>rw[hp]at hk;exact h k v hk
 |none=>
  rw[hp]at hk;simp only[YQ]at hk;cases hq:pf k b.pm with
  |some u=>rw[hq]at hk;cases hk;exact h k _ hq
  |none=>
   rw[hq]at hk;simp only at hk;split at hk
   ·rename_i e;cases hk;rw[<- e]
   cases hk
def Li{pre post:X2}{b:Bd}(pm:List ((Int×Int)×List Sp))(ls:P2)(id:Nat)(cells:P1)(h:(aO pre {b with pm:=pm} post ls).boxes[id]?=some cells):(aO pre b post ls).boxes[id]?=some cells\/YR cells:=by
 simp only[aO]at h |-
 rcases zzab id pre.length with ah|bu
 ·rw[zzam ah]at h |-
  exact .inl h
 rw[zzaw bu]at h |-
 match hk:id-pre.length,h with
 |0,h=>exact .inl h
 |1,h=>exact .inl h
 |2,h=>exact .inl h
 |3,h=>exact .inl h
 |4,h=>exact .inl h
 |5,h=>exact .inl h
 |6,h=>exact .inl h
 |7,h=>exact .inl h
 |8,h=>
  refine .inr (.inr ⟨2,S0 pm,?_,?_⟩)
  ·simp[bk]at h;exact h.symm
  intro e he;obtain⟨x,_,rfl⟩:=zzbk.1 he;exact Idle.ro _
 |9,h=>exact .inl h
 |k+10,h=>exact .inl h
def FrK(pre:X2)(b:Bd)(pm:List ((Int×Int)×List Sp))(post:X2)(ls:P2)(K:UV)(r:AV)(m:AM):Prop:=∃ex,m=aO pre {b with pm:=pm} (post++ex) ls/\Idle r/\K r (aO pre {b with pm:=pm} post ls)
def frK{pre:X2}{b:Bd}{pm:List ((Int×Int)×List Sp)}{post:X2}{ls:P2}{K:UV}{r:AV}{m:AM}(ex:X2)(h:m=aO pre {b with pm:=pm} (post++ex) ls)(hi:Idle r)(hK:K r (aO pre {b with pm:=pm} post ls)):FrK pre b pm post ls K r m:=⟨ex,h,hi,hK⟩
def Rk{f:FuncId}{xs:P1}{pre post:X2}{b:Bd}{pm:List ((Int×Int)×List Sp)}{ls:P2}{Y:YT}{K:UV}(h:aF Tryz.prog aD Y f xs (aO pre b post ls) (FrK pre b pm post ls K)):aF Tryz.prog aD Y f xs (aO pre b post ls) K:=by
 refine aF.forget (aF.mono h ?_);rintro r m' ⟨ex,rfl,h1,h2⟩;refine⟨aO pre {b with pm:=pm} post ls,ex,?_,?_,rfl,fun id cells hc=>Li pm ls id cells hc,h1,h2⟩
 ·simp[aO,bk]
 simp[aO,bk]
def ajv(p:Pl)(it:Int):X1:=fun d f l=>if f=194 then(match l with|[_,_,_,.agg [.int _ a,.int _ c]]=>.sl .ro ((Vp p it 0 (a,c)).map Qe)|_=>.junk)else
 (match l with|[.sl _ a,.sl _ c]=>.sl .ro ((Xi (a.map rz++c.map rz)).map Qe)|_=>.junk)
def pU(l:List Sp):(l.map Qe).map rz=l:=by
 rw[zzcz]
 conv=>rhs;rw[<- List.map_id l]
 exact zzdb fun x _=>rfl
def Rl(pre post:X2)(ls:P2)(b:Bd)(it n:Int)(hn:0<=n/\n<=1000)(hc:b.p.cls.length<=1000000)(fS:b.p.sh.length<=1000000000)(cV:b.p.aT.length<=1000000000)(hpm:Lh b)(Y:YT)(K:UV)
  (hK:K (.sl .ro ((Xz b.p it n).map Qe)) (aO pre {b with pm:=pmN b it n} post ls)):
  aF Tryz.prog aD Y 189 [.ptr (pre.length+9) 0,.agg [I it,I n]] (aO pre b post ls) K:=by
 refine Rk (pm:=pmN b it n) ?_;have w1:IntKind.i64.wrap (n*1000000)=n*1000000:=by rw[Qh]<;>omega
 have w2:IntKind.i64.wrap (n+1)=n+1:=by rw[Qh]<;>omega
 have w3:IntKind.i64.wrap ((n+1)*1000000)=(n+1)*1000000:=by rw[Qh]<;>omega
 have w4:IntKind.i64.wrap (n+2)=n+2:=by rw[Qh]<;>omega
 have w5:IntKind.i64.wrap ((n+2)*1000000)=(n+2)*1000000:=by rw[Qh]<;>omega
 have k1:=nD b.p it 0 (n*1000000,(n+1)*1000000) hc fS cV (by simp only;omega) (by simp only;omega);have k2:=nD b.p it 0 ((n+1)*1000000,(n+2)*1000000) hc fS cV (by simp only;omega) (by simp only;omega);have l1:=Qcw b.p it 0 (n*1000000,(n+1)*1000000);have l2:=Qcw b.p it 0 ((n+1)*1000000,(n+2)*1000000);have k3:=YM (Vp b.p it 0 (n*1000000,(n+1)*1000000)) (Vp b.p it 0 ((n+1)*1000000,(n+2)*1000000)) zE;have Fx:Xz b.p it n=Xi (Vp b.p it 0 (n*1000000,(n+1)*1000000)++Vp b.p it 0 ((n+1)*1000000,(n+2)*1000000)):=rfl;rw[<- Fx]at k3;obtain⟨R,hR⟩:∃R,Xz b.p it n=R:=⟨_,rfl⟩;refine Xn ac9 (ajv b.p it) zd ?_;rcases GQ (it,n) b.pm 0 with⟨h1,h2⟩|⟨v,j,h1,h2⟩
 ·have hp:pmN b it n=b.pm++[((it,n),Xz b.p it n)]:=by simp only[pmN,h1]
  have j7:S0 (pmN b it n)=S0 b.pm++[([it,n],.sl .ro ((Xz b.p it n).map Qe))]:=by rw[hp];simp[S0]
  simp[TW,TX,aO,bk,Qn,Qc,h2,w1,w2,w3,w4,w5,ajv,pU,<- Fx];refine⟨by simpa[Qc]using k1,by simpa[Qc]using k2,k3,?_⟩;rw[<- j7];exact frK [[I it,I n]] rfl (Idle.ro _) hK
 have hv:=hpm _ _ h1;have hp:pmN b it n=b.pm:=by simp only[pmN,h1]
 rw[hp]at hK |-
 rw[<- hv]at hK;simp[TW,TX,aO,bk,Qn,Qc,h2];exact frK [[I it,I n]] rfl (Idle.ro _) hK
def Lj{p:Pl}{it n:Int}:∀s∈Xz p it n,s.1<=1000000000000/\s.2<=1000000000000:=fun s hs=>by
 have hv:=(Yh (Vp p it 0 (n*1000000,(n+1)*1000000)++Vp p it 0 ((n+1)*1000000,(n+2)*1000000))).1.1 s hs;have h1:Xw (Xz p it n) s.1:=⟨s,hs,zE,zE⟩;have h2:Xw (Xz p it n) (s.2-1):=⟨s,hs,zE,zE⟩;rw[Qby]at h1 h2;obtain⟨_,_,_,_,_,Im,_⟩:=h1;obtain⟨_,_,_,_,_,Q0,_⟩:=h2;omega
def GR(p:Pl)(it n:Int):(Xz p it n).length<=2000000:=by
 have h:=Yu (Vp p it 0 (n*1000000,(n+1)*1000000)++Vp p it 0 ((n+1)*1000000,(n+2)*1000000));have l1:=Qcw p it 0 (n*1000000,(n+1)*1000000);have l2:=Qcw p it 0 ((n+1)*1000000,(n+2)*1000000);rw[zzal]at h;have:(Xz p it n).length<=_:=h;omega
def uI:X1:=fun _ f l=>if f=189 then .gd false .junk else(match l with|[.sl _ a,.int _ x,.int _ n]=>Wo (lH (a.map rz) x n)|_=>.junk)
def afl(pre:X2)(b:Bd)(post:X2)(ls:P2)(e:En)(last from_:Int)(T:Option Int)(f:Nat->AV)(m:AM):Prop:=∃(n:Int)(pm:List ((Int×Int)×List Sp)),
 f 9=I n/\(0<=n/\n<=9223372036854)/\SZ b.p e last from_ n=T/\Lh {b with pm:=pm}/\m=aO pre {b with pm:=pm} (post++[Qd e]) ls
def afm{from_:Int}(h0:0<=from_)(h1:from_<=9223372036854775807):0<=from_.tdiv 1000000/\from_.tdiv 1000000<=9223372036854:=by
 rw[zzca h0];omega
def Om(pre post:X2)(ls:P2)(b:Bd)(e:En)(from_:Int)(hc:b.p.cls.length<=1000000)(fS:b.p.sh.length<=1000000000)(cV:b.p.aT.length<=1000000000)(eO:b.p.ln<=9223372036854775807)(Fx:from_<=9223372036854775807)
  (hpm:Lh b)(Y:YT)(K:UV)(hK:∀pm ex,Lh {b with pm:=pm}->K (Wo (Ye b.p e from_)) (aO pre {b with pm:=pm} (post++ex) ls)):
  aF Tryz.prog aD Y 141 [.ptr (pre.length+9) 0,.agg (Qd e),I from_] (aO pre b post ls) K:=by
 refine Xn acA uI zd ?_
 have no:Ye b.p e from_=none->K (.aS [I 0,.bool false]) (aO pre b (post++[Qd e]) ls):=fun h=>by
  have:=hK b.pm [Qd e] hpm;rw[h]at this;exact this
 by_cases c1:e.fr<1
 ·simp[Af,u6,aO,bk,Qn,Qc,Qd,c1];exact no (by rw[Ye,if_pos (.inl c1)])
 by_cases c2:1000000<e.fr
 ·simp[Af,u6,aO,bk,Qn,Qc,Qd,c1,c2];exact no (by rw[Ye,if_pos (.inr (.inl c2))])
 by_cases c3:b.p.ln<e.fr
 ·simp[Af,u6,aO,bk,Qn,Qc,Qd,c1,c2,c3];exact no (by rw[Ye,if_pos (.inr (.inr c3))])
 have hS:Ye b.p e from_=SZ b.p e (mq b.p e) (max from_ 0) ((max from_ 0).tdiv 1000000):=by rw[Ye,if_neg zE]
 rw[hS]at hK;clear no;obtain⟨fm,hfm⟩:∃fm,max from_ 0=fm:=⟨_,rfl⟩;have ayM:(if from_<0 then 0 else from_)=fm:=zE
 have hf0:0<=fm/\fm<=9223372036854775807:=zE
 obtain⟨d1,d2⟩:=afm hf0.1 hf0.2;rw[hfm]at hK;have hwq:IntKind.i64.wrap (fm.tdiv 1000000)=fm.tdiv 1000000:=by rw[Qh]<;>omega
 have hwl:IntKind.i64.wrap (b.p.ln-e.fr)=b.p.ln-e.fr:=by rw[Qh]<;>omega
 obtain⟨q,hq⟩:∃q,fm.tdiv 1000000=q:=⟨_,rfl⟩;rw[hq]at hwq d1 d2 hK;obtain⟨la,hla⟩:∃la,mq b.p e=la:=⟨_,rfl⟩;have hlb:la<=100000000:=by rw[<- hla,mq];omega
 rw[hla]at hK;obtain⟨T,hT⟩:∃T,SZ b.p e la fm q=T:=⟨_,rfl⟩;rw[hT]at hK;simp[Af,aO,bk,Qn,Qc,Qd,c1,c2,c3,hwl,ayM,hq,hwq]
 have eN:UO false (UO false e.la (b.p.ln-e.fr)) 100000000=la:=by
  rw[<- hla,mq];simp only[UO];simp;omega
 rw[eN];refine Qk iN (afl pre b post ls e la fm T) (fun f _=>(la-numOf (f 9)*1000000+1000000).toNat) ?_ ?_
 ·exact⟨q,b.pm,zd,⟨d1,d2⟩,hT,hpm,by simp[aO,bk,Qn,Qc,Qd]⟩
 rintro f m ⟨n,pm,h9,hn,cI,hpm',rfl⟩;have IB:IntKind.i64.wrap (n*1000000)=n*1000000:=by rw[Qh]<;>omega
 have hwn:IntKind.i64.wrap (n+1)=n+1:=by rw[Qh]<;>omega
 rw[SZ]at cI;by_cases c4:n*1000000<=la
 ·rw[if_pos c4]at cI;have Rm:=GP (Xz b.p e.it n) fm e.fr (by have:=GR b.p e.it n;omega) hf0.1 zE Lj;obtain⟨R,hR⟩:∃R,Xz b.p e.it n=R:=⟨_,rfl⟩;have kf:=fun K'=>Rl pre (post++[Qd e]) ls {b with pm:=pm} e.it n zE hc fS cV hpm' Y K';have hpn:=am9 hpm' e.it n;obtain⟨On,ayN⟩:∃On,pmN {b with pm:=pm} e.it n=On:=⟨_,rfl⟩;rw[ayN]at kf hpn;simp only at kf;rw[hR]at cI Rm kf;cases hes:lH R fm e.fr with
  |none=>
   rw[hes]at cI Rm;simp[h9,iN,IB,c4,aO,bk,Qn,Qc,Qd];refine Jc [(.sl .ro (R.map Qe),aO pre {b with pm:=On} (post++[Qd e]) ls)] ?_;simp[h9,iN,IB,c4,aO,bk,Qn,Qc,Qd,uI,pU,hes,Wo,hwn];refine⟨kf _ ⟨rfl,rfl⟩,Rm,aP,⟨n+1,On,zd,zE,cI,hpn,by simp[aO,bk,Qn,Qc,Qd]⟩,zE⟩
  |some s=>
   rw[hes]at cI Rm;simp only at cI;by_cases c5:la<s
   ·rw[if_pos c5]at cI;subst cI;have:=hK On [Qd e] hpn;simp[h9,iN,IB,c4,aO,bk,Qn,Qc,Qd];refine Jc [(.sl .ro (R.map Qe),aO pre {b with pm:=On} (post++[Qd e]) ls)] ?_;simp[h9,iN,IB,c4,aO,bk,Qn,Qc,Qd,uI,pU,hes,Wo,c5,u6];refine⟨kf _ ⟨rfl,rfl⟩,Rm,?_⟩;simpa[aO,bk,Qn,Qc,Qd,Wo]using this
   rw[if_neg c5]at cI;subst cI;have:=hK On [Qd e] hpn;simp[h9,iN,IB,c4,aO,bk,Qn,Qc,Qd];refine Jc [(.sl .ro (R.map Qe),aO pre {b with pm:=On} (post++[Qd e]) ls)] ?_;simp[h9,iN,IB,c4,aO,bk,Qn,Qc,Qd,uI,pU,hes,Wo,c5,u6];refine⟨kf _ ⟨rfl,rfl⟩,Rm,?_⟩;simpa[aO,bk,Qn,Qc,Qd,Wo]using this
 rw[if_neg c4]at cI;subst cI;have:=hK pm [Qd e] hpm';simp[h9,iN,IB,c4,u6];simpa[aO,bk,Qn,Qc,Qd,Wo]using this
def pV(n:Int)(us:List (Int×Int)):Prop:=∀k v,af k us=some v->0<=v/\v<=n
def pV.note{n:Int}{us:List (Int×Int)}(h:pV n us)(hn:0<=n)(it:Int):pV (n+1) (Vu us it):=fun k v hk=>by
 rw[Vu,Uz]at hk;split at hk
 ·cases hk;cases ha:af it us with
  |none=>simp;omega
  |some u=>have:=h it u ha;simp;omega
 have:=h k v hk;omega
def Qdc(p:Pl)(it:Int):(∃n y,Xk it p.aT=some y/\Xg [it] (bI rI (zF p)) 0=some (n,rI y))\/(Xk it p.aT=none/\Xg [it] (bI rI (zF p)) 0=none):=by
 rcases Xx rI it (zF p) 0 with⟨h1,h2,_,_⟩|⟨u,n,h1,h2,_⟩
 ·rw[uG]at h1;exact .inr ⟨h1,h2⟩
 rw[uG]at h1;exact .inl ⟨_,u,h1,h2⟩
def xB(us:List (Int×Int))(it:Int):(Xg [it] (bI iA us) 0=none/\bI iA us++[([it],.int .i64 1)]=bI iA (Vu us it))\/∃u n,af it us=some u/\Xg [it] (bI iA us) 0=some (n,.int .i64 u)/\(bI iA us).set n ([it],.int .i64 (u+1))=bI iA (Vu us it):=by
 rcases Xx iA it us 0 with⟨h1,h2,_,h4⟩|⟨u,n,h1,h2,_,_,_,h4⟩
 ·exact .inl ⟨h2,by rw[Vu,h1];exact h4 1⟩
 exact .inr ⟨u,n,h1,by rw[h2,zzbn],by rw[Vu,h1];exact h4 (u+1)⟩
def Qea(p:Pl)(en:List (Int×Int))(it e:Int){y:It}(hy:Xk it p.aT=some y):(Xg [y.sp] (bI iA en) 0=none/\bI iA en++[([y.sp],.int .i64 (if 0<e then e else 0))]=bI iA (Zx p en it e))\/∃u n,af y.sp en=some u/\Xg [y.sp] (bI iA en) 0=some (n,.int .i64 u)/\(bI iA en).set n ([y.sp],.int .i64 (if u<e then e else u))=bI iA (Zx p en it e):=by
 rcases Xx iA y.sp en 0 with⟨h1,h2,_,h4⟩|⟨u,n,h1,h2,_,_,_,h4⟩
 ·refine .inl ⟨h2,?_⟩;have:(if 0<e then e else 0)=max 0 e:=zE
  simp only[Zx,hy,h1,this];exact h4 _
 refine .inr ⟨u,n,h1,by rw[h2,zzbn],?_⟩;have:(if u<e then e else u)=max u e:=zE
 simp only[Zx,hy,h1,this];exact h4 _
def YS(pre p0 bx:X2)(ls:P2)(b:Bd)(us en:List (Int×Int))(it e:Int)(hu:pV 1000000000 us)(Y:YT)(K:UV)(hK:∀ex,K (.aS []) (aO pre b (p0++([.aM 0 (bI iA (Vu us it))]::[.aM 0 (bI iA (Zx b.p en it e))]::(bx++ex))) ls)):
  aF Tryz.prog aD Y 137 [.ptr (pre.length+9) 0,.mp (pre.length+(p0.length+10)),.mp (pre.length+(p0.length+11)),I it,I e] (aO pre b (p0++([.aM 0 (bI iA us)]::[.aM 0 (bI iA en)]::bx)) ls) K:=by
 refine Xn MX (fun _ _ _=>.junk) zd ?_;have w1:IntKind.i64.wrap 1=1:=by decide
 rcases xB us it with⟨u2,u4⟩|⟨u,n,u1,u2,u4⟩
 ·rcases Qdc b.p it with⟨ni,y,hy,hi⟩|⟨hy,hi⟩
  ·rcases Qea b.p en it e hy with⟨e2,e4⟩|⟨v,nv,e1,e2,e4⟩
   ·simp[fV,fW,aO,bk,Qn,Qc,hi,rI,Ql,u2,e2,w1];rw[u4,e4];simpa[aO,bk,Qn,Qc,Ql]using hK [Ql y]
   simp[fV,fW,aO,bk,Qn,Qc,hi,rI,Ql,u2,e2,w1];rw[u4,e4];simpa[aO,bk,Qn,Qc,Ql]using hK [Ql y]
  have he:Zx b.p en it e=en:=by simp only[Zx,hy]
  rw[he]at hK;simp[fV,fW,aO,bk,Qn,Qc,hi,u2,w1];rw[u4];simpa[aO,bk,Qn,Qc]using hK [[I 0,I 0,I 0,I 0,I 0]]
 have hb:=hu it u u1;have wu:IntKind.i64.wrap (u+1)=u+1:=by rw[Qh]<;>omega
 rcases Qdc b.p it with⟨ni,y,hy,hi⟩|⟨hy,hi⟩
 ·rcases Qea b.p en it e hy with⟨e2,e4⟩|⟨v,nv,e1,e2,e4⟩
  ·simp[fV,fW,aO,bk,Qn,Qc,hi,rI,Ql,u2,e2,wu];rw[u4,e4];simpa[aO,bk,Qn,Qc,Ql]using hK [Ql y]
  simp[fV,fW,aO,bk,Qn,Qc,hi,rI,Ql,u2,e2,wu];rw[u4,e4];simpa[aO,bk,Qn,Qc,Ql]using hK [Ql y]
 have he:Zx b.p en it e=en:=by simp only[Zx,hy]
 rw[he]at hK;simp[fV,fW,aO,bk,Qn,Qc,hi,u2,wu];rw[u4];simpa[aO,bk,Qn,Qc]using hK [[I 0,I 0,I 0,I 0,I 0]]
def afn(pre post:X2)(ls:P2)(b:Bd)(us en:List (Int×Int))(it e:Int)(hu:pV 1000000000 us)(Y:YT)(K:UV)(hK:∀ex,K (.aS []) (aO pre {b with us:=Vu us it,en:=Zx b.p en it e} (post++ex) ls)):
  aF Tryz.prog aD Y 137 [.ptr (pre.length+9) 0,.mp (pre.length+4),.mp (pre.length+5),I it,I e] (aO pre {b with us:=us,en:=en} post ls) K:=by
 refine Xn MX (fun _ _ _=>.junk) zd ?_;have w1:IntKind.i64.wrap 1=1:=by decide
 rcases xB us it with⟨u2,u4⟩|⟨u,n,u1,u2,u4⟩
 ·rcases Qdc b.p it with⟨ni,y,hy,hi⟩|⟨hy,hi⟩
  ·rcases Qea b.p en it e hy with⟨e2,e4⟩|⟨v,nv,e1,e2,e4⟩
   ·simp[fV,fW,aO,bk,Qn,Qc,hi,rI,Ql,u2,e2,w1];rw[u4,e4];simpa[aO,bk,Qn,Qc,Ql]using hK [Ql y]
   simp[fV,fW,aO,bk,Qn,Qc,hi,rI,Ql,u2,e2,w1];rw[u4,e4];simpa[aO,bk,Qn,Qc,Ql]using hK [Ql y]
  have he:Zx b.p en it e=en:=by simp only[Zx,hy]
  rw[he]at hK;simp[fV,fW,aO,bk,Qn,Qc,hi,u2,w1];rw[u4];simpa[aO,bk,Qn,Qc]using hK [[I 0,I 0,I 0,I 0,I 0]]
 have hb:=hu it u u1;have wu:IntKind.i64.wrap (u+1)=u+1:=by rw[Qh]<;>omega
 rcases Qdc b.p it with⟨ni,y,hy,hi⟩|⟨hy,hi⟩
 ·rcases Qea b.p en it e hy with⟨e2,e4⟩|⟨v,nv,e1,e2,e4⟩
  ·simp[fV,fW,aO,bk,Qn,Qc,hi,rI,Ql,u2,e2,wu];rw[u4,e4];simpa[aO,bk,Qn,Qc,Ql]using hK [Ql y]
  simp[fV,fW,aO,bk,Qn,Qc,hi,rI,Ql,u2,e2,wu];rw[u4,e4];simpa[aO,bk,Qn,Qc,Ql]using hK [Ql y]
 have he:Zx b.p en it e=en:=by simp only[Zx,hy]
 rw[he]at hK;simp[fV,fW,aO,bk,Qn,Qc,hi,u2,wu];rw[u4];simpa[aO,bk,Qn,Qc]using hK [[I 0,I 0,I 0,I 0,I 0]]
def ayO(of:Int)(sh:List Sp)(x fr to:Int):Bool:=
 if Vy of sh=false\/x<0\/10000000000<x\/fr<0\/86400<=fr\/to<0\/86400<=to then false else
 if fr<to then decide (fr<=(x+xw of sh x)%86400)&&decide ((x+xw of sh x)%86400<to)else decide (fr<=(x+xw of sh x)%86400)||decide ((x+xw of sh x)%86400<to)
def ayP(s r:Int):Bool:=if 0<=r/\r<8 then decide ((s/2 ^ r.toNat)%2=1)else false
def atX(c:Cl)(k item region:Int):Bool:=decide (c.ki=k)&&(Xe c&&(decide (c.it=item)&&ayP c.re region))
def hasB(l:List Sp)(x:Int):Bool:=l.any fun s=>decide (s.1<=x)&&decide (x<s.2)
def ajw(a:Int):P1:=[I a]
def ana:Pi->Int->Pi
 |[],x=>[x]
 |a::r,x=>if a<x then a::ana r x else if a=x then a::r else x::a::r
def anb(item region:Int)(c:Cl):Bool:=atX c 1 item region||atX c 2 item region
def edS(C:List Cl):Pi:=C.foldl (fun e c=>ana (ana e c.fr) c.to) []
def anc(C:List Cl)(Ed:Pi):Nat->List Sp
 |0=>[]
 |j+1=>if grX C (Ed.getD j 0)=true then nB (anc C Ed j) (Ed.getD j 0) (Ed.getD (j+1) 0)else anc C Ed j
def ayQ(cs:List Cl)(item region:Int):List Sp:=anc (cs.filter (anb item region)) (edS (cs.filter (anb item region))) ((edS (cs.filter (anb item region))).length-1)
def atY:P1->Int
 |[.int _ a]=>a
 |_=>0
@[simp] def afo(l:Pi):(l.map ajw).map atY=l:=by
 induction l with
 |nil=>rfl
 |cons a l ih=>simp only[zzax,ih];rfl
@[simp] def atZ(l:Pi):l.map (atY ∘ ajw)=l:=by rw[<- zzcz];exact afo l
def at1(p:Pl)(item region f:Int):Bool:=match Xk item p.aT with
 |none=>false
 |some it=>if region<0\/8<=region\/f<0\/100000000<f then false else if it.ki=5 then true else if Jt p=false then false else
  hasB (ayQ p.cls item region) (p.ep+Yf p.nu p.de f)&&(ux p.cls it.ra).all fun w=>ayO p.of p.sh (p.ep+Yf p.nu p.de f) w.1 w.2
def az3(p:Pl)(last f:Int):Int:=if Jt p=true then min last (wM p.nu p.de (Yf p.nu p.de f+1))else last
def az4(p:Pl)(item region first f:Int)(L:List Sp):Prop:=VS L/\(∀s∈L,s.2<=f)/\(∀x,Xw L x<->first<=x/\x<f/\at1 p item region x=true)/\(L.length:Int)<=f-first
