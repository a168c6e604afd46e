import Derived.Test.YtnopaopphmjnmaaGreatDoorMLMM
set_option linter.all false
namespace Go.Proofs.YtnopaopphmjnmaaGreatDoor
open Go Go.Abs
def S8(x:Int)(c:Cl):Bool:=decide (c.fr<=x/\x<c.to)
def grX(C:List Cl)(x:Int):Bool:=match C.reverse.find? (S8 x)with
 |some c=>decide (c.ki=1)
 |none=>false
def find_congr{α:Type}{p q:α->Bool}:∀{l:List α},(∀a∈l,p a=q a)->l.find? p=l.find? q
 |[],_=>rfl
 |a::l,h=>by
  have h1:=h a (by simp);have ih:=find_congr (l:=l) fun b hb=>h b (by simp[hb]);rw[zzfe,zzfe,h1,ih]
def Zw{x:Int}:∀{l:List Int}{j:Nat}{v:Int},l.Pairwise (·<·)->l[j]?=some v->(j<qX l x<->v<x)
 |[],j,v,_,h=>by simp at h
 |a::r,j,v,hp,h=>by
  obtain⟨h1,h2⟩:=zzbx.1 hp
  have e:qX (a::r) x=qX r x+if a<x then 1 else 0:=by
   unfold qX;rw[zzdu];by_cases ha:a<x<;>simp[ha]
  have hz:¬a<x->qX r x=0:=by
   intro ha;unfold qX;rw[zzcb,zzfn];intro y hy;have:=h1 y hy;simp;omega
  rw[e];cases j with
  |zero=>
   simp at h;subst h;by_cases ha:a<x
   ·simp[ha]
   simp[ha,hz ha]
  |succ j=>
   simp at h;have hav:=h1 v (zzad h);have ih:=Zw (x:=x) h2 h;by_cases ha:a<x
   ·simp only[ha,if_true];omega
   have:=hz ha;simp only[ha,if_false];omega
def Ia(Bd:List Int)(j:Nat)(c:Cl):Bool:=decide (qX Bd c.fr<=j/\j<qX Bd c.to)
def Ib(Bd:List Int)(j:Nat):∀(R:List Cl)(s:GS),(R.foldl (Q6 Bd) s)[j]?=(s[j]?).map fun o=>match o with
  |some v=>some v
  |none=>(R.find? (Ia Bd j)).map fun c=>decide (c.ki=1)
 |[],s=>by
  cases h:s[j]? with
  |none=>simp[h]
  |some o=>cases o<;>simp[h]
 |c::R,s=>by
  rw[zzcz,Ib Bd j R,Q6,Uw,zzfe];cases h:s[j]? with
  |none=>simp
  |some o=>
   cases o with
   |some v=>simp
   |none=>
    by_cases hc:qX Bd c.fr<=j/\j<qX Bd c.to
    ·simp[Ia,hc]
    simp[Ia,hc]
def Ic(Bd:List Int)(s:GS)(x:Int):∀n,Xt (nI Bd s n) x<->∃j,j<n/\s[j]?=some (some true)/\Bd.getD j 0<=x/\x<Bd.getD (j+1) 0
 |0=>by simp[nI]
 |n+1=>by
  rw[qZ,Yt,Ic Bd s x n];unfold CX;constructor
  ·rintro(⟨j,h1,h2⟩|h)
   ·exact⟨j,by omega,h2⟩
   split at h
   ·rename_i hs;rw[Xc]at h;obtain h|h:=h
    ·exact⟨n,by omega,hs,h⟩
    simp at h
   simp at h
  rintro⟨j,h1,h2,h3⟩;rcases zzaa j n with h|h
  ·exact .inl ⟨j,h,h2,h3⟩
  obtain rfl:j=n:=by omega
  right;rw[if_pos h2,Xc];exact .inl h3
def uY{l:List Int}{j:Nat}{v:Int}(h:l[j]?=some v):l.getD j 0=v:=by
 simp[zzar,h]
def aum(C:List Cl)(hC:∀c∈C,c.fr<c.to)(x:Int):Xt (nI (dB C) (wQ C) (dB C).length) x<->grX C x=true:=by
 have nK:=Oa C;have dH:∀c∈C,c.fr∈dB C/\c.to∈dB C:=fun c hc=>⟨(ux _ _).2 (pq hc).1,(ux _ _).2 (pq hc).2⟩
 have w8:∀j,j<(dB C).length->(wQ C)[j]?=some ((C.reverse.find? (Ia (dB C) j)).map fun c=>decide (c.ki=1)):=by
  intro j hj;rw[wQ,Ib];have:(List.replicate (dB C).length (none:Option Bool))[j]?=some none:=by simp[hj]
  rw[this];rfl
 have key:∀(j:Nat)(u w:Int),(dB C)[j]?=some u->(dB C)[j+1]?=some w->u<=x->x<w->∀c∈C.reverse,Ia (dB C) j c=S8 x c:=by
  intro j u w hu hw h1 h2 c hc;have qn:=zzfp.1 hc;have a1:=Zw (x:=c.fr) nK hu;have a2:=Zw (x:=c.fr) nK hw;have a3:=Zw (x:=c.to) nK hu;have a4:=Zw (x:=c.to) nK hw;obtain⟨m1,m2⟩:=dH c qn
  have gap:∀y∈dB C,y<=u\/w<=y:=by
   intro y hy;obtain⟨k,hk⟩:=zzfx hy;rcases zzaa j k with h|h
   ·right;have q1:=Zw (x:=w) nK hk;have q2:=Zw (x:=w) nK hw;omega
   left;have q1:=Zw (x:=y) nK hk;have q2:=Zw (x:=y) nK hu;omega
  have g1:=gap _ m1;have g2:=gap _ m2;unfold Ia S8;apply decide_eq_decide.2;omega
 have abw:∀(j:Nat)(u w:Int),(dB C)[j]?=some u->(dB C)[j+1]?=some w->u<=x->x<w->((wQ C)[j]?=some (some true)<->grX C x=true):=by
  intro j u w hu hw h1 h2;rw[w8 j (zza.1 hu).1,find_congr (key j u w hu hw h1 h2),grX];cases C.reverse.find? (S8 x)<;>simp
 rw[Ic];constructor
 ·rintro⟨j,hj,hs,h1,h2⟩;have iH:=hs;rw[w8 j hj]at hs;cases hf:C.reverse.find? (Ia (dB C) j)with
  |none=>rw[hf]at hs;simp at hs
  |some c=>
   have hc:=zzfp.1 (zzea hf);have hi:=zzhg hf;simp only[Ia,decide_eq_true_eq]at hi;have hl:=KM (dH c hc).2;have ek:j+1<(dB C).length:=by omega
   obtain⟨u,hu⟩:∃u,(dB C)[j]?=some u:=⟨_,zzac hj⟩;obtain⟨w,hw⟩:∃w,(dB C)[j+1]?=some w:=⟨_,zzac ek⟩;rw[uY hu]at h1;rw[uY hw]at h2;exact(abw j u w hu hw h1 h2).1 iH
 intro hg;have Rg:=hg;rw[grX]at hg;cases hf:C.reverse.find? (S8 x)with
 |none=>rw[hf]at hg;simp at hg
 |some c=>
  have hc:=zzfp.1 (zzea hf);have hi:=zzhg hf;simp only[S8,decide_eq_true_eq]at hi;obtain⟨m1,m2⟩:=dH c hc;obtain⟨k1,cV⟩:=zzfx m1;obtain⟨k2,dw⟩:=zzfx m2;have a1:=(Zw (x:=x+1) nK cV).2 (by omega);have a2:=Zw (x:=x+1) nK dw;have l2:=(zza.1 dw).1;obtain⟨j,hj⟩:∃j,qX (dB C) (x+1)=j+1:=⟨qX (dB C) (x+1)-1,by omega⟩;have ek:j+1<(dB C).length:=by omega
  obtain⟨u,hu⟩:∃u,(dB C)[j]?=some u:=⟨_,zzac (by omega)⟩;obtain⟨w,hw⟩:∃w,(dB C)[j+1]?=some w:=⟨_,zzac ek⟩;have b1:=Zw (x:=x+1) nK hu;have b2:=Zw (x:=x+1) nK hw;exact⟨j,by omega,(abw j u w hu hw (by omega) (by omega)).2 Rg,by rw[uY hu];omega,by rw[uY hw];omega⟩
def ag7{cs:List Cl}{item region:Int}:∀c∈We cs item region,c.fr<c.to:=by
 intro c hc;simp only[We,zzck,FF,Xk,Ui,zzak,decide_eq_true_eq]at hc;obtain⟨_,h1,_,_,h2⟩:=hc;rw[if_pos h1]at h2;simp at h2;omega
def Mz(cs:List Cl)(item region x:Int):Xt (Qcj cs item region) x<->grX (We cs item region) x=true:=by
 rw[Qcj,(Va _).2,aum _ ag7]
def NE(L:List Sp):Prop:=∀s∈L,s.1<s.2
def ag8{L:List Sp}{f t:Int}(h:NE L):NE (nM L f t)/\∀x,Xt (nM L f t) x<->Xt L x\/(f<=x/\x<t):=by
 unfold nM;split
 ·rename_i IB;cases hl:L.getLast? with
  |none=>
   have:L=[]:=by simpa using hl
   subst this;refine⟨by intro s hs;simp at hs;subst hs;exact IB,fun x=>by simp⟩
  |some s=>
   obtain⟨D,rfl⟩:∃D,L=D++[s]:=by
    have aK:L≠[]:=by rintro rfl;simp at hl
    refine⟨L.dropLast,?_⟩;have h1:=zzeq aK;rw[List.getLast?_eq_some_getLast aK]at hl;cases hl;exact h1.symm
   have hs:=h s (by simp);simp only;split
   ·rename_i e;simp only[zzfy];refine⟨?_,fun x=>?_⟩
    ·intro u hu;rw[zzao]at hu;obtain hu|hu:=hu
     ·exact h u (by simp[hu])
     simp at hu;subst hu;simp only;omega
    simp only[Yt,Xc,Yp,or_false,or_assoc];constructor
    ·rintro(h|h)
     ·exact .inl h
     by_cases x<s.2
     ·exact .inr (.inl (by omega))
     exact .inr (.inr (by omega))
    rintro(h|h|h)
    ·exact .inl h
    ·exact .inr (by omega)
    exact .inr (by omega)
   refine⟨?_,fun x=>by simp[or_assoc]⟩;intro u hu;rw[zzao]at hu;obtain hu|hu:=hu
   ·exact h u hu
   simp at hu;subst hu;exact IB
 refine⟨h,fun x=>?_⟩;constructor
 ·exact .inl
 rintro(h|h)
 ·exact h
 omega
def inW(W:List Sp)(n:Int):Prop:=∃w∈W,w.1<=n/\n<w.2
def Pp(sf st mid:Int):∀{W L:List Sp},NE L->NE (pE sf st mid W L)/\∀x,Xt (pE sf st mid W L) x<->Xt L x\/(sf<=x/\x<st/\inW W (x-mid))
 |[],L,h=>⟨h,fun x=>by simp[pE,inW]⟩
 |w::W,L,h=>by
  obtain⟨a1,a2⟩:=ag8 (f:=max sf (mid+w.1)) (t:=min st (mid+w.2)) h;obtain⟨b1,b2⟩:=Pp sf st mid (W:=W) a1;refine⟨b1,fun x=>?_⟩;rw[pE,b2,a2];simp only[inW,zzat,exists_eq_or_imp];constructor
  ·rintro((h|h)|⟨h1,h2,h3⟩)
   ·exact .inl h
   ·exact .inr ⟨by omega,by omega,.inl (by omega)⟩
   exact .inr ⟨h1,h2,.inr h3⟩
  rintro(h|⟨h1,h2,h3|h3⟩)
  ·exact .inl (.inl h)
  ·exact .inl (.inr (by omega))
  exact .inr ⟨h1,h2,h3⟩
def ag9(W:List Sp):Prop:=∀w∈W,0<=w.1/\w.2<=86400
def aha{W:List Sp}(hW:ag9 W)(sf st o:Int):∀(n:Nat)(d:Int){L:List Sp},(st-(d*86400-o)).toNat<=n->NE L->NE (nN W sf st (d*86400-o) L)/\
  ∀x,Xt (nN W sf st (d*86400-o) L) x<->Xt L x\/(sf<=x/\x<st/\d<=(x+o)/86400/\inW W ((x+o)%86400)):=by
 intro n;induction n with
 |zero=>
  intro d L h hL;rw[nN,if_neg (by omega)];refine⟨hL,fun x=>⟨.inl,?_⟩⟩;rintro(h|⟨h1,h2,h3,h4⟩)
  ·exact h
  omega
 |succ n ih=>
  intro d L h hL;rw[nN];split
  ·rename_i hm;obtain⟨a1,a2⟩:=Pp sf st (d*86400-o) (W:=W) hL;have e:d*86400-o+86400=(d+1)*86400-o:=by omega
   rw[e];obtain⟨b1,b2⟩:=ih (d+1) (by omega) a1;refine⟨b1,fun x=>?_⟩;rw[b2,a2];constructor
   ·rintro((h|⟨h1,h2,w,hw,h3,h4⟩)|⟨h1,h2,h3,h4⟩)
    ·exact .inl h
    ·have:=hW w hw;have hd:(x+o)/86400=d:=by omega
     exact .inr ⟨h1,h2,by omega,w,hw,by omega,by omega⟩
    exact .inr ⟨h1,h2,by omega,h4⟩
   rintro(h|⟨h1,h2,h3,h4⟩)
   ·exact .inl (.inl h)
   by_cases hd:(x+o)/86400=d
   ·obtain⟨w,hw,h5,h6⟩:=h4;exact .inl (.inr ⟨h1,h2,w,hw,by omega,by omega⟩)
   exact .inr ⟨h1,h2,by omega,h4⟩
  rename_i hm;refine⟨hL,fun x=>⟨.inl,?_⟩⟩;rintro(h|⟨h1,h2,h3,h4⟩)
  ·exact h
  omega
def an3{s:Sp}{W:List Sp}(hW:ag9 W)(y:Int×Int×Int){L:List Sp}(hL:NE L):NE (stL s W y L)/\
  ∀x,Xt (stL s W y L) x<->Xt L x\/(y.1<=x/\x<y.2.1/\s.1<=x/\x<s.2/\inW W ((x+y.2.2)%86400)):=by
 unfold stL;split
 ·refine⟨hL,fun x=>⟨.inl,?_⟩⟩;rintro(h|⟨h1,h2,h3,h4,_⟩)
  ·exact h
  omega
 obtain⟨a1,a2⟩:=aha hW (max y.1 s.1) (min y.2.1 s.2) y.2.2 _ ((max y.1 s.1+y.2.2)/86400) (zzab _) hL;refine⟨a1,fun x=>?_⟩;rw[a2];constructor
 ·rintro(h|⟨h1,h2,h3,h4⟩)
  ·exact .inl h
  exact .inr ⟨by omega,by omega,by omega,by omega,h4⟩
 rintro(h|⟨h1,h2,h3,h4,h5⟩)
 ·exact .inl h
 exact .inr ⟨by omega,by omega,by omega,h5⟩
def Pq{s:Sp}{W:List Sp}(hW:ag9 W):∀{xs:List (Int×Int×Int)}{L:List Sp},xs.Pairwise (fun a b=>a.1<=b.1)->NE L->∀x,Xt (tP s W xs L) x<->Xt L x\/(s.1<=x/\x<s.2/\∃y∈xs,y.1<=x/\x<y.2.1/\inW W ((x+y.2.2)%86400))
 |[],L,_,hL,x=>by simp[tP]
 |y::r,L,hp,hL,x=>by
  obtain⟨p1,p2⟩:=zzbx.1 hp;rw[tP];split
  ·rename_i hb;constructor
   ·exact .inl
   rintro(h|⟨h1,h2,z,hz,h3,h4,_⟩)
   ·exact h
   rcases zzat.1 hz with rfl|hz
   ·omega
   have:=p1 z hz;omega
  obtain⟨a1,a2⟩:=an3 (s:=s) hW y hL;rw[Pq hW p2 a1,a2];simp only[zzat,exists_eq_or_imp];constructor
  ·rintro((h|⟨h1,h2,h3,h4,h5⟩)|⟨h1,h2,h3⟩)
   ·exact .inl h
   ·exact .inr ⟨h3,h4,.inl ⟨h1,h2,h5⟩⟩
   exact .inr ⟨h1,h2,.inr h3⟩
  rintro(h|⟨h1,h2,⟨h3,h4,h5⟩|h3⟩)
  ·exact .inl (.inl h)
  ·exact .inl (.inr ⟨h3,h4,h1,h2,h5⟩)
  exact .inr ⟨h1,h2,h3⟩
def yJ(of:Int)(sh:List Sp)(x:Int):Int:=sh.foldl (fun n s=>if s.1<=x then s.2 else n) of
def Ie:∀{sh:List Sp}{last:Int},tQ last sh=true->sh.Pairwise (fun a b=>a.1<b.1)/\∀s∈sh,last<s.1/\s.1<=10000000000/\gT s.2=true
 |[],_,_=>⟨.nil,fun _ h=>by cases h⟩
 |a::r,last,h=>by
  rw[tQ]at h;split at h
  ·cases h
  rename_i hn;simp only[not_or,zzgp]at hn;obtain⟨h1,h2⟩:=Ie h;refine⟨zzbx.2 ⟨fun b hb=>(h2 b hb).1,h1⟩,?_⟩;intro s hs;rcases zzat.1 hs with rfl|hs
  ·exact⟨by omega,by omega,hn.2.2⟩
  have:=h2 s hs;exact⟨by omega,this.2⟩
def BK{x:Int}:∀{sh:List Sp}(o:Int),(∀s∈sh,x<s.1)->yJ o sh x=o
 |[],o,_=>rfl
 |a::r,o,h=>by
  have:=h a (by simp);rw[yJ,zzcz,if_neg (by omega)];exact BK o fun s hs=>h s (by simp[hs])
def Ig{P:Int->Prop}:∀{sh:List Sp}{f o:Int},(∀s∈sh,f<=s.1/\s.1<=10000000000)->sh.Pairwise (fun a b=>a.1<b.1)->f<=10000000000->∀x,(∃y∈uA f o sh,y.1<=x/\x<y.2.1/\P y.2.2)<->f<=x/\x<=10000000000/\P (yJ o sh x)
 |[],f,o,_,_,hf,x=>by
  simp only[uA,zzbd,exists_eq_left,yJ,List.foldl_nil];constructor
  ·rintro⟨h1,h2,h3⟩;exact⟨h1,by omega,h3⟩
  rintro⟨h1,h2,h3⟩;exact⟨h1,by omega,h3⟩
 |s::r,f,o,hb,hp,hf,x=>by
  obtain⟨p1,p2⟩:=zzbx.1 hp;have hs:=hb s (by simp);have ih:=Ig (P:=P) (o:=s.2) (f:=s.1) (sh:=r) (fun t ht=>⟨by have:=p1 t ht;omega,(hb t (by simp[ht])).2⟩) p2 hs.2 x
  have e:(∃y∈uA f o (s::r),y.1<=x/\x<y.2.1/\P y.2.2)<->(f<=x/\x<s.1/\P o)\/∃y∈uA s.1 s.2 r,y.1<=x/\x<y.2.1/\P y.2.2:=by
   rw[uA];simp only[zzao,or_and_right,exists_or];refine or_congr ?_ Iff.rfl;split
   ·simp
   simp;intro h1 h2;omega
  have eo:yJ o (s::r) x=yJ (if s.1<=x then s.2 else o) r x:=rfl;rw[e,ih,eo];by_cases hx:s.1<=x
  ·rw[if_pos hx];constructor
   ·rintro(⟨h1,h2,h3⟩|⟨h1,h2,h3⟩)
    ·omega
    exact⟨by omega,h2,h3⟩
   rintro⟨h1,h2,h3⟩;exact .inr ⟨hx,h2,h3⟩
  rw[if_neg hx];have hn:=BK (x:=x) (sh:=r) o fun t ht=>by have:=p1 t ht;omega
  rw[hn];constructor
  ·rintro(⟨h1,h2,h3⟩|⟨h1,h2,h3⟩)
   ·exact⟨h1,by omega,h3⟩
   omega
  rintro⟨h1,h2,h3⟩;exact .inl ⟨h1,by omega,h3⟩
def Ih:∀{sh:List Sp}{f o:Int},(∀s∈sh,f<=s.1)->sh.Pairwise (fun a b=>a.1<b.1)->(uA f o sh).Pairwise (fun a b=>a.1<=b.1)/\∀y∈uA f o sh,f<=y.1
 |[],f,o,_,_=>by simp[uA]
 |s::r,f,o,hb,hp=>by
  obtain⟨p1,p2⟩:=zzbx.1 hp;have hs:=hb s (by simp);obtain⟨i1,i2⟩:=Ih (f:=s.1) (o:=s.2) (sh:=r) (fun t ht=>by have:=p1 t ht;omega) p2;rw[uA];refine⟨?_,?_⟩
  ·rw[zzew];refine⟨by split<;>simp,i1,?_⟩;intro a ha b cH;have:=i2 b cH;split at ha
   ·simp at ha;subst ha;simp only;omega
   simp at ha
  intro y hy;rw[zzao]at hy;obtain hy|hy:=hy
  ·split at hy
   ·simp at hy;subst hy;exact zzbu _
   simp at hy
  have:=i2 y hy;omega
def Pr(of:Int)(sh:List Sp)(x fr to:Int):Prop:=0<=x/\x<=10000000000/\inW (zD fr to) ((x+yJ of sh x)%86400)
def abx{of:Int}{sh:List Sp}{s:Sp}{fr to:Int}(h:xh of sh s fr to=true)(x:Int):Xt (iB of sh s fr to) x<->s.1<=x/\x<s.2/\Pr of sh x fr to:=by
 rw[iB,if_pos h];simp only[xh,Yd,zF,zzak,decide_eq_true_eq]at h;obtain⟨⟨⟨⟨⟨_,_⟩,ha⟩,h1⟩,h2⟩,_⟩:=h;obtain⟨a1,a2⟩:=Ie ha;have hW:ag9 (zD fr to):=fun w hw=>by have:=(uC h1 h2).2 w hw;omega
 rw[Pq hW (Ih (fun t ht=>by have:=a2 t ht;omega) a1).1 (fun _ h=>by cases h)];rw[Ig (P:=fun o=>inW (zD fr to) ((x+o)%86400)) (fun t ht=>by have:=a2 t ht;omega) a1 (by omega)];simp only[Yp,false_or,Pr]
open Go Go.Abs
def Pt(p:Pl)(it:It)(region x:Int):Prop:=it.ki=5\/(Kg p=true/\grX (We p.cls it.id region) (p.ep+Yn p.nu p.de x)=true/\∀w∈uD p.cls it.ra,Pr p.of p.sh (p.ep+Yn p.nu p.de x) w.1 w.2)
def gV(p:Pl)(id region x:Int):Prop:=∃it,Xh id p.aL=some it/\(0<=region/\region<8)/\(0<=x/\x<=100000000)/\Pt p it region x
def Ii:∀(Xs:List (List Sp))(a:List Sp)(y:Int),Xt (Xs.foldl zH a) y<->Xt a y/\∀l∈Xs,Xt l y
 |[],a,y=>by simp
 |l::Xs,a,y=>by
  rw[zzcz,Ii Xs,(kZ a l).2];simp only[zzat,forall_eq_or_imp,and_assoc]
def D0{nu de s f:Int}(hv:Vf nu de=true)(hs:0<=s/\s<=10000000000)(hf:0<=f/\f<=100000000):xu nu de s<=f<->s<=Yn nu de f:=by
 obtain⟨b1,b2,b3,b4,b5⟩:=Jt hv;rw[xu,if_pos ⟨hv,hs.1,hs.2⟩,Yn,if_pos ⟨hv,hf.1,hf.2⟩];have q0:0<=s*nu:=zzeb hs.1 (by omega);have q1:0<=f*de:=zzeb hf.1 (by omega);rw[zzco (by omega),zzco q1]
 have e1:(s*nu+de-1)/de<=f<->s*nu<=f*de:=by
  rw[<- Int.lt_add_one_iff,Int.ediv_lt_iff_lt_mul (by omega)];have:(f+1)*de=f*de+de:=by rw[Int.add_mul];omega
  omega
 rw[e1,Int.le_ediv_iff_mul_le (by omega)]
def MA{p:Pl}{U:List Sp}(hv:Vf p.nu p.de=true)(hU:∀w∈U,(0<=w.1-p.ep/\w.1-p.ep<=10000000000)/\(0<=w.2-p.ep/\w.2-p.ep<=10000000000)){f:Int}(hf:0<=f/\f<=100000000):
  Xt (U.map (uE p)) f<->Xt U (p.ep+Yn p.nu p.de f):=by
 unfold Xt;simp only[zzax];constructor
 ·rintro⟨_,⟨w,hw,rfl⟩,h1,h2⟩;obtain⟨u1,u2⟩:=hU w hw;have a1:=D0 hv u1 hf;have a2:=D0 hv u2 hf;simp only[uE]at h1 h2;exact⟨w,hw,by omega,by omega⟩
 rintro⟨w,hw,h1,h2⟩;obtain⟨u1,u2⟩:=hU w hw;have a1:=D0 hv u1 hf;have a2:=D0 hv u2 hf;exact⟨_,⟨w,hw,rfl⟩,by simp only[uE];omega,by simp only[uE];omega⟩
def aby{cs:List Cl}{ra:Int}:∀w∈uD cs ra,zF w.1=true/\zF w.2=true:=by
 intro w hw;simp only[uD,zzax,zzck,Ij,zzak,decide_eq_true_eq,Xk]at hw;obtain⟨c,⟨_,h1,_,_,h2⟩,rfl⟩:=hw;rw[Ui]at h2;simp only[h1]at h2;simp[Vw,wi]at h2;simp only[zF,decide_eq_true_eq];omega
def ahb(s:Sp):0<=(Rb s).1/\(Rb s).2<=100000001/\∀x,((Rb s).1<=x/\x<(Rb s).2)<->(s.1<=x/\x<s.2/\0<=x/\x<=100000000):=by
 simp only[Rb];refine⟨by omega,by omega,fun x=>?_⟩;omega
def lu(p:Pl)(id region:Int)(s:Sp)(hs:s.2-s.1<=1000000)(x:Int):Xt (Vo p id region s) x<->s.1<=x/\x<s.2/\gV p id region x:=by
 obtain⟨c0,c1,cx⟩:=ahb s;have cl:(Rb s).2-(Rb s).1<=1000000:=by simp only[Rb];omega
 unfold Vo gV;generalize Rb s=c at*
 cases hf:Xh id p.aL with
 |none=>simp
 |some it=>
  simp only[Option.some.injEq,exists_eq_left'];split
  ·rename_i hb;simp only[Yp,false_iff];rintro⟨h1,h2,h3,h4,_⟩;have:=(cx x).2 ⟨h1,h2,h4⟩;omega
  rename_i hb;simp only[not_or]at hb;split
  ·rename_i hk;simp only[Xc,Yp,or_false,Pt,hk,true_or,and_true];rw[cx x];constructor
   ·rintro⟨h1,h2,h3,h4⟩;exact⟨h1,h2,by omega,h3,h4⟩
   rintro⟨h1,h2,h3,h4⟩;exact⟨h1,h2,h4⟩
  rename_i hk;split
  ·rename_i ht;simp[Pt,hk,ht]
  rename_i ht;have YO:Kg p=true:=by simpa using ht
  have hte:Vf p.nu p.de=true/\Yd p.of p.sh=true/\0<=p.ep/\p.ep<=9000000000:=by
   simp only[Kg,zzak,decide_eq_true_eq]at YO;exact⟨YO.1.1,YO.1.2,YO.2⟩
  obtain⟨hv,hz,he⟩:=hte;rw[(kZ _ _).2];obtain⟨u,hu⟩:∃u,uS p c=u:=⟨_,rfl⟩;have hu1:u.1=p.ep+Yn p.nu p.de c.1:=by rw[<- hu];rfl
  have JZ:u.2=p.ep+Yn p.nu p.de (c.2-1)+1:=by rw[<- hu];rfl
  rw[hu];have hd:=k6 (f:=c.1) (g:=c.2-1) hv (by omega) (by omega) (by omega);have hs1:=pF p.nu p.de c.1;have KB:=pF p.nu p.de (c.2-1)
  have NQ:0<=Yn p.nu p.de c.1:=by
   rw[Yn,if_pos ⟨hv,by omega,by omega⟩];exact Int.tdiv_nonneg (zzeb (by omega) (by have:=Jt hv;omega)) (by have:=Jt hv;omega)
  have dz:iC p it region u (lW p it region u).length=(lW p it region u).foldl zH [u]:=by simp[iC]
  have bI:Tq u.1 u.2 (iC p it region u (lW p it region u).length):=by
   rw[dz];exact C5 _ _ (by intro w hw;simp at hw;subst hw;omega)
  by_cases hx:c.1<=x/\x<c.2
  ·have kL:=(cx x).1 hx;have m1:=k6 (f:=c.1) (g:=x) hv (by omega) (by omega) (by omega);have m2:=k6 (f:=x) (g:=c.2-1) hv (by omega) (by omega) (by omega);rw[MA hv (fun w hw=>by have:=bI w hw;omega) ⟨by omega,by omega⟩,dz,Ii];simp only[Xc,Yp,or_false,Pt,hk,false_or,YO,true_and]
   have hl:(∀l∈lW p it region u,Xt l (p.ep+Yn p.nu p.de x))<->(grX (We p.cls it.id region) (p.ep+Yn p.nu p.de x)=true/\∀w∈uD p.cls it.ra,Pr p.of p.sh (p.ep+Yn p.nu p.de x) w.1 w.2):=by
    unfold lW;simp only[zzat,forall_eq_or_imp,zzax,forall_exists_index,and_imp,forall_apply_eq_imp_iff₂];rw[Mz];refine and_congr Iff.rfl (forall_congr' fun w=>forall_congr' fun hw=>?_);obtain⟨d1,d2⟩:=aby w hw;rw[abx (by simp only[xh,hz,d1,d2,zzgm,zzdo,decide_eq_true_eq];omega)];constructor
    ·rintro⟨_,_,h⟩;exact h
    intro h;exact⟨by omega,by omega,h⟩
   rw[hl];constructor
   ·rintro⟨⟨_,h⟩,_⟩;exact⟨kL.1,kL.2.1,by omega,kL.2.2,h⟩
   rintro⟨_,_,_,_,h⟩;exact⟨⟨by omega,h⟩,hx⟩
  simp only[Xc,Yp,or_false];constructor
  ·rintro⟨_,h⟩;exact absurd h hx
  rintro⟨h1,h2,_,h4,_⟩;exact absurd ((cx x).2 ⟨h1,h2,h4⟩) hx
def nY(p:Pl)(id region f n:Int):Xo p id region f n=true<->(1<=n/\n<=1000000/\0<=f/\f+n-1<=100000000)/\∀x,f<=x->x<f+n->gV p id region x:=by
 unfold Xo;split
 ·rename_i hb;simp only[zzbq,false_iff];rintro⟨⟨h1,h2,h3,h4⟩,_⟩;obtain h|h|h|h:=hb
  ·omega
  ·omega
  ·simp[YQ]at h;omega
  simp[YQ]at h;omega
 rename_i hb;simp only[not_or,zzgp,YQ,decide_eq_true_eq]at hb;obtain⟨b1,b2,b3,b4⟩:=hb;rw[List.isEmpty_iff,MB (by simp only;omega)];constructor
 ·intro h;refine⟨by omega,fun x h1 h2=>?_⟩;exact((lu p id region (f,f+n) (by simp only;omega) x).1 (h x h1 h2)).2.2
 rintro⟨_,h⟩ x h1 h2;exact(lu p id region (f,f+n) (by simp only;omega) x).2 ⟨h1,h2,h x h1 h2⟩
def Mq{p:Pl}{id region f n g m:Int}(h:Xo p id region f n=true)(h1:f<=g)(h2:g+m<=f+n)(h3:1<=m):Xo p id region g m=true:=by
 rw[nY]at*
 obtain⟨⟨a1,a2,a3,a4⟩,a5⟩:=h;exact⟨by omega,fun x h1 h2=>a5 x (by omega) (by omega)⟩
end Go.Proofs.YtnopaopphmjnmaaGreatDoor
