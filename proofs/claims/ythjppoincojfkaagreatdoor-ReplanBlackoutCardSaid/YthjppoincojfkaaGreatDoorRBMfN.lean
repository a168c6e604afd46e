import Derived.Test.YthjppoincojfkaaGreatDoorRBMcR
set_option linter.all false
namespace Go.Proofs.YthjppoincojfkaaGreatDoor
open Go Go.Abs
def fU(lo up:Int):List bF->Prop
 |[]=>lo<=up
 |e::r=>lo<=e.st/\1<=e.fr/\fU (e.st+e.fr) up r
def fU.le{up:Int}:∀{L:List bF}{lo:Int},fU lo up L->lo<=up/\(L.length:Int)<=up-lo
 |[],lo,h=>⟨h,by simp only[fU]at h;simp only[zzcn];omega⟩
 |e::r,lo,h=>by
  obtain⟨h1,h2,h3⟩:=h;have:=fU.le h3;simp only[zzbg];omega
def fU.mem{up:Int}:∀{L:List bF}{lo:Int},fU lo up L->∀e∈L,lo<=e.st/\1<=e.fr/\e.st+e.fr<=up
 |x::r,lo,h,e,he=>by
  obtain⟨h1,h2,h3⟩:=h;rcases zzaq.1 he with rfl|he
  ·exact⟨h1,h2,h3.le.1⟩
  have:=fU.mem h3 e he;omega
def fU.low{up lo lo':Int}{L:List bF}(h:fU lo up L)(hl:lo'<=lo):fU lo' up L:=by
 cases L with
 |nil=>simp only[fU]at h |-;omega
 |cons e r=>exact⟨by have:=h.1;omega,h.2⟩
def fU.app{m up:Int}{B:List bF}(hB:fU m up B):∀{A:List bF}{lo:Int},fU lo m A->fU lo up (A++B)
 |[],lo,h=>hB.low h
 |e::r,lo,h=>⟨h.1,h.2.1,fU.app hB h.2.2⟩
def fU.nl{up:Int}:∀{L:List bF}{lo:Int},fU lo up L->fU lo up (L.map Z5)
 |[],lo,h=>h
 |e::r,lo,h=>⟨h.1,h.2.1,fU.nl h.2.2⟩
def fU.amH{up f:Int}:∀{L:List bF}{lo:Int},fU lo up L->f<=lo->Yh f L=[]
 |[],lo,h,hf=>rfl
 |e::r,lo,h,hf=>by
  obtain⟨h1,h2,h3⟩:=h;rw[Yh,if_pos zE];exact fU.amH h3 zE
def fU.bef{up f:Int}:∀{L:List bF}{lo:Int},fU lo up L->lo<=f->fU lo f (Yh f L)
 |[],lo,h,hf=>hf
 |e::r,lo,h,hf=>by
  have hh:=h;obtain⟨h1,h2,h3⟩:=h;rw[Yh];by_cases hs:f<=e.st
  ·rw[if_pos hs,fU.amH h3 zE];exact hf
  rw[if_neg hs];by_cases hl:f-e.st<e.fr
  ·rw[fU.amH h3 zE];simp only[fU,GX,if_pos hl];omega
  refine⟨h1,?_,?_⟩
  ·simp only[GX,if_neg hl];exact h2
  have:=fU.bef h3 (f:=f) zE;simp only[GX,if_neg hl];exact this
def ai1(p:Pl)(fr t:Int):∀(n:Nat)(a:Int),(t-a).toNat<=n->a<=t->fU a t ((Vq fr t a).map (Zy p)):=by
 intro n;induction n with
 |zero=>intro a h ha;rw[Vq,if_neg zE];exact ha
 |succ n ih=>
  intro a h ha;rw[Vq];split
  ·have hN:1<=Ub fr t a/\Ub fr t a<=t-a:=by unfold Ub;split<;>omega
   have:=ih (a+Ub fr t a) zE zE;exact⟨zzbu _,hN.1,this⟩
  exact ha
def yD{p:Pl}{s:Sp}{a:Int}{e:En}(h:jJ p s a=some e):Za s.1 p.ens=some e/\1<=e.fr/\a<=s.2/\s.2+e.fr<=p.ln:=by
 unfold jJ at h;cases hf:Za s.1 p.ens with
 |none=>rw[hf]at h;cases h
 |some x=>
  rw[hf]at h;simp only at h;split at h
  ·cases h
  cases h;exact⟨rfl,zE,zE,zE⟩
def Z8(p:Pl):∀(l:List Sp)(a:Int),a<=p.ln->fU a p.ln (Kv p l a)
 |[],a,ha=>by rw[Kv];exact ai1 p _ _ _ a (zzab _) ha
 |s::r,a,ha=>by
  rw[Kv];cases hs:jJ p s a with
  |none=>exact Z8 p r a ha
  |some e=>
   obtain⟨h1,h2,h3,h4⟩:=yD hs;simp only[zzbe];refine fU.app ?_ (ai1 p _ _ _ a (zzab _) h3);exact⟨zzbu _,h2,Z8 p r _ h4⟩
def Ow(p:Pl)(l:List Sp)(a:Int)(h0:0<=a)(h1:a<=p.ln):fU a p.ln (y7 p l a):=by
 unfold y7;rw[if_neg zE];exact Z8 p l a h1
def Ox(l:List Sp):Prop:=l.length<=1000/\l.Pairwise (fun a b=>a.1<b.1)/\∀a∈l,1<=a.1
def Ox.nil:Ox []:=⟨zd,List.Pairwise.nil,fun a ha=>by cases ha⟩
def Ox.filter{l:List Sp}(h:Ox l)(P:Sp->Bool):Ox (l.filter P):=
 ⟨zzbb (zzcb _ _) h.1,h.2.1.filter _,fun a ha=>h.2.2 a (zzbz.1 ha).1⟩
def EvP(e:bF):Prop:=0<=e.i/\e.i<=e.st/\Ox e.al
def Hj(fr t:Int):∀(n:Nat)(a:Int),(t-a).toNat<=n->∀x∈Vq fr t a,a<=x.1:=by
 intro n;induction n with
 |zero=>intro a h x hx;rw[Vq,if_neg zE]at hx;cases hx
 |succ n ih=>
  intro a h x hx;rw[Vq]at hx;split at hx
  ·have hN:1<=Ub fr t a:=by unfold Ub;split<;>omega
   rcases zzaq.1 hx with rfl|hx
   ·exact zzbu _
   have:=ih (a+Ub fr t a) zE x hx;omega
  cases hx
def amI(p:Pl)(hp:∀e∈p.ens,Ox e.al):∀(l:List Sp)(a:Int),0<=a->∀e∈Kv p l a,EvP e
 |[],a,ha,e,h=>by
  rw[Kv,zzb]at h;obtain⟨x,hx,rfl⟩:=h;have:=Hj _ _ _ a (zzab _) x hx;exact⟨zzbu _,by simp only[Zy];omega,Ox.nil⟩
 |s::r,a,ha,e,h=>by
  rw[Kv]at h;cases hs:jJ p s a with
  |none=>rw[hs]at h;exact amI p hp r a ha e h
  |some x=>
   obtain⟨h1,h2,h3,h4⟩:=yD hs;rw[hs]at h;simp only[zzbe,zzam,zzb,zzcf]at h;obtain⟨y,hy,rfl⟩|rfl|h:=h
   ·have:=Hj _ _ _ a (zzab _) y hy;exact⟨zzbu _,by simp only[Zy];omega,Ox.nil⟩
   ·have:=hp x (jK h1).1;exact⟨zzbu _,by simp only[zP];omega,this.filter _⟩
   exact amI p hp r _ zE e h
def ai2(p:Pl)(hp:∀e∈p.ens,Ox e.al)(l:List Sp)(a:Int)(h0:0<=a):∀e∈y7 p l a,EvP e:=by
 unfold y7;split
 ·intro e he;cases he
 exact amI p hp l a h0
def amJ(f:Int):∀{L:List bF},(∀e∈L,EvP e)->∀e∈Yh f L,EvP e
 |[],h,e,he=>by cases he
 |x::r,h,e,he=>by
  rw[Yh]at he;split at he
  ·exact amJ f (fun y hy=>h y (by simp[hy])) e he
  rcases zzaq.1 he with rfl|he
  ·exact h x zd
  exact amJ f (fun y hy=>h y (by simp[hy])) e he
def Oy{lo up:Int}:∀{ks:Pi},ks.Pairwise (·<·)->(∀k∈ks,lo<=k/\k<=up)->(ks.length:Int)<=max 0 (up-lo+1)
 |[],_,_=>by simp only[zzcn];omega
 |k::r,h,hb=>by
  obtain⟨h1,h2⟩:=zzcc.1 h;have hk:=hb k zd;have:=Oy (lo:=k+1) (up:=up) h2 (fun x hx=>⟨by have:=h1 x hx;omega,(hb x (by simp[hx])).2⟩);simp only[zzbg];omega
def yE{p:Pl}(h:iG p=true):∀e∈p.ens,1<=e.id/\1<=e.fr/\0<=e.ea/\e.ea<=e.la/\e.la<=p.ln-e.fr/\Ox e.al:=by
 intro e he;have hv:=rA h;obtain⟨h1,h2,h3⟩:=hv.ens e he;have KQ:=hv.rg;unfold QN at h2;cases hf:Xg e.it p.aM with
 |none=>rw[hf]at h2;cases h2
 |some y=>
  rw[hf]at h2;simp only at h2;split at h2
  ·cases h2
  split at h2
  ·cases h2
  rename_i q2;split at h2
  ·cases h2
  have q2:wi e.fr 1 y.fr=true:=by simpa using q2
  simp only[wi,decide_eq_true_eq]at q2;simp only[zzac,decide_eq_true_eq]at h2;simp only[gQ,zzac]at h3;obtain⟨p1,p2⟩:=Y7 h3.1;have:=Oy p1 p2;rw[zzbt]at this;exact⟨h1,q2.1,h2.1,h2.2.1,h2.2.2,zE,List.pairwise_map.1 p1,fun a ha=>(p2 a.1 (zzb.2 ⟨a,ha,rfl⟩)).1⟩
structure dx (k:Nat) (g:Pg):Prop where
 v:iG g.p=true
 ln:g.p.ln<=1500
 sh:g.p.sh.length<=10
 aM:g.p.aM.length<=20
 ens:g.p.ens.length<=12+k
 bks:g.p.bks.length<=10
 cls:g.p.cls.length<=20+k
 ch:fU 0 g.p.ln g.ev
 ep:∀e∈g.ev,EvP e
 cu:g.cu.length<=200
 dr:g.dr.length<=1000*k
 ve:g.ve=k
def dx.j6{k:Nat}{g:Pg}(h:dx k g):dx k (j6 g):=
 ⟨h.v,h.ln,h.sh,h.aM,h.ens,h.bks,h.cls,h.ch.nl,fun e he=>by
  obtain⟨x,hx,rfl⟩:=zzb.1 he;exact h.ep x hx,h.cu,h.dr,h.ve⟩
def dx.plc{k:Nat}{g:Pg}(h:dx k g)(hk:k<=900):Bj g.p:=
 ⟨by have:=h.sh;omega,by have:=h.aM;omega,by have:=h.ens;omega,by have:=h.bks;omega,by have:=h.cls;omega,fun e he=>by have:=(yE h.v e he).2.2.2.2.2.1;omega⟩
def dx.small{k:Nat}{g:Pg}(h:dx k g):g.ev.length<=1500/\∀e∈g.ev,Kt e:=by
 have h1:=h.ch.le;have h2:=h.ln;refine⟨zE,fun e he=>?_⟩;obtain⟨q1,q2,q3⟩:=h.ch.mem e he;obtain⟨q4,q5,q6,_⟩:=h.ep e he;exact⟨⟨zE,zE⟩,⟨zE,zE⟩,⟨zE,zE⟩,zE⟩
def dx.mo{k:Nat}{g:Pg}{f:Int}(h:dx k g)(hk:k<=900)(hf:0<=f/\f<g.p.ln):lQ g f:=
 ⟨by have:=h.small.1;omega,h.small.2,by have:=h.ln;unfold nR;omega,by have:=h.ens;omega⟩
def dx.pgc{k:Nat}{g:Pg}(h:dx k g)(hk:k<=900):PgC g:=
 ⟨h.plc hk,by have:=h.small.1;omega,by have:=h.cu;omega,by have:=h.dr;omega,fun e he=>by have:=(h.ep e he).2.2.1;omega⟩
structure RI (p:Pl):Prop where
 ln:p.ln<=1500
 sh:p.sh.length<=10
 aM:p.aM.length<=20
 ens:p.ens.length<=12
 bks:p.bks.length<=10
 cls:p.cls.length<=20
def amK(p:Pl):RI (Rh p):=
 ⟨by simp only[Rh];split<;>omega,by simp[Rh];omega,by simp[Rh];omega,by simp[Rh];omega,by simp[Rh];omega,by simp[Rh];omega⟩
def Z9{p:Pl}(h:iB p=0):iG p=true/\∃l,IC p=some l:=by
 unfold iB at h;split at h
 ·cases h
 rename_i hv;cases hl:IC p with
 |none=>rw[hl]at h;cases h
 |some l=>exact⟨Nm hv,l,rfl⟩
def DK{p:Pl}(hp:RI p)(h:iB p=0):dx 0 (uV p):=by
 obtain⟨hv,l,hl⟩:=Z9 h;have hg:uV p=⟨p,y7 p l 0,[],0,[],0⟩:=by unfold uV;rw[hl]
 have dG:=(rA hv).ln;rw[hg];exact⟨hv,hp.ln,hp.sh,hp.aM,hp.ens,hp.bks,hp.cls,Ow p l 0 zE zE,ai2 p (fun e he=>(yE hv e he).2.2.2.2.2) l 0 zE,zd,zd,rfl⟩
def DL{p:Pl}:∀{ids:Pi}{us en:List (Int×Int)}{free last:Int}{l:List Sp},Ur p ids us en free last=some l->l.length<=ids.length/\∀s∈l,0<=s.2/\s.2<=100000000
 |[],_,_,_,_,l,h=>by cases h;exact⟨zzab _,fun s hs=>by cases hs⟩
 |id::r,us,en,free,last,l,h=>by
  rw[Ur]at h;cases h1:y9 id p.ens 0 with
  |none=>rw[h1]at h;cases h
  |some k=>
   rw[h1]at h;simp only at h;split at h
   ·cases h
   cases h2:p.ens[k]? with
   |none=>rw[h2]at h;cases h
   |some e=>
    rw[h2]at h;simp only at h;split at h
    ·cases h
    cases h3:Vr p e (Ua en (Kk p e.it) (max e.ea free))with
    |none=>rw[h3]at h;cases h
    |some s=>
     rw[h3]at h;simp only at h;cases h4:Ur p r (Vv us e.it) (Zm p en e.it (s+e.fr)) (s+e.fr) k with
     |none=>rw[h4]at h;cases h
     |some t=>
      rw[h4]at h;cases h;obtain⟨q1,q2⟩:=DL h4;obtain⟨_,_,q3,_,_,q4,_⟩:=Jy h3;refine⟨by simp only[zzbg];omega,fun x hx=>?_⟩;rcases zzaq.1 hx with rfl|hx
      ·exact⟨q3,q4⟩
      exact q2 x hx
def ai3{p:Pl}(hp:RI p)(fP:∀e∈p.ens,e.al.length<=8796093022208)(Sv:∀e∈p.ens,e.ea<=9223372036854775807):atv p:=by
 refine⟨⟨by have:=hp.sh;omega,by have:=hp.aM;omega,by have:=hp.ens;omega,by have:=hp.bks;omega,by have:=hp.cls;omega,fP⟩,by have:=hp.ln;omega,Sv,fun l hl=>?_⟩;unfold IC at hl;split at hl
 ·cases hl
 obtain⟨h1,h2⟩:=DL hl;have h3:(Ue p).length=p.ens.length:=by simp[Ue]
 have:=hp.ens;refine⟨zE,fun s hs=>?_⟩;have:=h2 s hs;omega
def afr{o:Od}(h:Sw o=true):o.n=0/\o.nw.al=[]:=by
 simp only[Sw,decide_eq_true_eq]at h;exact⟨h.2.1,h.2.2.2.2.2.2.2.2.2.2⟩
def p8{o:Od}(h:Vj o=true):(0<=o.fr/\o.fr<=100000000)/\(-100000000<=o.n/\o.n<=100000000)/\(0<=o.sq/\o.sq<=200)/\(1<=o.ki/\o.ki<=5):=by
 unfold Vj at h;split at h
 ·cases h
 split at h
 ·cases h
 split at h
 ·cases h
 split at h
 ·cases h
 rename_i h1 h2 h3 h4;rw[zzac]at h;refine⟨zE,?_,zE,zE⟩;by_cases hk:o.ki=1
 ·omega
 have hb:=(afr h.2).1
 have hn:(Jb o).n=o.n:=by
  unfold Jb;rw[if_neg hk];repeat' split
  all_goals rfl
 omega
def j7{g:Pg}{f:Int}{b:QR}{o:Od}{q:Pl}{d:Int}(h:Uz g f b o=some (q,d)):f<g.p.ln/\Kh g f b o=some (q,d)/\iG q=true/\yy g f b o q d=true:=by
 unfold Uz at h;split at h
 ·cases h
 rename_i hl;cases hb:Kh g f b o with
 |none=>rw[hb]at h;cases h
 |some x=>
  obtain⟨q',d'⟩:=x;rw[hb]at h;simp only at h;split at h
  ·rename_i hc;cases h;rw[zzac]at hc;exact⟨zE,rfl,hc.1,hc.2⟩
  cases h
def j8{g:Pg}{f:Int}{b:QR}{o:Od}{q:Pl}{d:Int}(h:Kh g f b o=some (q,d)):
  q.ln=g.p.ln/\q.sh=g.p.sh/\q.aM=g.p.aM/\q.bks=g.p.bks/\q.ens.length<=g.p.ens.length+1/\q.cls.length<=g.p.cls.length+1/\q.ch=g.p.ch:=by
 unfold Kh at h;split at h
 ·unfold rE at h;split at h
  ·cases h
  split at h
  ·cases h
  cases h;exact⟨rfl,rfl,rfl,rfl,zd,zd,rfl⟩
 split at h
 ·unfold yg at h;split at h
  ·cases h
  cases h;exact⟨rfl,rfl,rfl,rfl,by have:=zzcb (fun e=>!mF o.en e) g.p.ens;simp only;omega,zd,rfl⟩
 split at h
 ·cases h;refine⟨rfl,rfl,rfl,rfl,?_,by simp[nX],rfl⟩;simp only[nX,zzak,zzap,zzbg,zzcv];omega
 cases h;exact⟨rfl,rfl,rfl,rfl,by simp[Bq],by simp[Bq],rfl⟩
def afs{n:Int}(h: -9223372036854775808<=n/\n<=9223372036854775807):Yd n=n:=by unfold Yd;omega
def ai4{g:Pg}{f:Int}{b:QR}{o:Od}{q:Pl}{d:Int}(hk:o.ki=1)(h:Kh g f b o=some (q,d))(hv:iG q=true)(hm:yy g f b o q d=true)(dG:g.p.ln<=1500):
  (1<=d/\d<=1500)/\∀st,Bn g f b o.en=some st->Yd (f-st)<=d/\st+d<=q.ln:=by
 have hq:=(j8 h).1;unfold Kh at h;rw[if_pos hk]at h;unfold yy at hm;rw[if_pos hk]at hm;unfold rE at h;cases he:g.p.ens[(Jd g o.en).toNat]? with
 |none=>rw[he]at h;cases h
 |some e=>
  rw[he]at h;simp only at h;split at h
  ·cases h
  simp only[Option.some.injEq,Prod.mk.injEq]at h;obtain⟨h1,h2⟩:=h;have ai:=(zza.1 he).1
  have dA:Q8 g f b o e∈q.ens:=by
   rw[<- h1];exact zzad (zzbf ai)
  obtain⟨_,p1,p2,p3,p4,_⟩:=yE hv _ dA;have wC:(Q8 g f b o e).fr=d:=h2;rw[wC]at p1 p4;refine⟨zE,fun st bY=>?_⟩;unfold Qcf at hm;split at hm
  ·cases hm
  split at hm
  ·cases hm
  split at hm
  ·cases hm
  split at hm
  ·cases hm
  split at hm
  ·cases hm
  rw[bY]at hm;simp only at hm;split at hm
  ·cases hm
  refine⟨?_,zE⟩;rw[<- h2];unfold ue;rw[bY];simp only;split<;>omega
def LJ{k:Nat}{g:Pg}{f:Int}{b:QR}{o:Od}{q:Pl}{d:Int}(h:dx k g)(hk:k<=900)(hf:0<=f)(hc:Uz g f b o=some (q,d)){e:bF}(he:Bu g f b o q d=some e):
  e.st=f/\1<=e.fr/\f+e.fr<=q.ln/\EvP e:=by
 obtain⟨c1,c2,c3,c4⟩:=j7 hc;have hq:=(j8 c2).1;have dG:=h.ln;unfold Bu at he;cases hp:Ji g f b with
 |none=>rw[hp]at he;cases he
 |some x=>
  rw[hp]at he;simp only at he;cases hF:DA g f o q d x with
  |none=>rw[hF]at he;cases he
  |some F=>
   rw[hF]at he;simp only at he;split at he
   ·cases he
   rename_i qm;cases he
   have hxm:x∈g.ev/\xS f x=true/\x.id≠0:=by
    unfold Ji at hp;cases hfd:g.ev.find? (xS f)with
    |none=>rw[hfd]at hp;cases hp
    |some y=>
     rw[hfd]at hp;simp only at hp;split at hp
     ·cases hp
     split at hp
     ·cases hp;rename_i h1 h2;exact⟨zzec hfd,zzgx hfd,h1⟩
     cases hp
   obtain⟨x1,x2,x3⟩:=hxm;simp only[xS,decide_eq_true_eq]at x2;obtain⟨y1,y2,y3⟩:=h.ch.mem x x1;obtain⟨z1,z2,z3⟩:=h.ep x x1
   have fP:Ox (jV q f x.id F ((Za x.id q.ens).getD yj).al):=by
    refine Ox.filter ?_ _;cases hn:Za x.id q.ens with
    |none=>exact Ox.nil
    |some en=>exact(yE c3 en (jK hn).1).2.2.2.2.2
   have hFF:1<=F/\f+F<=q.ln:=by
    unfold DA at hF;split at hF
    ·rename_i eM;cases hF;obtain⟨d1,d2⟩:=ai4 eM.1 c2 c3 c4 dG
     have bP:Bn g f b o.en=some (rC g x.id):=by
      unfold Bn;rw[hp];simp only;rw[if_pos eM.2.symm]
     obtain⟨e1,e2⟩:=d2 _ bP;have hb:=Dv (h.mo hk ⟨hf,c1⟩) x.id;rw[afs zE]at e1;omega
    split at hF
    ·cases hF
    split at hF
    ·cases hF
    cases hF;simp only[sX];omega
   exact⟨rfl,hFF.1,hFF.2,by simp only;omega,by simp only;omega,fP⟩
def LK{k:Nat}{g:Pg}{f:Int}{b:QR}{o:Od}{q:Pl}{d:Int}(h:dx k g)(hk:k<=900)(hf:0<=f)(hc:Uz g f b o=some (q,d)):
  f<=Jk g f b o q d/\Jk g f b o q d<=q.ln/\fU 0 (Jk g f b o q d) (Uq g f b o q d)/\∀e∈Uq g f b o q d,EvP e:=by
 obtain⟨c1,c2,c3,c4⟩:=j7 hc;have hq:=(j8 c2).1;have hb:=(h.ch.bef (f:=f) hf).nl;have hbp:=amJ f h.ep;unfold Jk Uq;cases cB:Bu g f b o q d with
 |none=>
  simp only[Option.toList_none,zzat];refine⟨zzbu _,zE,hb,fun e he=>?_⟩;obtain⟨x,hx,rfl⟩:=zzb.1 he;exact hbp x hx
 |some e=>
  obtain⟨e1,e2,e3,e4⟩:=LJ h hk hf hc cB;simp only[Option.toList_some];refine⟨zE,zE,fU.app ?_ hb,fun x hx=>?_⟩
  ·exact⟨zE,e2,by simp only[fU];omega⟩
  rcases zzam.1 hx with hx|hx
  ·obtain⟨y,hy,rfl⟩:=zzb.1 hx;exact hbp y hy
  rw[zzcf]at hx;rw[hx];exact e4
def atw{k:Nat}{g:Pg}{f:Int}{b:QR}{o:Od}{q:Pl}{d:Int}(h:dx k g)(hk:k<=900)(hf:0<=f)(eM:1<=o.ki/\o.ki<=5)(hc:Uz g f b o=some (q,d)):
  G9 g f b o q d/\(Vk g f b o q d).length<=1000000/\(IB g f b o q d).length<=10000000:=by
 obtain⟨c1,c2,c3,c4⟩:=j7 hc;obtain⟨q1,q2,q3,q4,q5,q6,q7⟩:=j8 c2;obtain⟨n1,n2,n3,n4⟩:=LK h hk hf hc;have dG:=h.ln;have XI:=rA c3;have Io:=yE c3
 have bY:(Vk g f b o q d).length<=1000/\∀s∈Vk g f b o q d,0<=s.2/\s.2<=100000000:=by
  unfold Vk;cases hs:Yb q (Jk g f b o q d) (mM g f b o q d) (Xe true (Jj g b q.ens) (j4 g f b o q d))with
  |none=>exact⟨zd,fun s hs=>by cases hs⟩
  |some l=>
   obtain⟨s1,s2⟩:=DL hs;have t1:=p7 true (Jj g b q.ens) (j4 g f b o q d);have t2:=jZ g b q.ens;have t3:=h.ens;exact⟨by simp only[Option.getD_some];omega,s2⟩
 have ek:=Ow q (Vk g f b o q d) (Jk g f b o q d) zE n2
 have hd:0<=d/\d<=1000000000:=by
  by_cases h1:o.ki=1
  ·have:=(ai4 h1 c2 c3 c4 dG).1;omega
  unfold Kh at c2;rw[if_neg h1]at c2;split at c2
  ·cases fk:yg g o with
   |none=>rw[fk]at c2;cases c2
   |some x=>rw[fk]at c2;cases c2;omega
  split at c2<;>cases c2<;>omega
 have hpc:Bj q:=⟨by rw[q2];have:=h.sh;omega,by rw[q3];have:=h.aM;omega,by have:=h.ens;omega,by rw[q4];have:=h.bks;omega,by have:=h.cls;omega,fun e he=>by have:=(Io e he).2.2.2.2.2.1;omega⟩;refine⟨⟨h.mo hk ⟨hf,c1⟩,hpc,?_,hd,by have:=XI.rg;omega,zE,by have:=h.small.1;omega,by have:=h.dr;omega,zE,?_,zE,fun s hs=>by have:=bY.2 s hs;omega⟩,by have:=bY.1;omega,?_⟩
 ·exact⟨by have:=h.cls;omega,by rw[q2];have:=h.sh;omega,by rw[q3];have:=h.aM;omega,by have:=h.ens;omega,by rw[q4];have:=h.bks;omega,fun e he=>(Io e he).2.2.2.2.2.1,by have:=XI.ln;omega,
   fun e he=>by have:=Io e he;omega,fun e he=>by have:=Io e he;omega,fun e he=>by have:=Io e he;omega⟩
 ·intro e he;obtain⟨e1,e2,e3,e4,e5,e6,_⟩:=LJ h hk hf hc he;exact⟨⟨zE,zE⟩,⟨zE,zE⟩,⟨zE,zE⟩,zE⟩
 have:=ek.le.2;unfold IB;omega
def yF(o:Od):Prop:=o.nw.al.length<=1000
def yG{k:Nat}{g:Pg}{o:Od}(h:dx k g)(hk:k<=900)(ho:yF o):afn g o:=by
 unfold yF at ho;refine⟨h.pgc hk,zE,by have:=h.ve;omega,by have:=h.cu;omega,fun hc _=>?_,fun hc _ q d hx=>?_⟩
 ·have hv:Vj o=true:=by unfold Us at hc;rw[zzac]at hc;exact hc.1
  obtain⟨v1,v2,v3,v4⟩:=p8 hv;exact⟨fun hl=>h.mo hk ⟨v1.1,hl⟩,h.plc hk,v1.1,by have:=h.ln;omega,by unfold sW;omega,fun e he=>by have:=yE h.v e he;have:=h.ln;unfold sW;omega,by have:=h.dr;omega,zE⟩
 have hv:Vj o=true:=by unfold Us at hc;rw[zzac]at hc;exact hc.1
 obtain⟨v1,v2,v3,v4⟩:=p8 hv;exact atw h hk v1.1 v4 hx
def rN{k:Nat}{g:Pg}{o:Od}(h:dx k g)(hk:k<=900):dx (k+1) (Zu g o):=by
 have hup:dx (k+1) {g with ve:=g.ve+1}:=⟨h.v,h.ln,h.sh,h.aM,by have:=h.ens;simp only;omega,h.bks,by have:=h.cls;simp only;omega,h.ch,h.ep,h.cu,by have:=h.dr;simp only;omega,by have:=h.ve;simp only;omega⟩;unfold Zu;split
 ·exact hup
 rename_i hc;split
 ·cases he:He o.cu g.cu with
  |none=>exact hup
  |some x=>
   refine⟨h.v,h.ln,h.sh,h.aM,by have:=h.ens;simp only;omega,h.bks,by have:=h.cls;simp only;omega,h.ch,h.ep,?_,by have:=h.dr;simp only;omega,by have:=h.ve;simp only;omega⟩;unfold He at he;split at he
   ·split at he
    ·cases he
    cases he;simp only;omega
   cases he
 cases hx:Uz g o.fr (Xo o.fr g.ev []) o with
 |none=>exact hup
 |some r=>
  obtain⟨q,d⟩:=r
  have hv:Vj o=true:=by
   have hc:Us g o=true:=by simpa using hc
   unfold Us at hc;rw[zzac]at hc;exact hc.1
  obtain⟨v1,v2,v3,v4⟩:=p8 hv;obtain⟨c1,c2,c3,c4⟩:=j7 hx;obtain⟨q1,q2,q3,q4,q5,q6,q7⟩:=j8 c2;obtain⟨n1,n2,n3,n4⟩:=LK h hk v1.1 hx;have ek:=Ow q (Vk g o.fr (Xo o.fr g.ev []) o q d) _ zE n2;have hbp:=ai2 q (fun e he=>(yE c3 e he).2.2.2.2.2) (Vk g o.fr (Xo o.fr g.ev []) o q d) (Jk g o.fr (Xo o.fr g.ev []) o q d) zE;refine⟨c3,by show q.ln<=1500;have:=h.ln;omega,by show q.sh.length<=10;rw[q2];exact h.sh,by show q.aM.length<=20;rw[q3];exact h.aM,by show q.ens.length<=12+(k+1);have:=h.ens;omega,by show q.bks.length<=10;rw[q4];exact h.bks,by show q.cls.length<=20+(k+1);have:=h.cls;omega,fU.app ek n3,?_,h.cu,?_,by show g.ve+1=_;have:=h.ve;omega⟩
  ·intro e he;rcases zzam.1 he with he|he
   ·exact n4 e he
   exact hbp e he
  show(dd (Kj (g.dr++Wz g o.fr (Xo o.fr g.ev []) o q d))).length<=1000*(k+1);have t1:=J4 (Kj (g.dr++Wz g o.fr (Xo o.fr g.ev []) o q d));rw[rM,zzak]at t1;have t2:=p7 false (Jj g (Xo o.fr g.ev []) q.ens) (j4 g o.fr (Xo o.fr g.ev []) o q d);have t3:=jZ g (Xo o.fr g.ev []) q.ens;have t4:=h.ens;have t5:=h.dr;unfold Wz at t1;unfold Wz;omega
structure MdV (M:Md):Prop where
 n:∀l∈M.ps,l.length=M.os.length+1
 pr:∀l∈M.ps,∀i g,l[i]?=some g->dx i g
 fr:∀o∈M.os,0<=o.2/\o.2<=100000000
 los:M.os.length<=200
open Go Go.Abs
def Hl(b:Nat->Bool)(n:Nat)(hn:n<=8)(r:Int):amG (Ug b n) r=(decide (r.toNat<n)&&b r.toNat):=by
 have ai:=uP b n;have hp:(2:Nat) ^ n<=2 ^ 8:=zzfa zE hn
 have key:∀k:Nat,((nQ b n:Nat):Int).fdiv (2 ^ k)%2=((nQ b n/2 ^ k%2:Nat):Int):=fun k=>by
  rw[zzge _ (by have:=Int.pow_pos (n:=(2:Int)) (m:=k) zE;omega)]
  push_cast
  rfl
 unfold amG;rw[Dr,key,<- x8 b r.toNat n,zzdm];by_cases h:r.toNat<=64
 ·rw[zzfm h];refine decide_eq_decide.2 ?_;omega
 rw[zzgp zE];have z1:nQ b n/2 ^ 64=0:=zzex zE
 have z2:nQ b n/2 ^ r.toNat=0:=zzex (by
  have:(2:Nat) ^ 8<=2 ^ r.toNat:=zzfa zE zE;omega)
 rw[z1,z2];rfl
def RJ{q:Pl}{id r f n:Int}(h:Xk q id r f n=true):∃y,Xg id q.aM=some y:=by
 obtain⟨⟨h1,_⟩,h2⟩:=(Qbw q id r f n).1 h;obtain⟨y,hy,_⟩:=h2 f (zzbu _) zE;exact⟨y,hy⟩
def RK(q:Pl)(id r x:Int):Prop:=∃y,Xg id q.aM=some y/\(y.ki=5\/Xk q id r x 1=true)
def RK.of{q:Pl}{id r f n x:Int}(h:Xk q id r f n=true)(h1:f<=x)(h2:x<f+n):RK q id r x:=by
 obtain⟨y,hy⟩:=RJ h;exact⟨y,hy,.inr (LM h h1 zE zE)⟩
def EvG(q:Pl)(e:bF)(x:Int):Prop:=(∀r,0<=r->amG e.re r=true->RK q e.it r x)/\∀a∈e.al,RK q a.2 a.1 x
def ayF(g:Pg)(F:Int):Prop:=∀e∈g.ev,∀x,F<=x->e.st<=x->x<e.st+e.fr->EvG g.p e x
def yH(f:Int):∀(L:List bF),∀e∈Yh f L,e.st+e.fr<=f
 |[],e,he=>by cases he
 |a::r,e,he=>by
  rw[Yh]at he;split at he
  ·exact yH f r e he
  rcases zzaq.1 he with rfl|he
  ·simp only[GX];split<;>omega
  exact yH f r e he
def aaa{q:Pl}(hv:iG q=true)(a:Int×Int)(x:Int):EvG q (Zy q a) x:=by
 obtain⟨y,hy,hk,_⟩:=(rA hv).fill;exact⟨fun r _ _=>⟨y,hy,.inl hk⟩,fun a ha=>by cases ha⟩
def atx{q:Pl}(e:En)(fr x:Int)(h1:fr<=x)(h2:x<fr+e.fr):EvG q (zP q e fr) x:=by
 refine⟨fun r hr hb=>?_,fun a ha=>?_⟩
 ·simp only[zP,evM]at hb;rw[Hl _ _ zE]at hb;simp only[zzac]at hb;have hb:=hb.2;rw[zzfy hr]at hb;exact RK.of hb h1 h2
 have:=(zzbz.1 ha).2;simp only[nK,zzac]at this;exact RK.of this.2 h1 h2
def LN{q:Pl}(hv:iG q=true):∀(l:List Sp)(a:Int),∀e∈Kv q l a,∀x,e.st<=x->x<e.st+e.fr->EvG q e x
 |[],a,e,h,x,h1,h2=>by
  rw[Kv,zzb]at h;obtain⟨y,_,rfl⟩:=h;exact aaa hv y x
 |s::r,a,e,h,x,h1,h2=>by
  rw[Kv]at h;cases hs:jJ q s a with
  |none=>rw[hs]at h;exact LN hv r a e h x h1 h2
  |some y=>
   rw[hs]at h;simp only[zzbe,zzam,zzb,zzcf]at h;obtain⟨z,_,rfl⟩|rfl|h:=h
   ·exact aaa hv z x
   ·exact atx y s.2 x h1 h2
   exact LN hv r _ e h x h1 h2
def amL{q:Pl}(hv:iG q=true)(l:List Sp)(a:Int):∀e∈y7 q l a,∀x,e.st<=x->x<e.st+e.fr->EvG q e x:=by
 unfold y7;split
 ·intro e he;cases he
 exact LN hv l a
def aty{g:Pg}{f:Int}{b:QR}{o:Od}{q:Pl}{d:Int}{e:bF}(hv:iG q=true)(he:Bu g f b o q d=some e)(x:Int)(h1:e.st<=x)(h2:x<e.st+e.fr):EvG q e x:=by
 unfold Bu at he;split at he
 ·cases he
 split at he
 ·cases he
 split at he
 ·cases he
 cases he;refine⟨fun r hr hb=>?_,fun a ha=>?_⟩
 ·have KQ:=(rA hv).rg;simp only[pZ]at hb;rw[Hl _ _ zE]at hb;simp only[zzac]at hb;have hb:=hb.2;rw[zzfy hr]at hb;exact RK.of hb h1 h2
 have:=(zzbz.1 ha).2;exact RK.of this h1 h2
open Go Go.Abs
def zZ(id:Int):Cl:=⟨2,id,0,10000000000,255,0,0,0⟩
def amM:∀k:Nat,k<8->∀id:Int,aab (zZ id) (k:Int)=true:=by
 intro k hk id;show aab ⟨2,id,0,10000000000,255,0,0,0⟩ (k:Int)=true;rcases(by omega:k=0\/k=1\/k=2\/k=3\/k=4\/k=5\/k=6\/k=7)with rfl|rfl|rfl|rfl|rfl|rfl|rfl|rfl<;>rfl
def amN{id r:Int}(aL:1<=id/\id<=12)(hr:0<=r/\r<8):tQ id r (zZ id)=true:=by
 obtain⟨k,rfl⟩:∃k:Nat,r=k:=⟨r.toNat,zE⟩;have hb:=amM k zE id
 have h1:Xu (zZ id)=true:=by
  simp[Xu,Oz,Kb,Yv,wi,zZ];exact decide_eq_true (show 1<=(zZ id).it/\(zZ id).it<=4611686018427387903 by simp only[zZ];omega)
 have h2:wi (k:Int) 0 7=true:=by simp only[wi,decide_eq_true_eq];omega
 unfold tQ P9;rw[h1,h2,hb];simp[zZ]
def aft{id r:Int}{c:Cl}(h:tQ id r c=true):0<=c.fr/\c.to<=10000000000:=by
 simp only[tQ,zzac,decide_eq_true_eq,Xu]at h;obtain⟨h1,_,_,h2⟩:=h;unfold Kb at h2;rw[if_pos h1]at h2;simp only[zzac,decide_eq_true_eq]at h2;omega
def atz{cs:List Cl}{id r:Int}(aL:1<=id/\id<=12)(hr:0<=r/\r<8)(X:Int):grX (Jl (cs++[zZ id]) id r) X=false:=by
 have e:Jl (cs++[zZ id]) id r=Jl cs id r++[zZ id]:=by
  unfold Jl;rw[zzdb,zzdi (amN aL hr)];rfl
 unfold grX;rw[e,List.reverse_append,List.reverse_singleton,zze,zzen];cases hc:DM X (zZ id)with
 |true=>rfl
 |false=>
  have hn:(Jl cs id r).reverse.find? (DM X)=none:=by
   rw[List.find?_eq_none];intro c zm;obtain⟨c1,c2⟩:=aft (zzbz.1 (zzf.1 zm)).2;have tI:¬((0:Int)<=X/\X<10000000000):=of_decide_eq_false hc;simp only[DM,decide_eq_true_eq];omega
  rw[hn]
def amO{p:Pl}{cs:List Cl}{id r x:Int}(hq:p.cls=cs++[zZ id])(aL:1<=id/\id<=12)(hy:∀y,Xg id p.aM=some y->y.ki≠5):¬RK p id r x:=by
 rintro⟨y,h1,h2⟩;obtain h2|h2:=h2
 ·exact hy y h1 h2
 obtain⟨_,h3⟩:=(Qbw p id r x 1).1 h2;obtain⟨it,i1,i2,i3,i4⟩:=h3 x (zzbu _) zE;obtain i4|⟨_,i4,_⟩:=i4
 ·exact hy it i1 i4
 rw[(Qdd i1).2,hq,atz aL i2]at i4;cases i4
