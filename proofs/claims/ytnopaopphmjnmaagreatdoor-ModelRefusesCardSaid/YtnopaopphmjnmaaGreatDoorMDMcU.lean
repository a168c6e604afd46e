import Derived.Test.YtnopaopphmjnmaaGreatDoorMDMcO
set_option linter.all false
namespace Go.Proofs.YtnopaopphmjnmaaGreatDoor
open Go Go.Abs
def fZ(lo up:Int):List bD->Prop
 |[]=>lo<=up
 |e::r=>lo<=e.st/\1<=e.fr/\fZ (e.st+e.fr) up r
def fZ.le{up:Int}:∀{L:List bD}{lo:Int},fZ lo up L->lo<=up/\(L.length:Int)<=up-lo
 |[],lo,h=>⟨h,by simp only[fZ]at h;simp only[zzcf];omega⟩
 |e::r,lo,h=>by
  obtain⟨h1,h2,h3⟩:=h;have:=fZ.le h3;simp only[zzbd];omega
def fZ.mem{up:Int}:∀{L:List bD}{lo:Int},fZ lo up L->∀e∈L,lo<=e.st/\1<=e.fr/\e.st+e.fr<=up
 |x::r,lo,h,e,he=>by
  obtain⟨h1,h2,h3⟩:=h;rcases zzau.1 he with rfl|he
  ·exact⟨h1,h2,h3.le.1⟩
  have:=fZ.mem h3 e he;omega
def fZ.low{up lo lo':Int}{L:List bD}(h:fZ lo up L)(hl:lo'<=lo):fZ lo' up L:=by
 cases L with
 |nil=>simp only[fZ]at h |-;omega
 |cons e r=>exact⟨by have:=h.1;omega,h.2⟩
def fZ.app{m up:Int}{B:List bD}(hB:fZ m up B):∀{A:List bD}{lo:Int},fZ lo m A->fZ lo up (A++B)
 |[],lo,h=>hB.low h
 |e::r,lo,h=>⟨h.1,h.2.1,fZ.app hB h.2.2⟩
def fZ.nl{up:Int}:∀{L:List bD}{lo:Int},fZ lo up L->fZ lo up (L.map Sj)
 |[],lo,h=>h
 |e::r,lo,h=>⟨h.1,h.2.1,fZ.nl h.2.2⟩
def fZ.aok{up f:Int}:∀{L:List bD}{lo:Int},fZ lo up L->f<=lo->Ye f L=[]
 |[],lo,h,hf=>rfl
 |e::r,lo,h,hf=>by
  obtain⟨h1,h2,h3⟩:=h;rw[Ye,if_pos (by omega)];exact fZ.aok h3 (by omega)
def fZ.bef{up f:Int}:∀{L:List bD}{lo:Int},fZ lo up L->lo<=f->fZ lo f (Ye f L)
 |[],lo,h,hf=>hf
 |e::r,lo,h,hf=>by
  have hh:=h;obtain⟨h1,h2,h3⟩:=h;rw[Ye];by_cases hs:f<=e.st
  ·rw[if_pos hs,fZ.aok h3 (by omega)];exact hf
  rw[if_neg hs];by_cases hl:f-e.st<e.fr
  ·rw[fZ.aok h3 (by omega)];simp only[fZ,L7,if_pos hl];omega
  refine⟨h1,?_,?_⟩
  ·simp only[L7,if_neg hl];exact h2
  have:=fZ.bef h3 (f:=f) (by omega);simp only[L7,if_neg hl];exact this
def akR(p:Pl)(fr t:Int):∀(n:Nat)(a:Int),(t-a).toNat<=n->a<=t->fZ a t ((Vw fr t a).map (Vg p)):=by
 intro n;induction n with
 |zero=>intro a h ha;rw[Vw,if_neg (by omega)];exact ha
 |succ n ih=>
  intro a h ha;rw[Vw];split
  ·have hN:1<=Uq fr t a/\Uq fr t a<=t-a:=by unfold Uq;split<;>omega
   have:=ih (a+Uq fr t a) (by omega) (by omega);exact⟨zzbx _,hN.1,this⟩
  exact ha
def HE{p:Pl}{s:Sp}{a:Int}{e:En}(h:pe p s a=some e):Zf s.1 p.ens=some e/\1<=e.fr/\a<=s.2/\s.2+e.fr<=p.ln:=by
 unfold pe at h;cases hf:Zf s.1 p.ens with
 |none=>rw[hf]at h;cases h
 |some x=>
  rw[hf]at h;simp only at h;split at h
  ·cases h
  cases h;exact⟨rfl,by omega,by omega,by omega⟩
def aaQ(p:Pl):∀(l:List Sp)(a:Int),a<=p.ln->fZ a p.ln (zA p l a)
 |[],a,ha=>by rw[zA];exact akR p _ _ _ a (zzab _) ha
 |s::r,a,ha=>by
  rw[zA];cases hs:pe p s a with
  |none=>exact aaQ p r a ha
  |some e=>
   obtain⟨h1,h2,h3,h4⟩:=HE hs;simp only[zzba];refine fZ.app ?_ (akR p _ _ _ a (zzab _) h3);exact⟨zzbx _,h2,aaQ p r _ h4⟩
def aaR(p:Pl)(l:List Sp)(a:Int)(h0:0<=a)(h1:a<=p.ln):fZ a p.ln (jx p l a):=by
 unfold jx;rw[if_neg (by omega)];exact aaQ p l a h1
def O7(l:List Sp):Prop:=l.length<=1000/\l.Pairwise (fun a b=>a.1<b.1)/\∀a∈l,1<=a.1
def O7.nil:O7 []:=⟨by simp,List.Pairwise.nil,fun a ha=>by cases ha⟩
def O7.filter{l:List Sp}(h:O7 l)(P:Sp->Bool):O7 (l.filter P):=
 ⟨zzbm (zzbs _ _) h.1,h.2.1.filter _,fun a ha=>h.2.2 a (zzcy.1 ha).1⟩
def EvP(e:bD):Prop:=0<=e.i/\e.i<=e.st/\O7 e.al
def HF(fr t:Int):∀(n:Nat)(a:Int),(t-a).toNat<=n->∀x∈Vw fr t a,a<=x.1:=by
 intro n;induction n with
 |zero=>intro a h x hx;rw[Vw,if_neg (by omega)]at hx;cases hx
 |succ n ih=>
  intro a h x hx;rw[Vw]at hx;split at hx
  ·have hN:1<=Uq fr t a:=by unfold Uq;split<;>omega
   rcases zzau.1 hx with rfl|hx
   ·exact zzbx _
   have:=ih (a+Uq fr t a) (by omega) x hx;omega
  cases hx
def aol(p:Pl)(hp:∀e∈p.ens,O7 e.al):∀(l:List Sp)(a:Int),0<=a->∀e∈zA p l a,EvP e
 |[],a,ha,e,h=>by
  rw[zA,zzaw]at h;obtain⟨x,hx,rfl⟩:=h;have:=HF _ _ _ a (zzab _) x hx;exact⟨zzbx _,by simp only[Vg];omega,O7.nil⟩
 |s::r,a,ha,e,h=>by
  rw[zA]at h;cases hs:pe p s a with
  |none=>rw[hs]at h;exact aol p hp r a ha e h
  |some x=>
   obtain⟨h1,h2,h3,h4⟩:=HE hs;rw[hs]at h;simp only[zzba,zzap,zzaw,zzbr]at h;obtain⟨y,hy,rfl⟩|rfl|h:=h
   ·have:=HF _ _ _ a (zzab _) y hy;exact⟨zzbx _,by simp only[Vg];omega,O7.nil⟩
   ·have:=hp x (jy h1).1;exact⟨zzbx _,by simp only[F5];omega,this.filter _⟩
   exact aol p hp r _ (by omega) e h
def akS(p:Pl)(hp:∀e∈p.ens,O7 e.al)(l:List Sp)(a:Int)(h0:0<=a):∀e∈jx p l a,EvP e:=by
 unfold jx;split
 ·intro e he;cases he
 exact aol p hp l a h0
def aom(f:Int):∀{L:List bD},(∀e∈L,EvP e)->∀e∈Ye f L,EvP e
 |[],h,e,he=>by cases he
 |x::r,h,e,he=>by
  rw[Ye]at he;split at he
  ·exact aom f (fun y hy=>h y (by simp[hy])) e he
  rcases zzau.1 he with rfl|he
  ·exact h x (by simp)
  exact aom f (fun y hy=>h y (by simp[hy])) e he
def O8{lo up:Int}:∀{ks:List Int},ks.Pairwise (·<·)->(∀k∈ks,lo<=k/\k<=up)->(ks.length:Int)<=max 0 (up-lo+1)
 |[],_,_=>by simp only[zzcf];omega
 |k::r,h,hb=>by
  obtain⟨h1,h2⟩:=zzbz.1 h;have hk:=hb k (by simp);have:=O8 (lo:=k+1) (up:=up) h2 (fun x hx=>⟨by have:=h1 x hx;omega,(hb x (by simp[hx])).2⟩);simp only[zzbd];omega
def yx{p:Pl}(h:qp p=true):∀e∈p.ens,1<=e.id/\1<=e.fr/\0<=e.ea/\e.ea<=e.la/\e.la<=p.ln-e.fr/\O7 e.al:=by
 intro e he;have hv:=LF h;obtain⟨h1,h2,h3⟩:=hv.ens e he;have Ou:=hv.rg;unfold jK at h2;cases hf:Xg e.it p.aL with
 |none=>rw[hf]at h2;cases h2
 |some y=>
  rw[hf]at h2;simp only at h2;split at h2
  ·cases h2
  split at h2
  ·cases h2
  rename_i q2;split at h2
  ·cases h2
  have q2:wi e.fr 1 y.fr=true:=by simpa using q2
  simp only[wi,decide_eq_true_eq]at q2;simp only[zzak,decide_eq_true_eq]at h2;simp only[mG,zzak]at h3;obtain⟨p1,p2⟩:=aae h3.1;have:=O8 p1 p2;rw[zzbg]at this;exact⟨h1,q2.1,h2.1,h2.2.1,h2.2.2,by omega,List.pairwise_map.1 p1,fun a ha=>(p2 a.1 (zzaw.2 ⟨a,ha,rfl⟩)).1⟩
structure eX (k:Nat) (g:Pg):Prop where
 v:qp g.p=true
 ln:g.p.ln<=600
 sh:g.p.sh.length<=10
 aL:g.p.aL.length<=20
 ens:g.p.ens.length<=10+k
 bks:g.p.bks.length<=8
 cls:g.p.cls.length<=20+k
 ch:fZ 0 g.p.ln g.ev
 ep:∀e∈g.ev,EvP e
 cu:g.cu.length<=200
 dr:g.dr.length<=1000*k
 ve:g.ve=k
def eX.cT{k:Nat}{g:Pg}(h:eX k g):eX k (cT g):=
 ⟨h.v,h.ln,h.sh,h.aL,h.ens,h.bks,h.cls,h.ch.nl,fun e he=>by
  obtain⟨x,hx,rfl⟩:=zzaw.1 he;exact h.ep x hx,h.cu,h.dr,h.ve⟩
def eX.plc{k:Nat}{g:Pg}(h:eX k g)(hk:k<=900):Bh g.p:=
 ⟨by have:=h.sh;omega,by have:=h.aL;omega,by have:=h.ens;omega,by have:=h.bks;omega,by have:=h.cls;omega,fun e he=>by have:=(yx h.v e he).2.2.2.2.2.1;omega⟩
def eX.small{k:Nat}{g:Pg}(h:eX k g):g.ev.length<=600/\∀e∈g.ev,Uf e:=by
 have h1:=h.ch.le;have h2:=h.ln;refine⟨by omega,fun e he=>?_⟩;obtain⟨q1,q2,q3⟩:=h.ch.mem e he;obtain⟨q4,q5,q6,_⟩:=h.ep e he;exact⟨⟨by omega,by omega⟩,⟨by omega,by omega⟩,⟨by omega,by omega⟩,by omega⟩
def eX.mo{k:Nat}{g:Pg}{f:Int}(h:eX k g)(hk:k<=900)(hf:0<=f/\f<g.p.ln):lS g f:=
 ⟨by have:=h.small.1;omega,h.small.2,by have:=h.ln;unfold nR;omega,by have:=h.ens;omega⟩
def eX.pgc{k:Nat}{g:Pg}(h:eX k g)(hk:k<=900):PgC g:=
 ⟨h.plc hk,by have:=h.small.1;omega,by have:=h.cu;omega,by have:=h.dr;omega,fun e he=>by have:=(h.ep e he).2.2.1;omega⟩
structure SE (p:Pl):Prop where
 ln:p.ln<=600
 sh:p.sh.length<=10
 aL:p.aL.length<=20
 ens:p.ens.length<=10
 bks:p.bks.length<=8
 cls:p.cls.length<=20
def aon(p:Pl):SE (OQ p):=
 ⟨by simp only[OQ];split<;>omega,by simp[OQ];omega,by simp[OQ];omega,by simp[OQ];omega,by simp[OQ];omega,by simp[OQ];omega⟩
def aaS{p:Pl}(h:Jz p=0):qp p=true/\∃l,Ht p=some l:=by
 unfold Jz at h;split at h
 ·cases h
 rename_i hv;cases hl:Ht p with
 |none=>rw[hl]at h;cases h
 |some l=>exact⟨by simpa using hv,l,rfl⟩
def agQ{p:Pl}(hp:SE p)(h:Jz p=0):eX 0 (yq p):=by
 obtain⟨hv,l,hl⟩:=aaS h;have hg:yq p=⟨p,jx p l 0,[],0,[],0⟩:=by unfold yq;rw[hl]
 have dx:=(LF hv).ln;rw[hg];exact⟨hv,hp.ln,hp.sh,hp.aL,hp.ens,hp.bks,hp.cls,aaR p l 0 (by omega) (by omega),akS p (fun e he=>(yx hv e he).2.2.2.2.2) l 0 (by omega),by simp,by simp,rfl⟩
def DI{p:Pl}:∀{ids:List Int}{us en:List (Int×Int)}{free last:Int}{l:List Sp},Uy p ids us en free last=some l->l.length<=ids.length/\∀s∈l,0<=s.2/\s.2<=100000000
 |[],_,_,_,_,l,h=>by cases h;exact⟨zzab _,fun s hs=>by cases hs⟩
 |id::r,us,en,free,last,l,h=>by
  rw[Uy]at h;cases h1:zI id p.ens 0 with
  |none=>rw[h1]at h;cases h
  |some k=>
   rw[h1]at h;simp only at h;split at h
   ·cases h
   cases h2:p.ens[k]? with
   |none=>rw[h2]at h;cases h
   |some e=>
    rw[h2]at h;simp only at h;split at h
    ·cases h
    cases h3:Vz p e (Uh en (Kq p e.it) (max e.ea free))with
    |none=>rw[h3]at h;cases h
    |some s=>
     rw[h3]at h;simp only at h;cases h4:Uy p r (Vr us e.it) (Zl p en e.it (s+e.fr)) (s+e.fr) k with
     |none=>rw[h4]at h;cases h
     |some t=>
      rw[h4]at h;cases h;obtain⟨q1,q2⟩:=DI h4;obtain⟨_,_,q3,_,_,q4,_⟩:=Qax h3;refine⟨by simp only[zzbd];omega,fun x hx=>?_⟩;rcases zzau.1 hx with rfl|hx
      ·exact⟨q3,q4⟩
      exact q2 x hx
def aut{p:Pl}(hp:SE p)(ei:∀e∈p.ens,e.al.length<=8796093022208)(Ts:∀e∈p.ens,e.ea<=9223372036854775807):agI p:=by
 refine⟨⟨by have:=hp.sh;omega,by have:=hp.aL;omega,by have:=hp.ens;omega,by have:=hp.bks;omega,by have:=hp.cls;omega,ei⟩,by have:=hp.ln;omega,Ts,fun l hl=>?_⟩;unfold Ht at hl;split at hl
 ·cases hl
 obtain⟨h1,h2⟩:=DI hl;have h3:(Ud p).length=p.ens.length:=by simp[Ud]
 have:=hp.ens;refine⟨by omega,fun s hs=>?_⟩;have:=h2 s hs;omega
def agR{o:Od}(h:Jm o=true):o.n=0/\o.nw.al=[]:=by
 simp only[Jm,decide_eq_true_eq]at h;exact⟨h.2.1,h.2.2.2.2.2.2.2.2.2.2⟩
def p8{o:Od}(h:Xr o=true):(0<=o.fr/\o.fr<=100000000)/\(-100000000<=o.n/\o.n<=100000000)/\(0<=o.sq/\o.sq<=200)/\(1<=o.ki/\o.ki<=5):=by
 unfold Xr at h;split at h
 ·cases h
 split at h
 ·cases h
 split at h
 ·cases h
 split at h
 ·cases h
 rename_i h1 h2 h3 h4;rw[zzak]at h;refine⟨by omega,?_,by omega,by omega⟩;by_cases hk:o.ki=1
 ·omega
 have hb:=(agR h.2).1
 have hn:(Jg o).n=o.n:=by
  unfold Jg;rw[if_neg hk];repeat' split
  all_goals rfl
 omega
def p9{g:Pg}{f:Int}{b:List (Int×Bool)}{o:Od}{q:Pl}{d:Int}(h:Dy g f b o=some (q,d)):f<g.p.ln/\sV g f b o=some (q,d)/\qp q=true/\Dx g f b o q d=true:=by
 unfold Dy at h;split at h
 ·cases h
 rename_i hl;cases hb:sV g f b o with
 |none=>rw[hb]at h;cases h
 |some x=>
  obtain⟨q',d'⟩:=x;rw[hb]at h;simp only at h;split at h
  ·rename_i hc;cases h;rw[zzak]at hc;exact⟨by omega,rfl,hc.1,hc.2⟩
  cases h
def j7{g:Pg}{f:Int}{b:List (Int×Bool)}{o:Od}{q:Pl}{d:Int}(h:sV g f b o=some (q,d)):
  q.ln=g.p.ln/\q.sh=g.p.sh/\q.aL=g.p.aL/\q.bks=g.p.bks/\q.ens.length<=g.p.ens.length+1/\q.cls.length<=g.p.cls.length+1/\q.ch=g.p.ch:=by
 unfold sV at h;split at h
 ·unfold rF at h;split at h
  ·cases h
  split at h
  ·cases h
  cases h;exact⟨rfl,rfl,rfl,rfl,by simp,by simp,rfl⟩
 split at h
 ·unfold xX at h;split at h
  ·cases h
  cases h;exact⟨rfl,rfl,rfl,rfl,by have:=zzbs (fun e=>!mJ o.en e) g.p.ens;simp only;omega,by simp,rfl⟩
 split at h
 ·cases h;refine⟨rfl,rfl,rfl,rfl,?_,by simp[nW],rfl⟩;simp only[nW,zzai,zzaq,zzbd,zzco];omega
 cases h;exact⟨rfl,rfl,rfl,rfl,by simp[Dr],by simp[Dr],rfl⟩
def agS{n:Int}(h: -9223372036854775808<=n/\n<=9223372036854775807):Vt n=n:=by unfold Vt;omega
def akT{g:Pg}{f:Int}{b:List (Int×Bool)}{o:Od}{q:Pl}{d:Int}(hk:o.ki=1)(h:sV g f b o=some (q,d))(hv:qp q=true)(hm:Dx g f b o q d=true)(dx:g.p.ln<=600):
  (1<=d/\d<=600)/\∀st,Bl g f b o.en=some st->Vt (f-st)<=d/\st+d<=q.ln:=by
 have hq:=(j7 h).1;unfold sV at h;rw[if_pos hk]at h;unfold Dx at hm;rw[if_pos hk]at hm;unfold rF at h;cases he:g.p.ens[(Jb g o.en).toNat]? with
 |none=>rw[he]at h;cases h
 |some e=>
  rw[he]at h;simp only at h;split at h
  ·cases h
  simp only[Option.some.injEq,Prod.mk.injEq]at h;obtain⟨h1,h2⟩:=h;have ai:=(zza.1 he).1
  have dK:RS g f b o e∈q.ens:=by
   rw[<- h1];exact zzac (zzaz ai)
  obtain⟨_,p1,p2,p3,p4,_⟩:=yx hv _ dK;have sE:(RS g f b o e).fr=d:=h2;rw[sE]at p1 p4;refine⟨by omega,fun st cc=>?_⟩;unfold Qbq at hm;split at hm
  ·cases hm
  split at hm
  ·cases hm
  split at hm
  ·cases hm
  split at hm
  ·cases hm
  split at hm
  ·cases hm
  rw[cc]at hm;simp only at hm;split at hm
  ·cases hm
  refine⟨?_,by omega⟩;rw[<- h2];unfold tX;rw[cc];simp only;split<;>omega
def aaT{k:Nat}{g:Pg}{f:Int}{b:List (Int×Bool)}{o:Od}{q:Pl}{d:Int}(h:eX k g)(hk:k<=900)(hf:0<=f)(hc:Dy g f b o=some (q,d)){e:bD}(he:pZ g f b o q d=some e):
  e.st=f/\1<=e.fr/\f+e.fr<=q.ln/\EvP e:=by
 obtain⟨c1,c2,c3,c4⟩:=p9 hc;have hq:=(j7 c2).1;have dx:=h.ln;unfold pZ at he;cases hp:Jh g f b with
 |none=>rw[hp]at he;cases he
 |some x=>
  rw[hp]at he;simp only at he;cases hF:iF g f o q d x with
  |none=>rw[hF]at he;cases he
  |some F=>
   rw[hF]at he;simp only at he;split at he
   ·cases he
   rename_i qq;cases he
   have hxm:x∈g.ev/\Wt f x=true/\x.id≠0:=by
    unfold Jh at hp;cases hfd:g.ev.find? (Wt f)with
    |none=>rw[hfd]at hp;cases hp
    |some y=>
     rw[hfd]at hp;simp only at hp;split at hp
     ·cases hp
     split at hp
     ·cases hp;rename_i h1 h2;exact⟨zzea hfd,zzgx hfd,h1⟩
     cases hp
   obtain⟨x1,x2,x3⟩:=hxm;simp only[Wt,decide_eq_true_eq]at x2;obtain⟨y1,y2,y3⟩:=h.ch.mem x x1;obtain⟨z1,z2,z3⟩:=h.ep x x1
   have ei:O7 (jT q f x.id F ((Zf x.id q.ens).getD xZ).al):=by
    refine O7.filter ?_ _;cases hn:Zf x.id q.ens with
    |none=>exact O7.nil
    |some en=>exact(yx c3 en (jy hn).1).2.2.2.2.2
   have hFF:1<=F/\f+F<=q.ln:=by
    unfold iF at hF;split at hF
    ·rename_i eT;cases hF;obtain⟨d1,d2⟩:=akT eT.1 c2 c3 c4 dx
     have bJ:Bl g f b o.en=some (rE g x.id):=by
      unfold Bl;rw[hp];simp only;rw[if_pos eT.2.symm]
     obtain⟨e1,e2⟩:=d2 _ bJ;have hb:=Dn (h.mo hk ⟨hf,c1⟩) x.id;rw[agS (by omega)]at e1;omega
    split at hF
    ·cases hF
    split at hF
    ·cases hF
    cases hF;simp only[uE];omega
   exact⟨rfl,hFF.1,hFF.2,by simp only;omega,by simp only;omega,ei⟩
def aaU{k:Nat}{g:Pg}{f:Int}{b:List (Int×Bool)}{o:Od}{q:Pl}{d:Int}(h:eX k g)(hk:k<=900)(hf:0<=f)(hc:Dy g f b o=some (q,d)):
  f<=Kh g f b o q d/\Kh g f b o q d<=q.ln/\fZ 0 (Kh g f b o q d) (Jy g f b o q d)/\∀e∈Jy g f b o q d,EvP e:=by
 obtain⟨c1,c2,c3,c4⟩:=p9 hc;have hq:=(j7 c2).1;have hb:=(h.ch.bef (f:=f) hf).nl;have hbp:=aom f h.ep;unfold Kh Jy;cases dz:pZ g f b o q d with
 |none=>
  simp only[Option.toList_none,zzat];refine⟨zzbx _,by omega,hb,fun e he=>?_⟩;obtain⟨x,hx,rfl⟩:=zzaw.1 he;exact hbp x hx
 |some e=>
  obtain⟨e1,e2,e3,e4⟩:=aaT h hk hf hc dz;simp only[zzek];refine⟨by omega,by omega,fZ.app ?_ hb,fun x hx=>?_⟩
  ·exact⟨by omega,e2,by simp only[fZ];omega⟩
  rcases zzap.1 hx with hx|hx
  ·obtain⟨y,hy,rfl⟩:=zzaw.1 hx;exact hbp y hy
  rw[zzbr]at hx;rw[hx];exact e4
def auu{k:Nat}{g:Pg}{f:Int}{b:List (Int×Bool)}{o:Od}{q:Pl}{d:Int}(h:eX k g)(hk:k<=900)(hf:0<=f)(eT:1<=o.ki/\o.ki<=5)(hc:Dy g f b o=some (q,d)):
  Hs g f b o q d/\(Yq g f b o q d).length<=1000000/\(gZ g f b o q d).length<=10000000:=by
 obtain⟨c1,c2,c3,c4⟩:=p9 hc;obtain⟨q1,q2,q3,q4,q5,q6,q7⟩:=j7 c2;obtain⟨n1,n2,n3,n4⟩:=aaU h hk hf hc;have dx:=h.ln;have YL:=LF c3;have Iy:=yx c3
 have cc:(Yq g f b o q d).length<=1000/\∀s∈Yq g f b o q d,0<=s.2/\s.2<=100000000:=by
  unfold Yq;cases hs:Yn q (Kh g f b o q d) (p5 g f b o q d) (Xc true (Jv g b q.ens) (sY g f b o q d))with
  |none=>exact⟨by simp,fun s hs=>by cases hs⟩
  |some l=>
   obtain⟨s1,s2⟩:=DI hs;have t1:=p6 true (Jv g b q.ens) (sY g f b o q d);have t2:=jX g b q.ens;have t3:=h.ens;exact⟨by simp only[zzgq];omega,s2⟩
 have iY:=aaR q (Yq g f b o q d) (Kh g f b o q d) (by omega) n2
 have hd:0<=d/\d<=1000000000:=by
  by_cases h1:o.ki=1
  ·have:=(akT h1 c2 c3 c4 dx).1;omega
  unfold sV at c2;rw[if_neg h1]at c2;split at c2
  ·cases dZ:xX g o with
   |none=>rw[dZ]at c2;cases c2
   |some x=>rw[dZ]at c2;cases c2;omega
  split at c2<;>cases c2<;>omega
 have hpc:Bh q:=⟨by rw[q2];have:=h.sh;omega,by rw[q3];have:=h.aL;omega,by have:=h.ens;omega,by rw[q4];have:=h.bks;omega,by have:=h.cls;omega,fun e he=>by have:=(Iy e he).2.2.2.2.2.1;omega⟩;refine⟨⟨h.mo hk ⟨hf,c1⟩,hpc,?_,hd,by have:=YL.rg;omega,by omega,by have:=h.small.1;omega,by have:=h.dr;omega,by omega,?_,by omega,fun s hs=>by have:=cc.2 s hs;omega⟩,by have:=cc.1;omega,?_⟩
 ·exact⟨by have:=h.cls;omega,by rw[q2];have:=h.sh;omega,by rw[q3];have:=h.aL;omega,by have:=h.ens;omega,by rw[q4];have:=h.bks;omega,fun e he=>(Iy e he).2.2.2.2.2.1,by have:=YL.ln;omega,
   fun e he=>by have:=Iy e he;omega,fun e he=>by have:=Iy e he;omega,fun e he=>by have:=Iy e he;omega⟩
 ·intro e he;obtain⟨e1,e2,e3,e4,e5,e6,_⟩:=aaT h hk hf hc he;exact⟨⟨by omega,by omega⟩,⟨by omega,by omega⟩,⟨by omega,by omega⟩,by omega⟩
 have:=iY.le.2;unfold gZ;omega
def j8(o:Od):Prop:=o.nw.al.length<=1000
def HG{k:Nat}{g:Pg}{o:Od}(h:eX k g)(hk:k<=900)(ho:j8 o):Sn g o:=by
 unfold j8 at ho;refine⟨h.pgc hk,by omega,by have:=h.ve;omega,by have:=h.cu;omega,fun hc _=>?_,fun hc _ q d hx=>?_⟩
 ·have hv:Xr o=true:=by unfold LJ at hc;rw[zzak]at hc;exact hc.1
  obtain⟨v1,v2,v3,v4⟩:=p8 hv;exact⟨fun hl=>h.mo hk ⟨v1.1,hl⟩,h.plc hk,v1.1,by have:=h.ln;omega,by unfold sR;omega,fun e he=>by have:=yx h.v e he;have:=h.ln;unfold sR;omega,by have:=h.dr;omega,by omega⟩
 have hv:Xr o=true:=by unfold LJ at hc;rw[zzak]at hc;exact hc.1
 obtain⟨v1,v2,v3,v4⟩:=p8 hv;exact auu h hk v1.1 v4 hx
def SF{k:Nat}{g:Pg}{o:Od}(h:eX k g)(hk:k<=900):eX (k+1) (Zc g o):=by
 have hup:eX (k+1) {g with ve:=g.ve+1}:=⟨h.v,h.ln,h.sh,h.aL,by have:=h.ens;simp only;omega,h.bks,by have:=h.cls;simp only;omega,h.ch,h.ep,h.cu,by have:=h.dr;simp only;omega,by have:=h.ve;simp only;omega⟩;unfold Zc;split
 ·exact hup
 rename_i hc;split
 ·cases he:Sm o.cu g.cu with
  |none=>exact hup
  |some x=>
   refine⟨h.v,h.ln,h.sh,h.aL,by have:=h.ens;simp only;omega,h.bks,by have:=h.cls;simp only;omega,h.ch,h.ep,?_,by have:=h.dr;simp only;omega,by have:=h.ve;simp only;omega⟩;unfold Sm at he;split at he
   ·split at he
    ·cases he
    cases he;simp only;omega
   cases he
 cases hx:Dy g o.fr (Yd o.fr g.ev []) o with
 |none=>exact hup
 |some r=>
  obtain⟨q,d⟩:=r
  have hv:Xr o=true:=by
   have hc:LJ g o=true:=by simpa using hc
   unfold LJ at hc;rw[zzak]at hc;exact hc.1
  obtain⟨v1,v2,v3,v4⟩:=p8 hv;obtain⟨c1,c2,c3,c4⟩:=p9 hx;obtain⟨q1,q2,q3,q4,q5,q6,q7⟩:=j7 c2;obtain⟨n1,n2,n3,n4⟩:=aaU h hk v1.1 hx;have iY:=aaR q (Yq g o.fr (Yd o.fr g.ev []) o q d) _ (by omega) n2;have hbp:=akS q (fun e he=>(yx c3 e he).2.2.2.2.2) (Yq g o.fr (Yd o.fr g.ev []) o q d) (Kh g o.fr (Yd o.fr g.ev []) o q d) (by omega);refine⟨c3,by show q.ln<=600;have:=h.ln;omega,by show q.sh.length<=10;rw[q2];exact h.sh,by show q.aL.length<=20;rw[q3];exact h.aL,by show q.ens.length<=10+(k+1);have:=h.ens;omega,by show q.bks.length<=8;rw[q4];exact h.bks,by show q.cls.length<=20+(k+1);have:=h.cls;omega,fZ.app iY n3,?_,h.cu,?_,by show g.ve+1=_;have:=h.ve;omega⟩
  ·intro e he;rcases zzap.1 he with he|he
   ·exact n4 e he
   exact hbp e he
  show(dd (Wl (g.dr++OY g o.fr (Yd o.fr g.ev []) o q d))).length<=1000*(k+1);have t1:=KO (Wl (g.dr++OY g o.fr (Yd o.fr g.ev []) o q d));rw[rK,zzai]at t1;have t2:=p6 false (Jv g (Yd o.fr g.ev []) q.ens) (sY g o.fr (Yd o.fr g.ev []) o q d);have t3:=jX g (Yd o.fr g.ev []) q.ens;have t4:=h.ens;have t5:=h.dr;unfold OY at t1;unfold OY;omega
structure Tx (M:Md):Prop where
 n:∀l∈M.ps,l.length=M.os.length+1
 pr:∀l∈M.ps,∀i g,l[i]?=some g->eX i g
 fr:∀o∈M.os,0<=o.2/\o.2<=100000000
 los:M.os.length<=200
def O9:∀{ps:List Pl}{i:Nat}{M M':Md},(∀p∈ps,SE p)->Tx M->M.os=[]->jZ i ps M=some M'->Tx M'/\M'.os=[]
 |[],i,M,M',hp,hM,ho,h=>by rw[jZ]at h;cases h;exact⟨hM,ho⟩
 |p::r,i,M,M',hp,hM,ho,h=>by
  rw[jZ]at h;split at h
  ·cases h
  rename_i hc
  have hb:Jz p=0:=by
   by_cases hb:Jz p=0
   ·exact hb
   exact absurd (Or.inr hb) hc
  refine O9 (M:={M with pl:=Zt p.ch (i:Int) M.pl,ps:=M.ps++[[yq p]]}) (fun x hx=>hp x (by simp[hx])) ⟨fun l hl=>?_,fun l hl j g hg=>?_,hM.fr,hM.los⟩ ho h
  ·rcases zzap.1 hl with hl|hl
   ·exact hM.n l hl
   rw[zzbr]at hl;subst hl;simp[ho]
  rcases zzap.1 hl with hl|hl
  ·exact hM.pr l hl j g hg
  rw[zzbr]at hl;subst hl;cases j with
  |zero=>simp at hg;subst hg;exact agQ (hp p (by simp)) hb
  |succ j=>simp at hg
def DJ{ps:List Pl}{M:Md}(hp:∀p∈ps,SE p)(h:Bs ps=some M):Tx M/\M.os=[]:=by
 unfold Bs at h;split at h
 ·cases h
 exact O9 hp ⟨(fun l hl=>by cases hl),(fun l hl=>by cases hl),(fun o ho=>by cases ho),by simp[md0]⟩ rfl h
def Pb{M M':Md}{o:Od}(h:Tx M)(hs:j4 M o=some M'):Tx M'/\M'.os=M.os++[(o.sq,o.fr)]/\M'.pl=M.pl:=by
 unfold j4 at hs;split at hs
 ·cases hs
 rename_i hx;cases hs;unfold DF at hx;simp only[Bool.not_eq_true,zzes,Bool.not_eq_false',decide_eq_false_iff_not,Decidable.not_not]at hx;obtain⟨v1,v2,v3,v4⟩:=p8 hx.1;refine⟨⟨fun l hl=>?_,fun l hl i g hg=>?_,fun x hx=>?_,by simp only[zzai,zzdx];omega⟩,rfl,rfl⟩
 ·obtain⟨l0,me,rfl⟩:=zzaw.1 hl;have:=h.n l0 me;obtain⟨x,hx⟩:∃x,l0[M.os.length]?=some x:=⟨_,zzad (by omega)⟩;simp[Ub,this]
 ·obtain⟨l0,me,rfl⟩:=zzaw.1 hl;have hn:=h.n l0 me;obtain⟨x,hx⟩:∃x,l0[M.os.length]?=some x:=⟨_,zzad (by omega)⟩;have hnx:Ub o M.os.length l0=l0++[Zc (cT x) o]:=by unfold Ub;rw[hx];rfl
  rw[hnx]at hg;by_cases hi:i<l0.length
  ·rw[zzag hi]at hg;exact h.pr l0 me i g hg
  have hi2:i=l0.length:=by
   have:=(zza.1 hg).1;rw[zzai,zzdx]at this;omega
  subst hi2;rw[zzal (zzab _)]at hg;simp at hg;subst hg;rw[hn];exact SF (h.pr l0 me _ _ hx).cT (by have:=h.los;omega)
 rcases zzap.1 hx with hx|hx
 ·exact h.fr x hx
 rw[zzbr]at hx;subst hx;exact v1
end Go.Proofs.YtnopaopphmjnmaaGreatDoor
