import Derived.Test.YthjppoincojfkaaGreatDoorRAMcQ
set_option linter.all false
namespace Go.Proofs.YthjppoincojfkaaGreatDoor
open Go Go.Abs
def eV(lo up:Int):List bC->Prop
 |[]=>lo<=up
 |e::r=>lo<=e.st/\1<=e.fr/\eV (e.st+e.fr) up r
def eV.le{up:Int}:∀{L:List bC}{lo:Int},eV lo up L->lo<=up/\(L.length:Int)<=up-lo
 |[],lo,h=>⟨h,by simp only[eV]at h;simp only[zzco];omega⟩
 |e::r,lo,h=>by
  obtain⟨h1,h2,h3⟩:=h;have:=eV.le h3;simp only[zzbd];omega
def eV.mem{up:Int}:∀{L:List bC}{lo:Int},eV lo up L->∀e∈L,lo<=e.st/\1<=e.fr/\e.st+e.fr<=up
 |x::r,lo,h,e,he=>by
  obtain⟨h1,h2,h3⟩:=h;rcases zzao.1 he with rfl|he
  ·exact⟨h1,h2,h3.le.1⟩
  have:=eV.mem h3 e he;omega
def eV.low{up lo lo':Int}{L:List bC}(h:eV lo up L)(hl:lo'<=lo):eV lo' up L:=by
 cases L with
 |nil=>simp only[eV]at h |-;omega
 |cons e r=>exact⟨by have:=h.1;omega,h.2⟩
def eV.app{m up:Int}{B:List bC}(hB:eV m up B):∀{A:List bC}{lo:Int},eV lo m A->eV lo up (A++B)
 |[],lo,h=>hB.low h
 |e::r,lo,h=>⟨h.1,h.2.1,eV.app hB h.2.2⟩
def eV.nl{up:Int}:∀{L:List bC}{lo:Int},eV lo up L->eV lo up (L.map IG)
 |[],lo,h=>h
 |e::r,lo,h=>⟨h.1,h.2.1,eV.nl h.2.2⟩
def eV.LP{up f:Int}:∀{L:List bC}{lo:Int},eV lo up L->f<=lo->Vu f L=[]
 |[],lo,h,hf=>rfl
 |e::r,lo,h,hf=>by
  obtain⟨h1,h2,h3⟩:=h;rw[Vu,if_pos zE];exact eV.LP h3 zE
def eV.bef{up f:Int}:∀{L:List bC}{lo:Int},eV lo up L->lo<=f->eV lo f (Vu f L)
 |[],lo,h,hf=>hf
 |e::r,lo,h,hf=>by
  have hh:=h;obtain⟨h1,h2,h3⟩:=h;rw[Vu];by_cases hs:f<=e.st
  ·rw[if_pos hs,eV.LP h3 zE];exact hf
  rw[if_neg hs];by_cases hl:f-e.st<e.fr
  ·rw[eV.LP h3 zE];simp only[eV,nZ,if_pos hl];omega
  refine⟨h1,?_,?_⟩
  ·simp only[nZ,if_neg hl];exact h2
  have:=eV.bef h3 (f:=f) zE;simp only[nZ,if_neg hl];exact this
def aiW(p:Pl)(fr t:Int):∀(n:Nat)(a:Int),(t-a).toNat<=n->a<=t->eV a t ((Va fr t a).map (Vg p)):=by
 intro n;induction n with
 |zero=>intro a h ha;rw[Va,if_neg zE];exact ha
 |succ n ih=>
  intro a h ha;rw[Va];split
  ·have hN:1<=Yg fr t a/\Yg fr t a<=t-a:=by unfold Yg;split<;>omega
   have:=ih (a+Yg fr t a) zE zE;exact⟨zzbu _,hN.1,this⟩
  exact ha
def yJ{p:Pl}{s:Sp}{a:Int}{e:En}(h:mz p s a=some e):Zh s.1 p.ens=some e/\1<=e.fr/\a<=s.2/\s.2+e.fr<=p.ln:=by
 unfold mz at h;cases hf:Zh s.1 p.ens with
 |none=>rw[hf]at h;cases h
 |some x=>
  rw[hf]at h;simp only at h;split at h
  ·cases h
  cases h;exact⟨rfl,zE,zE,zE⟩
def Z7(p:Pl):∀(l:List Sp)(a:Int),a<=p.ln->eV a p.ln (ud p l a)
 |[],a,ha=>by rw[ud];exact aiW p _ _ _ a (zzab _) ha
 |s::r,a,ha=>by
  rw[ud];cases hs:mz p s a with
  |none=>exact Z7 p r a ha
  |some e=>
   obtain⟨h1,h2,h3,h4⟩:=yJ hs;simp only[zzbe];refine eV.app ?_ (aiW p _ _ _ a (zzab _) h3);exact⟨zzbu _,h2,Z7 p r _ h4⟩
def Oy(p:Pl)(l:List Sp)(a:Int)(h0:0<=a)(h1:a<=p.ln):eV a p.ln (Bf p l a):=by
 unfold Bf;rw[if_neg zE];exact Z7 p l a h1
def Oz(l:List Sp):Prop:=l.length<=1000/\l.Pairwise (fun a b=>a.1<b.1)/\∀a∈l,1<=a.1
def Oz.nil:Oz []:=⟨zd,List.Pairwise.nil,fun a ha=>by cases ha⟩
def Oz.filter{l:List Sp}(h:Oz l)(P:Sp->Bool):Oz (l.filter P):=
 ⟨zzba (zzca _ _) h.1,h.2.1.filter _,fun a ha=>h.2.2 a (zzce.1 ha).1⟩
def EvP(e:bC):Prop:=0<=e.i/\e.i<=e.st/\Oz e.al
def Hz(fr t:Int):∀(n:Nat)(a:Int),(t-a).toNat<=n->∀x∈Va fr t a,a<=x.1:=by
 intro n;induction n with
 |zero=>intro a h x hx;rw[Va,if_neg zE]at hx;cases hx
 |succ n ih=>
  intro a h x hx;rw[Va]at hx;split at hx
  ·have hN:1<=Yg fr t a:=by unfold Yg;split<;>omega
   rcases zzao.1 hx with rfl|hx
   ·exact zzbu _
   have:=ih (a+Yg fr t a) zE x hx;omega
  cases hx
def amF(p:Pl)(hp:∀e∈p.ens,Oz e.al):∀(l:List Sp)(a:Int),0<=a->∀e∈ud p l a,EvP e
 |[],a,ha,e,h=>by
  rw[ud,zzbg]at h;obtain⟨x,hx,rfl⟩:=h;have:=Hz _ _ _ a (zzab _) x hx;exact⟨zzbu _,by simp only[Vg];omega,Oz.nil⟩
 |s::r,a,ha,e,h=>by
  rw[ud]at h;cases hs:mz p s a with
  |none=>rw[hs]at h;exact amF p hp r a ha e h
  |some x=>
   obtain⟨h1,h2,h3,h4⟩:=yJ hs;rw[hs]at h;simp only[zzbe,zzam,zzbg,zzcq]at h;obtain⟨y,hy,rfl⟩|rfl|h:=h
   ·have:=Hz _ _ _ a (zzab _) y hy;exact⟨zzbu _,by simp only[Vg];omega,Oz.nil⟩
   ·have:=hp x (jL h1).1;exact⟨zzbu _,by simp only[Gb];omega,this.filter _⟩
   exact amF p hp r _ zE e h
def aiX(p:Pl)(hp:∀e∈p.ens,Oz e.al)(l:List Sp)(a:Int)(h0:0<=a):∀e∈Bf p l a,EvP e:=by
 unfold Bf;split
 ·intro e he;cases he
 exact amF p hp l a h0
def amG(f:Int):∀{L:List bC},(∀e∈L,EvP e)->∀e∈Vu f L,EvP e
 |[],h,e,he=>by cases he
 |x::r,h,e,he=>by
  rw[Vu]at he;split at he
  ·exact amG f (fun y hy=>h y (by simp[hy])) e he
  rcases zzao.1 he with rfl|he
  ·exact h x zd
  exact amG f (fun y hy=>h y (by simp[hy])) e he
def OA{lo up:Int}:∀{ks:Pi},ks.Pairwise (·<·)->(∀k∈ks,lo<=k/\k<=up)->(ks.length:Int)<=max 0 (up-lo+1)
 |[],_,_=>by simp only[zzco];omega
 |k::r,h,hb=>by
  obtain⟨h1,h2⟩:=zzcb.1 h;have hk:=hb k zd;have:=OA (lo:=k+1) (up:=up) h2 (fun x hx=>⟨by have:=h1 x hx;omega,(hb x (by simp[hx])).2⟩);simp only[zzbd];omega
def yK{p:Pl}(h:rE p=true):∀e∈p.ens,1<=e.id/\1<=e.fr/\0<=e.ea/\e.ea<=e.la/\e.la<=p.ln-e.fr/\Oz e.al:=by
 intro e he;have hv:=Dx h;obtain⟨h1,h2,h3⟩:=hv.ens e he;have NW:=hv.rg;unfold jO at h2;cases hf:Xk e.it p.aN with
 |none=>rw[hf]at h2;cases h2
 |some y=>
  rw[hf]at h2;simp only at h2;split at h2
  ·cases h2
  split at h2
  ·cases h2
  rename_i q2;split at h2
  ·cases h2
  have q2:wi e.fr 1 y.fr=true:=by simpa using q2
  simp only[wi,decide_eq_true_eq]at q2;simp only[zzac,decide_eq_true_eq]at h2;simp only[mB,zzac]at h3;obtain⟨p1,p2⟩:=ZB h3.1;have:=OA p1 p2;rw[zzbt]at this;exact⟨h1,q2.1,h2.1,h2.2.1,h2.2.2,zE,List.pairwise_map.1 p1,fun a ha=>(p2 a.1 (zzbg.2 ⟨a,ha,rfl⟩)).1⟩
structure dy (k:Nat) (g:Pg):Prop where
 v:rE g.p=true
 ln:g.p.ln<=1500
 sh:g.p.sh.length<=10
 aN:g.p.aN.length<=20
 ens:g.p.ens.length<=12+k
 bks:g.p.bks.length<=10
 cls:g.p.cls.length<=20+k
 ch:eV 0 g.p.ln g.ev
 ep:∀e∈g.ev,EvP e
 cu:g.cu.length<=200
 dr:g.dr.length<=1000*k
 ve:g.ve=k
def dy.eN{k:Nat}{g:Pg}(h:dy k g):dy k (eN g):=
 ⟨h.v,h.ln,h.sh,h.aN,h.ens,h.bks,h.cls,h.ch.nl,fun e he=>by
  obtain⟨x,hx,rfl⟩:=zzbg.1 he;exact h.ep x hx,h.cu,h.dr,h.ve⟩
def dy.plc{k:Nat}{g:Pg}(h:dy k g)(hk:k<=900):Bs g.p:=
 ⟨by have:=h.sh;omega,by have:=h.aN;omega,by have:=h.ens;omega,by have:=h.bks;omega,by have:=h.cls;omega,fun e he=>by have:=(yK h.v e he).2.2.2.2.2.1;omega⟩
def dy.small{k:Nat}{g:Pg}(h:dy k g):g.ev.length<=1500/\∀e∈g.ev,Jw e:=by
 have h1:=h.ch.le;have h2:=h.ln;refine⟨zE,fun e he=>?_⟩;obtain⟨q1,q2,q3⟩:=h.ch.mem e he;obtain⟨q4,q5,q6,_⟩:=h.ep e he;exact⟨⟨zE,zE⟩,⟨zE,zE⟩,⟨zE,zE⟩,zE⟩
def dy.mo{k:Nat}{g:Pg}{f:Int}(h:dy k g)(hk:k<=900)(hf:0<=f/\f<g.p.ln):lQ g f:=
 ⟨by have:=h.small.1;omega,h.small.2,by have:=h.ln;unfold nT;omega,by have:=h.ens;omega⟩
def dy.pgc{k:Nat}{g:Pg}(h:dy k g)(hk:k<=900):PgC g:=
 ⟨h.plc hk,by have:=h.small.1;omega,by have:=h.cu;omega,by have:=h.dr;omega,fun e he=>by have:=(h.ep e he).2.2.1;omega⟩
structure LQ (p:Pl):Prop where
 ln:p.ln<=1500
 sh:p.sh.length<=10
 aN:p.aN.length<=20
 ens:p.ens.length<=12
 bks:p.bks.length<=10
 cls:p.cls.length<=20
def amH(p:Pl):LQ (zj p):=
 ⟨by simp only[zj];split<;>omega,by simp[zj];omega,by simp[zj];omega,by simp[zj];omega,by simp[zj];omega,by simp[zj];omega⟩
def HA{p:Pl}(h:DO p=0):rE p=true/\∃l,II p=some l:=by
 unfold DO at h;split at h
 ·cases h
 rename_i hv;cases hl:II p with
 |none=>rw[hl]at h;cases h
 |some l=>exact⟨Nm hv,l,rfl⟩
def u6{p:Pl}(hp:LQ p)(h:DO p=0):dy 0 (tw p):=by
 obtain⟨hv,l,hl⟩:=HA h;have hg:tw p=⟨p,Bf p l 0,[],0,[],0⟩:=by unfold tw;rw[hl]
 have dG:=(Dx hv).ln;rw[hg];exact⟨hv,hp.ln,hp.sh,hp.aN,hp.ens,hp.bks,hp.cls,Oy p l 0 zE zE,aiX p (fun e he=>(yK hv e he).2.2.2.2.2) l 0 zE,zd,zd,rfl⟩
def DQ{p:Pl}:∀{ids:Pi}{us en:List (Int×Int)}{free last:Int}{l:List Sp},Jl p ids us en free last=some l->l.length<=ids.length/\∀s∈l,0<=s.2/\s.2<=100000000
 |[],_,_,_,_,l,h=>by cases h;exact⟨zzab _,fun s hs=>by cases hs⟩
 |id::r,us,en,free,last,l,h=>by
  rw[Jl]at h;cases h1:z8 id p.ens 0 with
  |none=>rw[h1]at h;cases h
  |some k=>
   rw[h1]at h;simp only at h;split at h
   ·cases h
   cases h2:p.ens[k]? with
   |none=>rw[h2]at h;cases h
   |some e=>
    rw[h2]at h;simp only at h;split at h
    ·cases h
    cases h3:Yk p e (Uk en (Kz p e.it) (max e.ea free))with
    |none=>rw[h3]at h;cases h
    |some s=>
     rw[h3]at h;simp only at h;cases h4:Jl p r (Yb us e.it) (Zo p en e.it (s+e.fr)) (s+e.fr) k with
     |none=>rw[h4]at h;cases h
     |some t=>
      rw[h4]at h;cases h;obtain⟨q1,q2⟩:=DQ h4;obtain⟨_,_,q3,_,_,q4,_⟩:=Qbg h3;refine⟨by simp only[zzbd];omega,fun x hx=>?_⟩;rcases zzao.1 hx with rfl|hx
      ·exact⟨q3,q4⟩
      exact q2 x hx
def aiY{p:Pl}(hp:LQ p)(fR:∀e∈p.ens,e.al.length<=8796093022208)(Sv:∀e∈p.ens,e.ea<=9223372036854775807):atm p:=by
 refine⟨⟨by have:=hp.sh;omega,by have:=hp.aN;omega,by have:=hp.ens;omega,by have:=hp.bks;omega,by have:=hp.cls;omega,fR⟩,by have:=hp.ln;omega,Sv,fun l hl=>?_⟩;unfold II at hl;split at hl
 ·cases hl
 obtain⟨h1,h2⟩:=DQ hl;have h3:(Uh p).length=p.ens.length:=by simp[Uh]
 have:=hp.ens;refine⟨zE,fun s hs=>?_⟩;have:=h2 s hs;omega
def afr{o:Od}(h:Qcw o=true):o.n=0/\o.nw.al=[]:=by
 simp only[Qcw,decide_eq_true_eq]at h;exact⟨h.2.1,h.2.2.2.2.2.2.2.2.2.2⟩
def j6{o:Od}(h:Vi o=true):(0<=o.fr/\o.fr<=100000000)/\(-100000000<=o.n/\o.n<=100000000)/\(0<=o.sq/\o.sq<=200)/\(1<=o.ki/\o.ki<=5):=by
 unfold Vi at h;split at h
 ·cases h
 split at h
 ·cases h
 split at h
 ·cases h
 split at h
 ·cases h
 rename_i h1 h2 h3 h4;rw[zzac]at h;refine⟨zE,?_,zE,zE⟩;by_cases hk:o.ki=1
 ·omega
 have hb:=(afr h.2).1
 have hn:(Kb o).n=o.n:=by
  unfold Kb;rw[if_neg hk];repeat' split
  all_goals rfl
 omega
def Qdp{g:Pg}{f:Int}{b:QR}{o:Od}{q:Pl}{d:Int}(h:Ue g f b o=some (q,d)):f<g.p.ln/\Kt g f b o=some (q,d)/\rE q=true/\zk g f b o q d=true:=by
 unfold Ue at h;split at h
 ·cases h
 rename_i hl;cases hb:Kt g f b o with
 |none=>rw[hb]at h;cases h
 |some x=>
  obtain⟨q',d'⟩:=x;rw[hb]at h;simp only at h;split at h
  ·rename_i hc;cases h;rw[zzac]at hc;exact⟨zE,rfl,hc.1,hc.2⟩
  cases h
def Qdr{g:Pg}{f:Int}{b:QR}{o:Od}{q:Pl}{d:Int}(h:Kt g f b o=some (q,d)):
  q.ln=g.p.ln/\q.sh=g.p.sh/\q.aN=g.p.aN/\q.bks=g.p.bks/\q.ens.length<=g.p.ens.length+1/\q.cls.length<=g.p.cls.length+1/\q.ch=g.p.ch:=by
 unfold Kt at h;split at h
 ·unfold rK at h;split at h
  ·cases h
  split at h
  ·cases h
  cases h;exact⟨rfl,rfl,rfl,rfl,zd,zd,rfl⟩
 split at h
 ·unfold yu at h;split at h
  ·cases h
  cases h;exact⟨rfl,rfl,rfl,rfl,by have:=zzca (fun e=>!mG o.en e) g.p.ens;simp only;omega,zd,rfl⟩
 split at h
 ·cases h;refine⟨rfl,rfl,rfl,rfl,?_,by simp[nY],rfl⟩;simp only[nY,zzak,zzaq,zzbd,zzcx];omega
 cases h;exact⟨rfl,rfl,rfl,rfl,by simp[DE],by simp[DE],rfl⟩
def afs{n:Int}(h: -9223372036854775808<=n/\n<=9223372036854775807):Ye n=n:=by unfold Ye;omega
def aiZ{g:Pg}{f:Int}{b:QR}{o:Od}{q:Pl}{d:Int}(hk:o.ki=1)(h:Kt g f b o=some (q,d))(hv:rE q=true)(hm:zk g f b o q d=true)(dG:g.p.ln<=1500):
  (1<=d/\d<=1500)/\∀st,Bv g f b o.en=some st->Ye (f-st)<=d/\st+d<=q.ln:=by
 have hq:=(Qdr h).1;unfold Kt at h;rw[if_pos hk]at h;unfold zk at hm;rw[if_pos hk]at hm;unfold rK at h;cases he:g.p.ens[(Je g o.en).toNat]? with
 |none=>rw[he]at h;cases h
 |some e=>
  rw[he]at h;simp only at h;split at h
  ·cases h
  simp only[Option.some.injEq,Prod.mk.injEq]at h;obtain⟨h1,h2⟩:=h;have ai:=(zza.1 he).1
  have dB:Ra g f b o e∈q.ens:=by
   rw[<- h1];exact zzae (zzbf ai)
  obtain⟨_,p1,p2,p3,p4,_⟩:=yK hv _ dB;have zJ:(Ra g f b o e).fr=d:=h2;rw[zJ]at p1 p4;refine⟨zE,fun st bZ=>?_⟩;unfold Qcf at hm;split at hm
  ·cases hm
  split at hm
  ·cases hm
  split at hm
  ·cases hm
  split at hm
  ·cases hm
  split at hm
  ·cases hm
  rw[bZ]at hm;simp only at hm;split at hm
  ·cases hm
  refine⟨?_,zE⟩;rw[<- h2];unfold uj;rw[bZ];simp only;split<;>omega
def DR{k:Nat}{g:Pg}{f:Int}{b:QR}{o:Od}{q:Pl}{d:Int}(h:dy k g)(hk:k<=900)(hf:0<=f)(hc:Ue g f b o=some (q,d)){e:bC}(he:iD g f b o q d=some e):
  e.st=f/\1<=e.fr/\f+e.fr<=q.ln/\EvP e:=by
 obtain⟨c1,c2,c3,c4⟩:=Qdp hc;have hq:=(Qdr c2).1;have dG:=h.ln;unfold iD at he;cases hp:Jk g f b with
 |none=>rw[hp]at he;cases he
 |some x=>
  rw[hp]at he;simp only at he;cases hF:iC g f o q d x with
  |none=>rw[hF]at he;cases he
  |some F=>
   rw[hF]at he;simp only at he;split at he
   ·cases he
   rename_i qw;cases he
   have hxm:x∈g.ev/\Uc f x=true/\x.id≠0:=by
    unfold Jk at hp;cases hfd:g.ev.find? (Uc f)with
    |none=>rw[hfd]at hp;cases hp
    |some y=>
     rw[hfd]at hp;simp only at hp;split at hp
     ·cases hp
     split at hp
     ·cases hp;rename_i h1 h2;exact⟨zzea hfd,zzgv hfd,h1⟩
     cases hp
   obtain⟨x1,x2,x3⟩:=hxm;simp only[Uc,decide_eq_true_eq]at x2;obtain⟨y1,y2,y3⟩:=h.ch.mem x x1;obtain⟨z1,z2,z3⟩:=h.ep x x1
   have fR:Oz (jY q f x.id F ((Zh x.id q.ens).getD yx).al):=by
    refine Oz.filter ?_ _;cases hn:Zh x.id q.ens with
    |none=>exact Oz.nil
    |some en=>exact(yK c3 en (jL hn).1).2.2.2.2.2
   have hFF:1<=F/\f+F<=q.ln:=by
    unfold iC at hF;split at hF
    ·rename_i fq;cases hF;obtain⟨d1,d2⟩:=aiZ fq.1 c2 c3 c4 dG
     have bQ:Bv g f b o.en=some (rJ g x.id):=by
      unfold Bv;rw[hp];simp only;rw[if_pos fq.2.symm]
     obtain⟨e1,e2⟩:=d2 _ bQ;have hb:=DB (h.mo hk ⟨hf,c1⟩) x.id;rw[afs zE]at e1;omega
    split at hF
    ·cases hF
    split at hF
    ·cases hF
    cases hF;simp only[uX];omega
   exact⟨rfl,hFF.1,hFF.2,by simp only;omega,by simp only;omega,fR⟩
def DS{k:Nat}{g:Pg}{f:Int}{b:QR}{o:Od}{q:Pl}{d:Int}(h:dy k g)(hk:k<=900)(hf:0<=f)(hc:Ue g f b o=some (q,d)):
  f<=Jh g f b o q d/\Jh g f b o q d<=q.ln/\eV 0 (Jh g f b o q d) (Uj g f b o q d)/\∀e∈Uj g f b o q d,EvP e:=by
 obtain⟨c1,c2,c3,c4⟩:=Qdp hc;have hq:=(Qdr c2).1;have hb:=(h.ch.bef (f:=f) hf).nl;have hbp:=amG f h.ep;unfold Jh Uj;cases cE:iD g f b o q d with
 |none=>
  simp only[Option.toList_none,zzar];refine⟨zzbu _,zE,hb,fun e he=>?_⟩;obtain⟨x,hx,rfl⟩:=zzbg.1 he;exact hbp x hx
 |some e=>
  obtain⟨e1,e2,e3,e4⟩:=DR h hk hf hc cE;simp only[zzg];refine⟨zE,zE,eV.app ?_ hb,fun x hx=>?_⟩
  ·exact⟨zE,e2,by simp only[eV];omega⟩
  rcases zzam.1 hx with hx|hx
  ·obtain⟨y,hy,rfl⟩:=zzbg.1 hx;exact hbp y hy
  rw[zzcq]at hx;rw[hx];exact e4
def atn{k:Nat}{g:Pg}{f:Int}{b:QR}{o:Od}{q:Pl}{d:Int}(h:dy k g)(hk:k<=900)(hf:0<=f)(fq:1<=o.ki/\o.ki<=5)(hc:Ue g f b o=some (q,d)):
  Hu g f b o q d/\(Vv g f b o q d).length<=1000000/\(Hr g f b o q d).length<=10000000:=by
 obtain⟨c1,c2,c3,c4⟩:=Qdp hc;obtain⟨q1,q2,q3,q4,q5,q6,q7⟩:=Qdr c2;obtain⟨n1,n2,n3,n4⟩:=DS h hk hf hc;have dG:=h.ln;have QB:=Dx c3;have Iv:=yK c3
 have bZ:(Vv g f b o q d).length<=1000/\∀s∈Vv g f b o q d,0<=s.2/\s.2<=100000000:=by
  unfold Vv;cases hs:Yu q (Jh g f b o q d) (p9 g f b o q d) (Xe true (Js g b q.ens) (mN g f b o q d))with
  |none=>exact⟨zd,fun s hs=>by cases hs⟩
  |some l=>
   obtain⟨s1,s2⟩:=DQ hs;have t1:=qb true (Js g b q.ens) (mN g f b o q d);have t2:=j4 g b q.ens;have t3:=h.ens;exact⟨by simp only[Option.getD_some];omega,s2⟩
 have eR:=Oy q (Vv g f b o q d) (Jh g f b o q d) zE n2
 have hd:0<=d/\d<=1000000000:=by
  by_cases h1:o.ki=1
  ·have:=(aiZ h1 c2 c3 c4 dG).1;omega
  unfold Kt at c2;rw[if_neg h1]at c2;split at c2
  ·cases fu:yu g o with
   |none=>rw[fu]at c2;cases c2
   |some x=>rw[fu]at c2;cases c2;omega
  split at c2<;>cases c2<;>omega
 have hpc:Bs q:=⟨by rw[q2];have:=h.sh;omega,by rw[q3];have:=h.aN;omega,by have:=h.ens;omega,by rw[q4];have:=h.bks;omega,by have:=h.cls;omega,fun e he=>by have:=(Iv e he).2.2.2.2.2.1;omega⟩;refine⟨⟨h.mo hk ⟨hf,c1⟩,hpc,?_,hd,by have:=QB.rg;omega,zE,by have:=h.small.1;omega,by have:=h.dr;omega,zE,?_,zE,fun s hs=>by have:=bZ.2 s hs;omega⟩,by have:=bZ.1;omega,?_⟩
 ·exact⟨by have:=h.cls;omega,by rw[q2];have:=h.sh;omega,by rw[q3];have:=h.aN;omega,by have:=h.ens;omega,by rw[q4];have:=h.bks;omega,fun e he=>(Iv e he).2.2.2.2.2.1,by have:=QB.ln;omega,
   fun e he=>by have:=Iv e he;omega,fun e he=>by have:=Iv e he;omega,fun e he=>by have:=Iv e he;omega⟩
 ·intro e he;obtain⟨e1,e2,e3,e4,e5,e6,_⟩:=DR h hk hf hc he;exact⟨⟨zE,zE⟩,⟨zE,zE⟩,⟨zE,zE⟩,zE⟩
 have:=eR.le.2;unfold Hr;omega
def qf(o:Od):Prop:=o.nw.al.length<=1000
def mO{k:Nat}{g:Pg}{o:Od}(h:dy k g)(hk:k<=900)(ho:qf o):afo g o:=by
 unfold qf at ho;refine⟨h.pgc hk,zE,by have:=h.ve;omega,by have:=h.cu;omega,fun hc _=>?_,fun hc _ q d hx=>?_⟩
 ·have hv:Vi o=true:=by unfold Vb at hc;rw[zzac]at hc;exact hc.1
  obtain⟨v1,v2,v3,v4⟩:=j6 hv;exact⟨fun hl=>h.mo hk ⟨v1.1,hl⟩,h.plc hk,v1.1,by have:=h.ln;omega,by unfold tg;omega,fun e he=>by have:=yK h.v e he;have:=h.ln;unfold tg;omega,by have:=h.dr;omega,zE⟩
 have hv:Vi o=true:=by unfold Vb at hc;rw[zzac]at hc;exact hc.1
 obtain⟨v1,v2,v3,v4⟩:=j6 hv;exact atn h hk v1.1 v4 hx
def rT{k:Nat}{g:Pg}{o:Od}(h:dy k g)(hk:k<=900):dy (k+1) (Xh g o):=by
 have hup:dy (k+1) {g with ve:=g.ve+1}:=⟨h.v,h.ln,h.sh,h.aN,by have:=h.ens;simp only;omega,h.bks,by have:=h.cls;simp only;omega,h.ch,h.ep,h.cu,by have:=h.dr;simp only;omega,by have:=h.ve;simp only;omega⟩;unfold Xh;split
 ·exact hup
 rename_i hc;split
 ·cases he:uo o.cu g.cu with
  |none=>exact hup
  |some x=>
   refine⟨h.v,h.ln,h.sh,h.aN,by have:=h.ens;simp only;omega,h.bks,by have:=h.cls;simp only;omega,h.ch,h.ep,?_,by have:=h.dr;simp only;omega,by have:=h.ve;simp only;omega⟩;unfold uo at he;split at he
   ·split at he
    ·cases he
    cases he;simp only;omega
   cases he
 cases hx:Ue g o.fr (Xm o.fr g.ev []) o with
 |none=>exact hup
 |some r=>
  obtain⟨q,d⟩:=r
  have hv:Vi o=true:=by
   have hc:Vb g o=true:=by simpa using hc
   unfold Vb at hc;rw[zzac]at hc;exact hc.1
  obtain⟨v1,v2,v3,v4⟩:=j6 hv;obtain⟨c1,c2,c3,c4⟩:=Qdp hx;obtain⟨q1,q2,q3,q4,q5,q6,q7⟩:=Qdr c2;obtain⟨n1,n2,n3,n4⟩:=DS h hk v1.1 hx;have eR:=Oy q (Vv g o.fr (Xm o.fr g.ev []) o q d) _ zE n2;have hbp:=aiX q (fun e he=>(yK c3 e he).2.2.2.2.2) (Vv g o.fr (Xm o.fr g.ev []) o q d) (Jh g o.fr (Xm o.fr g.ev []) o q d) zE;refine⟨c3,by show q.ln<=1500;have:=h.ln;omega,by show q.sh.length<=10;rw[q2];exact h.sh,by show q.aN.length<=20;rw[q3];exact h.aN,by show q.ens.length<=12+(k+1);have:=h.ens;omega,by show q.bks.length<=10;rw[q4];exact h.bks,by show q.cls.length<=20+(k+1);have:=h.cls;omega,eV.app eR n3,?_,h.cu,?_,by show g.ve+1=_;have:=h.ve;omega⟩
  ·intro e he;rcases zzam.1 he with he|he
   ·exact n4 e he
   exact hbp e he
  show(dd (Kj (g.dr++Hq g o.fr (Xm o.fr g.ev []) o q d))).length<=1000*(k+1);have t1:=J9 (Kj (g.dr++Hq g o.fr (Xm o.fr g.ev []) o q d));rw[rS,zzak]at t1;have t2:=qb false (Js g (Xm o.fr g.ev []) q.ens) (mN g o.fr (Xm o.fr g.ev []) o q d);have t3:=j4 g (Xm o.fr g.ev []) q.ens;have t4:=h.ens;have t5:=h.dr;unfold Hq at t1;unfold Hq;omega
def RE{g:Pg}{o:Od}:(Xh g o).p.ch=g.p.ch:=by
 unfold Xh;split
 ·rfl
 split
 ·split<;>rfl
 split
 ·rfl
 rename_i q d hx;exact(Qdr (Qdp hx).2.1).2.2.2.2.2.2
structure MdV (M:Md):Prop where
 n:∀l∈M.ps,l.length=M.os.length+1
 pr:∀l∈M.ps,∀i g,l[i]?=some g->dy i g
 fr:∀o∈M.os,0<=o.2/\o.2<=100000000
 los:M.os.length<=200
