import Derived.Test.YthjppoincojfkaaGreatDoorRPRgG
set_option linter.all false
set_option maxRecDepth 100000
set_option maxHeartbeats 64000000
namespace Go.Proofs.YthjppoincojfkaaGreatDoor
open Go Go.Abs
def fS(lo up:Int):List bC->Prop
 |[]=>lo<=up
 |e::r=>lo<=e.st/\1<=e.fr/\fS (e.st+e.fr) up r
def fS.le{up:Int}:∀{L:List bC}{lo:Int},fS lo up L->lo<=up/\(L.length:Int)<=up-lo
 |[],lo,h=>⟨h,by simp only[fS]at h;simp only[zzco];omega⟩
 |e::r,lo,h=>by
  obtain⟨h1,h2,h3⟩:=h;have:=fS.le h3;simp only[zzaz];omega
def fS.mem{up:Int}:∀{L:List bC}{lo:Int},fS lo up L->∀e∈L,lo<=e.st/\1<=e.fr/\e.st+e.fr<=up
 |x::r,lo,h,e,he=>by
  obtain⟨h1,h2,h3⟩:=h;rcases zzap.1 he with rfl|he
  ·exact⟨h1,h2,h3.le.1⟩
  have:=fS.mem h3 e he;omega
def fS.low{up lo lo':Int}{L:List bC}(h:fS lo up L)(hl:lo'<=lo):fS lo' up L:=by
 cases L with
 |nil=>simp only[fS]at h |-;omega
 |cons e r=>exact⟨by have:=h.1;omega,h.2⟩
def fS.app{m up:Int}{B:List bC}(hB:fS m up B):∀{A:List bC}{lo:Int},fS lo m A->fS lo up (A++B)
 |[],lo,h=>hB.low h
 |e::r,lo,h=>⟨h.1,h.2.1,fS.app hB h.2.2⟩
def fS.nl{up:Int}:∀{L:List bC}{lo:Int},fS lo up L->fS lo up (L.map nl0)
 |[],lo,h=>h
 |e::r,lo,h=>⟨h.1,h.2.1,fS.nl h.2.2⟩
def fS.amV{up f:Int}:∀{L:List bC}{lo:Int},fS lo up L->f<=lo->Vz f L=[]
 |[],lo,h,hf=>rfl
 |e::r,lo,h,hf=>by
  obtain⟨h1,h2,h3⟩:=h;rw[Vz,if_pos zE];exact fS.amV h3 zE
def fS.bef{up f:Int}:∀{L:List bC}{lo:Int},fS lo up L->lo<=f->fS lo f (Vz f L)
 |[],lo,h,hf=>hf
 |e::r,lo,h,hf=>by
  have hh:=h;obtain⟨h1,h2,h3⟩:=h;rw[Vz];by_cases hs:f<=e.st
  ·rw[if_pos hs,fS.amV h3 zE];exact hf
  rw[if_neg hs];by_cases hl:f-e.st<e.fr
  ·rw[fS.amV h3 zE];simp only[fS,G7,if_pos hl];omega
  refine⟨h1,?_,?_⟩
  ·simp only[G7,if_neg hl];exact h2
  have:=fS.bef h3 (f:=f) zE;simp only[G7,if_neg hl];exact this
def ajk(p:Pl)(fr t:Int):∀(n:Nat)(a:Int),(t-a).toNat<=n->a<=t->fS a t ((Vo fr t a).map (Zy p)):=by
 intro n;induction n with
 |zero=>intro a h ha;rw[Vo,if_neg zE];exact ha
 |succ n ih=>
  intro a h ha;rw[Vo];split
  ·have hN:1<=Uc fr t a/\Uc fr t a<=t-a:=by unfold Uc;split<;>omega
   have:=ih (a+Uc fr t a) zE zE;exact⟨zzbt _,hN.1,this⟩
  exact ha
def qd{p:Pl}{s:Sp}{a:Int}{e:En}(h:QE p s a=some e):Xb s.1 p.ens=some e/\1<=e.fr/\a<=s.2/\s.2+e.fr<=p.ln:=by
 unfold QE at h;cases hf:Xb s.1 p.ens with
 |none=>rw[hf]at h;cases h
 |some x=>
  rw[hf]at h;simp only at h;split at h
  ·cases h
  cases h;exact⟨rfl,zE,zE,zE⟩
def aaa(p:Pl):∀(l:List Sp)(a:Int),a<=p.ln->fS a p.ln (Jd p l a)
 |[],a,ha=>by rw[Jd];exact ajk p _ _ _ a (zzab _) ha
 |s::r,a,ha=>by
  rw[Jd];cases hs:QE p s a with
  |none=>exact aaa p r a ha
  |some e=>
   obtain⟨h1,h2,h3,h4⟩:=qd hs;simp only[zzav];refine fS.app ?_ (ajk p _ _ _ a (zzab _) h3);exact⟨zzbt _,h2,aaa p r _ h4⟩
def aab(p:Pl)(l:List Sp)(a:Int)(h0:0<=a)(h1:a<=p.ln):fS a p.ln (Kw p l a):=by
 unfold Kw;rw[if_neg zE];exact aaa p l a h1
def OA(l:List Sp):Prop:=l.length<=1000/\l.Pairwise (fun a b=>a.1<b.1)/\∀a∈l,1<=a.1
def OA.nil:OA []:=⟨zd,List.Pairwise.nil,fun a ha=>by cases ha⟩
def OA.filter{l:List Sp}(h:OA l)(P:Sp->Bool):OA (l.filter P):=
 ⟨zzbd (zzce _ _) h.1,h.2.1.filter _,fun a ha=>h.2.2 a (zzbw.1 ha).1⟩
def EvP(e:bC):Prop:=0<=e.i/\e.i<=e.st/\OA e.al
def Ho(fr t:Int):∀(n:Nat)(a:Int),(t-a).toNat<=n->∀x∈Vo fr t a,a<=x.1:=by
 intro n;induction n with
 |zero=>intro a h x hx;rw[Vo,if_neg zE]at hx;cases hx
 |succ n ih=>
  intro a h x hx;rw[Vo]at hx;split at hx
  ·have hN:1<=Uc fr t a:=by unfold Uc;split<;>omega
   rcases zzap.1 hx with rfl|hx
   ·exact zzbt _
   have:=ih (a+Uc fr t a) zE x hx;omega
  cases hx
def amW(p:Pl)(hp:∀e∈p.ens,OA e.al):∀(l:List Sp)(a:Int),0<=a->∀e∈Jd p l a,EvP e
 |[],a,ha,e,h=>by
  rw[Jd,zzar]at h;obtain⟨x,hx,rfl⟩:=h;have:=Ho _ _ _ a (zzab _) x hx;exact⟨zzbt _,by simp only[Zy];omega,OA.nil⟩
 |s::r,a,ha,e,h=>by
  rw[Jd]at h;cases hs:QE p s a with
  |none=>rw[hs]at h;exact amW p hp r a ha e h
  |some x=>
   obtain⟨h1,h2,h3,h4⟩:=qd hs;rw[hs]at h;simp only[zzav,zzam,zzar,zzca]at h;obtain⟨y,hy,rfl⟩|rfl|h:=h
   ·have:=Ho _ _ _ a (zzab _) y hy;exact⟨zzbt _,by simp only[Zy];omega,OA.nil⟩
   ·have:=hp x (Qbv h1).1;exact⟨zzbt _,by simp only[zM];omega,this.filter _⟩
   exact amW p hp r _ zE e h
def ajl(p:Pl)(hp:∀e∈p.ens,OA e.al)(l:List Sp)(a:Int)(h0:0<=a):∀e∈Kw p l a,EvP e:=by
 unfold Kw;split
 ·intro e he;cases he
 exact amW p hp l a h0
def amX(f:Int):∀{L:List bC},(∀e∈L,EvP e)->∀e∈Vz f L,EvP e
 |[],h,e,he=>by cases he
 |x::r,h,e,he=>by
  rw[Vz]at he;split at he
  ·exact amX f (fun y hy=>h y (by simp[hy])) e he
  rcases zzap.1 he with rfl|he
  ·exact h x zd
  exact amX f (fun y hy=>h y (by simp[hy])) e he
def OB{lo up:Int}:∀{ks:Pi},ks.Pairwise (·<·)->(∀k∈ks,lo<=k/\k<=up)->(ks.length:Int)<=max 0 (up-lo+1)
 |[],_,_=>by simp only[zzco];omega
 |k::r,h,hb=>by
  obtain⟨h1,h2⟩:=zzby.1 h;have hk:=hb k zd;have:=OB (lo:=k+1) (up:=up) h2 (fun x hx=>⟨by have:=h1 x hx;omega,(hb x (by simp[hx])).2⟩);simp only[zzaz];omega
def yA{p:Pl}(h:jJ p=true):∀e∈p.ens,1<=e.id/\1<=e.fr/\0<=e.ea/\e.ea<=e.la/\e.la<=p.ln-e.fr/\OA e.al:=by
 intro e he;have hv:=nS h;obtain⟨h1,h2,h3⟩:=hv.ens e he;have IJ:=hv.rg;unfold jy at h2;cases hf:Xj e.it p.aM with
 |none=>rw[hf]at h2;cases h2
 |some y=>
  rw[hf]at h2;simp only at h2;split at h2
  ·cases h2
  split at h2
  ·cases h2
  rename_i q2;split at h2
  ·cases h2
  have q2:wi e.fr 1 y.fr=true:=by simpa using q2
  simp only[wi,decide_eq_true_eq]at q2;simp only[zzac,decide_eq_true_eq]at h2;simp only[mC,zzac]at h3;obtain⟨p1,p2⟩:=Y8 h3.1;have:=OB p1 p2;rw[zzbv]at this;exact⟨h1,q2.1,h2.1,h2.2.1,h2.2.2,zE,List.pairwise_map.1 p1,fun a ha=>(p2 a.1 (zzar.2 ⟨a,ha,rfl⟩)).1⟩
structure dQ (k:Nat) (g:Pg):Prop where
 v:jJ g.p=true
 ln:g.p.ln<=1500
 sh:g.p.sh.length<=10
 aM:g.p.aM.length<=20
 ens:g.p.ens.length<=12+k
 bks:g.p.bks.length<=10
 cls:g.p.cls.length<=20+k
 ch:fS 0 g.p.ln g.ev
 ep:∀e∈g.ev,EvP e
 cu:g.cu.length<=200
 dr:g.dr.length<=1000*k
 ve:g.ve=k
def dQ.dZ{k:Nat}{g:Pg}(h:dQ k g):dQ k (dZ g):=
 ⟨h.v,h.ln,h.sh,h.aM,h.ens,h.bks,h.cls,h.ch.nl,fun e he=>by
  obtain⟨x,hx,rfl⟩:=zzar.1 he;exact h.ep x hx,h.cu,h.dr,h.ve⟩
def dQ.plc{k:Nat}{g:Pg}(h:dQ k g)(hk:k<=900):Bl g.p:=
 ⟨by have:=h.sh;omega,by have:=h.aM;omega,by have:=h.ens;omega,by have:=h.bks;omega,by have:=h.cls;omega,fun e he=>by have:=(yA h.v e he).2.2.2.2.2.1;omega⟩
def dQ.small{k:Nat}{g:Pg}(h:dQ k g):g.ev.length<=1500/\∀e∈g.ev,Kz e:=by
 have h1:=h.ch.le;have h2:=h.ln;refine⟨zE,fun e he=>?_⟩;obtain⟨q1,q2,q3⟩:=h.ch.mem e he;obtain⟨q4,q5,q6,_⟩:=h.ep e he;exact⟨⟨zE,zE⟩,⟨zE,zE⟩,⟨zE,zE⟩,zE⟩
def dQ.mo{k:Nat}{g:Pg}{f:Int}(h:dQ k g)(hk:k<=900)(hf:0<=f/\f<g.p.ln):lT g f:=
 ⟨by have:=h.small.1;omega,h.small.2,by have:=h.ln;unfold nT;omega,by have:=h.ens;omega⟩
def dQ.pgc{k:Nat}{g:Pg}(h:dQ k g)(hk:k<=900):PgC g:=
 ⟨h.plc hk,by have:=h.small.1;omega,by have:=h.cu;omega,by have:=h.dr;omega,fun e he=>by have:=(h.ep e he).2.2.1;omega⟩
structure RH (p:Pl):Prop where
 ln:p.ln<=1500
 sh:p.sh.length<=10
 aM:p.aM.length<=20
 ens:p.ens.length<=12
 bks:p.bks.length<=10
 cls:p.cls.length<=20
def amY(p:Pl):RH (Rg p):=
 ⟨by simp only[Rg];split<;>omega,by simp[Rg];omega,by simp[Rg];omega,by simp[Rg];omega,by simp[Rg];omega,by simp[Rg];omega⟩
def qf{p:Pl}(h:zV p=0):jJ p=true/\∃l,Hp p=some l:=by
 unfold zV at h;split at h
 ·cases h
 rename_i hv;cases hl:Hp p with
 |none=>rw[hl]at h;cases h
 |some l=>exact⟨Nm hv,l,rfl⟩
def uU{p:Pl}(hp:RH p)(h:zV p=0):dQ 0 (Yv p):=by
 obtain⟨hv,l,hl⟩:=qf h;have hg:Yv p=⟨p,Kw p l 0,[],0,[],0⟩:=by unfold Yv;rw[hl]
 have dD:=(nS hv).ln;rw[hg];exact⟨hv,hp.ln,hp.sh,hp.aM,hp.ens,hp.bks,hp.cls,aab p l 0 zE zE,ajl p (fun e he=>(yA hv e he).2.2.2.2.2) l 0 zE,zd,zd,rfl⟩
def DH{p:Pl}:∀{ids:Pi}{us en:List (Int×Int)}{free last:Int}{l:List Sp},Uu p ids us en free last=some l->l.length<=ids.length/\∀s∈l,0<=s.2/\s.2<=100000000
 |[],_,_,_,_,l,h=>by cases h;exact⟨zzab _,fun s hs=>by cases hs⟩
 |id::r,us,en,free,last,l,h=>by
  rw[Uu]at h;cases h1:za id p.ens 0 with
  |none=>rw[h1]at h;cases h
  |some k=>
   rw[h1]at h;simp only at h;split at h
   ·cases h
   cases h2:p.ens[k]? with
   |none=>rw[h2]at h;cases h
   |some e=>
    rw[h2]at h;simp only at h;split at h
    ·cases h
    cases h3:Vq p e (Ub en (Km p e.it) (max e.ea free))with
    |none=>rw[h3]at h;cases h
    |some s=>
     rw[h3]at h;simp only at h;cases h4:Uu p r (Vv us e.it) (Zn p en e.it (s+e.fr)) (s+e.fr) k with
     |none=>rw[h4]at h;cases h
     |some t=>
      rw[h4]at h;cases h;obtain⟨q1,q2⟩:=DH h4;obtain⟨_,_,q3,_,_,q4,_⟩:=Jz h3;refine⟨by simp only[zzaz];omega,fun x hx=>?_⟩;rcases zzap.1 hx with rfl|hx
      ·exact⟨q3,q4⟩
      exact q2 x hx
def ajm{p:Pl}(hp:RH p)(fK:∀e∈p.ens,e.al.length<=8796093022208)(SF:∀e∈p.ens,e.ea<=9223372036854775807):atJ p:=by
 refine⟨⟨by have:=hp.sh;omega,by have:=hp.aM;omega,by have:=hp.ens;omega,by have:=hp.bks;omega,by have:=hp.cls;omega,fK⟩,by have:=hp.ln;omega,SF,fun l hl=>?_⟩;unfold Hp at hl;split at hl
 ·cases hl
 obtain⟨h1,h2⟩:=DH hl;have h3:(Ug p).length=p.ens.length:=by simp[Ug]
 have:=hp.ens;refine⟨zE,fun s hs=>?_⟩;have:=h2 s hs;omega
def afD{o:Od}(h:Qcy o=true):o.n=0/\o.nw.al=[]:=by
 simp only[Qcy,decide_eq_true_eq]at h;exact⟨h.2.1,h.2.2.2.2.2.2.2.2.2.2⟩
def jY{o:Od}(h:Vp o=true):(0<=o.fr/\o.fr<=100000000)/\(-100000000<=o.n/\o.n<=100000000)/\(0<=o.sq/\o.sq<=200)/\(1<=o.ki/\o.ki<=5):=by
 unfold Vp at h;split at h
 ·cases h
 split at h
 ·cases h
 split at h
 ·cases h
 split at h
 ·cases h
 rename_i h1 h2 h3 h4;rw[zzac]at h;refine⟨zE,?_,zE,zE⟩;by_cases hk:o.ki=1
 ·omega
 have hb:=(afD h.2).1
 have hn:(Kb o).n=o.n:=by
  unfold Kb;rw[if_neg hk];repeat' split
  all_goals rfl
 omega
def Qbz{g:Pg}{f:Int}{b:QR}{o:Od}{q:Pl}{d:Int}(h:Jc g f b o=some (q,d)):f<g.p.ln/\Je g f b o=some (q,d)/\jJ q=true/\uR g f b o q d=true:=by
 unfold Jc at h;split at h
 ·cases h
 rename_i hl;cases hb:Je g f b o with
 |none=>rw[hb]at h;cases h
 |some x=>
  obtain⟨q',d'⟩:=x;rw[hb]at h;simp only at h;split at h
  ·rename_i hc;cases h;rw[zzac]at hc;exact⟨zE,rfl,hc.1,hc.2⟩
  cases h
def jZ{g:Pg}{f:Int}{b:QR}{o:Od}{q:Pl}{d:Int}(h:Je g f b o=some (q,d)):
  q.ln=g.p.ln/\q.sh=g.p.sh/\q.aM=g.p.aM/\q.bks=g.p.bks/\q.ens.length<=g.p.ens.length+1/\q.cls.length<=g.p.cls.length+1/\q.ch=g.p.ch:=by
 unfold Je at h;split at h
 ·unfold lU at h;split at h
  ·cases h
  split at h
  ·cases h
  cases h;exact⟨rfl,rfl,rfl,rfl,zd,zd,rfl⟩
 split at h
 ·unfold rE at h;split at h
  ·cases h
  cases h;exact⟨rfl,rfl,rfl,rfl,by have:=zzce (fun e=>!jP o.en e) g.p.ens;simp only;omega,zd,rfl⟩
 split at h
 ·cases h;refine⟨rfl,rfl,rfl,rfl,?_,by simp[oa],rfl⟩;simp only[oa,zzak,zzaq,zzaz,zzcw];omega
 cases h;exact⟨rfl,rfl,rfl,rfl,by simp[Dy],by simp[Dy],rfl⟩
def afE{n:Int}(h: -9223372036854775808<=n/\n<=9223372036854775807):Yd n=n:=by unfold Yd;omega
def ajn{g:Pg}{f:Int}{b:QR}{o:Od}{q:Pl}{d:Int}(hk:o.ki=1)(h:Je g f b o=some (q,d))(hv:jJ q=true)(hm:uR g f b o q d=true)(dD:g.p.ln<=1500):
  (1<=d/\d<=1500)/\∀st,zb g f b o.en=some st->Yd (f-st)<=d/\st+d<=q.ln:=by
 have hq:=(jZ h).1;unfold Je at h;rw[if_pos hk]at h;unfold uR at hm;rw[if_pos hk]at hm;unfold lU at h;cases he:g.p.ens[(Yi g o.en).toNat]? with
 |none=>rw[he]at h;cases h
 |some e=>
  rw[he]at h;simp only at h;split at h
  ·cases h
  simp only[Option.some.injEq,Prod.mk.injEq]at h;obtain⟨h1,h2⟩:=h;have ai:=(zza.1 he).1
  have dz:Du g f b o e∈q.ens:=by
   rw[<- h1];exact zzad (zzbg ai)
  obtain⟨_,p1,p2,p3,p4,_⟩:=yA hv _ dz;have zx:(Du g f b o e).fr=d:=h2;rw[zx]at p1 p4;refine⟨zE,fun st bY=>?_⟩;unfold Qba at hm;split at hm
  ·cases hm
  split at hm
  ·cases hm
  split at hm
  ·cases hm
  split at hm
  ·cases hm
  split at hm
  ·cases hm
  rw[bY]at hm;simp only at hm;split at hm
  ·cases hm
  refine⟨?_,zE⟩;rw[<- h2];unfold tX;rw[bY];simp only;split<;>omega
def aac{k:Nat}{g:Pg}{f:Int}{b:QR}{o:Od}{q:Pl}{d:Int}(h:dQ k g)(hk:k<=900)(hf:0<=f)(hc:Jc g f b o=some (q,d)){e:bC}(he:uV g f b o q d=some e):
  e.st=f/\1<=e.fr/\f+e.fr<=q.ln/\EvP e:=by
 obtain⟨c1,c2,c3,c4⟩:=Qbz hc;have hq:=(jZ c2).1;have dD:=h.ln;unfold uV at he;cases hp:Yz g f b with
 |none=>rw[hp]at he;cases he
 |some x=>
  rw[hp]at he;simp only at he;cases hF:Br g f o q d x with
  |none=>rw[hF]at he;cases he
  |some F=>
   rw[hF]at he;simp only at he;split at he
   ·cases he
   rename_i p8;cases he
   have hxm:x∈g.ev/\Kr f x=true/\x.id≠0:=by
    unfold Yz at hp;cases hfd:g.ev.find? (Kr f)with
    |none=>rw[hfd]at hp;cases hp
    |some y=>
     rw[hfd]at hp;simp only at hp;split at hp
     ·cases hp
     split at hp
     ·cases hp;rename_i h1 h2;exact⟨zzds hfd,zzfq hfd,h1⟩
     cases hp
   obtain⟨x1,x2,x3⟩:=hxm;simp only[Kr,decide_eq_true_eq]at x2;obtain⟨y1,y2,y3⟩:=h.ch.mem x x1;obtain⟨z1,z2,z3⟩:=h.ep x x1
   have fK:OA (jS q f x.id F ((Xb x.id q.ens).getD yd).al):=by
    refine OA.filter ?_ _;cases hn:Xb x.id q.ens with
    |none=>exact OA.nil
    |some en=>exact(yA c3 en (Qbv hn).1).2.2.2.2.2
   have hFF:1<=F/\f+F<=q.ln:=by
    unfold Br at hF;split at hF
    ·rename_i eO;cases hF;obtain⟨d1,d2⟩:=ajn eO.1 c2 c3 c4 dD
     have bO:zb g f b o.en=some (nV g x.id):=by
      unfold zb;rw[hp];simp only;rw[if_pos eO.2.symm]
     obtain⟨e1,e2⟩:=d2 _ bO;have hb:=Dv (h.mo hk ⟨hf,c1⟩) x.id;rw[afE zE]at e1;omega
    split at hF
    ·cases hF
    split at hF
    ·cases hF
    cases hF;simp only[Wp];omega
   exact⟨rfl,hFF.1,hFF.2,by simp only;omega,by simp only;omega,fK⟩
def aad{k:Nat}{g:Pg}{f:Int}{b:QR}{o:Od}{q:Pl}{d:Int}(h:dQ k g)(hk:k<=900)(hf:0<=f)(hc:Jc g f b o=some (q,d)):
  f<=Jl g f b o q d/\Jl g f b o q d<=q.ln/\fS 0 (Jl g f b o q d) (Ui g f b o q d)/\∀e∈Ui g f b o q d,EvP e:=by
 obtain⟨c1,c2,c3,c4⟩:=Qbz hc;have hq:=(jZ c2).1;have hb:=(h.ch.bef (f:=f) hf).nl;have hbp:=amX f h.ep;unfold Jl Ui;cases cW:uV g f b o q d with
 |none=>
  simp only[Option.toList_none,zzau];refine⟨zzbt _,zE,hb,fun e he=>?_⟩;obtain⟨x,hx,rfl⟩:=zzar.1 he;exact hbp x hx
 |some e=>
  obtain⟨e1,e2,e3,e4⟩:=aac h hk hf hc cW;simp only[Option.toList_some];refine⟨zE,zE,fS.app ?_ hb,fun x hx=>?_⟩
  ·exact⟨zE,e2,by simp only[fS];omega⟩
  rcases zzam.1 hx with hx|hx
  ·obtain⟨y,hy,rfl⟩:=zzar.1 hx;exact hbp y hy
  rw[zzca]at hx;rw[hx];exact e4
def atK{k:Nat}{g:Pg}{f:Int}{b:QR}{o:Od}{q:Pl}{d:Int}(h:dQ k g)(hk:k<=900)(hf:0<=f)(eO:1<=o.ki/\o.ki<=5)(hc:Jc g f b o=some (q,d)):
  Hq g f b o q d/\(Vr g f b o q d).length<=1000000/\(LM g f b o q d).length<=10000000:=by
 obtain⟨c1,c2,c3,c4⟩:=Qbz hc;obtain⟨q1,q2,q3,q4,q5,q6,q7⟩:=jZ c2;obtain⟨n1,n2,n3,n4⟩:=aad h hk hf hc;have dD:=h.ln;have XQ:=nS c3;have IF:=yA c3
 have bY:(Vr g f b o q d).length<=1000/\∀s∈Vr g f b o q d,0<=s.2/\s.2<=100000000:=by
  unfold Vr;cases hs:Yc q (Jl g f b o q d) (mN g f b o q d) (Xg true (Jk g b q.ens) (j4 g f b o q d))with
  |none=>exact⟨zd,fun s hs=>by cases hs⟩
  |some l=>
   obtain⟨s1,s2⟩:=DH hs;have t1:=qc true (Jk g b q.ens) (j4 g f b o q d);have t2:=jX g b q.ens;have t3:=h.ens;exact⟨by simp only[Option.getD_some];omega,s2⟩
 have fO:=aab q (Vr g f b o q d) (Jl g f b o q d) zE n2
 have hd:0<=d/\d<=1000000000:=by
  by_cases h1:o.ki=1
  ·have:=(ajn h1 c2 c3 c4 dD).1;omega
  unfold Je at c2;rw[if_neg h1]at c2;split at c2
  ·cases fc:rE g o with
   |none=>rw[fc]at c2;cases c2
   |some x=>rw[fc]at c2;cases c2;omega
  split at c2<;>cases c2<;>omega
 have hpc:Bl q:=⟨by rw[q2];have:=h.sh;omega,by rw[q3];have:=h.aM;omega,by have:=h.ens;omega,by rw[q4];have:=h.bks;omega,by have:=h.cls;omega,fun e he=>by have:=(IF e he).2.2.2.2.2.1;omega⟩;refine⟨⟨h.mo hk ⟨hf,c1⟩,hpc,?_,hd,by have:=XQ.rg;omega,zE,by have:=h.small.1;omega,by have:=h.dr;omega,zE,?_,zE,fun s hs=>by have:=bY.2 s hs;omega⟩,by have:=bY.1;omega,?_⟩
 ·exact⟨by have:=h.cls;omega,by rw[q2];have:=h.sh;omega,by rw[q3];have:=h.aM;omega,by have:=h.ens;omega,by rw[q4];have:=h.bks;omega,fun e he=>(IF e he).2.2.2.2.2.1,by have:=XQ.ln;omega,
   fun e he=>by have:=IF e he;omega,fun e he=>by have:=IF e he;omega,fun e he=>by have:=IF e he;omega⟩
 ·intro e he;obtain⟨e1,e2,e3,e4,e5,e6,_⟩:=aac h hk hf hc he;exact⟨⟨zE,zE⟩,⟨zE,zE⟩,⟨zE,zE⟩,zE⟩
 have:=fO.le.2;unfold LM;omega
def zW(o:Od):Prop:=o.nw.al.length<=1000
def Bv{k:Nat}{g:Pg}{o:Od}(h:dQ k g)(hk:k<=900)(ho:zW o):afF g o:=by
 unfold zW at ho;refine⟨h.pgc hk,zE,by have:=h.ve;omega,by have:=h.cu;omega,fun hc _=>?_,fun hc _ q d hx=>?_⟩
 ·have hv:Vp o=true:=by unfold Uj at hc;rw[zzac]at hc;exact hc.1
  obtain⟨v1,v2,v3,v4⟩:=jY hv;exact⟨fun hl=>h.mo hk ⟨v1.1,hl⟩,h.plc hk,v1.1,by have:=h.ln;omega,by unfold s5;omega,fun e he=>by have:=yA h.v e he;have:=h.ln;unfold s5;omega,by have:=h.dr;omega,zE⟩
 have hv:Vp o=true:=by unfold Uj at hc;rw[zzac]at hc;exact hc.1
 obtain⟨v1,v2,v3,v4⟩:=jY hv;exact atK h hk v1.1 v4 hx
def rM{k:Nat}{g:Pg}{o:Od}(h:dQ k g)(hk:k<=900):dQ (k+1) (Zg g o):=by
 have hup:dQ (k+1) {g with ve:=g.ve+1}:=⟨h.v,h.ln,h.sh,h.aM,by have:=h.ens;simp only;omega,h.bks,by have:=h.cls;simp only;omega,h.ch,h.ep,h.cu,by have:=h.dr;simp only;omega,by have:=h.ve;simp only;omega⟩;unfold Zg;split
 ·exact hup
 rename_i hc;split
 ·cases he:yB o.cu g.cu with
  |none=>exact hup
  |some x=>
   refine⟨h.v,h.ln,h.sh,h.aM,by have:=h.ens;simp only;omega,h.bks,by have:=h.cls;simp only;omega,h.ch,h.ep,?_,by have:=h.dr;simp only;omega,by have:=h.ve;simp only;omega⟩;unfold yB at he;split at he
   ·split at he
    ·cases he
    cases he;simp only;omega
   cases he
 cases hx:Jc g o.fr (Xp o.fr g.ev []) o with
 |none=>exact hup
 |some r=>
  obtain⟨q,d⟩:=r
  have hv:Vp o=true:=by
   have hc:Uj g o=true:=by simpa using hc
   unfold Uj at hc;rw[zzac]at hc;exact hc.1
  obtain⟨v1,v2,v3,v4⟩:=jY hv;obtain⟨c1,c2,c3,c4⟩:=Qbz hx;obtain⟨q1,q2,q3,q4,q5,q6,q7⟩:=jZ c2;obtain⟨n1,n2,n3,n4⟩:=aad h hk v1.1 hx;have fO:=aab q (Vr g o.fr (Xp o.fr g.ev []) o q d) _ zE n2;have hbp:=ajl q (fun e he=>(yA c3 e he).2.2.2.2.2) (Vr g o.fr (Xp o.fr g.ev []) o q d) (Jl g o.fr (Xp o.fr g.ev []) o q d) zE;refine⟨c3,by show q.ln<=1500;have:=h.ln;omega,by show q.sh.length<=10;rw[q2];exact h.sh,by show q.aM.length<=20;rw[q3];exact h.aM,by show q.ens.length<=12+(k+1);have:=h.ens;omega,by show q.bks.length<=10;rw[q4];exact h.bks,by show q.cls.length<=20+(k+1);have:=h.cls;omega,fS.app fO n3,?_,h.cu,?_,by show g.ve+1=_;have:=h.ve;omega⟩
  ·intro e he;rcases zzam.1 he with he|he
   ·exact n4 e he
   exact hbp e he
  show(dd (Kl (g.dr++Hr g o.fr (Xp o.fr g.ev []) o q d))).length<=1000*(k+1);have t1:=KB (Kl (g.dr++Hr g o.fr (Xp o.fr g.ev []) o q d));rw[rK,zzak]at t1;have t2:=qc false (Jk g (Xp o.fr g.ev []) q.ens) (j4 g o.fr (Xp o.fr g.ev []) o q d);have t3:=jX g (Xp o.fr g.ev []) q.ens;have t4:=h.ens;have t5:=h.dr;unfold Hr at t1;unfold Hr;omega
structure MdV (M:Md):Prop where
 n:∀l∈M.ps,l.length=M.os.length+1
 pr:∀l∈M.ps,∀i g,l[i]?=some g->dQ i g
 fr:∀o∈M.os,0<=o.2/\o.2<=100000000
 los:M.os.length<=200
open Go Go.Abs
def yC(n:Nat)(f:Nat->AV)(m:AM):Prop:=∃i:Nat,f 13=I i/\i<=n/\m=⟨[],[],fun _=>.gone,0⟩
def ayj(l:Pi)(hl:l.length<=8796093022208):Pure Tryz.prog aD 50 [.sl .ro (l.map Qy),.sl .ro (l.map Qy)] (.bool true):=by
 refine Qp aka (fun _ _ _=>.junk) zd ?_;simp[aoW];refine Qi S4 (yC l.length) (fun f _=>l.length-(numOf (f 13)).toNat) ?_ ?_
 ·exact⟨0,zd,zE,rfl⟩
 rintro f m ⟨i,eR,hi,rfl⟩;rcases zzaa i l.length with ai|bq
 ·obtain⟨a,ha⟩:=aV ai;have ah:Qh (l.map Qy) i=Qy a:=Qu (by simp[ha]);have aa:(i:Int)<(l.length:Int):=zE
  have hw:=bP i zE;simp[eR,S4,ai,aa,ah,Qy,hw];refine⟨aQ,⟨i+1,zd,zE,rfl⟩,zE⟩
 obtain rfl:i=l.length:=zE
 simp[eR,S4,aoX]
def ayk(l:List Cue)(hl:l.length<=8796093022208):Pure Tryz.prog aD 51 [.sl .ro (l.map Qk),.sl .ro (l.map Qk)] (.bool true):=by
 refine Qp akb (fun _ _ _=>.junk) zd ?_;simp[aoY];refine Qi S5 (yC l.length) (fun f _=>l.length-(numOf (f 13)).toNat) ?_ ?_
 ·exact⟨0,zd,zE,rfl⟩
 rintro f m ⟨i,eR,hi,rfl⟩;rcases zzaa i l.length with ai|bq
 ·obtain⟨a,ha⟩:=aV ai;have ah:Qh (l.map Qk) i=Qk a:=Qu (by simp[ha]);have aa:(i:Int)<(l.length:Int):=zE
  have hw:=bP i zE;simp[eR,S5,ai,aa,ah,Qk,hw];refine⟨aQ,⟨i+1,zd,zE,rfl⟩,zE⟩
 obtain rfl:i=l.length:=zE
 simp[eR,S5,aoZ]
def atM(l:List Sp)(hl:l.length<=8796093022208):Pure Tryz.prog aD 56 [.sl .ro (l.map Qf),.sl .ro (l.map Qf)] (.bool true):=by
 refine Qp aki (fun _ _ _=>.junk) zd ?_;simp[ao4];refine Qi S7 (yC l.length) (fun f _=>l.length-(numOf (f 13)).toNat) ?_ ?_
 ·exact⟨0,zd,zE,rfl⟩
 rintro f m ⟨i,eR,hi,rfl⟩;rcases zzaa i l.length with ai|bq
 ·obtain⟨a,ha⟩:=aV ai;have ah:Qh (l.map Qf) i=Qf a:=Qu (by simp[ha]);have aa:(i:Int)<(l.length:Int):=zE
  have hw:=bP i zE;simp[eR,S7,ai,aa,ah,Qf,hw];refine⟨aQ,⟨i+1,zd,zE,rfl⟩,zE⟩
 obtain rfl:i=l.length:=zE
 simp[eR,S7,ao5]
def atN(l:List It)(hl:l.length<=8796093022208):Pure Tryz.prog aD 57 [.sl .ro (l.map Qj),.sl .ro (l.map Qj)] (.bool true):=by
 refine Qp akj (fun _ _ _=>.junk) zd ?_;simp[ao6];refine Qi S8 (yC l.length) (fun f _=>l.length-(numOf (f 13)).toNat) ?_ ?_
 ·exact⟨0,zd,zE,rfl⟩
 rintro f m ⟨i,eR,hi,rfl⟩;rcases zzaa i l.length with ai|bq
 ·obtain⟨a,ha⟩:=aV ai;have ah:Qh (l.map Qj) i=Qj a:=Qu (by simp[ha]);have aa:(i:Int)<(l.length:Int):=zE
  have hw:=bP i zE;simp[eR,S8,ai,aa,ah,Qj,hw];refine⟨aQ,⟨i+1,zd,zE,rfl⟩,zE⟩
 obtain rfl:i=l.length:=zE
 simp[eR,S8,ao7]
def atO(l:List Bk)(hl:l.length<=8796093022208):Pure Tryz.prog aD 60 [.sl .ro (l.map Xl),.sl .ro (l.map Xl)] (.bool true):=by
 refine Qp akn (fun _ _ _=>.junk) zd ?_;simp[apb];refine Qi Ta (yC l.length) (fun f _=>l.length-(numOf (f 13)).toNat) ?_ ?_
 ·exact⟨0,zd,zE,rfl⟩
 rintro f m ⟨i,eR,hi,rfl⟩;rcases zzaa i l.length with ai|bq
 ·obtain⟨a,ha⟩:=aV ai;have ah:Qh (l.map Xl) i=Xl a:=Qu (by simp[ha]);have aa:(i:Int)<(l.length:Int):=zE
  have hw:=bP i zE;simp[eR,Ta,ai,aa,ah,Xl,hw];refine⟨aQ,⟨i+1,zd,zE,rfl⟩,zE⟩
 obtain rfl:i=l.length:=zE
 simp[eR,Ta,apc]
def atP(l:List Cl)(hl:l.length<=8796093022208):Pure Tryz.prog aD 61 [.sl .ro (l.map Qg),.sl .ro (l.map Qg)] (.bool true):=by
 refine Qp ako (fun _ _ _=>.junk) zd ?_;simp[apd];refine Qi Tb (yC l.length) (fun f _=>l.length-(numOf (f 13)).toNat) ?_ ?_
 ·exact⟨0,zd,zE,rfl⟩
 rintro f m ⟨i,eR,hi,rfl⟩;rcases zzaa i l.length with ai|bq
 ·obtain⟨a,ha⟩:=aV ai;have ah:Qh (l.map Qg) i=Qg a:=Qu (by simp[ha]);have aa:(i:Int)<(l.length:Int):=zE
  have hw:=bP i zE;simp[eR,Tb,ai,aa,ah,Qg,hw];refine⟨aQ,⟨i+1,zd,zE,rfl⟩,zE⟩
 obtain rfl:i=l.length:=zE
 simp[eR,Tb,ape]
def ajo(l:List Sp)(hl:l.length<=8796093022208):Pure Tryz.prog aD 112 [.sl .ro (l.map Qf),.sl .ro (l.map Qf)] (.bool true):=by
 refine Qp abZ (fun _ _ _=>.junk) zd ?_;simp[agE];refine Qi I4 (yC l.length) (fun f _=>l.length-(numOf (f 13)).toNat) ?_ ?_
 ·exact⟨0,zd,zE,rfl⟩
 rintro f m ⟨i,eR,hi,rfl⟩;rcases zzaa i l.length with ai|bq
 ·obtain⟨a,ha⟩:=aV ai;have ah:Qh (l.map Qf) i=Qf a:=Qu (by simp[ha]);have aa:(i:Int)<(l.length:Int):=zE
  have hw:=bP i zE;simp[eR,I4,ai,aa,ah,Qf,hw];refine⟨aQ,⟨i+1,zd,zE,rfl⟩,zE⟩
 obtain rfl:i=l.length:=zE
 simp[eR,I4,agF]
def afG(e:bC)(hl:e.al.length<=8796093022208):Pure Tryz.prog aD 55 [.agg (Qe e),.agg (Qe e)] (.bool true):=by
 have k:=ajo e.al hl;refine Qp akh (fun _ _ _=>.bool true) zd ?_;simp[ao2,ao3,Qe];exact k
def afH(e:En)(hl:e.al.length<=8796093022208):Pure Tryz.prog aD 59 [.agg (Qd e),.agg (Qd e)] (.bool true):=by
 have k:=ajo e.al hl;refine Qp akm (fun _ _ _=>.bool true) zd ?_;simp[ao9,apa,Qd];exact k
def ajp(n:Nat)(f:Nat->AV)(m:AM):Prop:=∃(i:Nat)(bx:T5),f 17=I i/\i<=n/\m=⟨bx,[],fun _=>.gone,0⟩
def amZ(l:List bC)(hl:l.length<=8796093022208)(ha:∀e∈l,e.al.length<=8796093022208):Pure Tryz.prog aD 54 [.sl .ro (l.map Qe),.sl .ro (l.map Qe),.fn 55 [] []] (.bool true):=by
 refine Qp akg (fun _ _ _=>.bool true) zd ?_;simp[akf];refine Qi S6 (ajp l.length) (fun f _=>l.length-(numOf (f 17)).toNat) ?_ ?_
 ·exact⟨0,_,zd,zE,rfl⟩
 rintro f m ⟨i,bx,h17,hi,rfl⟩;rcases zzaa i l.length with ai|bq
 ·obtain⟨a,he⟩:=aV ai;have k:=afG a (ha a (zzad he));have ah:Qh (l.map Qe) i=Qe a:=Qu (by simp[he]);have aa:(i:Int)<(l.length:Int):=zE
  have hw:=bP i zE;simp only[Qe]at k ah;simp[h17,S6,ai,aa,ah,Qe,hw];refine⟨k,aQ,⟨i+1,_,zd,zE,rfl⟩,zE⟩
 obtain rfl:i=l.length:=zE
 simp[h17,S6,ao1]
def am0(l:List En)(hl:l.length<=8796093022208)(ha:∀e∈l,e.al.length<=8796093022208):Pure Tryz.prog aD 58 [.sl .ro (l.map Qd),.sl .ro (l.map Qd),.fn 59 [] []] (.bool true):=by
 refine Qp akl (fun _ _ _=>.bool true) zd ?_;simp[akk];refine Qi S9 (ajp l.length) (fun f _=>l.length-(numOf (f 17)).toNat) ?_ ?_
 ·exact⟨0,_,zd,zE,rfl⟩
 rintro f m ⟨i,bx,h17,hi,rfl⟩;rcases zzaa i l.length with ai|bq
 ·obtain⟨a,he⟩:=aV ai;have k:=afH a (ha a (zzad he));have ah:Qh (l.map Qd) i=Qd a:=Qu (by simp[he]);have aa:(i:Int)<(l.length:Int):=zE
  have hw:=bP i zE;simp only[Qd]at k ah;simp[h17,S9,ai,aa,ah,Qd,hw];refine⟨k,aQ,⟨i+1,_,zd,zE,rfl⟩,zE⟩
 obtain rfl:i=l.length:=zE
 simp[h17,S9,ao8]
structure am1 (g:Pg):Prop where
 sh:g.p.sh.length<=8796093022208
 aM:g.p.aM.length<=8796093022208
 ens:g.p.ens.length<=8796093022208
 al:∀e∈g.p.ens,e.al.length<=8796093022208
 bks:g.p.bks.length<=8796093022208
 cls:g.p.cls.length<=8796093022208
 ev:g.ev.length<=8796093022208
 eal:∀e∈g.ev,e.al.length<=8796093022208
 cu:g.cu.length<=8796093022208
 dr:g.dr.length<=8796093022208
def am2(l:List bC)(hl:l.length<=8796093022208)(ha:∀e∈l,e.al.length<=8796093022208):Pure Tryz.prog aD 26 [.sl .ro (l.map Qe),.sl .ro (l.map Qe)] (.bool true):=by
 have k:=amZ l hl ha;refine Qp ajQ (fun _ _ _=>.bool true) zd ?_;simp[aoN,aoO];exact k
def am3(g:Pg)(h:am1 g):Pure Tryz.prog aD 27 [.agg (Qa g.p),.agg (Qa g.p)] (.bool true):=by
 have k1:=atM g.p.sh h.sh;have k2:=atN g.p.aM h.aM;have k3:=am0 g.p.ens h.ens h.al;have k4:=atO g.p.bks h.bks;have k5:=atP g.p.cls h.cls;refine Qp ajR (fun _ _ _=>.bool true) zd ?_;simp[aoP,aoQ,Qa];exact⟨k1,k2,k3,k4,k5⟩
def am4(g:Pg)(h:am1 g):Pure Tryz.prog aD 23 [.agg (Qm g),.agg (Qm g)] (.bool true):=by
 have k1:=ayj g.dr h.dr;have k2:=ayk g.cu h.cu;have k3:=am2 g.ev h.ev h.eal;have k4:=am3 g h;simp only[Qa]at k4;refine Qp SR (fun _ _ _=>.bool true) zd ?_;simp[abr,abt,Qm,Qa];exact⟨k1,k2,k3,k4⟩
open Go Go.Abs
def dQ.sm{k:Nat}{g:Pg}(h:dQ k g)(hk:k<=900):am1 g where
 sh:=by have:=h.sh;omega
 aM:=by have:=h.aM;omega
 ens:=by have:=h.ens;omega
 al:=fun e he=>(h.plc hk).2.2.2.2.2 e he
 bks:=by have:=h.bks;omega
 cls:=by have:=h.cls;omega
 ev:=by have:=h.small.1;omega
 eal:=fun e he=>by have:=(h.ep e he).2.2.1;omega
 cu:=by have:=h.cu;omega
 dr:=by have:=h.dr;omega
open Go Go.Abs
def Bw(f:Int):∀L:List bC,lS f L=L.find? (Kr f)
 |[]=>rfl
 |e::r=>by
  rw[lS,zzec,Bw f r];cases Kr f e<;>rfl
def rN(id:Int):∀L:List En,Xb id L=L.find? fun e=>decide (e.id=id)
 |[]=>rfl
 |e::r=>by
  rw[Xb,zzec,rN id r];by_cases h:e.id=id<;>simp[h]
def RI(l:List bC)(id f:Int):Bool:=l.any fun e=>decide (e.id=id)&&decide (e.st<f)
def aae(b:QR)(k id:Int):oA (Vf k true b) id=(decide (id=k)||oA b id):=by
 unfold oA;rw[Uk];by_cases h:id=k<;>simp[h]
def Hs(f id:Int):∀(L:List bC)(b:QR),oA (Xp f L b) id=(oA b id||RI L id f)
 |[],b=>by simp[Xp,RI]
 |e::r,b=>by
  rw[Xp,Hs f id r];have e1:decide (id=e.id)=decide (e.id=id):=decide_eq_decide.2 eq_comm;have e2:RI (e::r) id f=(decide (e.id=id)&&decide (e.st<f)||RI r id f):=rfl;rw[e2];by_cases h:e.st<f
  ·rw[if_pos h,aae,e1,decide_eq_true h];cases decide (e.id=id)<;>cases oA b id<;>simp
  rw[if_neg h,decide_eq_false h];simp
def afI(f id:Int)(L:List bC):oA (Xp f L []) id=RI L id f:=by
 rw[Hs];simp[oA,af]
def aaf(g:Pg)(f:Int):Option bC:=match lS f g.ev with
 |none=>none
 |some e=>if e.id=0 then none else if RI g.ev e.id f=true then some e else none
def aag(g:Pg)(f:Int):aaf g f=Yz g f (Xp f g.ev []):=by
 unfold aaf Yz;rw[<- Bw];cases lS f g.ev with
 |none=>rfl
 |some e=>simp only[afI]
def iu(g:Pg)(o:Od):Bool:=Uj g o&&(if o.ki=5 then(yB o.cu g.cu).isSome else(Jc g o.fr (Xp o.fr g.ev []) o).isSome)
def Bx{id:Int}{l:List En}{x:En}(h:Xb id l=some x):∃k:Nat,Uf (fun e:En=>decide (e.id=id)) l 0=(k:Int)/\l[k]?=some x/\x.id=id:=by
 rw[rN]at h;obtain⟨k,h1,h2,h3⟩:=Ke (i:=0) h;exact⟨k,by rw[h1];simp,h2,Nm h3⟩
def LN{id:Int}{l:List En}(h:Xb id l=none):Uf (fun e:En=>decide (e.id=id)) l 0= -1:=by
 rw[rN]at h;exact Qbj h
open Go Go.Abs
def zX(g:Pg):Prop:=∀e∈g.ev,e.id≠0->∀x,Xb e.id g.p.ens=some x->x.it=e.it
def zX.dZ{g:Pg}(h:zX g):zX (dZ g):=by
 intro e he hz x hx;obtain⟨y,hy,rfl⟩:=zzar.1 he;exact h y hy hz x hx
def DI(p:Pl):∀(l:List Sp)(a:Int),∀e∈Jd p l a,e.id≠0->∀x,Xb e.id p.ens=some x->x.it=e.it
 |[],a,e,h,hz,x,hx=>by
  rw[Jd,zzar]at h;obtain⟨y,_,rfl⟩:=h;exact absurd rfl hz
 |s::r,a,e,h,hz,x,hx=>by
  rw[Jd]at h;cases hs:QE p s a with
  |none=>rw[hs]at h;exact DI p r a e h hz x hx
  |some y=>
   rw[hs]at h;simp only[zzav,zzam,zzar,zzca]at h;obtain⟨z,_,rfl⟩|rfl|h:=h
   ·exact absurd rfl hz
   ·have h1:=(qd hs).1;have h2:=(Qbv h1).2;have hx:Xb y.id p.ens=some x:=hx;rw[h2,h1]at hx;cases hx;rfl
   exact DI p r _ e h hz x hx
def OC(p:Pl)(l:List Sp)(a:Int):∀e∈Kw p l a,e.id≠0->∀x,Xb e.id p.ens=some x->x.it=e.it:=by
 unfold Kw;split
 ·intro e he;cases he
 exact DI p l a
def DJ(f:Int):∀(L:List bC),∀e∈Vz f L,∃y∈L,e.id=y.id/\e.it=y.it
 |[],e,he=>by cases he
 |a::r,e,he=>by
  rw[Vz]at he;split at he
  ·obtain⟨y,h1,h2⟩:=DJ f r e he;exact⟨y,by simp[h1],h2⟩
  rcases zzap.1 he with rfl|he
  ·exact⟨a,zd,rfl,rfl⟩
  obtain⟨y,h1,h2⟩:=DJ f r e he;exact⟨y,by simp[h1],h2⟩
def am5{p:Pl}(h:zV p=0):zX (Yv p):=by
 obtain⟨hv,l,hl⟩:=qf h;have hg:Yv p=⟨p,Kw p l 0,[],0,[],0⟩:=by unfold Yv;rw[hl]
 rw[hg];exact OC p l 0
def yD(id:Int):∀a b:List En,Xb id (a++b)=(Xb id a).or (Xb id b)
 |[],b=>by simp[Xb]
 |x::r,b=>by
  rw[zzae,Xb,Xb,yD id r b];split<;>simp
def yE{id:Int}{P:En->Bool}(hP:∀x:En,x.id=id->P x=true):∀l:List En,Xb id (l.filter P)=Xb id l
 |[]=>rfl
 |x::r=>by
  rw[zzea];by_cases hx:x.id=id
  ·rw[if_pos (hP x hx),Xb,Xb,if_pos hx,if_pos hx]
  rw[Xb,if_neg hx];split
  ·rw[Xb,if_neg hx,yE hP r]
  exact yE hP r
def aah{g:Pg}{f:Int}{b:QR}{o:Od}{q:Pl}{d:Int}(h:Je g f b o=some (q,d)){id:Int}(aL:o.ki=3->id≠o.nw.id){x:En}(hx:Xb id q.ens=some x):∃y,Xb id g.p.ens=some y/\y.it=x.it:=by
 unfold Je at h;by_cases h1:o.ki=1
 ·rw[if_pos h1]at h;unfold lU at h;cases he:g.p.ens[(Yi g o.en).toNat]? with
  |none=>rw[he]at h;cases h
  |some e=>
   rw[he]at h;simp only at h;split at h
   ·cases h
   simp only[Option.some.injEq,Prod.mk.injEq]at h;rw[<- h.1]at hx;simp only at hx
   have key:∀(l:List En)(j:Nat)(e:En),l[j]?=some e->∀e',e'.id=e.id->e'.it=e.it->∀x,Xb id (l.set j e')=some x->∃y,Xb id l=some y/\y.it=x.it:=by
    intro l;induction l with
    |nil=>intro j e hj;simp at hj
    |cons a r ih=>
     intro j e hj e' h1 h2 x hx;cases j with
     |zero=>
      simp at hj;subst hj;rw[List.set_cons_zero,Xb]at hx;rw[Xb];by_cases ha:a.id=id
      ·rw[if_pos (by rw[h1,ha])]at hx;cases hx;exact⟨a,by rw[if_pos ha],h2.symm⟩
      rw[if_neg (by rw[h1];exact ha)]at hx;exact⟨x,by rw[if_neg ha];exact hx,rfl⟩
     |succ j=>
      simp only[zzcc]at hj;rw[zzdq,Xb]at hx;rw[Xb];by_cases ha:a.id=id
      ·rw[if_pos ha]at hx |-
       cases hx;exact⟨a,rfl,rfl⟩
      rw[if_neg ha]at hx |-
      exact ih j e hj e' h1 h2 x hx
   exact key _ _ e he (Du g f b o e) rfl rfl x hx
 rw[if_neg h1]at h;by_cases h2:o.ki=2
 ·rw[if_pos h2]at h;unfold rE at h;split at h
  ·cases h
  cases h;have hx:Xb id (g.p.ens.filter fun e=>!jP o.en e)=some x:=hx
  have aO:id≠o.en:=by
   rintro rfl;have h3:=(Qbv hx);have h4:=(zzbw.1 h3.1).2;simp[jP,h3.2]at h4
  rw[yE (fun y hy=>by simp[jP,hy,aO])]at hx;exact⟨x,hx,rfl⟩
 rw[if_neg h2]at h;by_cases h3:o.ki=3
 ·rw[if_pos h3]at h;cases h;have hx:Xb id (g.p.ens.take (G6 g b)++yo f o::g.p.ens.drop (G6 g b))=some x:=hx;rw[yD,Xb,if_neg (by have:=aL h3;simp only[yo];exact fun hh=>this hh.symm),<- yD,zzdo]at hx;exact⟨x,hx,rfl⟩
 rw[if_neg h3]at h;cases h;exact⟨x,hx,rfl⟩
def afJ{g:Pg}{id:Int}(h:DA g id=false):∀e∈g.ev,e.id≠id:=by
 intro e he AA;unfold DA at h;have:(g.ev.find? fun e=>decide (e.id=id)).isSome=true:=List.find?_isSome.2 ⟨e,he,Nm AA⟩;rw[h]at this;cases this
def aai{g:Pg}{o:Od}{q:Pl}{d:Int}(hE:zX g)(hx:Jc g o.fr (Xp o.fr g.ev []) o=some (q,d)):zX (Kn g o (Xp o.fr g.ev []) q d):=by
 obtain⟨c1,c2,c3,c4⟩:=Qbz hx
 have iU:∀y∈g.ev,y.id≠0->∀x,Xb y.id q.ens=some x->x.it=y.it:=by
  intro y hy hz x hxx
  obtain⟨z,h1,h2⟩:=aah c2 (fun h3=>by
   unfold uR at c4;rw[if_neg zE,if_neg zE,if_pos h3]at c4;simp only[kX,zzac,zzed]at c4;exact afJ c4.1 y hy) hxx
  rw[<- h2];exact hE y hy hz z h1
 intro e he hz x hxx;simp only[Kn,Ui,zzav,zzam,zzar]at he;obtain⟨y,hy,rfl⟩|he|he:=he
 ·obtain⟨w,hw,w1,w2⟩:=DJ _ _ y hy;have hz:y.id≠0:=hz;have hxx:Xb y.id q.ens=some x:=hxx;show x.it=y.it;rw[w2];exact iU w hw (by rw[<- w1];exact hz) x (by rw[<- w1];exact hxx)
 ·have he:uV g o.fr (Xp o.fr g.ev []) o q d=some e:=by simpa using he
  unfold uV at he;split at he
  ·cases he
  rename_i y hy;rw[<- aag]at hy;split at he
  ·cases he
  split at he
  ·cases he
  cases he
  have hm:y∈g.ev:=by
   unfold aaf at hy;cases hf:lS o.fr g.ev with
   |none=>rw[hf]at hy;cases hy
   |some w=>
    rw[hf]at hy;simp only at hy;split at hy
    ·cases hy
    split at hy
    ·cases hy;exact(OD hf).1
    cases hy
  exact iU y hm hz x hxx
 exact OC q _ _ e he hz x hxx
def aaj{g:Pg}{o:Od}(h:zX g):zX (Zg g o):=by
 unfold Zg;split
 ·exact h
 split
 ·cases yB o.cu g.cu<;>exact h
 cases hx:Jc g o.fr (Xp o.fr g.ev []) o with
 |none=>exact h
 |some r=>
  obtain⟨q,d⟩:=r;exact aai h hx
def aak(g:Pg)(id:Int):decide (Yi g id<0)=(Xb id g.p.ens).isNone:=by
 unfold Yi;cases hx:Xb id g.p.ens with
 |none=>rw[LN hx];rfl
 |some x=>
  obtain⟨k,k1,_⟩:=Bx hx;rw[k1];simp
open Go Go.Abs
def RJ(g:Pg)(fr:Int)(mb:T5):T5:=mb++(Qm g::Qr g fr (mb.length+2)::[.aJ 0 (bG .bool (Xp fr g.ev []))]::Qr g fr (mb.length+2)::g.ev.map Qe)
def am6(g:Pg)(fr:Int)(mb:T5)(ml:Pa)(ms:Nat->LS)(mn:Nat)(f:Nat->AV)(m:AM):Prop:=
 ∃(i:Nat)(b:QR),f 16=I i/\i<=g.ev.length/\Xp fr (g.ev.drop i) b=Xp fr g.ev []/\b.length<=i/\
  m=⟨mb++(Qm g::Eh::[.aJ 0 (bG .bool b)]::Qr g fr (mb.length+2)::(g.ev.take i).map Qe),ml,ms,mn⟩
def RK(Y:YT)(m:AM)(g:Pg)(fr:Int)(hl:g.ev.length<=1000000):
  aB Tryz.prog aD Y 43 [.agg (Qm g),I fr] m (fun r m'=>r=.agg (Qr g fr (m.boxes.length+2))/\m'={m with boxes:=RJ g fr m.boxes}):=by
 obtain⟨mb,ml,ms,mn⟩:=m;refine Xn SX (fun _ _ _=>.junk) zd ?_;simp[aj6,Qm,Qa];refine Qi lW (am6 g fr mb ml ms mn) (fun f _=>g.ev.length-(numOf (f 16)).toNat) ?_ ?_
 ·exact⟨0,[],zd,zE,zd,zd,by simp[Qm,Qa,Qr,Eh]⟩
 rintro f m ⟨i,b,KJ,hi,hb,fO,rfl⟩;rcases zzaa i g.ev.length with ai|bq
 ·obtain⟨e,he⟩:=aV ai;have ah:Qh (g.ev.map Qe) i=Qe e:=Qu (by simp[he]);have aa:(i:Int)<(g.ev.length:Int):=zE
  have hw:=bP i zE;have hd:g.ev.drop i=e::g.ev.drop (i+1):=by rw[zzag ai,(zza.1 he).2]
  have bA:(g.ev.take (i+1)).map Qe=(g.ev.take i).map Qe++[Qe e]:=by rw[zzb,he];simp
  generalize(g.ev.take i).map Qe=bx at bA |-
  rw[hd,Xp]at hb;by_cases hs:e.st<fr
  ·rw[if_pos hs]at hb;have fK:=rF e.id true b;rcases Xw AV.bool e.id b 0 with⟨b1,b2,b3,b4⟩|⟨u,n,b1,b2,b3,b4,b5,b6⟩
   ·simp[KJ,lW,aa,ah,hw,Qe,Qm,Qa,Qr,Eh,hs,b2];refine⟨aQ,⟨i+1,Vf e.id true b,zd,zE,hb,zE,by rw[bA];simp[Qm,Qa,Qr,Eh,Qe,b4]⟩,zE⟩
   simp[KJ,lW,aa,ah,hw,Qe,Qm,Qa,Qr,Eh,hs,b2];refine⟨aQ,⟨i+1,Vf e.id true b,zd,zE,hb,zE,by rw[bA];simp[Qm,Qa,Qr,Eh,Qe,b6]⟩,zE⟩
  rw[if_neg hs]at hb;simp[KJ,lW,aa,ah,hw,Qe,Qm,Qa,Qr,Eh,hs];refine⟨aQ,⟨i+1,b,zd,zE,hb,zE,by rw[bA];simp[Qm,Qa,Qr,Eh,Qe]⟩,zE⟩
 obtain rfl:i=g.ev.length:=zE
 rw[zzbu,Xp]at hb;subst hb;simp[KJ,lW,aj7,Qm,Qa,Qr,Eh,RJ]
def am7(g:Pg)(fr:Int)(mb:T5)(h:∀c∈mb,eG c):(∀c∈RJ g fr mb,eG c)/\fL (RJ g fr mb) (mb.length+2) (Xp fr g.ev []):=by
 refine⟨fun c hc=>?_,⟨by simp[RJ],by simp[RJ]⟩⟩;simp only[RJ,zzam,zzap,zzar]at hc;obtain hc|rfl|rfl|rfl|rfl|⟨e,_,rfl⟩:=hc
 ·exact h c hc
 ·exact eG.of (by simp[Qm,Qa]) (Z8 g)
 ·exact eG.mo g fr _
 ·exact eG.map _
 ·exact eG.mo g fr _
 exact eG.of (by simp[Qe]) (DG e)
def afK(g:Pg)(fr:Int)(o:Od)(mb:T5)(ml:Pa)(ms:Nat->LS)(mn:Nat)(h:ZX g fr o)(gI:∀c∈mb,eG c)(v:AV)(hv:zU (Jc g fr (Xp fr g.ev []) o)=v):
  aB Tryz.prog aD Y0 44 [.agg (Qr g fr (mb.length+2)),.agg (Qq o)] ⟨RJ g fr mb,ml,ms,mn⟩ (fun r m'=>r=v/\m'=⟨RJ g fr mb,ml,ms,mn⟩):=by
 obtain⟨h1,h2⟩:=am7 g fr mb gI;exact aB.mono (Oy Y0 ⟨RJ g fr mb,ml,ms,mn⟩ g fr (mb.length+2) _ o h h2 h1) (by rintro r m' ⟨rfl,rfl⟩;exact⟨hv,rfl⟩)
def rO(g:Pg)(o:Od)(h:afF g o):Pure Tryz.prog aD 21 [.agg (Qm g),.agg (Qq o)] (.bool (iu g o)):=by
 obtain⟨hpg,fK,hve,sd,gX,hrn⟩:=h;have DK:=sZ g o fK;have sK:=Bq g.cu o.cu sd;rw[Ht]at sK;unfold iu;simp only[Qm,Qa,Qq,Qd,Qg,Qk,zzae,zzai]at DK sK;cases hc:Uj g o with
 |false=>
  rw[hc]at DK;refine Qp uY (fun _ f l=>if f=41 then .bool false else .gd false .junk) zd ?_;simp[O3,O4,Qm,Qa,Qq,Qd,Qg,Qk];exact DK
 |true=>
  rw[hc]at DK;by_cases h5:o.ki=5
  ·rw[if_pos h5];rw[h5]at DK;cases he:yB o.cu g.cu with
   |none=>
    rw[he]at sK;refine Qp uY (fun _ f l=>if f=41 then .bool true else if f=42 then .aS [.sl .nil [],I 150]else .gd false .junk) zd ?_;simp[O3,O4,Qm,Qa,Qq,Qd,Qg,Qk,h5];exact⟨DK,sK⟩
   |some x=>
    rw[he]at sK;refine Qp uY (fun _ f l=>if f=41 then .bool true else if f=42 then .aS [.sl (tZ x) (x.map Qk),I 0]else .gd false .junk) zd ?_;simp[O3,O4,Qm,Qa,Qq,Qd,Qg,Qk,h5];exact⟨DK,sK⟩
  rw[if_neg h5];have gX:=gX hc h5;have bT:g.ev.length<=1000000:=by have:=hpg.2.1;omega
  have gI:∀c∈[Qm g,Qq o],eG c:=by
   intro c hc;simp only[zzap,zzdl,or_false]at hc;obtain rfl|rfl:=hc
   ·exact eG.of (by simp[Qm,Qa]) (Z8 g)
   exact eG.of (by simp[Qq]) rfl
  have kl:=RK Y0 ⟨[Qm g,Qq o],[],fun _=>.gone,0⟩ g o.fr bT;have kc:=afK g o.fr o [Qm g,Qq o] [] (fun _=>.gone) 0 gX gI;simp only[zzaz,zzco]at kl kc;generalize hM:RJ g o.fr [Qm g,Qq o]=M at kl kc;have hM1:∀x,Qh (M++x) 1=Qq o:=fun x=>by rw[<- hM];simp[RJ]
  have am8:Qh M 1=Qq o:=by rw[<- hM];simp[RJ]
  simp only[Qq,Qd,Qg,Qk,zzae,zzai]at hM1 am8;cases hx:Jc g o.fr (Xp o.fr g.ev []) o with
  |none=>
   have kc:=kc _ (by rw[hx]);simp only[Qm,Qa,Qq,Qd,Qg,Qk,Qr,zzae,zzai]at kl kc;refine Qp uY (fun _ f l=>if f=41 then .bool true else .gd false .junk) zd ?_;simp[O3,O4,Qm,Qa,Qq,Qd,Qg,Qk,h5];refine⟨DK,Fy zd [(.agg (Qr g o.fr 4),⟨M,[],fun _=>.gone,0⟩),(zU none,⟨M,[],fun _=>.gone,0⟩),(.ptr M.length 0,⟨M++[[I 0,I 0,I 0,I 0,.sl .nil [],I 0,I 0,I 0,I 0,.sl .nil [],.sl .nil [],.sl .nil [],.sl .nil [],I 0]],[],fun _=>.gone,0⟩),(.junk,⟨M++[RF],[],fun _=>.gone,0⟩)] ?_⟩;simp[Qr,Qm,Qa,zU,RF,hM1,am8,Qq,Qd,Qg,Qk];exact⟨kl,kc⟩
  |some r=>
   obtain⟨q,d⟩:=r;have kc:=kc _ (by rw[hx]);simp only[Qm,Qa,Qq,Qd,Qg,Qk,Qr,zzae,zzai]at kl kc;refine Qp uY (fun _ f l=>if f=41 then .bool true else .gd false .junk) zd ?_;simp[O3,O4,Qm,Qa,Qq,Qd,Qg,Qk,h5];refine⟨DK,Fy zd [(.agg (Qr g o.fr 4),⟨M,[],fun _=>.gone,0⟩),(zU (some (q,d)),⟨M,[],fun _=>.gone,0⟩),(.ptr M.length 0,⟨M++[[I 0,I 0,I 0,I 0,.sl .nil [],I 0,I 0,I 0,I 0,.sl .nil [],.sl .nil [],.sl .nil [],.sl .nil [],I 0]],[],fun _=>.gone,0⟩),(.junk,⟨M++[Qa q++[I d]],[],fun _=>.gone,0⟩)] ?_⟩;simp[Qr,Qm,Qa,zU,RF,hM1,am8,Qq,Qd,Qg,Qk];simp only[zU,Qa,zzae,zzai]at kc;exact⟨kl,kc⟩
