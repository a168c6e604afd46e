import Derived.Test.YtnopaopphmjnmaaGreatDoorMEMcO
set_option linter.all false
namespace Go.Proofs.YtnopaopphmjnmaaGreatDoor
open Go Go.Abs
def gC(lo up:Int):List bE->Prop
 |[]=>lo<=up
 |e::r=>lo<=e.st/\1<=e.fr/\gC (e.st+e.fr) up r
def gC.le{up:Int}:∀{L:List bE}{lo:Int},gC lo up L->lo<=up/\(L.length:Int)<=up-lo
 |[],lo,h=>⟨h,by simp only[gC]at h;simp only[zzch];omega⟩
 |e::r,lo,h=>by
  obtain⟨h1,h2,h3⟩:=h;have:=gC.le h3;simp only[zzba];omega
def gC.mem{up:Int}:∀{L:List bE}{lo:Int},gC lo up L->∀e∈L,lo<=e.st/\1<=e.fr/\e.st+e.fr<=up
 |x::r,lo,h,e,he=>by
  obtain⟨h1,h2,h3⟩:=h;rcases zzaw.1 he with rfl|he
  ·exact⟨h1,h2,h3.le.1⟩
  have:=gC.mem h3 e he;omega
def gC.low{up lo lo':Int}{L:List bE}(h:gC lo up L)(hl:lo'<=lo):gC lo' up L:=by
 cases L with
 |nil=>simp only[gC]at h |-;omega
 |cons e r=>exact⟨by have:=h.1;omega,h.2⟩
def gC.app{m up:Int}{B:List bE}(hB:gC m up B):∀{A:List bE}{lo:Int},gC lo m A->gC lo up (A++B)
 |[],lo,h=>hB.low h
 |e::r,lo,h=>⟨h.1,h.2.1,gC.app hB h.2.2⟩
def gC.nl{up:Int}:∀{L:List bE}{lo:Int},gC lo up L->gC lo up (L.map Sq)
 |[],lo,h=>h
 |e::r,lo,h=>⟨h.1,h.2.1,gC.nl h.2.2⟩
def gC.anv{up f:Int}:∀{L:List bE}{lo:Int},gC lo up L->f<=lo->Ym f L=[]
 |[],lo,h,hf=>rfl
 |e::r,lo,h,hf=>by
  obtain⟨h1,h2,h3⟩:=h;rw[Ym,if_pos (by omega)];exact gC.anv h3 (by omega)
def gC.bef{up f:Int}:∀{L:List bE}{lo:Int},gC lo up L->lo<=f->gC lo f (Ym f L)
 |[],lo,h,hf=>hf
 |e::r,lo,h,hf=>by
  have hh:=h;obtain⟨h1,h2,h3⟩:=h;rw[Ym];by_cases hs:f<=e.st
  ·rw[if_pos hs,gC.anv h3 (by omega)];exact hf
  rw[if_neg hs];by_cases hl:f-e.st<e.fr
  ·rw[gC.anv h3 (by omega)];simp only[gC,L9,if_pos hl];omega
  refine⟨h1,?_,?_⟩
  ·simp only[L9,if_neg hl];exact h2
  have:=gC.bef h3 (f:=f) (by omega);simp only[L9,if_neg hl];exact this
def akc(p:Pl)(fr t:Int):∀(n:Nat)(a:Int),(t-a).toNat<=n->a<=t->gC a t ((Yd fr t a).map (Vi p)):=by
 intro n;induction n with
 |zero=>intro a h ha;rw[Yd,if_neg (by omega)];exact ha
 |succ n ih=>
  intro a h ha;rw[Yd];split
  ·have hN:1<=Uy fr t a/\Uy fr t a<=t-a:=by unfold Uy;split<;>omega
   have:=ih (a+Uy fr t a) (by omega) (by omega);exact⟨zzbv _,hN.1,this⟩
  exact ha
def HL{p:Pl}{s:Sp}{a:Int}{e:En}(h:pJ p s a=some e):Zf s.1 p.ens=some e/\1<=e.fr/\a<=s.2/\s.2+e.fr<=p.ln:=by
 unfold pJ at h;cases hf:Zf s.1 p.ens with
 |none=>rw[hf]at h;cases h
 |some x=>
  rw[hf]at h;simp only at h;split at h
  ·cases h
  cases h;exact⟨rfl,by omega,by omega,by omega⟩
def aaz(p:Pl):∀(l:List Sp)(a:Int),a<=p.ln->gC a p.ln (zM p l a)
 |[],a,ha=>by rw[zM];exact akc p _ _ _ a (zzab _) ha
 |s::r,a,ha=>by
  rw[zM];cases hs:pJ p s a with
  |none=>exact aaz p r a ha
  |some e=>
   obtain⟨h1,h2,h3,h4⟩:=HL hs;simp only[zzax];refine gC.app ?_ (akc p _ _ _ a (zzab _) h3);exact⟨zzbv _,h2,aaz p r _ h4⟩
def aaA(p:Pl)(l:List Sp)(a:Int)(h0:0<=a)(h1:a<=p.ln):gC a p.ln (jQ p l a):=by
 unfold jQ;rw[if_neg (by omega)];exact aaz p l a h1
def Ph(l:List Sp):Prop:=l.length<=1000/\l.Pairwise (fun a b=>a.1<b.1)/\∀a∈l,1<=a.1
def Ph.nil:Ph []:=⟨by simp,List.Pairwise.nil,fun a ha=>by cases ha⟩
def Ph.filter{l:List Sp}(h:Ph l)(P:Sp->Bool):Ph (l.filter P):=
 ⟨zzbn (zzbr _ _) h.1,h.2.1.filter _,fun a ha=>h.2.2 a (zzcp.1 ha).1⟩
def EvP(e:bE):Prop:=0<=e.i/\e.i<=e.st/\Ph e.al
def HM(fr t:Int):∀(n:Nat)(a:Int),(t-a).toNat<=n->∀x∈Yd fr t a,a<=x.1:=by
 intro n;induction n with
 |zero=>intro a h x hx;rw[Yd,if_neg (by omega)]at hx;cases hx
 |succ n ih=>
  intro a h x hx;rw[Yd]at hx;split at hx
  ·have hN:1<=Uy fr t a:=by unfold Uy;split<;>omega
   rcases zzaw.1 hx with rfl|hx
   ·exact zzbv _
   have:=ih (a+Uy fr t a) (by omega) x hx;omega
  cases hx
def anw(p:Pl)(hp:∀e∈p.ens,Ph e.al):∀(l:List Sp)(a:Int),0<=a->∀e∈zM p l a,EvP e
 |[],a,ha,e,h=>by
  rw[zM,zzbc]at h;obtain⟨x,hx,rfl⟩:=h;have:=HM _ _ _ a (zzab _) x hx;exact⟨zzbv _,by simp only[Vi];omega,Ph.nil⟩
 |s::r,a,ha,e,h=>by
  rw[zM]at h;cases hs:pJ p s a with
  |none=>rw[hs]at h;exact anw p hp r a ha e h
  |some x=>
   obtain⟨h1,h2,h3,h4⟩:=HL hs;rw[hs]at h;simp only[zzax,zzao,zzbc,zzbg]at h;obtain⟨y,hy,rfl⟩|rfl|h:=h
   ·have:=HM _ _ _ a (zzab _) y hy;exact⟨zzbv _,by simp only[Vi];omega,Ph.nil⟩
   ·have:=hp x (jR h1).1;exact⟨zzbv _,by simp only[Gb];omega,this.filter _⟩
   exact anw p hp r _ (by omega) e h
def akd(p:Pl)(hp:∀e∈p.ens,Ph e.al)(l:List Sp)(a:Int)(h0:0<=a):∀e∈jQ p l a,EvP e:=by
 unfold jQ;split
 ·intro e he;cases he
 exact anw p hp l a h0
def anx(f:Int):∀{L:List bE},(∀e∈L,EvP e)->∀e∈Ym f L,EvP e
 |[],h,e,he=>by cases he
 |x::r,h,e,he=>by
  rw[Ym]at he;split at he
  ·exact anx f (fun y hy=>h y (by simp[hy])) e he
  rcases zzaw.1 he with rfl|he
  ·exact h x (by simp)
  exact anx f (fun y hy=>h y (by simp[hy])) e he
def Pj{lo up:Int}:∀{ks:List Int},ks.Pairwise (·<·)->(∀k∈ks,lo<=k/\k<=up)->(ks.length:Int)<=max 0 (up-lo+1)
 |[],_,_=>by simp only[zzch];omega
 |k::r,h,hb=>by
  obtain⟨h1,h2⟩:=zzc.1 h;have hk:=hb k (by simp);have:=Pj (lo:=k+1) (up:=up) h2 (fun x hx=>⟨by have:=h1 x hx;omega,(hb x (by simp[hx])).2⟩);simp only[zzba];omega
def yK{p:Pl}(h:sR p=true):∀e∈p.ens,1<=e.id/\1<=e.fr/\0<=e.ea/\e.ea<=e.la/\e.la<=p.ln-e.fr/\Ph e.al:=by
 intro e he;have hv:=LH h;obtain⟨h1,h2,h3⟩:=hv.ens e he;have OB:=hv.rg;unfold jV at h2;cases hf:Xj e.it p.aM with
 |none=>rw[hf]at h2;cases h2
 |some y=>
  rw[hf]at h2;simp only at h2;split at h2
  ·cases h2
  split at h2
  ·cases h2
  rename_i q2;split at h2
  ·cases h2
  have q2:wi e.fr 1 y.fr=true:=by simpa using q2
  simp only[wi,decide_eq_true_eq]at q2;simp only[zzak,decide_eq_true_eq]at h2;simp only[mU,zzak]at h3;obtain⟨p1,p2⟩:=ZW h3.1;have:=Pj p1 p2;rw[zzbf]at this;exact⟨h1,q2.1,h2.1,h2.2.1,h2.2.2,by omega,List.pairwise_map.1 p1,fun a ha=>(p2 a.1 (zzbc.2 ⟨a,ha,rfl⟩)).1⟩
structure gp (k:Nat) (g:Pg):Prop where
 v:sR g.p=true
 ln:g.p.ln<=600
 sh:g.p.sh.length<=10
 aM:g.p.aM.length<=20
 ens:g.p.ens.length<=10+k
 bks:g.p.bks.length<=8
 cls:g.p.cls.length<=20+k
 ch:gC 0 g.p.ln g.ev
 ep:∀e∈g.ev,EvP e
 cu:g.cu.length<=200
 dr:g.dr.length<=1000*k
 ve:g.ve=k
def gp.dB{k:Nat}{g:Pg}(h:gp k g):gp k (dB g):=
 ⟨h.v,h.ln,h.sh,h.aM,h.ens,h.bks,h.cls,h.ch.nl,fun e he=>by
  obtain⟨x,hx,rfl⟩:=zzbc.1 he;exact h.ep x hx,h.cu,h.dr,h.ve⟩
def gp.plc{k:Nat}{g:Pg}(h:gp k g)(hk:k<=900):Bn g.p:=
 ⟨by have:=h.sh;omega,by have:=h.aM;omega,by have:=h.ens;omega,by have:=h.bks;omega,by have:=h.cls;omega,fun e he=>by have:=(yK h.v e he).2.2.2.2.2.1;omega⟩
def gp.small{k:Nat}{g:Pg}(h:gp k g):g.ev.length<=600/\∀e∈g.ev,Ul e:=by
 have h1:=h.ch.le;have h2:=h.ln;refine⟨by omega,fun e he=>?_⟩;obtain⟨q1,q2,q3⟩:=h.ch.mem e he;obtain⟨q4,q5,q6,_⟩:=h.ep e he;exact⟨⟨by omega,by omega⟩,⟨by omega,by omega⟩,⟨by omega,by omega⟩,by omega⟩
def gp.mo{k:Nat}{g:Pg}{f:Int}(h:gp k g)(hk:k<=900)(hf:0<=f/\f<g.p.ln):mq g f:=
 ⟨by have:=h.small.1;omega,h.small.2,by have:=h.ln;unfold og;omega,by have:=h.ens;omega⟩
def gp.pgc{k:Nat}{g:Pg}(h:gp k g)(hk:k<=900):PgC g:=
 ⟨h.plc hk,by have:=h.small.1;omega,by have:=h.cu;omega,by have:=h.dr;omega,fun e he=>by have:=(h.ep e he).2.2.1;omega⟩
structure Mt (p:Pl):Prop where
 ln:p.ln<=600
 sh:p.sh.length<=10
 aM:p.aM.length<=20
 ens:p.ens.length<=10
 bks:p.bks.length<=8
 cls:p.cls.length<=20
def anz(p:Pl):Mt (R6 p):=
 ⟨by simp only[R6];split<;>omega,by simp[R6];omega,by simp[R6];omega,by simp[R6];omega,by simp[R6];omega,by simp[R6];omega⟩
def aaB{p:Pl}(h:kz p=0):sR p=true/\∃l,I2 p=some l:=by
 unfold kz at h;split at h
 ·cases h
 rename_i hv;cases hl:I2 p with
 |none=>rw[hl]at h;cases h
 |some l=>exact⟨by simpa using hv,l,rfl⟩
def agt{p:Pl}(hp:Mt p)(h:kz p=0):gp 0 (iJ p):=by
 obtain⟨hv,l,hl⟩:=aaB h;have hg:iJ p=⟨p,jQ p l 0,[],0,[],0⟩:=by unfold iJ;rw[hl]
 have cS:=(LH hv).ln;rw[hg];exact⟨hv,hp.ln,hp.sh,hp.aM,hp.ens,hp.bks,hp.cls,aaA p l 0 (by omega) (by omega),akd p (fun e he=>(yK hv e he).2.2.2.2.2) l 0 (by omega),by simp,by simp,rfl⟩
def DS{p:Pl}:∀{ids:List Int}{us en:List (Int×Int)}{free last:Int}{l:List Sp},Jp p ids us en free last=some l->l.length<=ids.length/\∀s∈l,0<=s.2/\s.2<=100000000
 |[],_,_,_,_,l,h=>by cases h;exact⟨zzab _,fun s hs=>by cases hs⟩
 |id::r,us,en,free,last,l,h=>by
  rw[Jp]at h;cases h1:zT id p.ens 0 with
  |none=>rw[h1]at h;cases h
  |some k=>
   rw[h1]at h;simp only at h;split at h
   ·cases h
   cases h2:p.ens[k]? with
   |none=>rw[h2]at h;cases h
   |some e=>
    rw[h2]at h;simp only at h;split at h
    ·cases h
    cases h3:Yh p e (Un en (Kz p e.it) (max e.ea free))with
    |none=>rw[h3]at h;cases h
    |some s=>
     rw[h3]at h;simp only at h;cases h4:Jp p r (Vx us e.it) (Zn p en e.it (s+e.fr)) (s+e.fr) k with
     |none=>rw[h4]at h;cases h
     |some t=>
      rw[h4]at h;cases h;obtain⟨q1,q2⟩:=DS h4;obtain⟨_,_,q3,_,_,q4,_⟩:=Qbi h3;refine⟨by simp only[zzba];omega,fun x hx=>?_⟩;rcases zzaw.1 hx with rfl|hx
      ·exact⟨q3,q4⟩
      exact q2 x hx
def aty{p:Pl}(hp:Mt p)(eP:∀e∈p.ens,e.al.length<=8796093022208)(Ts:∀e∈p.ens,e.ea<=9223372036854775807):agj p:=by
 refine⟨⟨by have:=hp.sh;omega,by have:=hp.aM;omega,by have:=hp.ens;omega,by have:=hp.bks;omega,by have:=hp.cls;omega,eP⟩,by have:=hp.ln;omega,Ts,fun l hl=>?_⟩;unfold I2 at hl;split at hl
 ·cases hl
 obtain⟨h1,h2⟩:=DS hl;have h3:(Uj p).length=p.ens.length:=by simp[Uj]
 have:=hp.ens;refine⟨by omega,fun s hs=>?_⟩;have:=h2 s hs;omega
def agu{o:Od}(h:Jv o=true):o.n=0/\o.nw.al=[]:=by
 simp only[Jv,decide_eq_true_eq]at h;exact⟨h.2.1,h.2.2.2.2.2.2.2.2.2.2⟩
def qh{o:Od}(h:Xw o=true):(0<=o.fr/\o.fr<=100000000)/\(-100000000<=o.n/\o.n<=100000000)/\(0<=o.sq/\o.sq<=200)/\(1<=o.ki/\o.ki<=5):=by
 unfold Xw at h;split at h
 ·cases h
 split at h
 ·cases h
 split at h
 ·cases h
 split at h
 ·cases h
 rename_i h1 h2 h3 h4;rw[zzak]at h;refine⟨by omega,?_,by omega,by omega⟩;by_cases hk:o.ki=1
 ·omega
 have hb:=(agu h.2).1
 have hn:(Jn o).n=o.n:=by
  unfold Jn;rw[if_neg hk];repeat' split
  all_goals rfl
 omega
def qi{g:Pg}{f:Int}{b:List (Int×Bool)}{o:Od}{q:Pl}{d:Int}(h:DH g f b o=some (q,d)):f<g.p.ln/\tf g f b o=some (q,d)/\sR q=true/\DG g f b o q d=true:=by
 unfold DH at h;split at h
 ·cases h
 rename_i hl;cases hb:tf g f b o with
 |none=>rw[hb]at h;cases h
 |some x=>
  obtain⟨q',d'⟩:=x;rw[hb]at h;simp only at h;split at h
  ·rename_i hc;cases h;rw[zzak]at hc;exact⟨by omega,rfl,hc.1,hc.2⟩
  cases h
def kM{g:Pg}{f:Int}{b:List (Int×Bool)}{o:Od}{q:Pl}{d:Int}(h:tf g f b o=some (q,d)):
  q.ln=g.p.ln/\q.sh=g.p.sh/\q.aM=g.p.aM/\q.bks=g.p.bks/\q.ens.length<=g.p.ens.length+1/\q.cls.length<=g.p.cls.length+1/\q.ch=g.p.ch:=by
 unfold tf at h;split at h
 ·unfold rK at h;split at h
  ·cases h
  split at h
  ·cases h
  cases h;exact⟨rfl,rfl,rfl,rfl,by simp,by simp,rfl⟩
 split at h
 ·unfold yq at h;split at h
  ·cases h
  cases h;exact⟨rfl,rfl,rfl,rfl,by have:=zzbr (fun e=>!mX o.en e) g.p.ens;simp only;omega,by simp,rfl⟩
 split at h
 ·cases h;refine⟨rfl,rfl,rfl,rfl,?_,by simp[ot],rfl⟩;simp only[ot,zzah,zzaq,zzba,zzcq];omega
 cases h;exact⟨rfl,rfl,rfl,rfl,by simp[DA],by simp[DA],rfl⟩
def agv{n:Int}(h: -9223372036854775808<=n/\n<=9223372036854775807):Vy n=n:=by unfold Vy;omega
def ake{g:Pg}{f:Int}{b:List (Int×Bool)}{o:Od}{q:Pl}{d:Int}(hk:o.ki=1)(h:tf g f b o=some (q,d))(hv:sR q=true)(hm:DG g f b o q d=true)(cS:g.p.ln<=600):
  (1<=d/\d<=600)/\∀st,Bq g f b o.en=some st->Vy (f-st)<=d/\st+d<=q.ln:=by
 have hq:=(kM h).1;unfold tf at h;rw[if_pos hk]at h;unfold DG at hm;rw[if_pos hk]at hm;unfold rK at h;cases he:g.p.ens[(Ji g o.en).toNat]? with
 |none=>rw[he]at h;cases h
 |some e=>
  rw[he]at h;simp only at h;split at h
  ·cases h
  simp only[Option.some.injEq,Prod.mk.injEq]at h;obtain⟨h1,h2⟩:=h;have ai:=(zza.1 he).1
  have cU:RX g f b o e∈q.ens:=by
   rw[<- h1];exact zzac (zzaz ai)
  obtain⟨_,p1,p2,p3,p4,_⟩:=yK hv _ cU;have uD:(RX g f b o e).fr=d:=h2;rw[uD]at p1 p4;refine⟨by omega,fun st cm=>?_⟩;unfold Qcg at hm;split at hm
  ·cases hm
  split at hm
  ·cases hm
  split at hm
  ·cases hm
  split at hm
  ·cases hm
  split at hm
  ·cases hm
  rw[cm]at hm;simp only at hm;split at hm
  ·cases hm
  refine⟨?_,by omega⟩;rw[<- h2];unfold um;rw[cm];simp only;split<;>omega
def aaC{k:Nat}{g:Pg}{f:Int}{b:List (Int×Bool)}{o:Od}{q:Pl}{d:Int}(h:gp k g)(hk:k<=900)(hf:0<=f)(hc:DH g f b o=some (q,d)){e:bE}(he:qd g f b o q d=some e):
  e.st=f/\1<=e.fr/\f+e.fr<=q.ln/\EvP e:=by
 obtain⟨c1,c2,c3,c4⟩:=qi hc;have hq:=(kM c2).1;have cS:=h.ln;unfold qd at he;cases hp:Jo g f b with
 |none=>rw[hp]at he;cases he
 |some x=>
  rw[hp]at he;simp only at he;cases hF:iI g f o q d x with
  |none=>rw[hF]at he;cases he
  |some F=>
   rw[hF]at he;simp only at he;split at he
   ·cases he
   rename_i qz;cases he
   have hxm:x∈g.ev/\sV f x=true/\x.id≠0:=by
    unfold Jo at hp;cases hfd:g.ev.find? (sV f)with
    |none=>rw[hfd]at hp;cases hp
    |some y=>
     rw[hfd]at hp;simp only at hp;split at hp
     ·cases hp
     split at hp
     ·cases hp;rename_i h1 h2;exact⟨zzeb hfd,zzha hfd,h1⟩
     cases hp
   obtain⟨x1,x2,x3⟩:=hxm;simp only[sV,decide_eq_true_eq]at x2;obtain⟨y1,y2,y3⟩:=h.ch.mem x x1;obtain⟨z1,z2,z3⟩:=h.ep x x1
   have eP:Ph (j8 q f x.id F ((Zf x.id q.ens).getD yu).al):=by
    refine Ph.filter ?_ _;cases hn:Zf x.id q.ens with
    |none=>exact Ph.nil
    |some en=>exact(yK c3 en (jR hn).1).2.2.2.2.2
   have hFF:1<=F/\f+F<=q.ln:=by
    unfold iI at hF;split at hF
    ·rename_i fH;cases hF;obtain⟨d1,d2⟩:=ake fH.1 c2 c3 c4 cS
     have bJ:Bq g f b o.en=some (rJ g x.id):=by
      unfold Bq;rw[hp];simp only;rw[if_pos fH.2.symm]
     obtain⟨e1,e2⟩:=d2 _ bJ;have hb:=Dx (h.mo hk ⟨hf,c1⟩) x.id;rw[agv (by omega)]at e1;omega
    split at hF
    ·cases hF
    split at hF
    ·cases hF
    cases hF;simp only[uU];omega
   exact⟨rfl,hFF.1,hFF.2,by simp only;omega,by simp only;omega,eP⟩
def aaD{k:Nat}{g:Pg}{f:Int}{b:List (Int×Bool)}{o:Od}{q:Pl}{d:Int}(h:gp k g)(hk:k<=900)(hf:0<=f)(hc:DH g f b o=some (q,d)):
  f<=Kn g f b o q d/\Kn g f b o q d<=q.ln/\gC 0 (Kn g f b o q d) (Ki g f b o q d)/\∀e∈Ki g f b o q d,EvP e:=by
 obtain⟨c1,c2,c3,c4⟩:=qi hc;have hq:=(kM c2).1;have hb:=(h.ch.bef (f:=f) hf).nl;have hbp:=anx f h.ep;unfold Kn Ki;cases dA:qd g f b o q d with
 |none=>
  simp only[Option.toList_none,zzat];refine⟨zzbv _,by omega,hb,fun e he=>?_⟩;obtain⟨x,hx,rfl⟩:=zzbc.1 he;exact hbp x hx
 |some e=>
  obtain⟨e1,e2,e3,e4⟩:=aaC h hk hf hc dA;simp only[zzgc];refine⟨by omega,by omega,gC.app ?_ hb,fun x hx=>?_⟩
  ·exact⟨by omega,e2,by simp only[gC];omega⟩
  rcases zzao.1 hx with hx|hx
  ·obtain⟨y,hy,rfl⟩:=zzbc.1 hx;exact hbp y hy
  rw[zzbg]at hx;rw[hx];exact e4
def atz{k:Nat}{g:Pg}{f:Int}{b:List (Int×Bool)}{o:Od}{q:Pl}{d:Int}(h:gp k g)(hk:k<=900)(hf:0<=f)(fH:1<=o.ki/\o.ki<=5)(hc:DH g f b o=some (q,d)):
  HA g f b o q d/\(Yy g f b o q d).length<=1000000/\(iu g f b o q d).length<=10000000:=by
 obtain⟨c1,c2,c3,c4⟩:=qi hc;obtain⟨q1,q2,q3,q4,q5,q6,q7⟩:=kM c2;obtain⟨n1,n2,n3,n4⟩:=aaD h hk hf hc;have cS:=h.ln;have Ys:=LH c3;have IN:=yK c3
 have cm:(Yy g f b o q d).length<=1000/\∀s∈Yy g f b o q d,0<=s.2/\s.2<=100000000:=by
  unfold Yy;cases hs:Yw q (Kn g f b o q d) (qf g f b o q d) (Xc true (Kg g b q.ens) (tj g f b o q d))with
  |none=>exact⟨by simp,fun s hs=>by cases hs⟩
  |some l=>
   obtain⟨s1,s2⟩:=DS hs;have t1:=qg true (Kg g b q.ens) (tj g f b o q d);have t2:=ku g b q.ens;have t3:=h.ens;exact⟨by simp only[zzgt];omega,s2⟩
 have iL:=aaA q (Yy g f b o q d) (Kn g f b o q d) (by omega) n2
 have hd:0<=d/\d<=1000000000:=by
  by_cases h1:o.ki=1
  ·have:=(ake h1 c2 c3 c4 cS).1;omega
  unfold tf at c2;rw[if_neg h1]at c2;split at c2
  ·cases ei:yq g o with
   |none=>rw[ei]at c2;cases c2
   |some x=>rw[ei]at c2;cases c2;omega
  split at c2<;>cases c2<;>omega
 have hpc:Bn q:=⟨by rw[q2];have:=h.sh;omega,by rw[q3];have:=h.aM;omega,by have:=h.ens;omega,by rw[q4];have:=h.bks;omega,by have:=h.cls;omega,fun e he=>by have:=(IN e he).2.2.2.2.2.1;omega⟩;refine⟨⟨h.mo hk ⟨hf,c1⟩,hpc,?_,hd,by have:=Ys.rg;omega,by omega,by have:=h.small.1;omega,by have:=h.dr;omega,by omega,?_,by omega,fun s hs=>by have:=cm.2 s hs;omega⟩,by have:=cm.1;omega,?_⟩
 ·exact⟨by have:=h.cls;omega,by rw[q2];have:=h.sh;omega,by rw[q3];have:=h.aM;omega,by have:=h.ens;omega,by rw[q4];have:=h.bks;omega,fun e he=>(IN e he).2.2.2.2.2.1,by have:=Ys.ln;omega,
   fun e he=>by have:=IN e he;omega,fun e he=>by have:=IN e he;omega,fun e he=>by have:=IN e he;omega⟩
 ·intro e he;obtain⟨e1,e2,e3,e4,e5,e6,_⟩:=aaC h hk hf hc he;exact⟨⟨by omega,by omega⟩,⟨by omega,by omega⟩,⟨by omega,by omega⟩,by omega⟩
 have:=iL.le.2;unfold iu;omega
def zZ(o:Od):Prop:=o.nw.al.length<=1000
def aaE{k:Nat}{g:Pg}{o:Od}(h:gp k g)(hk:k<=900)(ho:zZ o):Su g o:=by
 unfold zZ at ho;refine⟨h.pgc hk,by omega,by have:=h.ve;omega,by have:=h.cu;omega,fun hc _=>?_,fun hc _ q d hx=>?_⟩
 ·have hv:Xw o=true:=by unfold LM at hc;rw[zzak]at hc;exact hc.1
  obtain⟨v1,v2,v3,v4⟩:=qh hv;exact⟨fun hl=>h.mo hk ⟨v1.1,hl⟩,h.plc hk,v1.1,by have:=h.ln;omega,by unfold sZ;omega,fun e he=>by have:=yK h.v e he;have:=h.ln;unfold sZ;omega,by have:=h.dr;omega,by omega⟩
 have hv:Xw o=true:=by unfold LM at hc;rw[zzak]at hc;exact hc.1
 obtain⟨v1,v2,v3,v4⟩:=qh hv;exact atz h hk v1.1 v4 hx
def SG{k:Nat}{g:Pg}{o:Od}(h:gp k g)(hk:k<=900):gp (k+1) (Zr g o):=by
 have hup:gp (k+1) {g with ve:=g.ve+1}:=⟨h.v,h.ln,h.sh,h.aM,by have:=h.ens;simp only;omega,h.bks,by have:=h.cls;simp only;omega,h.ch,h.ep,h.cu,by have:=h.dr;simp only;omega,by have:=h.ve;simp only;omega⟩;unfold Zr;split
 ·exact hup
 rename_i hc;split
 ·cases he:St o.cu g.cu with
  |none=>exact hup
  |some x=>
   refine⟨h.v,h.ln,h.sh,h.aM,by have:=h.ens;simp only;omega,h.bks,by have:=h.cls;simp only;omega,h.ch,h.ep,?_,by have:=h.dr;simp only;omega,by have:=h.ve;simp only;omega⟩;unfold St at he;split at he
   ·split at he
    ·cases he
    cases he;simp only;omega
   cases he
 cases hx:DH g o.fr (Yl o.fr g.ev []) o with
 |none=>exact hup
 |some r=>
  obtain⟨q,d⟩:=r
  have hv:Xw o=true:=by
   have hc:LM g o=true:=by simpa using hc
   unfold LM at hc;rw[zzak]at hc;exact hc.1
  obtain⟨v1,v2,v3,v4⟩:=qh hv;obtain⟨c1,c2,c3,c4⟩:=qi hx;obtain⟨q1,q2,q3,q4,q5,q6,q7⟩:=kM c2;obtain⟨n1,n2,n3,n4⟩:=aaD h hk v1.1 hx;have iL:=aaA q (Yy g o.fr (Yl o.fr g.ev []) o q d) _ (by omega) n2;have hbp:=akd q (fun e he=>(yK c3 e he).2.2.2.2.2) (Yy g o.fr (Yl o.fr g.ev []) o q d) (Kn g o.fr (Yl o.fr g.ev []) o q d) (by omega);refine⟨c3,by show q.ln<=600;have:=h.ln;omega,by show q.sh.length<=10;rw[q2];exact h.sh,by show q.aM.length<=20;rw[q3];exact h.aM,by show q.ens.length<=10+(k+1);have:=h.ens;omega,by show q.bks.length<=8;rw[q4];exact h.bks,by show q.cls.length<=20+(k+1);have:=h.cls;omega,gC.app iL n3,?_,h.cu,?_,by show g.ve+1=_;have:=h.ve;omega⟩
  ·intro e he;rcases zzao.1 he with he|he
   ·exact n4 e he
   exact hbp e he
  show(dd (Wt (g.dr++O6 g o.fr (Yl o.fr g.ev []) o q d))).length<=1000*(k+1);have t1:=KU (Wt (g.dr++O6 g o.fr (Yl o.fr g.ev []) o q d));rw[rQ,zzah]at t1;have t2:=qg false (Kg g (Yl o.fr g.ev []) q.ens) (tj g o.fr (Yl o.fr g.ev []) o q d);have t3:=ku g (Yl o.fr g.ev []) q.ens;have t4:=h.ens;have t5:=h.dr;unfold O6 at t1;unfold O6;omega
structure Tx (M:Md):Prop where
 n:∀l∈M.ps,l.length=M.os.length+1
 pr:∀l∈M.ps,∀i g,l[i]?=some g->gp i g
 fr:∀o∈M.os,0<=o.2/\o.2<=100000000
 los:M.os.length<=200
def Pk:∀{ps:List Pl}{i:Nat}{M M':Md},(∀p∈ps,Mt p)->Tx M->M.os=[]->uq i ps M=some M'->Tx M'/\M'.os=[]
 |[],i,M,M',hp,hM,ho,h=>by rw[uq]at h;cases h;exact⟨hM,ho⟩
 |p::r,i,M,M',hp,hM,ho,h=>by
  rw[uq]at h;split at h
  ·cases h
  rename_i hc
  have hb:kz p=0:=by
   by_cases hb:kz p=0
   ·exact hb
   exact absurd (Or.inr hb) hc
  refine Pk (M:={M with pl:=Vb p.ch (i:Int) M.pl,ps:=M.ps++[[iJ p]]}) (fun x hx=>hp x (by simp[hx])) ⟨fun l hl=>?_,fun l hl j g hg=>?_,hM.fr,hM.los⟩ ho h
  ·rcases zzao.1 hl with hl|hl
   ·exact hM.n l hl
   rw[zzbg]at hl;subst hl;simp[ho]
  rcases zzao.1 hl with hl|hl
  ·exact hM.pr l hl j g hg
  rw[zzbg]at hl;subst hl;cases j with
  |zero=>simp at hg;subst hg;exact agt (hp p (by simp)) hb
  |succ j=>simp at hg
def DT{ps:List Pl}{M:Md}(hp:∀p∈ps,Mt p)(h:mw ps=some M):Tx M/\M.os=[]:=by
 unfold mw at h;split at h
 ·cases h
 exact Pk hp ⟨(fun l hl=>by cases hl),(fun l hl=>by cases hl),(fun o ho=>by cases ho),by simp[md0]⟩ rfl h
def Pm{M M':Md}{o:Od}(h:Tx M)(hs:DP M o=some M'):Tx M'/\M'.os=M.os++[(o.sq,o.fr)]/\M'.pl=M.pl:=by
 unfold DP at hs;split at hs
 ·cases hs
 rename_i hx;cases hs;unfold DO at hx;simp only[Bool.not_eq_true,zzew,Bool.not_eq_false',decide_eq_false_iff_not,Decidable.not_not]at hx;obtain⟨v1,v2,v3,v4⟩:=qh hx.1;refine⟨⟨fun l hl=>?_,fun l hl i g hg=>?_,fun x hx=>?_,by simp only[zzah,zze];omega⟩,rfl,rfl⟩
 ·obtain⟨l0,oA,rfl⟩:=zzbc.1 hl;have:=h.n l0 oA;obtain⟨x,hx⟩:∃x,l0[M.os.length]?=some x:=⟨_,zzad (by omega)⟩;simp[Yt,this]
 ·obtain⟨l0,oA,rfl⟩:=zzbc.1 hl;have hn:=h.n l0 oA;obtain⟨x,hx⟩:∃x,l0[M.os.length]?=some x:=⟨_,zzad (by omega)⟩;have hnx:Yt o M.os.length l0=l0++[Zr (dB x) o]:=by unfold Yt;rw[hx];rfl
  rw[hnx]at hg;by_cases hi:i<l0.length
  ·rw[zzag hi]at hg;exact h.pr l0 oA i g hg
  have hi2:i=l0.length:=by
   have:=(zza.1 hg).1;rw[zzah,zze]at this;omega
  subst hi2;rw[zzan (zzab _)]at hg;simp at hg;subst hg;rw[hn];exact SG (h.pr l0 oA _ _ hx).dB (by have:=h.los;omega)
 rcases zzao.1 hx with hx|hx
 ·exact h.fr x hx
 rw[zzbg]at hx;subst hx;exact v1
end Go.Proofs.YtnopaopphmjnmaaGreatDoor
