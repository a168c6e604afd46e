import Derived.Test.YtnopaopphmjnmaaGreatDoorMQMcO
set_option linter.all false
namespace Go.Proofs.YtnopaopphmjnmaaGreatDoor
open Go Go.Abs
def gE(lo up:Int):List bE->Prop
 |[]=>lo<=up
 |e::r=>lo<=e.st/\1<=e.fr/\gE (e.st+e.fr) up r
def gE.le{up:Int}:∀{L:List bE}{lo:Int},gE lo up L->lo<=up/\(L.length:Int)<=up-lo
 |[],lo,h=>⟨h,by simp only[gE]at h;simp only[zzcf];omega⟩
 |e::r,lo,h=>by
  obtain⟨h1,h2,h3⟩:=h;have:=gE.le h3;simp only[zzbe];omega
def gE.mem{up:Int}:∀{L:List bE}{lo:Int},gE lo up L->∀e∈L,lo<=e.st/\1<=e.fr/\e.st+e.fr<=up
 |x::r,lo,h,e,he=>by
  obtain⟨h1,h2,h3⟩:=h;rcases zzat.1 he with rfl|he
  ·exact⟨h1,h2,h3.le.1⟩
  have:=gE.mem h3 e he;omega
def gE.low{up lo lo':Int}{L:List bE}(h:gE lo up L)(hl:lo'<=lo):gE lo' up L:=by
 cases L with
 |nil=>simp only[gE]at h |-;omega
 |cons e r=>exact⟨by have:=h.1;omega,h.2⟩
def gE.app{m up:Int}{B:List bE}(hB:gE m up B):∀{A:List bE}{lo:Int},gE lo m A->gE lo up (A++B)
 |[],lo,h=>hB.low h
 |e::r,lo,h=>⟨h.1,h.2.1,gE.app hB h.2.2⟩
def gE.nl{up:Int}:∀{L:List bE}{lo:Int},gE lo up L->gE lo up (L.map Td)
 |[],lo,h=>h
 |e::r,lo,h=>⟨h.1,h.2.1,gE.nl h.2.2⟩
def gE.aon{up f:Int}:∀{L:List bE}{lo:Int},gE lo up L->f<=lo->Ye f L=[]
 |[],lo,h,hf=>rfl
 |e::r,lo,h,hf=>by
  obtain⟨h1,h2,h3⟩:=h;rw[Ye,if_pos zE];exact gE.aon h3 zE
def gE.bef{up f:Int}:∀{L:List bE}{lo:Int},gE lo up L->lo<=f->gE lo f (Ye f L)
 |[],lo,h,hf=>hf
 |e::r,lo,h,hf=>by
  have hh:=h;obtain⟨h1,h2,h3⟩:=h;rw[Ye];by_cases hs:f<=e.st
  ·rw[if_pos hs,gE.aon h3 zE];exact hf
  rw[if_neg hs];by_cases hl:f-e.st<e.fr
  ·rw[gE.aon h3 zE];simp only[gE,HS,if_pos hl];omega
  refine⟨h1,?_,?_⟩
  ·simp only[HS,if_neg hl];exact h2
  have:=gE.bef h3 (f:=f) zE;simp only[HS,if_neg hl];exact this
def akX(p:Pl)(fr t:Int):∀(n:Nat)(a:Int),(t-a).toNat<=n->a<=t->gE a t ((Yc fr t a).map (Vg p)):=by
 intro n;induction n with
 |zero=>intro a h ha;rw[Yc,if_neg zE];exact ha
 |succ n ih=>
  intro a h ha;rw[Yc];split
  ·have hN:1<=Uy fr t a/\Uy fr t a<=t-a:=by unfold Uy;split<;>omega
   have:=ih (a+Uy fr t a) zE zE;exact⟨zzbq _,hN.1,this⟩
  exact ha
def Ir{p:Pl}{s:Sp}{a:Int}{e:En}(h:mU p s a=some e):Zh s.1 p.ens=some e/\1<=e.fr/\a<=s.2/\s.2+e.fr<=p.ln:=by
 unfold mU at h;cases hf:Zh s.1 p.ens with
 |none=>rw[hf]at h;cases h
 |some x=>
  rw[hf]at h;simp only at h;split at h
  ·cases h
  cases h;exact⟨rfl,zE,zE,zE⟩
def abj(p:Pl):∀(l:List Sp)(a:Int),a<=p.ln->gE a p.ln (uY p l a)
 |[],a,ha=>by rw[uY];exact akX p _ _ _ a (zzab _) ha
 |s::r,a,ha=>by
  rw[uY];cases hs:mU p s a with
  |none=>exact abj p r a ha
  |some e=>
   obtain⟨h1,h2,h3,h4⟩:=Ir hs;simp only[zzb];refine gE.app ?_ (akX p _ _ _ a (zzab _) h3);exact⟨zzbq _,h2,abj p r _ h4⟩
def abk(p:Pl)(l:List Sp)(a:Int)(h0:0<=a)(h1:a<=p.ln):gE a p.ln (DC p l a):=by
 unfold DC;rw[if_neg zE];exact abj p l a h1
def PO(l:List Sp):Prop:=l.length<=1000/\l.Pairwise (fun a b=>a.1<b.1)/\∀a∈l,1<=a.1
def PO.nil:PO []:=⟨zd,List.Pairwise.nil,fun a ha=>by cases ha⟩
def PO.filter{l:List Sp}(h:PO l)(P:Sp->Bool):PO (l.filter P):=
 ⟨zzbg (zzbs _ _) h.1,h.2.1.filter _,fun a ha=>h.2.2 a (zzcg.1 ha).1⟩
def EvP(e:bE):Prop:=0<=e.i/\e.i<=e.st/\PO e.al
def Is(fr t:Int):∀(n:Nat)(a:Int),(t-a).toNat<=n->∀x∈Yc fr t a,a<=x.1:=by
 intro n;induction n with
 |zero=>intro a h x hx;rw[Yc,if_neg zE]at hx;cases hx
 |succ n ih=>
  intro a h x hx;rw[Yc]at hx;split at hx
  ·have hN:1<=Uy fr t a:=by unfold Uy;split<;>omega
   rcases zzat.1 hx with rfl|hx
   ·exact zzbq _
   have:=ih (a+Uy fr t a) zE x hx;omega
  cases hx
def aoo(p:Pl)(hp:∀e∈p.ens,PO e.al):∀(l:List Sp)(a:Int),0<=a->∀e∈uY p l a,EvP e
 |[],a,ha,e,h=>by
  rw[uY,zzax]at h;obtain⟨x,hx,rfl⟩:=h;have:=Is _ _ _ a (zzab _) x hx;exact⟨zzbq _,by simp only[Vg];omega,PO.nil⟩
 |s::r,a,ha,e,h=>by
  rw[uY]at h;cases hs:mU p s a with
  |none=>rw[hs]at h;exact aoo p hp r a ha e h
  |some x=>
   obtain⟨h1,h2,h3,h4⟩:=Ir hs;rw[hs]at h;simp only[zzb,zzam,zzax,zzbd]at h;obtain⟨y,hy,rfl⟩|rfl|h:=h
   ·have:=Is _ _ _ a (zzab _) y hy;exact⟨zzbq _,by simp only[Vg];omega,PO.nil⟩
   ·have:=hp x (jT h1).1;exact⟨zzbq _,by simp only[z8];omega,this.filter _⟩
   exact aoo p hp r _ zE e h
def akY(p:Pl)(hp:∀e∈p.ens,PO e.al)(l:List Sp)(a:Int)(h0:0<=a):∀e∈DC p l a,EvP e:=by
 unfold DC;split
 ·intro e he;cases he
 exact aoo p hp l a h0
def aop(f:Int):∀{L:List bE},(∀e∈L,EvP e)->∀e∈Ye f L,EvP e
 |[],h,e,he=>by cases he
 |x::r,h,e,he=>by
  rw[Ye]at he;split at he
  ·exact aop f (fun y hy=>h y (by simp[hy])) e he
  rcases zzat.1 he with rfl|he
  ·exact h x zd
  exact aop f (fun y hy=>h y (by simp[hy])) e he
def PR{lo up:Int}:∀{ks:List Int},ks.Pairwise (·<·)->(∀k∈ks,lo<=k/\k<=up)->(ks.length:Int)<=max 0 (up-lo+1)
 |[],_,_=>by simp only[zzcf];omega
 |k::r,h,hb=>by
  obtain⟨h1,h2⟩:=zzch.1 h;have hk:=hb k zd;have:=PR (lo:=k+1) (up:=up) h2 (fun x hx=>⟨by have:=h1 x hx;omega,(hb x (by simp[hx])).2⟩);simp only[zzbe];omega
def yY{p:Pl}(h:oa p=true):∀e∈p.ens,1<=e.id/\1<=e.fr/\0<=e.ea/\e.ea<=e.la/\e.la<=p.ln-e.fr/\PO e.al:=by
 intro e he;have hv:=rV h;obtain⟨h1,h2,h3⟩:=hv.ens e he;have EL:=hv.rg;unfold jX at h2;cases hf:Xh e.it p.aN with
 |none=>rw[hf]at h2;cases h2
 |some y=>
  rw[hf]at h2;simp only at h2;split at h2
  ·cases h2
  split at h2
  ·cases h2
  rename_i q2;split at h2
  ·cases h2
  have q2:wi e.fr 1 y.fr=true:=by simpa using q2
  simp only[wi,decide_eq_true_eq]at q2;simp only[zzak,decide_eq_true_eq]at h2;simp only[mW,zzak]at h3;obtain⟨p1,p2⟩:=aaB h3.1;have:=PR p1 p2;rw[zzbj]at this;exact⟨h1,q2.1,h2.1,h2.2.1,h2.2.2,zE,List.pairwise_map.1 p1,fun a ha=>(p2 a.1 (zzax.2 ⟨a,ha,rfl⟩)).1⟩
structure gC (k:Nat) (g:Pg):Prop where
 v:oa g.p=true
 ln:g.p.ln<=600
 sh:g.p.sh.length<=10
 aN:g.p.aN.length<=20
 ens:g.p.ens.length<=10+k
 bks:g.p.bks.length<=8
 cls:g.p.cls.length<=20+k
 ch:gE 0 g.p.ln g.ev
 ep:∀e∈g.ev,EvP e
 cu:g.cu.length<=200
 dr:g.dr.length<=1000*k
 ve:g.ve=k
def gC.cr{k:Nat}{g:Pg}(h:gC k g):gC k (cr g):=
 ⟨h.v,h.ln,h.sh,h.aN,h.ens,h.bks,h.cls,h.ch.nl,fun e he=>by
  obtain⟨x,hx,rfl⟩:=zzax.1 he;exact h.ep x hx,h.cu,h.dr,h.ve⟩
def gC.plc{k:Nat}{g:Pg}(h:gC k g)(hk:k<=900):BJ g.p:=
 ⟨by have:=h.sh;omega,by have:=h.aN;omega,by have:=h.ens;omega,by have:=h.bks;omega,by have:=h.cls;omega,fun e he=>by have:=(yY h.v e he).2.2.2.2.2.1;omega⟩
def gC.small{k:Nat}{g:Pg}(h:gC k g):g.ev.length<=600/\∀e∈g.ev,Ul e:=by
 have h1:=h.ch.le;have h2:=h.ln;refine⟨zE,fun e he=>?_⟩;obtain⟨q1,q2,q3⟩:=h.ch.mem e he;obtain⟨q4,q5,q6,_⟩:=h.ep e he;exact⟨⟨zE,zE⟩,⟨zE,zE⟩,⟨zE,zE⟩,zE⟩
def gC.mo{k:Nat}{g:Pg}{f:Int}(h:gC k g)(hk:k<=900)(hf:0<=f/\f<g.p.ln):mg g f:=
 ⟨by have:=h.small.1;omega,h.small.2,by have:=h.ln;unfold om;omega,by have:=h.ens;omega⟩
def gC.pgc{k:Nat}{g:Pg}(h:gC k g)(hk:k<=900):PgC g:=
 ⟨h.plc hk,by have:=h.small.1;omega,by have:=h.cu;omega,by have:=h.dr;omega,fun e he=>by have:=(h.ep e he).2.2.1;omega⟩
structure Tp (p:Pl):Prop where
 ln:p.ln<=600
 sh:p.sh.length<=10
 aN:p.aN.length<=20
 ens:p.ens.length<=10
 bks:p.bks.length<=8
 cls:p.cls.length<=20
def aoq(p:Pl):Tp (SN p):=
 ⟨by simp only[SN];split<;>omega,by simp[SN];omega,by simp[SN];omega,by simp[SN];omega,by simp[SN];omega,by simp[SN];omega⟩
def Iu{p:Pl}(h:zD p=0):oa p=true/\∃l,J2 p=some l:=by
 unfold zD at h;split at h
 ·cases h
 rename_i hv;cases hl:J2 p with
 |none=>rw[hl]at h;cases h
 |some l=>exact⟨by simpa using hv,l,rfl⟩
def ag5{p:Pl}(hp:Tp p)(h:zD p=0):gC 0 (uD p):=by
 obtain⟨hv,l,hl⟩:=Iu h;have hg:uD p=⟨p,DC p l 0,[],0,[],0⟩:=by unfold uD;rw[hl]
 have dy:=(rV hv).ln;rw[hg];exact⟨hv,hp.ln,hp.sh,hp.aN,hp.ens,hp.bks,hp.cls,abk p l 0 zE zE,akY p (fun e he=>(yY hv e he).2.2.2.2.2) l 0 zE,zd,zd,rfl⟩
def Ek{p:Pl}:∀{ids:List Int}{us en:List (Int×Int)}{free last:Int}{l:List Sp},Jq p ids us en free last=some l->l.length<=ids.length/\∀s∈l,0<=s.2/\s.2<=100000000
 |[],_,_,_,_,l,h=>by cases h;exact⟨zzab _,fun s hs=>by cases hs⟩
 |id::r,us,en,free,last,l,h=>by
  rw[Jq]at h;cases h1:Ah id p.ens 0 with
  |none=>rw[h1]at h;cases h
  |some k=>
   rw[h1]at h;simp only at h;split at h
   ·cases h
   cases h2:p.ens[k]? with
   |none=>rw[h2]at h;cases h
   |some e=>
    rw[h2]at h;simp only at h;split at h
    ·cases h
    cases h3:Yi p e (Um en (Wh p e.it) (max e.ea free))with
    |none=>rw[h3]at h;cases h
    |some s=>
     rw[h3]at h;simp only at h;cases h4:Jq p r (Vu us e.it) (Zt p en e.it (s+e.fr)) (s+e.fr) k with
     |none=>rw[h4]at h;cases h
     |some t=>
      rw[h4]at h;cases h;obtain⟨q1,q2⟩:=Ek h4;obtain⟨_,_,q3,_,_,q4,_⟩:=Qbh h3;refine⟨by simp only[zzbe];omega,fun x hx=>?_⟩;rcases zzat.1 hx with rfl|hx
      ·exact⟨q3,q4⟩
      exact q2 x hx
def auE{p:Pl}(hp:Tp p)(eD:∀e∈p.ens,e.al.length<=8796093022208)(UD:∀e∈p.ens,e.ea<=9223372036854775807):agW p:=by
 refine⟨⟨by have:=hp.sh;omega,by have:=hp.aN;omega,by have:=hp.ens;omega,by have:=hp.bks;omega,by have:=hp.cls;omega,eD⟩,by have:=hp.ln;omega,UD,fun l hl=>?_⟩;unfold J2 at hl;split at hl
 ·cases hl
 obtain⟨h1,h2⟩:=Ek hl;have h3:(Uj p).length=p.ens.length:=by simp[Uj]
 have:=hp.ens;refine⟨zE,fun s hs=>?_⟩;have:=h2 s hs;omega
def ag6{o:Od}(h:Jy o=true):o.n=0/\o.nw.al=[]:=by
 simp only[Jy,decide_eq_true_eq]at h;exact⟨h.2.1,h.2.2.2.2.2.2.2.2.2.2⟩
def Qdd{o:Od}(h:Xy o=true):(0<=o.fr/\o.fr<=100000000)/\(-100000000<=o.n/\o.n<=100000000)/\(0<=o.sq/\o.sq<=200)/\(1<=o.ki/\o.ki<=5):=by
 unfold Xy at h;split at h
 ·cases h
 split at h
 ·cases h
 split at h
 ·cases h
 split at h
 ·cases h
 rename_i h1 h2 h3 h4;rw[zzak]at h;refine⟨zE,?_,zE,zE⟩;by_cases hk:o.ki=1
 ·omega
 have hb:=(ag6 h.2).1
 have hn:(Jo o).n=o.n:=by
  unfold Jo;rw[if_neg hk];repeat' split
  all_goals rfl
 omega
def kM{g:Pg}{f:Int}{b:List (Int×Bool)}{o:Od}{q:Pl}{d:Int}(h:yR g f b o=some (q,d)):f<g.p.ln/\Wq g f b o=some (q,d)/\oa q=true/\D7 g f b o q d=true:=by
 unfold yR at h;split at h
 ·cases h
 rename_i hl;cases hb:Wq g f b o with
 |none=>rw[hb]at h;cases h
 |some x=>
  obtain⟨q',d'⟩:=x;rw[hb]at h;simp only at h;split at h
  ·rename_i hc;cases h;rw[zzak]at hc;exact⟨zE,rfl,hc.1,hc.2⟩
  cases h
def kN{g:Pg}{f:Int}{b:List (Int×Bool)}{o:Od}{q:Pl}{d:Int}(h:Wq g f b o=some (q,d)):
  q.ln=g.p.ln/\q.sh=g.p.sh/\q.aN=g.p.aN/\q.bks=g.p.bks/\q.ens.length<=g.p.ens.length+1/\q.cls.length<=g.p.cls.length+1/\q.ch=g.p.ch:=by
 unfold Wq at h;split at h
 ·unfold rY at h;split at h
  ·cases h
  split at h
  ·cases h
  cases h;exact⟨rfl,rfl,rfl,rfl,zd,zd,rfl⟩
 split at h
 ·unfold yF at h;split at h
  ·cases h
  cases h;exact⟨rfl,rfl,rfl,rfl,by have:=zzbs (fun e=>!mZ o.en e) g.p.ens;simp only;omega,zd,rfl⟩
 split at h
 ·cases h;refine⟨rfl,rfl,rfl,rfl,?_,by simp[ov],rfl⟩;simp only[ov,zzai,zzaq,zzbe,zzcr];omega
 cases h;exact⟨rfl,rfl,rfl,rfl,by simp[Ak],by simp[Ak],rfl⟩
def ag7{n:Int}(h: -9223372036854775808<=n/\n<=9223372036854775807):Vx n=n:=by unfold Vx;omega
def akZ{g:Pg}{f:Int}{b:List (Int×Bool)}{o:Od}{q:Pl}{d:Int}(hk:o.ki=1)(h:Wq g f b o=some (q,d))(hv:oa q=true)(hm:D7 g f b o q d=true)(dy:g.p.ln<=600):
  (1<=d/\d<=600)/\∀st,BM g f b o.en=some st->Vx (f-st)<=d/\st+d<=q.ln:=by
 have hq:=(kN h).1;unfold Wq at h;rw[if_pos hk]at h;unfold D7 at hm;rw[if_pos hk]at hm;unfold rY at h;cases he:g.p.ens[(Jj g o.en).toNat]? with
 |none=>rw[he]at h;cases h
 |some e=>
  rw[he]at h;simp only at h;split at h
  ·cases h
  simp only[Option.some.injEq,Prod.mk.injEq]at h;obtain⟨h1,h2⟩:=h;have ai:=(zza.1 he).1
  have dU:SH g f b o e∈q.ens:=by
   rw[<- h1];exact zzac (zzba ai)
  obtain⟨_,p1,p2,p3,p4,_⟩:=yY hv _ dU;have iS:(SH g f b o e).fr=d:=h2;rw[iS]at p1 p4;refine⟨zE,fun st ct=>?_⟩;unfold Qch at hm;split at hm
  ·cases hm
  split at hm
  ·cases hm
  split at hm
  ·cases hm
  split at hm
  ·cases hm
  split at hm
  ·cases hm
  rw[ct]at hm;simp only at hm;split at hm
  ·cases hm
  refine⟨?_,zE⟩;rw[<- h2];unfold uA;rw[ct];simp only;split<;>omega
def abl{k:Nat}{g:Pg}{f:Int}{b:List (Int×Bool)}{o:Od}{q:Pl}{d:Int}(h:gC k g)(hk:k<=900)(hf:0<=f)(hc:yR g f b o=some (q,d)){e:bE}(he:mj g f b o q d=some e):
  e.st=f/\1<=e.fr/\f+e.fr<=q.ln/\EvP e:=by
 obtain⟨c1,c2,c3,c4⟩:=kM hc;have hq:=(kN c2).1;have dy:=h.ln;unfold mj at he;cases hp:Jp g f b with
 |none=>rw[hp]at he;cases he
 |some x=>
  rw[hp]at he;simp only at he;cases hF:iM g f o q d x with
  |none=>rw[hF]at he;cases he
  |some F=>
   rw[hF]at he;simp only at he;split at he
   ·cases he
   rename_i qH;cases he
   have hxm:x∈g.ev/\th f x=true/\x.id≠0:=by
    unfold Jp at hp;cases hfd:g.ev.find? (th f)with
    |none=>rw[hfd]at hp;cases hp
    |some y=>
     rw[hfd]at hp;simp only at hp;split at hp
     ·cases hp
     split at hp
     ·cases hp;rename_i h1 h2;exact⟨zzee hfd,zzhh hfd,h1⟩
     cases hp
   obtain⟨x1,x2,x3⟩:=hxm;simp only[th,decide_eq_true_eq]at x2;obtain⟨y1,y2,y3⟩:=h.ch.mem x x1;obtain⟨z1,z2,z3⟩:=h.ep x x1
   have eD:PO (kj q f x.id F ((Zh x.id q.ens).getD yH).al):=by
    refine PO.filter ?_ _;cases hn:Zh x.id q.ens with
    |none=>exact PO.nil
    |some en=>exact(yY c3 en (jT hn).1).2.2.2.2.2
   have hFF:1<=F/\f+F<=q.ln:=by
    unfold iM at hF;split at hF
    ·rename_i fP;cases hF;obtain⟨d1,d2⟩:=akZ fP.1 c2 c3 c4 dy
     have bL:BM g f b o.en=some (rX g x.id):=by
      unfold BM;rw[hp];simp only;rw[if_pos fP.2.symm]
     obtain⟨e1,e2⟩:=d2 _ bL;have hb:=DZ (h.mo hk ⟨hf,c1⟩) x.id;rw[ag7 zE]at e1;omega
    split at hF
    ·cases hF
    split at hF
    ·cases hF
    cases hF;simp only[vg];omega
   exact⟨rfl,hFF.1,hFF.2,by simp only;omega,by simp only;omega,eD⟩
def abm{k:Nat}{g:Pg}{f:Int}{b:List (Int×Bool)}{o:Od}{q:Pl}{d:Int}(h:gC k g)(hk:k<=900)(hf:0<=f)(hc:yR g f b o=some (q,d)):
  f<=Ku g f b o q d/\Ku g f b o q d<=q.ln/\gE 0 (Ku g f b o q d) (Jw g f b o q d)/\∀e∈Jw g f b o q d,EvP e:=by
 obtain⟨c1,c2,c3,c4⟩:=kM hc;have hq:=(kN c2).1;have hb:=(h.ch.bef (f:=f) hf).nl;have hbp:=aop f h.ep;unfold Ku Jw;cases dH:mj g f b o q d with
 |none=>
  simp only[Option.toList_none,zzau];refine⟨zzbq _,zE,hb,fun e he=>?_⟩;obtain⟨x,hx,rfl⟩:=zzax.1 he;exact hbp x hx
 |some e=>
  obtain⟨e1,e2,e3,e4⟩:=abl h hk hf hc dH;simp only[zzgi];refine⟨zE,zE,gE.app ?_ hb,fun x hx=>?_⟩
  ·exact⟨zE,e2,by simp only[gE];omega⟩
  rcases zzam.1 hx with hx|hx
  ·obtain⟨y,hy,rfl⟩:=zzax.1 hx;exact hbp y hy
  rw[zzbd]at hx;rw[hx];exact e4
def auF{k:Nat}{g:Pg}{f:Int}{b:List (Int×Bool)}{o:Od}{q:Pl}{d:Int}(h:gC k g)(hk:k<=900)(hf:0<=f)(fP:1<=o.ki/\o.ki<=5)(hc:yR g f b o=some (q,d)):
  H9 g f b o q d/\(Yy g f b o q d).length<=1000000/\(iw g f b o q d).length<=10000000:=by
 obtain⟨c1,c2,c3,c4⟩:=kM hc;obtain⟨q1,q2,q3,q4,q5,q6,q7⟩:=kN c2;obtain⟨n1,n2,n3,n4⟩:=abm h hk hf hc;have dy:=h.ln;have ZK:=rV c3;have JR:=yY c3
 have ct:(Yy g f b o q d).length<=1000/\∀s∈Yy g f b o q d,0<=s.2/\s.2<=100000000:=by
  unfold Yy;cases hs:Yu q (Ku g f b o q d) (qt g f b o q d) (Xe true (Kk g b q.ens) (tI g f b o q d))with
  |none=>exact⟨zd,fun s hs=>by cases hs⟩
  |some l=>
   obtain⟨s1,s2⟩:=Ek hs;have t1:=qs true (Kk g b q.ens) (tI g f b o q d);have t2:=kJ g b q.ens;have t3:=h.ens;exact⟨by simp only[zzha];omega,s2⟩
 have iP:=abk q (Yy g f b o q d) (Ku g f b o q d) zE n2
 have hd:0<=d/\d<=1000000000:=by
  by_cases h1:o.ki=1
  ·have:=(akZ h1 c2 c3 c4 dy).1;omega
  unfold Wq at c2;rw[if_neg h1]at c2;split at c2
  ·cases ew:yF g o with
   |none=>rw[ew]at c2;cases c2
   |some x=>rw[ew]at c2;cases c2;omega
  split at c2<;>cases c2<;>omega
 have hpc:BJ q:=⟨by rw[q2];have:=h.sh;omega,by rw[q3];have:=h.aN;omega,by have:=h.ens;omega,by rw[q4];have:=h.bks;omega,by have:=h.cls;omega,fun e he=>by have:=(JR e he).2.2.2.2.2.1;omega⟩;refine⟨⟨h.mo hk ⟨hf,c1⟩,hpc,?_,hd,by have:=ZK.rg;omega,zE,by have:=h.small.1;omega,by have:=h.dr;omega,zE,?_,zE,fun s hs=>by have:=ct.2 s hs;omega⟩,by have:=ct.1;omega,?_⟩
 ·exact⟨by have:=h.cls;omega,by rw[q2];have:=h.sh;omega,by rw[q3];have:=h.aN;omega,by have:=h.ens;omega,by rw[q4];have:=h.bks;omega,fun e he=>(JR e he).2.2.2.2.2.1,by have:=ZK.ln;omega,
   fun e he=>by have:=JR e he;omega,fun e he=>by have:=JR e he;omega,fun e he=>by have:=JR e he;omega⟩
 ·intro e he;obtain⟨e1,e2,e3,e4,e5,e6,_⟩:=abl h hk hf hc he;exact⟨⟨zE,zE⟩,⟨zE,zE⟩,⟨zE,zE⟩,zE⟩
 have:=iP.le.2;unfold iw;omega
def uF(o:Od):Prop:=o.nw.al.length<=1000
def Iv{k:Nat}{g:Pg}{o:Od}(h:gC k g)(hk:k<=900)(ho:uF o):ML g o:=by
 unfold uF at ho;refine⟨h.pgc hk,zE,by have:=h.ve;omega,by have:=h.cu;omega,fun hc _=>?_,fun hc _ q d hx=>?_⟩
 ·have hv:Xy o=true:=by unfold Kv at hc;rw[zzak]at hc;exact hc.1
  obtain⟨v1,v2,v3,v4⟩:=Qdd hv;exact⟨fun hl=>h.mo hk ⟨v1.1,hl⟩,h.plc hk,v1.1,by have:=h.ln;omega,by unfold tC;omega,fun e he=>by have:=yY h.v e he;have:=h.ln;unfold tC;omega,by have:=h.dr;omega,zE⟩
 have hv:Xy o=true:=by unfold Kv at hc;rw[zzak]at hc;exact hc.1
 obtain⟨v1,v2,v3,v4⟩:=Qdd hv;exact auF h hk v1.1 v4 hx
def Tq{k:Nat}{g:Pg}{o:Od}(h:gC k g)(hk:k<=900):gC (k+1) (Xw g o):=by
 have hup:gC (k+1) {g with ve:=g.ve+1}:=⟨h.v,h.ln,h.sh,h.aN,by have:=h.ens;simp only;omega,h.bks,by have:=h.cls;simp only;omega,h.ch,h.ep,h.cu,by have:=h.dr;simp only;omega,by have:=h.ve;simp only;omega⟩;unfold Xw;split
 ·exact hup
 rename_i hc;split
 ·cases he:Ia o.cu g.cu with
  |none=>exact hup
  |some x=>
   refine⟨h.v,h.ln,h.sh,h.aN,by have:=h.ens;simp only;omega,h.bks,by have:=h.cls;simp only;omega,h.ch,h.ep,?_,by have:=h.dr;simp only;omega,by have:=h.ve;simp only;omega⟩;unfold Ia at he;split at he
   ·split at he
    ·cases he
    cases he;simp only;omega
   cases he
 cases hx:yR g o.fr (Vb o.fr g.ev []) o with
 |none=>exact hup
 |some r=>
  obtain⟨q,d⟩:=r
  have hv:Xy o=true:=by
   have hc:Kv g o=true:=by simpa using hc
   unfold Kv at hc;rw[zzak]at hc;exact hc.1
  obtain⟨v1,v2,v3,v4⟩:=Qdd hv;obtain⟨c1,c2,c3,c4⟩:=kM hx;obtain⟨q1,q2,q3,q4,q5,q6,q7⟩:=kN c2;obtain⟨n1,n2,n3,n4⟩:=abm h hk v1.1 hx;have iP:=abk q (Yy g o.fr (Vb o.fr g.ev []) o q d) _ zE n2;have hbp:=akY q (fun e he=>(yY c3 e he).2.2.2.2.2) (Yy g o.fr (Vb o.fr g.ev []) o q d) (Ku g o.fr (Vb o.fr g.ev []) o q d) zE;refine⟨c3,by show q.ln<=600;have:=h.ln;omega,by show q.sh.length<=10;rw[q2];exact h.sh,by show q.aN.length<=20;rw[q3];exact h.aN,by show q.ens.length<=10+(k+1);have:=h.ens;omega,by show q.bks.length<=8;rw[q4];exact h.bks,by show q.cls.length<=20+(k+1);have:=h.cls;omega,gE.app iP n3,?_,h.cu,?_,by show g.ve+1=_;have:=h.ve;omega⟩
  ·intro e he;rcases zzam.1 he with he|he
   ·exact n4 e he
   exact hbp e he
  show(dd (Ww (g.dr++PG g o.fr (Vb o.fr g.ev []) o q d))).length<=1000*(k+1);have t1:=Lt (Ww (g.dr++PG g o.fr (Vb o.fr g.ev []) o q d));rw[se,zzai]at t1;have t2:=qs false (Kk g (Vb o.fr g.ev []) q.ens) (tI g o.fr (Vb o.fr g.ev []) o q d);have t3:=kJ g (Vb o.fr g.ev []) q.ens;have t4:=h.ens;have t5:=h.dr;unfold PG at t1;unfold PG;omega
structure PT (M:Md):Prop where
 n:∀l∈M.ps,l.length=M.os.length+1
 pr:∀l∈M.ps,∀i g,l[i]?=some g->gC i g
 fr:∀o∈M.os,0<=o.2/\o.2<=100000000
 los:M.os.length<=200
def PU:∀{ps:List Pl}{i:Nat}{M M':Md},(∀p∈ps,Tp p)->PT M->M.os=[]->mq i ps M=some M'->PT M'/\M'.os=[]
 |[],i,M,M',hp,hM,ho,h=>by rw[mq]at h;cases h;exact⟨hM,ho⟩
 |p::r,i,M,M',hp,hM,ho,h=>by
  rw[mq]at h;split at h
  ·cases h
  rename_i hc
  have hb:zD p=0:=by
   by_cases hb:zD p=0
   ·exact hb
   exact absurd (Or.inr hb) hc
  refine PU (M:={M with pl:=Zr p.ch (i:Int) M.pl,ps:=M.ps++[[uD p]]}) (fun x hx=>hp x (by simp[hx])) ⟨fun l hl=>?_,fun l hl j g hg=>?_,hM.fr,hM.los⟩ ho h
  ·rcases zzam.1 hl with hl|hl
   ·exact hM.n l hl
   rw[zzbd]at hl;subst hl;simp[ho]
  rcases zzam.1 hl with hl|hl
  ·exact hM.pr l hl j g hg
  rw[zzbd]at hl;subst hl;cases j with
  |zero=>simp at hg;subst hg;exact ag5 (hp p zd) hb
  |succ j=>simp at hg
def PV{ps:List Pl}{M:Md}(hp:∀p∈ps,Tp p)(h:mw ps=some M):PT M/\M.os=[]:=by
 unfold mw at h;split at h
 ·cases h
 exact PU hp ⟨(fun l hl=>by cases hl),(fun l hl=>by cases hl),(fun o ho=>by cases ho),by simp[md0]⟩ rfl h
def El{M M':Md}{o:Od}(h:PT M)(hs:zF M o=some M'):PT M'/\M'.os=M.os++[(o.sq,o.fr)]/\M'.pl=M.pl:=by
 unfold zF at hs;split at hs
 ·cases hs
 rename_i hx;cases hs;unfold Ao at hx;simp only[Bool.not_eq_true,zzez,Bool.not_eq_false',decide_eq_false_iff_not,Decidable.not_not]at hx;obtain⟨v1,v2,v3,v4⟩:=Qdd hx.1;refine⟨⟨fun l hl=>?_,fun l hl i g hg=>?_,fun x hx=>?_,by simp only[zzai,zzea];omega⟩,rfl,rfl⟩
 ·obtain⟨l0,kW,rfl⟩:=zzax.1 hl;have:=h.n l0 kW;obtain⟨x,hx⟩:∃x,l0[M.os.length]?=some x:=⟨_,zzae zE⟩;simp[Vv,this]
 ·obtain⟨l0,kW,rfl⟩:=zzax.1 hl;have hn:=h.n l0 kW;obtain⟨x,hx⟩:∃x,l0[M.os.length]?=some x:=⟨_,zzae zE⟩;have hnx:Vv o M.os.length l0=l0++[Xw (cr x) o]:=by unfold Vv;rw[hx];rfl
  rw[hnx]at hg;by_cases hi:i<l0.length
  ·rw[zzag hi]at hg;exact h.pr l0 kW i g hg
  have hi2:i=l0.length:=by
   have:=(zza.1 hg).1;rw[zzai,zzea]at this;omega
  subst hi2;rw[zzal (zzab _)]at hg;simp at hg;subst hg;rw[hn];exact Tq (h.pr l0 kW _ _ hx).cr (by have:=h.los;omega)
 rcases zzam.1 hx with hx|hx
 ·exact h.fr x hx
 rw[zzbd]at hx;subst hx;exact v1
