import Derived.Test.YtnopaopphmjnmaaGreatDoorMLMeB
set_option linter.all false
namespace Go.Proofs.YtnopaopphmjnmaaGreatDoor
open Go Go.Abs
def gp(lo up:Int):List bD->Prop
 |[]=>lo<=up
 |e::r=>lo<=e.st/\1<=e.fr/\gp (e.st+e.fr) up r
def gp.le{up:Int}:∀{L:List bD}{lo:Int},gp lo up L->lo<=up/\(L.length:Int)<=up-lo
 |[],lo,h=>⟨h,by simp only[gp]at h;simp only[zzch];omega⟩
 |e::r,lo,h=>by
  obtain⟨h1,h2,h3⟩:=h;have:=gp.le h3;simp only[zzbb];omega
def gp.mem{up:Int}:∀{L:List bD}{lo:Int},gp lo up L->∀e∈L,lo<=e.st/\1<=e.fr/\e.st+e.fr<=up
 |x::r,lo,h,e,he=>by
  obtain⟨h1,h2,h3⟩:=h;rcases zzat.1 he with rfl|he
  ·exact⟨h1,h2,h3.le.1⟩
  have:=gp.mem h3 e he;omega
def gp.low{up lo lo':Int}{L:List bD}(h:gp lo up L)(hl:lo'<=lo):gp lo' up L:=by
 cases L with
 |nil=>simp only[gp]at h |-;omega
 |cons e r=>exact⟨by have:=h.1;omega,h.2⟩
def gp.app{m up:Int}{B:List bD}(hB:gp m up B):∀{A:List bD}{lo:Int},gp lo m A->gp lo up (A++B)
 |[],lo,h=>hB.low h
 |e::r,lo,h=>⟨h.1,h.2.1,gp.app hB h.2.2⟩
def gp.nl{up:Int}:∀{L:List bD}{lo:Int},gp lo up L->gp lo up (L.map Sk)
 |[],lo,h=>h
 |e::r,lo,h=>⟨h.1,h.2.1,gp.nl h.2.2⟩
def gp.anr{up f:Int}:∀{L:List bD}{lo:Int},gp lo up L->f<=lo->Yb f L=[]
 |[],lo,h,hf=>rfl
 |e::r,lo,h,hf=>by
  obtain⟨h1,h2,h3⟩:=h;rw[Yb,if_pos (by omega)];exact gp.anr h3 (by omega)
def gp.bef{up f:Int}:∀{L:List bD}{lo:Int},gp lo up L->lo<=f->gp lo f (Yb f L)
 |[],lo,h,hf=>hf
 |e::r,lo,h,hf=>by
  have hh:=h;obtain⟨h1,h2,h3⟩:=h;rw[Yb];by_cases hs:f<=e.st
  ·rw[if_pos hs,gp.anr h3 (by omega)];exact hf
  rw[if_neg hs];by_cases hl:f-e.st<e.fr
  ·rw[gp.anr h3 (by omega)];simp only[gp,G8,if_pos hl];omega
  refine⟨h1,?_,?_⟩
  ·simp only[G8,if_neg hl];exact h2
  have:=gp.bef h3 (f:=f) (by omega);simp only[G8,if_neg hl];exact this
def ake(p:Pl)(fr t:Int):∀(n:Nat)(a:Int),(t-a).toNat<=n->a<=t->gp a t ((Vz fr t a).map (Ve p)):=by
 intro n;induction n with
 |zero=>intro a h ha;rw[Vz,if_neg (by omega)];exact ha
 |succ n ih=>
  intro a h ha;rw[Vz];split
  ·have hN:1<=Us fr t a/\Us fr t a<=t-a:=by unfold Us;split<;>omega
   have:=ih (a+Us fr t a) (by omega) (by omega);exact⟨zzbu _,hN.1,this⟩
  exact ha
def HA{p:Pl}{s:Sp}{a:Int}{e:En}(h:mP p s a=some e):Ze s.1 p.ens=some e/\1<=e.fr/\a<=s.2/\s.2+e.fr<=p.ln:=by
 unfold mP at h;cases hf:Ze s.1 p.ens with
 |none=>rw[hf]at h;cases h
 |some x=>
  rw[hf]at h;simp only at h;split at h
  ·cases h
  cases h;exact⟨rfl,by omega,by omega,by omega⟩
def aaz(p:Pl):∀(l:List Sp)(a:Int),a<=p.ln->gp a p.ln (uG p l a)
 |[],a,ha=>by rw[uG];exact ake p _ _ _ a (zzab _) ha
 |s::r,a,ha=>by
  rw[uG];cases hs:mP p s a with
  |none=>exact aaz p r a ha
  |some e=>
   obtain⟨h1,h2,h3,h4⟩:=HA hs;simp only[zzaw];refine gp.app ?_ (ake p _ _ _ a (zzab _) h3);exact⟨zzbu _,h2,aaz p r _ h4⟩
def aaA(p:Pl)(l:List Sp)(a:Int)(h0:0<=a)(h1:a<=p.ln):gp a p.ln (A9 p l a):=by
 unfold A9;rw[if_neg (by omega)];exact aaz p l a h1
def OX(l:List Sp):Prop:=l.length<=1000/\l.Pairwise (fun a b=>a.1<b.1)/\∀a∈l,1<=a.1
def OX.nil:OX []:=⟨by simp,List.Pairwise.nil,fun a ha=>by cases ha⟩
def OX.filter{l:List Sp}(h:OX l)(P:Sp->Bool):OX (l.filter P):=
 ⟨zzbn (zzbr _ _) h.1,h.2.1.filter _,fun a ha=>h.2.2 a (zzck.1 ha).1⟩
def EvP(e:bD):Prop:=0<=e.i/\e.i<=e.st/\OX e.al
def HB(fr t:Int):∀(n:Nat)(a:Int),(t-a).toNat<=n->∀x∈Vz fr t a,a<=x.1:=by
 intro n;induction n with
 |zero=>intro a h x hx;rw[Vz,if_neg (by omega)]at hx;cases hx
 |succ n ih=>
  intro a h x hx;rw[Vz]at hx;split at hx
  ·have hN:1<=Us fr t a:=by unfold Us;split<;>omega
   rcases zzat.1 hx with rfl|hx
   ·exact zzbu _
   have:=ih (a+Us fr t a) (by omega) x hx;omega
  cases hx
def ans(p:Pl)(hp:∀e∈p.ens,OX e.al):∀(l:List Sp)(a:Int),0<=a->∀e∈uG p l a,EvP e
 |[],a,ha,e,h=>by
  rw[uG,zzax]at h;obtain⟨x,hx,rfl⟩:=h;have:=HB _ _ _ a (zzab _) x hx;exact⟨zzbu _,by simp only[Ve];omega,OX.nil⟩
 |s::r,a,ha,e,h=>by
  rw[uG]at h;cases hs:mP p s a with
  |none=>rw[hs]at h;exact ans p hp r a ha e h
  |some x=>
   obtain⟨h1,h2,h3,h4⟩:=HA hs;rw[hs]at h;simp only[zzaw,zzao,zzax,zzbd]at h;obtain⟨y,hy,rfl⟩|rfl|h:=h
   ·have:=HB _ _ _ a (zzab _) y hy;exact⟨zzbu _,by simp only[Ve];omega,OX.nil⟩
   ·have:=hp x (jJ h1).1;exact⟨zzbu _,by simp only[zJ];omega,this.filter _⟩
   exact ans p hp r _ (by omega) e h
def akf(p:Pl)(hp:∀e∈p.ens,OX e.al)(l:List Sp)(a:Int)(h0:0<=a):∀e∈A9 p l a,EvP e:=by
 unfold A9;split
 ·intro e he;cases he
 exact ans p hp l a h0
def ant(f:Int):∀{L:List bD},(∀e∈L,EvP e)->∀e∈Yb f L,EvP e
 |[],h,e,he=>by cases he
 |x::r,h,e,he=>by
  rw[Yb]at he;split at he
  ·exact ant f (fun y hy=>h y (by simp[hy])) e he
  rcases zzat.1 he with rfl|he
  ·exact h x (by simp)
  exact ant f (fun y hy=>h y (by simp[hy])) e he
def OY{lo up:Int}:∀{ks:List Int},ks.Pairwise (·<·)->(∀k∈ks,lo<=k/\k<=up)->(ks.length:Int)<=max 0 (up-lo+1)
 |[],_,_=>by simp only[zzch];omega
 |k::r,h,hb=>by
  obtain⟨h1,h2⟩:=zzbx.1 h;have hk:=hb k (by simp);have:=OY (lo:=k+1) (up:=up) h2 (fun x hx=>⟨by have:=h1 x hx;omega,(hb x (by simp[hx])).2⟩);simp only[zzbb];omega
def yH{p:Pl}(h:nU p=true):∀e∈p.ens,1<=e.id/\1<=e.fr/\0<=e.ea/\e.ea<=e.la/\e.la<=p.ln-e.fr/\OX e.al:=by
 intro e he;have hv:=yd h;obtain⟨h1,h2,h3⟩:=hv.ens e he;have Ld:=hv.rg;unfold jN at h2;cases hf:Xh e.it p.aL with
 |none=>rw[hf]at h2;cases h2
 |some y=>
  rw[hf]at h2;simp only at h2;split at h2
  ·cases h2
  split at h2
  ·cases h2
  rename_i q2;split at h2
  ·cases h2
  have q2:wi e.fr 1 y.fr=true:=by simpa using q2
  simp only[wi,decide_eq_true_eq]at q2;simp only[zzak,decide_eq_true_eq]at h2;simp only[mR,zzak]at h3;obtain⟨p1,p2⟩:=Z2 h3.1;have:=OY p1 p2;rw[zzbg]at this;exact⟨h1,q2.1,h2.1,h2.2.1,h2.2.2,by omega,List.pairwise_map.1 p1,fun a ha=>(p2 a.1 (zzax.2 ⟨a,ha,rfl⟩)).1⟩
structure fZ (k:Nat) (g:Pg):Prop where
 v:nU g.p=true
 ln:g.p.ln<=600
 sh:g.p.sh.length<=10
 aL:g.p.aL.length<=20
 ens:g.p.ens.length<=10+k
 bks:g.p.bks.length<=8
 cls:g.p.cls.length<=20+k
 ch:gp 0 g.p.ln g.ev
 ep:∀e∈g.ev,EvP e
 cu:g.cu.length<=200
 dr:g.dr.length<=1000*k
 ve:g.ve=k
def fZ.cQ{k:Nat}{g:Pg}(h:fZ k g):fZ k (cQ g):=
 ⟨h.v,h.ln,h.sh,h.aL,h.ens,h.bks,h.cls,h.ch.nl,fun e he=>by
  obtain⟨x,hx,rfl⟩:=zzax.1 he;exact h.ep x hx,h.cu,h.dr,h.ve⟩
def fZ.plc{k:Nat}{g:Pg}(h:fZ k g)(hk:k<=900):Bo g.p:=
 ⟨by have:=h.sh;omega,by have:=h.aL;omega,by have:=h.ens;omega,by have:=h.bks;omega,by have:=h.cls;omega,fun e he=>by have:=(yH h.v e he).2.2.2.2.2.1;omega⟩
def fZ.small{k:Nat}{g:Pg}(h:fZ k g):g.ev.length<=600/\∀e∈g.ev,Uh e:=by
 have h1:=h.ch.le;have h2:=h.ln;refine⟨by omega,fun e he=>?_⟩;obtain⟨q1,q2,q3⟩:=h.ch.mem e he;obtain⟨q4,q5,q6,_⟩:=h.ep e he;exact⟨⟨by omega,by omega⟩,⟨by omega,by omega⟩,⟨by omega,by omega⟩,by omega⟩
def fZ.mo{k:Nat}{g:Pg}{f:Int}(h:fZ k g)(hk:k<=900)(hf:0<=f/\f<g.p.ln):lY g f:=
 ⟨by have:=h.small.1;omega,h.small.2,by have:=h.ln;unfold ob;omega,by have:=h.ens;omega⟩
def fZ.pgc{k:Nat}{g:Pg}(h:fZ k g)(hk:k<=900):PgC g:=
 ⟨h.plc hk,by have:=h.small.1;omega,by have:=h.cu;omega,by have:=h.dr;omega,fun e he=>by have:=(h.ep e he).2.2.1;omega⟩
structure SD (p:Pl):Prop where
 ln:p.ln<=600
 sh:p.sh.length<=10
 aL:p.aL.length<=20
 ens:p.ens.length<=10
 bks:p.bks.length<=8
 cls:p.cls.length<=20
def anu(p:Pl):SD (R3 p):=
 ⟨by simp only[R3];split<;>omega,by simp[R3];omega,by simp[R3];omega,by simp[R3];omega,by simp[R3];omega,by simp[R3];omega⟩
def HC{p:Pl}(h:uU p=0):nU p=true/\∃l,IV p=some l:=by
 unfold uU at h;split at h
 ·cases h
 rename_i hv;cases hl:IV p with
 |none=>rw[hl]at h;cases h
 |some l=>exact⟨by simpa using hv,l,rfl⟩
def agq{p:Pl}(hp:SD p)(h:uU p=0):fZ 0 (Js p):=by
 obtain⟨hv,l,hl⟩:=HC h;have hg:Js p=⟨p,A9 p l 0,[],0,[],0⟩:=by unfold Js;rw[hl]
 have dg:=(yd hv).ln;rw[hg];exact⟨hv,hp.ln,hp.sh,hp.aL,hp.ens,hp.bks,hp.cls,aaA p l 0 (by omega) (by omega),akf p (fun e he=>(yH hv e he).2.2.2.2.2) l 0 (by omega),by simp,by simp,rfl⟩
def DO{p:Pl}:∀{ids:List Int}{us en:List (Int×Int)}{free last:Int}{l:List Sp},Jk p ids us en free last=some l->l.length<=ids.length/\∀s∈l,0<=s.2/\s.2<=100000000
 |[],_,_,_,_,l,h=>by cases h;exact⟨zzab _,fun s hs=>by cases hs⟩
 |id::r,us,en,free,last,l,h=>by
  rw[Jk]at h;cases h1:zR id p.ens 0 with
  |none=>rw[h1]at h;cases h
  |some k=>
   rw[h1]at h;simp only at h;split at h
   ·cases h
   cases h2:p.ens[k]? with
   |none=>rw[h2]at h;cases h
   |some e=>
    rw[h2]at h;simp only at h;split at h
    ·cases h
    cases h3:Ye p e (Uj en (Kt p e.it) (max e.ea free))with
    |none=>rw[h3]at h;cases h
    |some s=>
     rw[h3]at h;simp only at h;cases h4:Jk p r (Vt us e.it) (Zl p en e.it (s+e.fr)) (s+e.fr) k with
     |none=>rw[h4]at h;cases h
     |some t=>
      rw[h4]at h;cases h;obtain⟨q1,q2⟩:=DO h4;obtain⟨_,_,q3,_,_,q4,_⟩:=Qbf h3;refine⟨by simp only[zzbb];omega,fun x hx=>?_⟩;rcases zzat.1 hx with rfl|hx
      ·exact⟨q3,q4⟩
      exact q2 x hx
def ato{p:Pl}(hp:SD p)(eu:∀e∈p.ens,e.al.length<=8796093022208)(Tw:∀e∈p.ens,e.ea<=9223372036854775807):agk p:=by
 refine⟨⟨by have:=hp.sh;omega,by have:=hp.aL;omega,by have:=hp.ens;omega,by have:=hp.bks;omega,by have:=hp.cls;omega,eu⟩,by have:=hp.ln;omega,Tw,fun l hl=>?_⟩;unfold IV at hl;split at hl
 ·cases hl
 obtain⟨h1,h2⟩:=DO hl;have h3:(Uf p).length=p.ens.length:=by simp[Uf]
 have:=hp.ens;refine⟨by omega,fun s hs=>?_⟩;have:=h2 s hs;omega
def agr{o:Od}(h:Jq o=true):o.n=0/\o.nw.al=[]:=by
 simp only[Jq,decide_eq_true_eq]at h;exact⟨h.2.1,h.2.2.2.2.2.2.2.2.2.2⟩
def qg{o:Od}(h:Xx o=true):(0<=o.fr/\o.fr<=100000000)/\(-100000000<=o.n/\o.n<=100000000)/\(0<=o.sq/\o.sq<=200)/\(1<=o.ki/\o.ki<=5):=by
 unfold Xx at h;split at h
 ·cases h
 split at h
 ·cases h
 split at h
 ·cases h
 split at h
 ·cases h
 rename_i h1 h2 h3 h4;rw[zzak]at h;refine⟨by omega,?_,by omega,by omega⟩;by_cases hk:o.ki=1
 ·omega
 have hb:=(agr h.2).1
 have hn:(Ji o).n=o.n:=by
  unfold Ji;rw[if_neg hk];repeat' split
  all_goals rfl
 omega
def j5{g:Pg}{f:Int}{b:List (Int×Bool)}{o:Od}{q:Pl}{d:Int}(h:Bv g f b o=some (q,d)):f<g.p.ln/\sY g f b o=some (q,d)/\nU q=true/\DF g f b o q d=true:=by
 unfold Bv at h;split at h
 ·cases h
 rename_i hl;cases hb:sY g f b o with
 |none=>rw[hb]at h;cases h
 |some x=>
  obtain⟨q',d'⟩:=x;rw[hb]at h;simp only at h;split at h
  ·rename_i hc;cases h;rw[zzak]at hc;exact⟨by omega,rfl,hc.1,hc.2⟩
  cases h
def j6{g:Pg}{f:Int}{b:List (Int×Bool)}{o:Od}{q:Pl}{d:Int}(h:sY g f b o=some (q,d)):
  q.ln=g.p.ln/\q.sh=g.p.sh/\q.aL=g.p.aL/\q.bks=g.p.bks/\q.ens.length<=g.p.ens.length+1/\q.cls.length<=g.p.cls.length+1/\q.ch=g.p.ch:=by
 unfold sY at h;split at h
 ·unfold rJ at h;split at h
  ·cases h
  split at h
  ·cases h
  cases h;exact⟨rfl,rfl,rfl,rfl,by simp,by simp,rfl⟩
 split at h
 ·unfold ym at h;split at h
  ·cases h
  cases h;exact⟨rfl,rfl,rfl,rfl,by have:=zzbr (fun e=>!mV o.en e) g.p.ens;simp only;omega,by simp,rfl⟩
 split at h
 ·cases h;refine⟨rfl,rfl,rfl,rfl,?_,by simp[oh],rfl⟩;simp only[oh,zzah,zzaq,zzbb,zzcr];omega
 cases h;exact⟨rfl,rfl,rfl,rfl,by simp[DA],by simp[DA],rfl⟩
def agt{n:Int}(h: -9223372036854775808<=n/\n<=9223372036854775807):Vu n=n:=by unfold Vu;omega
def akg{g:Pg}{f:Int}{b:List (Int×Bool)}{o:Od}{q:Pl}{d:Int}(hk:o.ki=1)(h:sY g f b o=some (q,d))(hv:nU q=true)(hm:DF g f b o q d=true)(dg:g.p.ln<=600):
  (1<=d/\d<=600)/\∀st,Br g f b o.en=some st->Vu (f-st)<=d/\st+d<=q.ln:=by
 have hq:=(j6 h).1;unfold sY at h;rw[if_pos hk]at h;unfold DF at hm;rw[if_pos hk]at hm;unfold rJ at h;cases he:g.p.ens[(Jc g o.en).toNat]? with
 |none=>rw[he]at h;cases h
 |some e=>
  rw[he]at h;simp only at h;split at h
  ·cases h
  simp only[Option.some.injEq,Prod.mk.injEq]at h;obtain⟨h1,h2⟩:=h;have ai:=(zza.1 he).1
  have dH:RT g f b o e∈q.ens:=by
   rw[<- h1];exact zzad (zzb ai)
  obtain⟨_,p1,p2,p3,p4,_⟩:=yH hv _ dH;have uv:(RT g f b o e).fr=d:=h2;rw[uv]at p1 p4;refine⟨by omega,fun st cc=>?_⟩;unfold Qbz at hm;split at hm
  ·cases hm
  split at hm
  ·cases hm
  split at hm
  ·cases hm
  split at hm
  ·cases hm
  split at hm
  ·cases hm
  rw[cc]at hm;simp only at hm;split at hm
  ·cases hm
  refine⟨?_,by omega⟩;rw[<- h2];unfold ua;rw[cc];simp only;split<;>omega
def aaB{k:Nat}{g:Pg}{f:Int}{b:List (Int×Bool)}{o:Od}{q:Pl}{d:Int}(h:fZ k g)(hk:k<=900)(hf:0<=f)(hc:Bv g f b o=some (q,d)){e:bD}(he:lZ g f b o q d=some e):
  e.st=f/\1<=e.fr/\f+e.fr<=q.ln/\EvP e:=by
 obtain⟨c1,c2,c3,c4⟩:=j5 hc;have hq:=(j6 c2).1;have dg:=h.ln;unfold lZ at he;cases hp:Jj g f b with
 |none=>rw[hp]at he;cases he
 |some x=>
  rw[hp]at he;simp only at he;cases hF:iF g f o q d x with
  |none=>rw[hF]at he;cases he
  |some F=>
   rw[hF]at he;simp only at he;split at he
   ·cases he
   rename_i qu;cases he
   have hxm:x∈g.ev/\Wv f x=true/\x.id≠0:=by
    unfold Jj at hp;cases hfd:g.ev.find? (Wv f)with
    |none=>rw[hfd]at hp;cases hp
    |some y=>
     rw[hfd]at hp;simp only at hp;split at hp
     ·cases hp
     split at hp
     ·cases hp;rename_i h1 h2;exact⟨zzea hfd,zzhg hfd,h1⟩
     cases hp
   obtain⟨x1,x2,x3⟩:=hxm;simp only[Wv,decide_eq_true_eq]at x2;obtain⟨y1,y2,y3⟩:=h.ch.mem x x1;obtain⟨z1,z2,z3⟩:=h.ep x x1
   have eu:OX (jV q f x.id F ((Ze x.id q.ens).getD yp).al):=by
    refine OX.filter ?_ _;cases hn:Ze x.id q.ens with
    |none=>exact OX.nil
    |some en=>exact(yH c3 en (jJ hn).1).2.2.2.2.2
   have hFF:1<=F/\f+F<=q.ln:=by
    unfold iF at hF;split at hF
    ·rename_i fR;cases hF;obtain⟨d1,d2⟩:=akg fR.1 c2 c3 c4 dg
     have bI:Br g f b o.en=some (rI g x.id):=by
      unfold Br;rw[hp];simp only;rw[if_pos fR.2.symm]
     obtain⟨e1,e2⟩:=d2 _ bI;have hb:=Dx (h.mo hk ⟨hf,c1⟩) x.id;rw[agt (by omega)]at e1;omega
    split at hF
    ·cases hF
    split at hF
    ·cases hF
    cases hF;simp only[uO];omega
   exact⟨rfl,hFF.1,hFF.2,by simp only;omega,by simp only;omega,eu⟩
def aaC{k:Nat}{g:Pg}{f:Int}{b:List (Int×Bool)}{o:Od}{q:Pl}{d:Int}(h:fZ k g)(hk:k<=900)(hf:0<=f)(hc:Bv g f b o=some (q,d)):
  f<=Kk g f b o q d/\Kk g f b o q d<=q.ln/\gp 0 (Kk g f b o q d) (Jp g f b o q d)/\∀e∈Jp g f b o q d,EvP e:=by
 obtain⟨c1,c2,c3,c4⟩:=j5 hc;have hq:=(j6 c2).1;have hb:=(h.ch.bef (f:=f) hf).nl;have hbp:=ant f h.ep;unfold Kk Jp;cases dz:lZ g f b o q d with
 |none=>
  simp only[Option.toList_none,zzau];refine⟨zzbu _,by omega,hb,fun e he=>?_⟩;obtain⟨x,hx,rfl⟩:=zzax.1 he;exact hbp x hx
 |some e=>
  obtain⟨e1,e2,e3,e4⟩:=aaB h hk hf hc dz;simp only[zzgh];refine⟨by omega,by omega,gp.app ?_ hb,fun x hx=>?_⟩
  ·exact⟨by omega,e2,by simp only[gp];omega⟩
  rcases zzao.1 hx with hx|hx
  ·obtain⟨y,hy,rfl⟩:=zzax.1 hx;exact hbp y hy
  rw[zzbd]at hx;rw[hx];exact e4
def atp{k:Nat}{g:Pg}{f:Int}{b:List (Int×Bool)}{o:Od}{q:Pl}{d:Int}(h:fZ k g)(hk:k<=900)(hf:0<=f)(fR:1<=o.ki/\o.ki<=5)(hc:Bv g f b o=some (q,d)):
  Hq g f b o q d/\(Yu g f b o q d).length<=1000000/\(ig g f b o q d).length<=10000000:=by
 obtain⟨c1,c2,c3,c4⟩:=j5 hc;obtain⟨q1,q2,q3,q4,q5,q6,q7⟩:=j6 c2;obtain⟨n1,n2,n3,n4⟩:=aaC h hk hf hc;have dg:=h.ln;have YA:=yd c3;have II:=yH c3
 have cc:(Yu g f b o q d).length<=1000/\∀s∈Yu g f b o q d,0<=s.2/\s.2<=100000000:=by
  unfold Yu;cases hs:Yq q (Kk g f b o q d) (qd g f b o q d) (Xb true (Kc g b q.ens) (tc g f b o q d))with
  |none=>exact⟨by simp,fun s hs=>by cases hs⟩
  |some l=>
   obtain⟨s1,s2⟩:=DO hs;have t1:=qf true (Kc g b q.ens) (tc g f b o q d);have t2:=jZ g b q.ens;have t3:=h.ens;exact⟨by simp only[zzha];omega,s2⟩
 have ja:=aaA q (Yu g f b o q d) (Kk g f b o q d) (by omega) n2
 have hd:0<=d/\d<=1000000000:=by
  by_cases h1:o.ki=1
  ·have:=(akg h1 c2 c3 c4 dg).1;omega
  unfold sY at c2;rw[if_neg h1]at c2;split at c2
  ·cases dX:ym g o with
   |none=>rw[dX]at c2;cases c2
   |some x=>rw[dX]at c2;cases c2;omega
  split at c2<;>cases c2<;>omega
 have hpc:Bo q:=⟨by rw[q2];have:=h.sh;omega,by rw[q3];have:=h.aL;omega,by have:=h.ens;omega,by rw[q4];have:=h.bks;omega,by have:=h.cls;omega,fun e he=>by have:=(II e he).2.2.2.2.2.1;omega⟩;refine⟨⟨h.mo hk ⟨hf,c1⟩,hpc,?_,hd,by have:=YA.rg;omega,by omega,by have:=h.small.1;omega,by have:=h.dr;omega,by omega,?_,by omega,fun s hs=>by have:=cc.2 s hs;omega⟩,by have:=cc.1;omega,?_⟩
 ·exact⟨by have:=h.cls;omega,by rw[q2];have:=h.sh;omega,by rw[q3];have:=h.aL;omega,by have:=h.ens;omega,by rw[q4];have:=h.bks;omega,fun e he=>(II e he).2.2.2.2.2.1,by have:=YA.ln;omega,
   fun e he=>by have:=II e he;omega,fun e he=>by have:=II e he;omega,fun e he=>by have:=II e he;omega⟩
 ·intro e he;obtain⟨e1,e2,e3,e4,e5,e6,_⟩:=aaB h hk hf hc he;exact⟨⟨by omega,by omega⟩,⟨by omega,by omega⟩,⟨by omega,by omega⟩,by omega⟩
 have:=ja.le.2;unfold ig;omega
def zX(o:Od):Prop:=o.nw.al.length<=1000
def aaD{k:Nat}{g:Pg}{o:Od}(h:fZ k g)(hk:k<=900)(ho:zX o):Sn g o:=by
 unfold zX at ho;refine⟨h.pgc hk,by omega,by have:=h.ve;omega,by have:=h.cu;omega,fun hc _=>?_,fun hc _ q d hx=>?_⟩
 ·have hv:Xx o=true:=by unfold Lv at hc;rw[zzak]at hc;exact hc.1
  obtain⟨v1,v2,v3,v4⟩:=qg hv;exact⟨fun hl=>h.mo hk ⟨v1.1,hl⟩,h.plc hk,v1.1,by have:=h.ln;omega,by unfold sW;omega,fun e he=>by have:=yH h.v e he;have:=h.ln;unfold sW;omega,by have:=h.dr;omega,by omega⟩
 have hv:Xx o=true:=by unfold Lv at hc;rw[zzak]at hc;exact hc.1
 obtain⟨v1,v2,v3,v4⟩:=qg hv;exact atp h hk v1.1 v4 hx
def SE{k:Nat}{g:Pg}{o:Od}(h:fZ k g)(hk:k<=900):fZ (k+1) (Xz g o):=by
 have hup:fZ (k+1) {g with ve:=g.ve+1}:=⟨h.v,h.ln,h.sh,h.aL,by have:=h.ens;simp only;omega,h.bks,by have:=h.cls;simp only;omega,h.ch,h.ep,h.cu,by have:=h.dr;simp only;omega,by have:=h.ve;simp only;omega⟩;unfold Xz;split
 ·exact hup
 rename_i hc;split
 ·cases he:LZ o.cu g.cu with
  |none=>exact hup
  |some x=>
   refine⟨h.v,h.ln,h.sh,h.aL,by have:=h.ens;simp only;omega,h.bks,by have:=h.cls;simp only;omega,h.ch,h.ep,?_,by have:=h.dr;simp only;omega,by have:=h.ve;simp only;omega⟩;unfold LZ at he;split at he
   ·split at he
    ·cases he
    cases he;simp only;omega
   cases he
 cases hx:Bv g o.fr (Yg o.fr g.ev []) o with
 |none=>exact hup
 |some r=>
  obtain⟨q,d⟩:=r
  have hv:Xx o=true:=by
   have hc:Lv g o=true:=by simpa using hc
   unfold Lv at hc;rw[zzak]at hc;exact hc.1
  obtain⟨v1,v2,v3,v4⟩:=qg hv;obtain⟨c1,c2,c3,c4⟩:=j5 hx;obtain⟨q1,q2,q3,q4,q5,q6,q7⟩:=j6 c2;obtain⟨n1,n2,n3,n4⟩:=aaC h hk v1.1 hx;have ja:=aaA q (Yu g o.fr (Yg o.fr g.ev []) o q d) _ (by omega) n2;have hbp:=akf q (fun e he=>(yH c3 e he).2.2.2.2.2) (Yu g o.fr (Yg o.fr g.ev []) o q d) (Kk g o.fr (Yg o.fr g.ev []) o q d) (by omega);refine⟨c3,by show q.ln<=600;have:=h.ln;omega,by show q.sh.length<=10;rw[q2];exact h.sh,by show q.aL.length<=20;rw[q3];exact h.aL,by show q.ens.length<=10+(k+1);have:=h.ens;omega,by show q.bks.length<=8;rw[q4];exact h.bks,by show q.cls.length<=20+(k+1);have:=h.cls;omega,gp.app ja n3,?_,h.cu,?_,by show g.ve+1=_;have:=h.ve;omega⟩
  ·intro e he;rcases zzao.1 he with he|he
   ·exact n4 e he
   exact hbp e he
  show(dd (Wn (g.dr++OR g o.fr (Yg o.fr g.ev []) o q d))).length<=1000*(k+1);have t1:=KH (Wn (g.dr++OR g o.fr (Yg o.fr g.ev []) o q d));rw[rO,zzah]at t1;have t2:=qf false (Kc g (Yg o.fr g.ev []) q.ens) (tc g o.fr (Yg o.fr g.ev []) o q d);have t3:=jZ g (Yg o.fr g.ev []) q.ens;have t4:=h.ens;have t5:=h.dr;unfold OR at t1;unfold OR;omega
structure SF (M:Md):Prop where
 n:∀l∈M.ps,l.length=M.os.length+1
 pr:∀l∈M.ps,∀i g,l[i]?=some g->fZ i g
 fr:∀o∈M.os,0<=o.2/\o.2<=100000000
 los:M.os.length<=200
def OZ:∀{ps:List Pl}{i:Nat}{M M':Md},(∀p∈ps,SD p)->SF M->M.os=[]->me i ps M=some M'->SF M'/\M'.os=[]
 |[],i,M,M',hp,hM,ho,h=>by rw[me]at h;cases h;exact⟨hM,ho⟩
 |p::r,i,M,M',hp,hM,ho,h=>by
  rw[me]at h;split at h
  ·cases h
  rename_i hc
  have hb:uU p=0:=by
   by_cases hb:uU p=0
   ·exact hb
   exact absurd (Or.inr hb) hc
  refine OZ (M:={M with pl:=Zq p.ch (i:Int) M.pl,ps:=M.ps++[[Js p]]}) (fun x hx=>hp x (by simp[hx])) ⟨fun l hl=>?_,fun l hl j g hg=>?_,hM.fr,hM.los⟩ ho h
  ·rcases zzao.1 hl with hl|hl
   ·exact hM.n l hl
   rw[zzbd]at hl;subst hl;simp[ho]
  rcases zzao.1 hl with hl|hl
  ·exact hM.pr l hl j g hg
  rw[zzbd]at hl;subst hl;cases j with
  |zero=>simp at hg;subst hg;exact agq (hp p (by simp)) hb
  |succ j=>simp at hg
def O1{ps:List Pl}{M:Md}(hp:∀p∈ps,SD p)(h:mg ps=some M):SF M/\M.os=[]:=by
 unfold mg at h;split at h
 ·cases h
 exact OZ hp ⟨(fun l hl=>by cases hl),(fun l hl=>by cases hl),(fun o ho=>by cases ho),by simp[md0]⟩ rfl h
def O2{M M':Md}{o:Od}(h:SF M)(hs:DP M o=some M'):SF M'/\M'.os=M.os++[(o.sq,o.fr)]/\M'.pl=M.pl:=by
 unfold DP at hs;split at hs
 ·cases hs
 rename_i hx;cases hs;unfold HD at hx;simp only[Bool.not_eq_true,zzeu,Bool.not_eq_false',decide_eq_false_iff_not,Decidable.not_not]at hx;obtain⟨v1,v2,v3,v4⟩:=qg hx.1;refine⟨⟨fun l hl=>?_,fun l hl i g hg=>?_,fun x hx=>?_,by simp only[zzah,zzdz];omega⟩,rfl,rfl⟩
 ·obtain⟨l0,oy,rfl⟩:=zzax.1 hl;have:=h.n l0 oy;obtain⟨x,hx⟩:∃x,l0[M.os.length]?=some x:=⟨_,zzac (by omega)⟩;simp[Yh,this]
 ·obtain⟨l0,oy,rfl⟩:=zzax.1 hl;have hn:=h.n l0 oy;obtain⟨x,hx⟩:∃x,l0[M.os.length]?=some x:=⟨_,zzac (by omega)⟩;have hnx:Yh o M.os.length l0=l0++[Xz (cQ x) o]:=by unfold Yh;rw[hx];rfl
  rw[hnx]at hg;by_cases hi:i<l0.length
  ·rw[zzag hi]at hg;exact h.pr l0 oy i g hg
  have hi2:i=l0.length:=by
   have:=(zza.1 hg).1;rw[zzah,zzdz]at this;omega
  subst hi2;rw[zzal (zzab _)]at hg;simp at hg;subst hg;rw[hn];exact SE (h.pr l0 oy _ _ hx).cQ (by have:=h.los;omega)
 rcases zzao.1 hx with hx|hx
 ·exact h.fr x hx
 rw[zzbd]at hx;subst hx;exact v1
end Go.Proofs.YtnopaopphmjnmaaGreatDoor
