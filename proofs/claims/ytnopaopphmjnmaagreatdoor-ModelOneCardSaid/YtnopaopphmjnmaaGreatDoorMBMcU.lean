import Derived.Test.YtnopaopphmjnmaaGreatDoorMBMcO
set_option linter.all false
namespace Go.Proofs.YtnopaopphmjnmaaGreatDoor
open Go Go.Abs
def fT(lo up:Int):List bE->Prop
 |[]=>lo<=up
 |e::r=>lo<=e.st/\1<=e.fr/\fT (e.st+e.fr) up r
def fT.le{up:Int}:∀{L:List bE}{lo:Int},fT lo up L->lo<=up/\(L.length:Int)<=up-lo
 |[],lo,h=>⟨h,by simp only[fT]at h;simp only[zzcf];omega⟩
 |e::r,lo,h=>by
  obtain⟨h1,h2,h3⟩:=h;have:=fT.le h3;simp only[zzba];omega
def fT.mem{up:Int}:∀{L:List bE}{lo:Int},fT lo up L->∀e∈L,lo<=e.st/\1<=e.fr/\e.st+e.fr<=up
 |x::r,lo,h,e,he=>by
  obtain⟨h1,h2,h3⟩:=h;rcases zzau.1 he with rfl|he
  ·exact⟨h1,h2,h3.le.1⟩
  have:=fT.mem h3 e he;omega
def fT.low{up lo lo':Int}{L:List bE}(h:fT lo up L)(hl:lo'<=lo):fT lo' up L:=by
 cases L with
 |nil=>simp only[fT]at h |-;omega
 |cons e r=>exact⟨by have:=h.1;omega,h.2⟩
def fT.app{m up:Int}{B:List bE}(hB:fT m up B):∀{A:List bE}{lo:Int},fT lo m A->fT lo up (A++B)
 |[],lo,h=>hB.low h
 |e::r,lo,h=>⟨h.1,h.2.1,fT.app hB h.2.2⟩
def fT.nl{up:Int}:∀{L:List bE}{lo:Int},fT lo up L->fT lo up (L.map RX)
 |[],lo,h=>h
 |e::r,lo,h=>⟨h.1,h.2.1,fT.nl h.2.2⟩
def fT.am8{up f:Int}:∀{L:List bE}{lo:Int},fT lo up L->f<=lo->Ye f L=[]
 |[],lo,h,hf=>rfl
 |e::r,lo,h,hf=>by
  obtain⟨h1,h2,h3⟩:=h;rw[Ye,if_pos (by omega)];exact fT.am8 h3 (by omega)
def fT.bef{up f:Int}:∀{L:List bE}{lo:Int},fT lo up L->lo<=f->fT lo f (Ye f L)
 |[],lo,h,hf=>hf
 |e::r,lo,h,hf=>by
  have hh:=h;obtain⟨h1,h2,h3⟩:=h;rw[Ye];by_cases hs:f<=e.st
  ·rw[if_pos hs,fT.am8 h3 (by omega)];exact hf
  rw[if_neg hs];by_cases hl:f-e.st<e.fr
  ·rw[fT.am8 h3 (by omega)];simp only[fT,LF,if_pos hl];omega
  refine⟨h1,?_,?_⟩
  ·simp only[LF,if_neg hl];exact h2
  have:=fT.bef h3 (f:=f) (by omega);simp only[LF,if_neg hl];exact this
def ajN(p:Pl)(fr t:Int):∀(n:Nat)(a:Int),(t-a).toNat<=n->a<=t->fT a t ((Vw fr t a).map (Vh p)):=by
 intro n;induction n with
 |zero=>intro a h ha;rw[Vw,if_neg (by omega)];exact ha
 |succ n ih=>
  intro a h ha;rw[Vw];split
  ·have hN:1<=Ur fr t a/\Ur fr t a<=t-a:=by unfold Ur;split<;>omega
   have:=ih (a+Ur fr t a) (by omega) (by omega);exact⟨zzbv _,hN.1,this⟩
  exact ha
def Ht{p:Pl}{s:Sp}{a:Int}{e:En}(h:oU p s a=some e):Zf s.1 p.ens=some e/\1<=e.fr/\a<=s.2/\s.2+e.fr<=p.ln:=by
 unfold oU at h;cases hf:Zf s.1 p.ens with
 |none=>rw[hf]at h;cases h
 |some x=>
  rw[hf]at h;simp only at h;split at h
  ·cases h
  cases h;exact⟨rfl,by omega,by omega,by omega⟩
def aam(p:Pl):∀(l:List Sp)(a:Int),a<=p.ln->fT a p.ln (zi p l a)
 |[],a,ha=>by rw[zi];exact ajN p _ _ _ a (zzab _) ha
 |s::r,a,ha=>by
  rw[zi];cases hs:oU p s a with
  |none=>exact aam p r a ha
  |some e=>
   obtain⟨h1,h2,h3,h4⟩:=Ht hs;simp only[zzbc];refine fT.app ?_ (ajN p _ _ _ a (zzab _) h3);exact⟨zzbv _,h2,aam p r _ h4⟩
def aan(p:Pl)(l:List Sp)(a:Int)(h0:0<=a)(h1:a<=p.ln):fT a p.ln (jr p l a):=by
 unfold jr;rw[if_neg (by omega)];exact aam p l a h1
def DU(l:List Sp):Prop:=l.length<=1000/\l.Pairwise (fun a b=>a.1<b.1)/\∀a∈l,1<=a.1
def DU.nil:DU []:=⟨by simp,List.Pairwise.nil,fun a ha=>by cases ha⟩
def DU.filter{l:List Sp}(h:DU l)(P:Sp->Bool):DU (l.filter P):=
 ⟨zzbq (zzbn _ _) h.1,h.2.1.filter _,fun a ha=>h.2.2 a (zzcx.1 ha).1⟩
def EvP(e:bE):Prop:=0<=e.i/\e.i<=e.st/\DU e.al
def Hu(fr t:Int):∀(n:Nat)(a:Int),(t-a).toNat<=n->∀x∈Vw fr t a,a<=x.1:=by
 intro n;induction n with
 |zero=>intro a h x hx;rw[Vw,if_neg (by omega)]at hx;cases hx
 |succ n ih=>
  intro a h x hx;rw[Vw]at hx;split at hx
  ·have hN:1<=Ur fr t a:=by unfold Ur;split<;>omega
   rcases zzau.1 hx with rfl|hx
   ·exact zzbv _
   have:=ih (a+Ur fr t a) (by omega) x hx;omega
  cases hx
def am9(p:Pl)(hp:∀e∈p.ens,DU e.al):∀(l:List Sp)(a:Int),0<=a->∀e∈zi p l a,EvP e
 |[],a,ha,e,h=>by
  rw[zi,zzay]at h;obtain⟨x,hx,rfl⟩:=h;have:=Hu _ _ _ a (zzab _) x hx;exact⟨zzbv _,by simp only[Vh];omega,DU.nil⟩
 |s::r,a,ha,e,h=>by
  rw[zi]at h;cases hs:oU p s a with
  |none=>rw[hs]at h;exact am9 p hp r a ha e h
  |some x=>
   obtain⟨h1,h2,h3,h4⟩:=Ht hs;rw[hs]at h;simp only[zzbc,zzal,zzay,zzbk]at h;obtain⟨y,hy,rfl⟩|rfl|h:=h
   ·have:=Hu _ _ _ a (zzab _) y hy;exact⟨zzbv _,by simp only[Vh];omega,DU.nil⟩
   ·have:=hp x (jt h1).1;exact⟨zzbv _,by simp only[FT];omega,this.filter _⟩
   exact am9 p hp r _ (by omega) e h
def ajO(p:Pl)(hp:∀e∈p.ens,DU e.al)(l:List Sp)(a:Int)(h0:0<=a):∀e∈jr p l a,EvP e:=by
 unfold jr;split
 ·intro e he;cases he
 exact am9 p hp l a h0
def ana(f:Int):∀{L:List bE},(∀e∈L,EvP e)->∀e∈Ye f L,EvP e
 |[],h,e,he=>by cases he
 |x::r,h,e,he=>by
  rw[Ye]at he;split at he
  ·exact ana f (fun y hy=>h y (by simp[hy])) e he
  rcases zzau.1 he with rfl|he
  ·exact h x (by simp)
  exact ana f (fun y hy=>h y (by simp[hy])) e he
def OJ{lo up:Int}:∀{ks:List Int},ks.Pairwise (·<·)->(∀k∈ks,lo<=k/\k<=up)->(ks.length:Int)<=max 0 (up-lo+1)
 |[],_,_=>by simp only[zzcf];omega
 |k::r,h,hb=>by
  obtain⟨h1,h2⟩:=zzbw.1 h;have hk:=hb k (by simp);have:=OJ (lo:=k+1) (up:=up) h2 (fun x hx=>⟨by have:=h1 x hx;omega,(hb x (by simp[hx])).2⟩);simp only[zzba];omega
def yj{p:Pl}(h:sy p=true):∀e∈p.ens,1<=e.id/\1<=e.fr/\0<=e.ea/\e.ea<=e.la/\e.la<=p.ln-e.fr/\DU e.al:=by
 intro e he;have hv:=Lg h;obtain⟨h1,h2,h3⟩:=hv.ens e he;have K0:=hv.rg;unfold jy at h2;cases hf:Xh e.it p.aM with
 |none=>rw[hf]at h2;cases h2
 |some y=>
  rw[hf]at h2;simp only at h2;split at h2
  ·cases h2
  split at h2
  ·cases h2
  rename_i q2;split at h2
  ·cases h2
  have q2:wi e.fr 1 y.fr=true:=by simpa using q2
  simp only[wi,decide_eq_true_eq]at q2;simp only[zzak,decide_eq_true_eq]at h2;simp only[mA,zzak]at h3;obtain⟨p1,p2⟩:=ZC h3.1;have:=OJ p1 p2;rw[zzbe]at this;exact⟨h1,q2.1,h2.1,h2.2.1,h2.2.2,by omega,List.pairwise_map.1 p1,fun a ha=>(p2 a.1 (zzay.2 ⟨a,ha,rfl⟩)).1⟩
structure fQ (k:Nat) (g:Pg):Prop where
 v:sy g.p=true
 ln:g.p.ln<=600
 sh:g.p.sh.length<=10
 aM:g.p.aM.length<=20
 ens:g.p.ens.length<=10+k
 bks:g.p.bks.length<=8
 cls:g.p.cls.length<=20+k
 ch:fT 0 g.p.ln g.ev
 ep:∀e∈g.ev,EvP e
 cu:g.cu.length<=200
 dr:g.dr.length<=1000*k
 ve:g.ve=k
def fQ.dx{k:Nat}{g:Pg}(h:fQ k g):fQ k (dx g):=
 ⟨h.v,h.ln,h.sh,h.aM,h.ens,h.bks,h.cls,h.ch.nl,fun e he=>by
  obtain⟨x,hx,rfl⟩:=zzay.1 he;exact h.ep x hx,h.cu,h.dr,h.ve⟩
def fQ.plc{k:Nat}{g:Pg}(h:fQ k g)(hk:k<=900):A3 g.p:=
 ⟨by have:=h.sh;omega,by have:=h.aM;omega,by have:=h.ens;omega,by have:=h.bks;omega,by have:=h.cls;omega,fun e he=>by have:=(yj h.v e he).2.2.2.2.2.1;omega⟩
def fQ.small{k:Nat}{g:Pg}(h:fQ k g):g.ev.length<=600/\∀e∈g.ev,Ue e:=by
 have h1:=h.ch.le;have h2:=h.ln;refine⟨by omega,fun e he=>?_⟩;obtain⟨q1,q2,q3⟩:=h.ch.mem e he;obtain⟨q4,q5,q6,_⟩:=h.ep e he;exact⟨⟨by omega,by omega⟩,⟨by omega,by omega⟩,⟨by omega,by omega⟩,by omega⟩
def fQ.mo{k:Nat}{g:Pg}{f:Int}(h:fQ k g)(hk:k<=900)(hf:0<=f/\f<g.p.ln):lP g f:=
 ⟨by have:=h.small.1;omega,h.small.2,by have:=h.ln;unfold nM;omega,by have:=h.ens;omega⟩
def fQ.pgc{k:Nat}{g:Pg}(h:fQ k g)(hk:k<=900):PgC g:=
 ⟨h.plc hk,by have:=h.small.1;omega,by have:=h.cu;omega,by have:=h.dr;omega,fun e he=>by have:=(h.ep e he).2.2.1;omega⟩
structure Sf (p:Pl):Prop where
 ln:p.ln<=600
 sh:p.sh.length<=10
 aM:p.aM.length<=20
 ens:p.ens.length<=10
 bks:p.bks.length<=8
 cls:p.cls.length<=20
def anb(p:Pl):Sf (IA p):=
 ⟨by simp only[IA];split<;>omega,by simp[IA];omega,by simp[IA];omega,by simp[IA];omega,by simp[IA];omega,by simp[IA];omega⟩
def Hv{p:Pl}(h:Be p=0):sy p=true/\∃l,IB p=some l:=by
 unfold Be at h;split at h
 ·cases h
 rename_i hv;cases hl:IB p with
 |none=>rw[hl]at h;cases h
 |some l=>exact⟨by simpa using hv,l,rfl⟩
def af6{p:Pl}(hp:Sf p)(h:Be p=0):fQ 0 (yf p):=by
 obtain⟨hv,l,hl⟩:=Hv h;have hg:yf p=⟨p,jr p l 0,[],0,[],0⟩:=by unfold yf;rw[hl]
 have dm:=(Lg hv).ln;rw[hg];exact⟨hv,hp.ln,hp.sh,hp.aM,hp.ens,hp.bks,hp.cls,aan p l 0 (by omega) (by omega),ajO p (fun e he=>(yj hv e he).2.2.2.2.2) l 0 (by omega),by simp,by simp,rfl⟩
def Dq{p:Pl}:∀{ids:List Int}{us en:List (Int×Int)}{free last:Int}{l:List Sp},Jh p ids us en free last=some l->l.length<=ids.length/\∀s∈l,0<=s.2/\s.2<=100000000
 |[],_,_,_,_,l,h=>by cases h;exact⟨zzab _,fun s hs=>by cases hs⟩
 |id::r,us,en,free,last,l,h=>by
  rw[Jh]at h;cases h1:zq id p.ens 0 with
  |none=>rw[h1]at h;cases h
  |some k=>
   rw[h1]at h;simp only at h;split at h
   ·cases h
   cases h2:p.ens[k]? with
   |none=>rw[h2]at h;cases h
   |some e=>
    rw[h2]at h;simp only at h;split at h
    ·cases h
    cases h3:Vz p e (Ug en (Kq p e.it) (max e.ea free))with
    |none=>rw[h3]at h;cases h
    |some s=>
     rw[h3]at h;simp only at h;cases h4:Jh p r (Vs us e.it) (Zm p en e.it (s+e.fr)) (s+e.fr) k with
     |none=>rw[h4]at h;cases h
     |some t=>
      rw[h4]at h;cases h;obtain⟨q1,q2⟩:=Dq h4;obtain⟨_,_,q3,_,_,q4,_⟩:=Qaw h3;refine⟨by simp only[zzba];omega,fun x hx=>?_⟩;rcases zzau.1 hx with rfl|hx
      ·exact⟨q3,q4⟩
      exact q2 x hx
def asW{p:Pl}(hp:Sf p)(ey:∀e∈p.ens,e.al.length<=8796093022208)(S5:∀e∈p.ens,e.ea<=9223372036854775807):afY p:=by
 refine⟨⟨by have:=hp.sh;omega,by have:=hp.aM;omega,by have:=hp.ens;omega,by have:=hp.bks;omega,by have:=hp.cls;omega,ey⟩,by have:=hp.ln;omega,S5,fun l hl=>?_⟩;unfold IB at hl;split at hl
 ·cases hl
 obtain⟨h1,h2⟩:=Dq hl;have h3:(Uc p).length=p.ens.length:=by simp[Uc]
 have:=hp.ens;refine⟨by omega,fun s hs=>?_⟩;have:=h2 s hs;omega
def af7{o:Od}(h:Jn o=true):o.n=0/\o.nw.al=[]:=by
 simp only[Jn,decide_eq_true_eq]at h;exact⟨h.2.1,h.2.2.2.2.2.2.2.2.2.2⟩
def pT{o:Od}(h:Zb o=true):(0<=o.fr/\o.fr<=100000000)/\(-100000000<=o.n/\o.n<=100000000)/\(0<=o.sq/\o.sq<=200)/\(1<=o.ki/\o.ki<=5):=by
 unfold Zb at h;split at h
 ·cases h
 split at h
 ·cases h
 split at h
 ·cases h
 split at h
 ·cases h
 rename_i h1 h2 h3 h4;rw[zzak]at h;refine⟨by omega,?_,by omega,by omega⟩;by_cases hk:o.ki=1
 ·omega
 have hb:=(af7 h.2).1
 have hn:(Jf o).n=o.n:=by
  unfold Jf;rw[if_neg hk];repeat' split
  all_goals rfl
 omega
def pU{g:Pg}{f:Int}{b:List (Int×Bool)}{o:Od}{q:Pl}{d:Int}(h:Dg g f b o=some (q,d)):f<g.p.ln/\sH g f b o=some (q,d)/\sy q=true/\Df g f b o q d=true:=by
 unfold Dg at h;split at h
 ·cases h
 rename_i hl;cases hb:sH g f b o with
 |none=>rw[hb]at h;cases h
 |some x=>
  obtain⟨q',d'⟩:=x;rw[hb]at h;simp only at h;split at h
  ·rename_i hc;cases h;rw[zzak]at hc;exact⟨by omega,rfl,hc.1,hc.2⟩
  cases h
def jX{g:Pg}{f:Int}{b:List (Int×Bool)}{o:Od}{q:Pl}{d:Int}(h:sH g f b o=some (q,d)):
  q.ln=g.p.ln/\q.sh=g.p.sh/\q.aM=g.p.aM/\q.bks=g.p.bks/\q.ens.length<=g.p.ens.length+1/\q.cls.length<=g.p.cls.length+1/\q.ch=g.p.ch:=by
 unfold sH at h;split at h
 ·unfold rf at h;split at h
  ·cases h
  split at h
  ·cases h
  cases h;exact⟨rfl,rfl,rfl,rfl,by simp,by simp,rfl⟩
 split at h
 ·unfold xK at h;split at h
  ·cases h
  cases h;exact⟨rfl,rfl,rfl,rfl,by have:=zzbn (fun e=>!mC o.en e) g.p.ens;simp only;omega,by simp,rfl⟩
 split at h
 ·cases h;refine⟨rfl,rfl,rfl,rfl,?_,by simp[nR],rfl⟩;simp only[nR,zzag,zzaq,zzba,zzcn];omega
 cases h;exact⟨rfl,rfl,rfl,rfl,by simp[C9],by simp[C9],rfl⟩
def af8{n:Int}(h: -9223372036854775808<=n/\n<=9223372036854775807):Vt n=n:=by unfold Vt;omega
def ajP{g:Pg}{f:Int}{b:List (Int×Bool)}{o:Od}{q:Pl}{d:Int}(hk:o.ki=1)(h:sH g f b o=some (q,d))(hv:sy q=true)(hm:Df g f b o q d=true)(dm:g.p.ln<=600):
  (1<=d/\d<=600)/\∀st,A6 g f b o.en=some st->Vt (f-st)<=d/\st+d<=q.ln:=by
 have hq:=(jX h).1;unfold sH at h;rw[if_pos hk]at h;unfold Df at hm;rw[if_pos hk]at hm;unfold rf at h;cases he:g.p.ens[(Uz g o.en).toNat]? with
 |none=>rw[he]at h;cases h
 |some e=>
  rw[he]at h;simp only at h;split at h
  ·cases h
  simp only[Option.some.injEq,Prod.mk.injEq]at h;obtain⟨h1,h2⟩:=h;have ai:=(zza.1 he).1
  have dH:Ru g f b o e∈q.ens:=by
   rw[<- h1];exact zzac (zzaz ai)
  obtain⟨_,p1,p2,p3,p4,_⟩:=yj hv _ dH;have wD:(Ru g f b o e).fr=d:=h2;rw[wD]at p1 p4;refine⟨by omega,fun st bU=>?_⟩;unfold Qbr at hm;split at hm
  ·cases hm
  split at hm
  ·cases hm
  split at hm
  ·cases hm
  split at hm
  ·cases hm
  split at hm
  ·cases hm
  rw[bU]at hm;simp only at hm;split at hm
  ·cases hm
  refine⟨?_,by omega⟩;rw[<- h2];unfold tJ;rw[bU];simp only;split<;>omega
def aao{k:Nat}{g:Pg}{f:Int}{b:List (Int×Bool)}{o:Od}{q:Pl}{d:Int}(h:fQ k g)(hk:k<=900)(hf:0<=f)(hc:Dg g f b o=some (q,d)){e:bE}(he:pP g f b o q d=some e):
  e.st=f/\1<=e.fr/\f+e.fr<=q.ln/\EvP e:=by
 obtain⟨c1,c2,c3,c4⟩:=pU hc;have hq:=(jX c2).1;have dm:=h.ln;unfold pP at he;cases hp:Jg g f b with
 |none=>rw[hp]at he;cases he
 |some x=>
  rw[hp]at he;simp only at he;cases hF:iw g f o q d x with
  |none=>rw[hF]at he;cases he
  |some F=>
   rw[hF]at he;simp only at he;split at he
   ·cases he
   rename_i qd;cases he
   have hxm:x∈g.ev/\Ws f x=true/\x.id≠0:=by
    unfold Jg at hp;cases hfd:g.ev.find? (Ws f)with
    |none=>rw[hfd]at hp;cases hp
    |some y=>
     rw[hfd]at hp;simp only at hp;split at hp
     ·cases hp
     split at hp
     ·cases hp;rename_i h1 h2;exact⟨zzdy hfd,zzgy hfd,h1⟩
     cases hp
   obtain⟨x1,x2,x3⟩:=hxm;simp only[Ws,decide_eq_true_eq]at x2;obtain⟨y1,y2,y3⟩:=h.ch.mem x x1;obtain⟨z1,z2,z3⟩:=h.ep x x1
   have ey:DU (jP q f x.id F ((Zf x.id q.ens).getD xM).al):=by
    refine DU.filter ?_ _;cases hn:Zf x.id q.ens with
    |none=>exact DU.nil
    |some en=>exact(yj c3 en (jt hn).1).2.2.2.2.2
   have hFF:1<=F/\f+F<=q.ln:=by
    unfold iw at hF;split at hF
    ·rename_i fL;cases hF;obtain⟨d1,d2⟩:=ajP fL.1 c2 c3 c4 dm
     have bI:A6 g f b o.en=some (qZ g x.id):=by
      unfold A6;rw[hp];simp only;rw[if_pos fL.2.symm]
     obtain⟨e1,e2⟩:=d2 _ bI;have hb:=C6 (h.mo hk ⟨hf,c1⟩) x.id;rw[af8 (by omega)]at e1;omega
    split at hF
    ·cases hF
    split at hF
    ·cases hF
    cases hF;simp only[uk];omega
   exact⟨rfl,hFF.1,hFF.2,by simp only;omega,by simp only;omega,ey⟩
def aap{k:Nat}{g:Pg}{f:Int}{b:List (Int×Bool)}{o:Od}{q:Pl}{d:Int}(h:fQ k g)(hk:k<=900)(hf:0<=f)(hc:Dg g f b o=some (q,d)):
  f<=Ki g f b o q d/\Ki g f b o q d<=q.ln/\fT 0 (Ki g f b o q d) (Jz g f b o q d)/\∀e∈Jz g f b o q d,EvP e:=by
 obtain⟨c1,c2,c3,c4⟩:=pU hc;have hq:=(jX c2).1;have hb:=(h.ch.bef (f:=f) hf).nl;have hbp:=ana f h.ep;unfold Ki Jz;cases dw:pP g f b o q d with
 |none=>
  simp only[Option.toList_none,zzat];refine⟨zzbv _,by omega,hb,fun e he=>?_⟩;obtain⟨x,hx,rfl⟩:=zzay.1 he;exact hbp x hx
 |some e=>
  obtain⟨e1,e2,e3,e4⟩:=aao h hk hf hc dw;simp only[zzfe];refine⟨by omega,by omega,fT.app ?_ hb,fun x hx=>?_⟩
  ·exact⟨by omega,e2,by simp only[fT];omega⟩
  rcases zzal.1 hx with hx|hx
  ·obtain⟨y,hy,rfl⟩:=zzay.1 hx;exact hbp y hy
  rw[zzbk]at hx;rw[hx];exact e4
def asX{k:Nat}{g:Pg}{f:Int}{b:List (Int×Bool)}{o:Od}{q:Pl}{d:Int}(h:fQ k g)(hk:k<=900)(hf:0<=f)(fL:1<=o.ki/\o.ki<=5)(hc:Dg g f b o=some (q,d)):
  He g f b o q d/\(Yq g f b o q d).length<=1000000/\(gV g f b o q d).length<=10000000:=by
 obtain⟨c1,c2,c3,c4⟩:=pU hc;obtain⟨q1,q2,q3,q4,q5,q6,q7⟩:=jX c2;obtain⟨n1,n2,n3,n4⟩:=aap h hk hf hc;have dm:=h.ln;have XP:=Lg c3;have Ip:=yj c3
 have bU:(Yq g f b o q d).length<=1000/\∀s∈Yq g f b o q d,0<=s.2/\s.2<=100000000:=by
  unfold Yq;cases hs:Ym q (Ki g f b o q d) (pQ g f b o q d) (Xb true (Jw g b q.ens) (sK g f b o q d))with
  |none=>exact⟨by simp,fun s hs=>by cases hs⟩
  |some l=>
   obtain⟨s1,s2⟩:=Dq hs;have t1:=pO true (Jw g b q.ens) (sK g f b o q d);have t2:=jU g b q.ens;have t3:=h.ens;exact⟨by simp only[zzgs];omega,s2⟩
 have iT:=aan q (Yq g f b o q d) (Ki g f b o q d) (by omega) n2
 have hd:0<=d/\d<=1000000000:=by
  by_cases h1:o.ki=1
  ·have:=(ajP h1 c2 c3 c4 dm).1;omega
  unfold sH at c2;rw[if_neg h1]at c2;split at c2
  ·cases dX:xK g o with
   |none=>rw[dX]at c2;cases c2
   |some x=>rw[dX]at c2;cases c2;omega
  split at c2<;>cases c2<;>omega
 have hpc:A3 q:=⟨by rw[q2];have:=h.sh;omega,by rw[q3];have:=h.aM;omega,by have:=h.ens;omega,by rw[q4];have:=h.bks;omega,by have:=h.cls;omega,fun e he=>by have:=(Ip e he).2.2.2.2.2.1;omega⟩;refine⟨⟨h.mo hk ⟨hf,c1⟩,hpc,?_,hd,by have:=XP.rg;omega,by omega,by have:=h.small.1;omega,by have:=h.dr;omega,by omega,?_,by omega,fun s hs=>by have:=bU.2 s hs;omega⟩,by have:=bU.1;omega,?_⟩
 ·exact⟨by have:=h.cls;omega,by rw[q2];have:=h.sh;omega,by rw[q3];have:=h.aM;omega,by have:=h.ens;omega,by rw[q4];have:=h.bks;omega,fun e he=>(Ip e he).2.2.2.2.2.1,by have:=XP.ln;omega,
   fun e he=>by have:=Ip e he;omega,fun e he=>by have:=Ip e he;omega,fun e he=>by have:=Ip e he;omega⟩
 ·intro e he;obtain⟨e1,e2,e3,e4,e5,e6,_⟩:=aao h hk hf hc he;exact⟨⟨by omega,by omega⟩,⟨by omega,by omega⟩,⟨by omega,by omega⟩,by omega⟩
 have:=iT.le.2;unfold gV;omega
def zA(o:Od):Prop:=o.nw.al.length<=1000
def aaq{k:Nat}{g:Pg}{o:Od}(h:fQ k g)(hk:k<=900)(ho:zA o):R2 g o:=by
 unfold zA at ho;refine⟨h.pgc hk,by omega,by have:=h.ve;omega,by have:=h.cu;omega,fun hc _=>?_,fun hc _ q d hx=>?_⟩
 ·have hv:Zb o=true:=by unfold Ll at hc;rw[zzak]at hc;exact hc.1
  obtain⟨v1,v2,v3,v4⟩:=pT hv;exact⟨fun hl=>h.mo hk ⟨v1.1,hl⟩,h.plc hk,v1.1,by have:=h.ln;omega,by unfold sF;omega,fun e he=>by have:=yj h.v e he;have:=h.ln;unfold sF;omega,by have:=h.dr;omega,by omega⟩
 have hv:Zb o=true:=by unfold Ll at hc;rw[zzak]at hc;exact hc.1
 obtain⟨v1,v2,v3,v4⟩:=pT hv;exact asX h hk v1.1 v4 hx
def Sg{k:Nat}{g:Pg}{o:Od}(h:fQ k g)(hk:k<=900):fQ (k+1) (Zq g o):=by
 have hup:fQ (k+1) {g with ve:=g.ve+1}:=⟨h.v,h.ln,h.sh,h.aM,by have:=h.ens;simp only;omega,h.bks,by have:=h.cls;simp only;omega,h.ch,h.ep,h.cu,by have:=h.dr;simp only;omega,by have:=h.ve;simp only;omega⟩;unfold Zq;split
 ·exact hup
 rename_i hc;split
 ·cases he:RZ o.cu g.cu with
  |none=>exact hup
  |some x=>
   refine⟨h.v,h.ln,h.sh,h.aM,by have:=h.ens;simp only;omega,h.bks,by have:=h.cls;simp only;omega,h.ch,h.ep,?_,by have:=h.dr;simp only;omega,by have:=h.ve;simp only;omega⟩;unfold RZ at he;split at he
   ·split at he
    ·cases he
    cases he;simp only;omega
   cases he
 cases hx:Dg g o.fr (Yd o.fr g.ev []) o with
 |none=>exact hup
 |some r=>
  obtain⟨q,d⟩:=r
  have hv:Zb o=true:=by
   have hc:Ll g o=true:=by simpa using hc
   unfold Ll at hc;rw[zzak]at hc;exact hc.1
  obtain⟨v1,v2,v3,v4⟩:=pT hv;obtain⟨c1,c2,c3,c4⟩:=pU hx;obtain⟨q1,q2,q3,q4,q5,q6,q7⟩:=jX c2;obtain⟨n1,n2,n3,n4⟩:=aap h hk v1.1 hx;have iT:=aan q (Yq g o.fr (Yd o.fr g.ev []) o q d) _ (by omega) n2;have hbp:=ajO q (fun e he=>(yj c3 e he).2.2.2.2.2) (Yq g o.fr (Yd o.fr g.ev []) o q d) (Ki g o.fr (Yd o.fr g.ev []) o q d) (by omega);refine⟨c3,by show q.ln<=600;have:=h.ln;omega,by show q.sh.length<=10;rw[q2];exact h.sh,by show q.aM.length<=20;rw[q3];exact h.aM,by show q.ens.length<=10+(k+1);have:=h.ens;omega,by show q.bks.length<=8;rw[q4];exact h.bks,by show q.cls.length<=20+(k+1);have:=h.cls;omega,fT.app iT n3,?_,h.cu,?_,by show g.ve+1=_;have:=h.ve;omega⟩
  ·intro e he;rcases zzal.1 he with he|he
   ·exact n4 e he
   exact hbp e he
  show(dd (Wj (g.dr++OA g o.fr (Yd o.fr g.ev []) o q d))).length<=1000*(k+1);have t1:=Kf (Wj (g.dr++OA g o.fr (Yd o.fr g.ev []) o q d));rw[rz,zzag]at t1;have t2:=pO false (Jw g (Yd o.fr g.ev []) q.ens) (sK g o.fr (Yd o.fr g.ev []) o q d);have t3:=jU g (Yd o.fr g.ev []) q.ens;have t4:=h.ens;have t5:=h.dr;unfold OA at t1;unfold OA;omega
structure Ta (M:Md):Prop where
 n:∀l∈M.ps,l.length=M.os.length+1
 pr:∀l∈M.ps,∀i g,l[i]?=some g->fQ i g
 fr:∀o∈M.os,0<=o.2/\o.2<=100000000
 los:M.os.length<=200
def OK:∀{ps:List Pl}{i:Nat}{M M':Md},(∀p∈ps,Sf p)->Ta M->M.os=[]->pR i ps M=some M'->Ta M'/\M'.os=[]
 |[],i,M,M',hp,hM,ho,h=>by rw[pR]at h;cases h;exact⟨hM,ho⟩
 |p::r,i,M,M',hp,hM,ho,h=>by
  rw[pR]at h;split at h
  ·cases h
  rename_i hc
  have hb:Be p=0:=by
   by_cases hb:Be p=0
   ·exact hb
   exact absurd (Or.inr hb) hc
  refine OK (M:={M with pl:=Zx p.ch (i:Int) M.pl,ps:=M.ps++[[yf p]]}) (fun x hx=>hp x (by simp[hx])) ⟨fun l hl=>?_,fun l hl j g hg=>?_,hM.fr,hM.los⟩ ho h
  ·rcases zzal.1 hl with hl|hl
   ·exact hM.n l hl
   rw[zzbk]at hl;subst hl;simp[ho]
  rcases zzal.1 hl with hl|hl
  ·exact hM.pr l hl j g hg
  rw[zzbk]at hl;subst hl;cases j with
  |zero=>simp at hg;subst hg;exact af6 (hp p (by simp)) hb
  |succ j=>simp at hg
def OL{ps:List Pl}{M:Md}(hp:∀p∈ps,Sf p)(h:pS ps=some M):Ta M/\M.os=[]:=by
 unfold pS at h;split at h
 ·cases h
 exact OK hp ⟨(fun l hl=>by cases hl),(fun l hl=>by cases hl),(fun o ho=>by cases ho),by simp[md0]⟩ rfl h
def OM{M M':Md}{o:Od}(h:Ta M)(hs:lR M o=some M'):Ta M'/\M'.os=M.os++[(o.sq,o.fr)]/\M'.pl=M.pl:=by
 unfold lR at hs;split at hs
 ·cases hs
 rename_i hx;cases hs;unfold Hl at hx;simp only[Bool.not_eq_true,zzeq,Bool.not_eq_false',decide_eq_false_iff_not,Decidable.not_not]at hx;obtain⟨v1,v2,v3,v4⟩:=pT hx.1;refine⟨⟨fun l hl=>?_,fun l hl i g hg=>?_,fun x hx=>?_,by simp only[zzag,zzdv];omega⟩,rfl,rfl⟩
 ·obtain⟨l0,nX,rfl⟩:=zzay.1 hl;have:=h.n l0 nX;obtain⟨x,hx⟩:∃x,l0[M.os.length]?=some x:=⟨_,zzad (by omega)⟩;simp[Yo,this]
 ·obtain⟨l0,nX,rfl⟩:=zzay.1 hl;have hn:=h.n l0 nX;obtain⟨x,hx⟩:∃x,l0[M.os.length]?=some x:=⟨_,zzad (by omega)⟩;have hnx:Yo o M.os.length l0=l0++[Zq (dx x) o]:=by unfold Yo;rw[hx];rfl
  rw[hnx]at hg;by_cases hi:i<l0.length
  ·rw[zzah hi]at hg;exact h.pr l0 nX i g hg
  have hi2:i=l0.length:=by
   have:=(zza.1 hg).1;rw[zzag,zzdv]at this;omega
  subst hi2;rw[zzap (zzab _)]at hg;simp at hg;subst hg;rw[hn];exact Sg (h.pr l0 nX _ _ hx).dx (by have:=h.los;omega)
 rcases zzal.1 hx with hx|hx
 ·exact h.fr x hx
 rw[zzbk]at hx;subst hx;exact v1
end Go.Proofs.YtnopaopphmjnmaaGreatDoor
