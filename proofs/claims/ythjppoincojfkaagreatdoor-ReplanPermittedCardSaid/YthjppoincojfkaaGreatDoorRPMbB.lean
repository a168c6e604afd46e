import Derived.Test.YthjppoincojfkaaGreatDoorRPMN
import Derived.Test.YthjppoincojfkaaGreatDoorRPMT
set_option linter.all false
set_option maxRecDepth 100000
set_option maxHeartbeats 64000000
namespace Go.Proofs.YthjppoincojfkaaGreatDoor
open Go Go.Abs
def Kr(f:Int)(e:bC):Bool:=decide (e.st<=f/\f<e.st+e.fr)
def Kz(e:bC):Prop:=(0<=e.st/\e.st<=1000000)/\(0<=e.fr/\e.fr<=1000000)/\(0<=e.i/\e.i<=1000000)/\e.al.length<=8796093022208
def gP(f:Int):List bC->Nat->Int
 |[],_=> -1
 |e::r,i=>if Kr f e=true then i else gP f r (i+1)
def lS(f:Int):List bC->Option bC
 |[]=>none
 |e::r=>if Kr f e=true then some e else lS f r
def xQ{f:Int}:∀{L:List bC}{i:Nat},lS f L=none->gP f L i= -1
 |[],_,_=>rfl
 |a::r,i,h=>by
  simp only[lS]at h;split at h
  ·cases h
  rename_i hn;simp only[gP,if_neg hn];exact xQ h
def xR{f:Int}{a:bC}:∀{L:List bC}{i:Nat},lS f L=some a->∃k:Nat,gP f L i=((i+k:Nat):Int)/\L[k]?=some a/\Kr f a=true
 |[],_,h=>by cases h
 |b::r,i,h=>by
  simp only[lS]at h;split at h
  ·rename_i hb;cases h;exact⟨0,by simp[gP,hb],rfl,hb⟩
  rename_i hn;obtain⟨k,h1,h2,h3⟩:=xR (i:=i+1) h;exact⟨k+1,by simp only[gP,if_neg hn,h1];omega,Nm h2,h3⟩
def K9(f:Int):UV:=fun _ _ l=>match l with
 |[.agg [_,_,.int _ st,.int _ fr,_,_,_],_]=>.bool (decide (st<=f/\f<st+fr))
 |_=>.junk
def xS(f:Int):Option bC->AV
 |none=>aja
 |some e=>.aS [.agg (Qe e),I (e.i+f-e.st),.bool true]
open Go Go.Abs
structure Cue where
 id:Int
 fr:Int
 to:Int
 pr:Int
 tx:ByteArray
def Qk(c:Cue):P2:=[I c.id,I c.fr,I c.to,I c.pr,.str c.tx]
structure Pg where
 p:Pl
 ev:List bC
 cu:List Cue
 ed:Int
 dr:Pi
 ve:Int
def Qm(g:Pg):P2:=Qa g.p++[.sl .ro (g.ev.map Qe),.sl .ro (g.cu.map Qk),I g.ed,.sl .ro (g.dr.map Qy),I g.ve]
structure Od where
 sq:Int
 ch:Int
 fr:Int
 ki:Int
 en:Int
 n:Int
 nw:En
 cl:Cl
 cu:Cue
def Qq(o:Od):P2:=[I o.sq,I o.ch,I o.fr,I o.ki,I o.en,I o.n]++(Qd o.nw++(Qg o.cl++Qk o.cu))
def GB(pre a r bs:P2)(h:bs.length=a.length):setA (pre++(a++r)) pre.length bs=pre++(bs++r):=by
 induction bs generalizing pre a with
 |nil=>cases a with
  |nil=>rfl
  |cons _ _=>simp at h
 |cons x bs ih=>cases a with
  |nil=>simp at h
  |cons y a=>
   rw[setA];have e:(pre++(y::a++r)).set pre.length x=(pre++[x])++(a++r):=zd
   rw[e];have:=ih (pre++[x]) a (Nm h);rw[show(pre++[x]).length=pre.length+1 by simp]at this;rw[this];simp
theorem jK(l:P2)(o:Nat):setA l o []=l:=rfl
def xU(y:AV):∀(xs l:P2)(n:Nat),setA (y::l) (n+1) xs=y::setA l n xs
 |[],_,_=>rfl
 |x::xs,l,n=>by
  rw[setA,setA,zzdq];exact xU y xs _ _
def jL(y x:AV)(xs l:P2):setA (y::l) 0 (x::xs)=x::setA l 0 xs:=by
 rw[setA,List.set_cons_zero,xU]
def jM{sz:Nat}:∀{rows:T5},(∀r∈rows,r.length=sz)->rows.flatten.length=rows.length*sz
 |[],_=>zd
 |a::r,h=>by
  have:=jM (rows:=r) fun x hx=>h x (by simp[hx]);rw[zzcj,zzak,this,h a zd,zzaz,zzhj];omega
def Qbw{sz:Nat}:∀{rows:T5},(∀r∈rows,r.length=sz)->aY sz rows.length rows.flatten=rows
 |[],_=>rfl
 |a::r,h=>by
  have ha:=h a zd;have ih:=Qbw (rows:=r) fun x hx=>h x (by simp[hx]);rw[zzaz,wE,zzcj,List.take_append_of_le_length zE,zzdx zE,zzat zE,List.drop_of_length_le zE,zzai,ih]
def Bj{sz:Nat}:∀{rows:T5}{i:Nat}{row:P2},(∀r∈rows,r.length=sz)->rows[i]?=some row->∃pre r,rows.flatten=pre++(row++r)/\pre.length=i*sz
 |[],i,row,_,h=>by simp at h
 |a::r,0,row,h,hi=>by simp at hi;subst hi;exact⟨[],r.flatten,zd,zd⟩
 |a::r,i+1,row,h,hi=>by
  obtain⟨p,q,h1,h2⟩:=Bj (rows:=r) (fun x hx=>h x (by simp[hx])) (Nm hi);have ha:=h a zd;exact⟨a++p,q,by rw[zzcj,h1,zzav],by rw[zzak,h2,ha,zzhj];omega⟩
def uL{sz:Nat}{rows:T5}{i:Nat}{row:P2}(h:∀r∈rows,r.length=sz)(hi:rows[i]?=some row):(∃r,rows.flatten.drop (i*sz)=row++r)/\setA rows.flatten (i*sz) row=rows.flatten:=by
 obtain⟨p,q,h1,h2⟩:=Bj h hi;refine⟨⟨q,by rw[h1,<- h2,zzga]⟩,?_⟩;rw[h1,<- h2];exact GB p row q row rfl
def kU{α:Type}{f:α->P2}(h:∀a,Zm (f a)=true)(l:List α):Zm (l.map f).flatten=true:=by
 induction l with
 |nil=>rfl
 |cons a r ih=>rw[zzbb,zzcj];exact Q1 (h a) ih
def kV{α:Type}{f:α->P2}{sz:Nat}(h:∀a,(f a).length=sz)(l:List α):∀r∈l.map f,r.length=sz:=by
 intro r hr;simp only[zzar]at hr;obtain⟨a,_,rfl⟩:=hr;exact h a
def pV(l:List Sp)(h:l.length<=8796093022208):Pure Tryz.prog aD 116 [.sl .ro (l.map Qf)] (.sl .ro (l.map Qf)):=by
 refine Qp ab3 (fun _ _ _=>.junk) zd ?_;simp[agH,agI];exact⟨by rintro row a b _ rfl;rfl,zE⟩
def pW(l:List It)(h:l.length<=1000000000):Pure Tryz.prog aD 117 [.sl .ro (l.map Qj)] (.sl .ro (l.map Qj)):=by
 refine Qp ab4 (fun _ _ _=>.junk) zd ?_;simp[agJ,agK];exact⟨fun _ _=>rfl,zE⟩
def pX(l:List Bk)(h:l.length<=1000000000):Pure Tryz.prog aD 120 [.sl .ro (l.map Xl)] (.sl .ro (l.map Xl)):=by
 refine Qp ab6 (fun _ _ _=>.junk) zd ?_;simp[agN,agO];exact⟨fun _ _=>rfl,zE⟩
def Dm(l:List Cl)(h:l.length<=1000000000):Pure Tryz.prog aD 121 [.sl .ro (l.map Qg)] (.sl .ro (l.map Qg)):=by
 refine Qp MN (fun _ _ _=>.junk) zd ?_;simp[Tz,TA];exact⟨fun _ _=>rfl,zE⟩
def Oi(l:List Sp)(h:l.length<=8796093022208):Pure Tryz.prog aD 102 [.sl .ro (l.map Qf)] (.sl .ro (l.map Qf)):=by
 refine Qp abS (fun _ _ _=>.junk) zd ?_;simp[agt,agu];exact⟨by rintro row a b _ rfl;rfl,zE⟩
def ae2(l:List Cue)(h:l.length<=1000000000):Pure Tryz.prog aD 103 [.sl .ro (l.map Qk)] (.sl .ro (l.map Qk)):=by
 refine Qp abT (fun _ _ _=>.junk) zd ?_;simp[agv,agw];exact⟨fun _ _=>rfl,zE⟩
def ae3(l:Pi)(h:l.length<=1000000000):Pure Tryz.prog aD 104 [.sl .ro (l.map Qy)] (.sl .ro (l.map Qy)):=by
 refine Qp abU (fun _ _ _=>.junk) zd ?_;simp[agx,agy];exact⟨fun _ _=>rfl,zE⟩
def Wv(e:En)(h:e.al.length<=8796093022208):Pure Tryz.prog aD 119 [.agg (Qd e)] (.agg (Qd e)):=by
 have k:=Oi e.al h;refine Qp ab5 (fun _ _ l=>l.headD .junk) zd ?_;simp[agL,agM,Qd];exact k
def ae4:UV:=fun _ f _=>if f=999999 then .aJ 0 []else .junk
def xV(Y:YT)(rows:T5)(h:∀r∈rows,r.length=7)(hl:rows.length<=1000000000)(aO:rows≠[])(m:AM)(K:So)(hK:K (.bs m.boxes.length 0 rows.length 7) {m with boxes:=m.boxes++[rows.flatten]}):
  aB Tryz.prog aD Y 118 [.sl .ro rows] m K:=by
 refine Xn BX ae4 zd ?_;simp[ML,MM,ae4,aO];exact⟨⟨zE,h⟩,hK⟩
def YS(Y:YT)(rows:T5)(h:∀r∈rows,r.length=7)(hl:rows.length<=1000000000)(aO:rows≠[])(m:AM)(K:So)(hK:K (.bs m.boxes.length 0 rows.length 7) {m with boxes:=m.boxes++[rows.flatten]}):
  aB Tryz.prog aD Y 101 [.sl .ro rows] m K:=by
 refine Xn MH ae4 zd ?_;simp[Tt,Tu,ae4,aO];exact⟨⟨zE,h⟩,hK⟩
def GC:Pure Tryz.prog aD 118 [.sl .ro []] (.sl .ro []):=by
 refine Qp BX (fun _ _ _=>.junk) zd ?_;simp[ML,MM]
def YU:Pure Tryz.prog aD 101 [.sl .ro []] (.sl .ro []):=by
 refine Qp MH (fun _ _ _=>.junk) zd ?_;simp[Tt,Tu]
open Go Go.Abs
def Ko(p:Pl):UV:=fun _ f l=>if f=118 then(if p.ens=[]then .sl .ro []else .gd false .junk)else l.headD .junk
def Bl(p:Pl):Prop:=p.sh.length<=1000000/\p.aM.length<=1000000/\p.ens.length<=1000000/\p.bks.length<=1000000/\p.cls.length<=1000000/\∀e∈p.ens,e.al.length<=8796093022208
def as7(p:Pl)(m0:P2)(f:Nat->AV)(m:AM):Prop:=∃(i:Nat)(bx:T5),f 22=I i/\i<=p.ens.length/\m=⟨[I p.ch,I p.nu,I p.de,I p.of,.sl .ro (p.sh.map Qf),I p.ep,I p.rg,I p.ln,I p.fi,.sl .ro (p.aM.map Qj),.bs 2 0 p.ens.length 7,.sl .ro (p.bks.map Xl),.sl .ro (p.cls.map Qg)]::m0::(p.ens.map Qd).flatten::bx,[],fun _=>.gone,0⟩
def pY(p:Pl)(h:Bl p):Pure Tryz.prog aD 66 [.agg (Qa p)] (.agg (Qa p)):=by
 obtain⟨h1,h2,h3,h4,h5,h6⟩:=h;have k1:=pV p.sh zE;have k2:=pW p.aM zE;have k4:=pX p.bks zE;have k5:=Dm p.cls zE;have hsz:=kV (f:=Qd) (sz:=7) (fun _=>rfl) p.ens;refine Qp u6 (Ko p) zd ?_;by_cases hn:p.ens=[]
 ·have k3:=GC;simp[IY,Qa,Ko,hn];refine⟨k1,k2,k3,?_⟩;refine Qi ey (fun f m=>f 22=I 0/\m=⟨[I p.ch,I p.nu,I p.de,I p.of,.sl .ro (p.sh.map Qf),I p.ep,I p.rg,I p.ln,I p.fi,.sl .ro (p.aM.map Qj),.sl .ro [],.sl .ro (p.bks.map Xl),.sl .ro (p.cls.map Qg)]::[[I 0,I 0,I 0,I 0,.sl .nil [],I 0,I 0,I 0,I 0,.sl .nil [],.sl .nil [],.sl .nil [],.sl .nil []]],[],fun _=>.gone,0⟩) (fun f _=>0) ?_ ?_
  ·exact⟨zd,zd⟩
  rintro f m ⟨f22,rfl⟩;simp[f22,ey,IZ,Ko];exact⟨k4,k5⟩
 have aO:p.ens.map Qd≠[]:=by simpa using hn
 simp[IY,Qa,Ko,hn];refine⟨k1,k2,xV _ _ hsz (by simpa using by omega) aO _ _ ?_⟩;simp;obtain⟨F,hF⟩:∃F,(p.ens.map Qd).flatten=F:=⟨_,rfl⟩;have hFl:F.length=p.ens.length*7:=by rw[<- hF,jM hsz];simp
 have bU:Zm F=true:=by rw[<- hF];exact kU (fun _=>rfl) _
 have gX:aY 7 p.ens.length F=p.ens.map Qd:=by have:=Qbw hsz;rw[hF]at this;simpa using this
 have hmp:∀m,F.map (bz m 4)=F:=fun m=>Va m 3 bU;rw[hF];refine Qi ey (as7 p [I 0,I 0,I 0,I 0,.sl .nil [],I 0,I 0,I 0,I 0,.sl .nil [],.sl .nil [],.sl .nil [],.sl .nil []]) (fun f _=>p.ens.length-(numOf (f 22)).toNat) ?_ ?_
 ·exact⟨0,[],zd,zE,by rw[hF]⟩
 rintro f m ⟨i,bx,f22,hi,rfl⟩;rw[hF];rcases zzaa i p.ens.length with ai|bq
 ·obtain⟨e,he⟩:=aV ai;have aa:(i:Int)<(p.ens.length:Int):=zE
  have hw:=bP i zE;obtain⟨⟨r,hd⟩,bY⟩:=uL hsz (i:=i) (row:=Qd e) (by simp[he]);rw[hF]at hd bY;simp only[Qd,zzae,zzai]at hd bY;have GD:=Wv e (h6 e (zzad he));simp only[Qd]at GD;simp[-setA,jK,jL,f22,ey,aa,hd,bY,hFl,hw,Ko];refine⟨GD,zE,aQ,⟨i+1,bx++[[I e.id,I e.it,I e.fr,I e.ea,I e.la,I e.bo,.sl .ro (e.al.map Qf)]],zd,zE,by rw[hF]⟩,zE⟩
 obtain rfl:i=p.ens.length:=zE
 simp[f22,ey,IZ,Ko,hFl,hmp,gX];exact⟨k4,k5⟩
def PgC(g:Pg):Prop:=Bl g.p/\g.ev.length<=1000000/\g.cu.length<=1000000/\g.dr.length<=1000000/\∀e∈g.ev,e.al.length<=8796093022208
def Bm(g:Pg):UV:=fun _ f l=>if f=101 then(if g.ev=[]then .sl .ro []else .gd false .junk)else l.headD .junk
def kW(g:Pg)(V:AV):P2:=[I g.p.ch,I g.p.nu,I g.p.de,I g.p.of,.sl .ro (g.p.sh.map Qf),I g.p.ep,I g.p.rg,I g.p.ln,I g.p.fi,.sl .ro (g.p.aM.map Qj),.sl .ro (g.p.ens.map Qd),.sl .ro (g.p.bks.map Xl),.sl .ro (g.p.cls.map Qg),V,.sl .ro (g.cu.map Qk),I g.ed,.sl .ro (g.dr.map Qy),I g.ve]
def as8(g:Pg)(m0:P2)(f:Nat->AV)(m:AM):Prop:=∃(i:Nat)(bx:T5),f 16=I i/\i<=g.ev.length/\m=⟨kW g (.bs 2 0 g.ev.length 7)::m0::(g.ev.map Qe).flatten::bx,[],fun _=>.gone,0⟩
def YV:P2:=[I 0,I 0,I 0,I 0,.sl .nil [],I 0,I 0,I 0,I 0,.sl .nil [],.sl .nil [],.sl .nil [],.sl .nil [],.sl .nil [],.sl .nil [],I 0,.sl .nil [],I 0]
def YW(g:Pg)(h:PgC g):Pure Tryz.prog aD 52 [.agg (Qm g)] (.agg (Qm g)):=by
 obtain⟨h0,h1,h2,h3,h4⟩:=h;have k1:=pY g.p h0;have k3:=ae2 g.cu zE;have k4:=ae3 g.dr zE;have hsz:=kV (f:=Qe) (sz:=7) (fun _=>rfl) g.ev;simp only[Qa]at k1;refine Qp akd (Bm g) zd ?_;by_cases hn:g.ev=[]
 ·have k2:=YU;simp[abE,Qm,Qa,Bm,hn];refine⟨k1,k2,?_⟩;refine Qi El (fun f m=>f 16=I 0/\m=⟨kW g (.sl .ro [])::[YV],[],fun _=>.gone,0⟩) (fun f _=>0) ?_ ?_
  ·exact⟨zd,by simp[kW,YV]⟩
  rintro f m ⟨f16,rfl⟩;simp[f16,El,akc,kW,YV,Bm];exact⟨k3,k4⟩
 have aO:g.ev.map Qe≠[]:=by simpa using hn
 simp[abE,Qm,Qa,Bm,hn];refine⟨k1,YS _ _ hsz (by simpa using by omega) aO _ _ ?_⟩;simp;obtain⟨F,hF⟩:∃F,(g.ev.map Qe).flatten=F:=⟨_,rfl⟩;have hFl:F.length=g.ev.length*7:=by rw[<- hF,jM hsz];simp
 have bU:Zm F=true:=by rw[<- hF];exact kU (fun _=>rfl) _
 have gX:aY 7 g.ev.length F=g.ev.map Qe:=by have:=Qbw hsz;rw[hF]at this;simpa using this
 have hmp:∀m,F.map (bz m 4)=F:=fun m=>Va m 3 bU;rw[hF];refine Qi El (as8 g YV) (fun f _=>g.ev.length-(numOf (f 16)).toNat) ?_ ?_
 ·exact⟨0,[],zd,zE,by rw[hF];rfl⟩
 rintro f m ⟨i,bx,f16,hi,rfl⟩;rw[hF];rcases zzaa i g.ev.length with ai|bq
 ·obtain⟨e,he⟩:=aV ai;have aa:(i:Int)<(g.ev.length:Int):=zE
  have hw:=bP i zE;obtain⟨⟨r,hd⟩,bY⟩:=uL hsz (i:=i) (row:=Qe e) (by simp[he]);rw[hF]at hd bY
  have hs6:F.set (i*7+6) (.sl .ro (e.al.map Qf))=F:=by
   have h7:F[i*7+6]?=some (.sl .ro (e.al.map Qf)):=by
    have:=congrArg (fun l=>l[6]?) hd;simpa[Qe]using this
   apply zzcz;intro j;by_cases hj:i*7+6=j
   ·subst hj;rw[h7,zzbg (zza.1 h7).1]
   rw[zzbn hj]
  simp only[Qe,zzae,zzai]at hd;have axT:=Oi e.al (h4 e (zzad he));simp[f16,El,kW,aa,hd,hs6,hFl,hw,Bm];refine⟨axT,zE,aQ,⟨i+1,bx++[[I e.id,I e.it,I e.st,I e.fr,I e.i,I e.re,.sl .ro (e.al.map Qf)]],zd,zE,by rw[hF];rfl⟩,zE⟩
 obtain rfl:i=g.ev.length:=zE
 simp[f16,El,akc,kW,YV,Bm,hFl,hmp,gX];exact⟨k3,k4⟩
open Go Go.Abs
def uM(n:Int):Bool:=decide (1<=n)&&decide (n<=1000000)
def Wn(n:Int):Pure Tryz.prog aD 45 [I n] (.bool (uM n)):=by
 refine Qp SZ (fun _ _ _=>.junk) zd ?_;by_cases h:1<=n
 ·simp[abB,abC,h,uM]
 simp[abB,abC,h,uM]
def eB:ByteArray:=⟨#[]⟩
def GF(tx:ByteArray):tx.toList=[]<->tx=eB:=by
 obtain⟨⟨l⟩⟩:=tx;rw[ByteArray.toList_eq];simp[eB]
def Qcy(o:Od):Bool:=decide (o.en=0/\o.n=0/\o.cl=⟨0,0,0,0,0,0,0,0⟩/\(o.cu.id=0/\o.cu.fr=0/\o.cu.to=0/\o.cu.pr=0/\o.cu.tx=eB)/\o.nw.id=0/\o.nw.it=0/\o.nw.fr=0/\o.nw.ea=0/\o.nw.la=0/\o.nw.bo=0/\o.nw.al=[])
def La(o:Od):Pure Tryz.prog aD 46 [.agg (Qq o)] (.bool (Qcy o)):=by
 refine Qp S0 (fun _ _ _=>.junk) zd ?_;obtain⟨sq,ch,fr,ki,en,n,⟨a1,a2,a3,a4,a5,a6,al⟩,⟨c1,c2,c3,c4,c5,c6,c7,c8⟩,⟨d1,d2,d3,d4,tx⟩⟩:=o;simp[aj8,aj9,Qq,Qd,Qg,Qk];rw[zzcy];simp[Qcy,GF,and_assoc]
def Dn(r:Int):List Sp->Bool
 |[]=>true
 |a::l=>if r<a.1/\a.1<=7/\uM a.2=true then Dn a.1 l else false
def pZ(e:En):Bool:=uM e.id&&uM e.it&&decide (1<=e.fr/\e.fr<=100000000)&&decide (0<=e.ea/\e.ea<=e.la/\e.la<=100000000)&&(decide (e.bo=0)||uM e.bo)&&Dn 0 e.al
def ajb(e:En)(f:Nat->AV)(m:AM):Prop:=∃(i:Nat)(r:Int)(bx:T5),f 53=I i/\i<=e.al.length/\f 3=I r/\Dn 0 e.al=Dn r (e.al.drop i)/\m=⟨Qd e::bx,[],fun _=>.gone,0⟩
def Kq:UV:=fun _ f l=>match l with|[.int _ n]=>.bool (uM n)|_=>.junk
def tW(e:En)(hl:e.al.length<=8796093022208):Pure Tryz.prog aD 47 [.agg (Qd e)] (.bool (pZ e)):=by
 have q1:=Wn e.id;have q2:=Wn e.it;have q3:=Wn e.bo;refine Qp S1 Kq zd ?_;cases h1:uM e.id with
 |false=>rw[h1]at q1;simp[qx,gU,Qd,Kq,h1,pZ];exact q1
 |true=>
  rw[h1]at q1;cases h2:uM e.it with
  |false=>rw[h2]at q2;simp[qx,gU,Qd,Kq,h1,h2,pZ];exact⟨q1,q2⟩
  |true=>
   rw[h2]at q2;by_cases h3:e.fr<1
   ·have:¬1<=e.fr:=zE
    simp[qx,gU,Qd,Kq,h1,h2,h3,pZ,this];exact⟨q1,q2⟩
   by_cases h4:100000000<e.fr
   ·have:¬e.fr<=100000000:=zE
    simp[qx,gU,Qd,Kq,h1,h2,h3,h4,pZ,this];exact⟨q1,q2⟩
   have e34:1<=e.fr/\e.fr<=100000000:=zE
   by_cases h5:e.ea<0
   ·have:¬0<=e.ea:=zE
    simp[qx,gU,Qd,Kq,h1,h2,h3,h4,h5,pZ,this];exact⟨q1,q2⟩
   by_cases h6:e.la<e.ea
   ·have:¬e.ea<=e.la:=zE
    simp[qx,gU,Qd,Kq,h1,h2,h3,h4,h5,h6,pZ,this];exact⟨q1,q2⟩
   by_cases h7:100000000<e.la
   ·have:¬e.la<=100000000:=zE
    simp[qx,gU,Qd,Kq,h1,h2,h3,h4,h5,h6,h7,pZ,this];exact⟨q1,q2⟩
   have axU:0<=e.ea/\e.ea<=e.la/\e.la<=100000000:=zE
   by_cases h8:e.bo≠0/\uM e.bo=false
   ·obtain⟨h8,h9⟩:=h8;rw[h9]at q3;have h8':(e.bo !=0)=true:=by simpa using h8
    simp[qx,gU,Qd,Kq,h1,h2,h3,h4,h5,h6,h7,h8,h8',h9,pZ];exact⟨q1,q2,q3⟩
   have hb:(decide (e.bo=0)||uM e.bo)=true:=by
    by_cases hb:e.bo=0
    ·simp[hb]
    cases h9:uM e.bo with
    |true=>simp
    |false=>exact absurd ⟨hb,h9⟩ h8
   have hv:pZ e=Dn 0 e.al:=by simp only[pZ,h1,h2,e34,axU,hb,zzdk,and_self,decide_true]
   rw[hv]
   have hbo:(e.bo=0)\/(e.bo≠0/\uM e.bo=true):=by
    by_cases dY:e.bo=0
    ·exact .inl dY
    exact .inr ⟨dY,by simpa[dY]using hb⟩
   obtain dY|⟨dY,dx⟩:=hbo
   ·simp[qx,Qd,Kq,h1,h2,h3,h4,h5,h6,h7,dY];refine⟨q1,q2,?_⟩;clear q1 q2 q3;refine Qi gF (ajb e) (fun f _=>e.al.length-(numOf (f 53)).toNat) ?_ ?_
    ·exact⟨0,0,[],zd,zE,zd,zd,by simp[Qd,dY]⟩
    rintro f m ⟨i,r,bx,f53,hi,f3,hr,rfl⟩;rcases zzaa i e.al.length with ai|bq
    ·obtain⟨a,ha⟩:=aV ai;have ah:=Zv ha;have aa:(i:Int)<(e.al.length:Int):=zE
     have hw:=bP i zE;have hd:e.al.drop i=a::e.al.drop (i+1):=by rw[zzag ai,(zza.1 ha).2]
     rw[hd,Dn]at hr;have qa:=Wn a.2;by_cases d1:a.1<=r
     ·rw[if_neg zE]at hr;simp[f53,f3,gF,gU,Qd,aa,ah,d1,hr,Kq]
     by_cases d2:7<a.1
     ·rw[if_neg zE]at hr;simp[f53,f3,gF,gU,Qd,aa,ah,d1,d2,hr,Kq]
     cases d3:uM a.2 with
     |false=>
      rw[d3]at qa;rw[if_neg (by simp[d3])]at hr;simp[f53,f3,gF,gU,Qd,aa,ah,d1,d2,d3,hr,Kq];exact qa
     |true=>
      rw[d3]at qa;rw[if_pos ⟨zE,zE,d3⟩]at hr;simp[f53,f3,gF,Qd,aa,ah,d1,d2,d3,hw,Kq];refine⟨qa,aQ,⟨i+1,a.1,bx++[[I a.1,I a.2]],zd,zE,zd,hr,by simp[Qd]⟩,zE⟩
    obtain rfl:i=e.al.length:=zE
    simp[f53,f3,gF,gU,hr,Dn]
   rw[dx]at q3;have KO:(e.bo !=0)=true:=by simpa using dY
   simp[qx,Qd,Kq,h1,h2,h3,h4,h5,h6,h7,KO,dx];refine⟨q1,q2,q3,?_⟩;clear q1 q2 q3;refine Qi gF (ajb e) (fun f _=>e.al.length-(numOf (f 53)).toNat) ?_ ?_
   ·exact⟨0,0,[],zd,zE,zd,zd,by simp[Qd]⟩
   rintro f m ⟨i,r,bx,f53,hi,f3,hr,rfl⟩;rcases zzaa i e.al.length with ai|bq
   ·obtain⟨a,ha⟩:=aV ai;have ah:=Zv ha;have aa:(i:Int)<(e.al.length:Int):=zE
    have hw:=bP i zE;have hd:e.al.drop i=a::e.al.drop (i+1):=by rw[zzag ai,(zza.1 ha).2]
    rw[hd,Dn]at hr;have qa:=Wn a.2;by_cases d1:a.1<=r
    ·rw[if_neg zE]at hr;simp[f53,f3,gF,gU,Qd,aa,ah,d1,hr,Kq]
    by_cases d2:7<a.1
    ·rw[if_neg zE]at hr;simp[f53,f3,gF,gU,Qd,aa,ah,d1,d2,hr,Kq]
    cases d3:uM a.2 with
    |false=>
     rw[d3]at qa;rw[if_neg (by simp[d3])]at hr;simp[f53,f3,gF,gU,Qd,aa,ah,d1,d2,d3,hr,Kq];exact qa
    |true=>
     rw[d3]at qa;rw[if_pos ⟨zE,zE,d3⟩]at hr;simp[f53,f3,gF,Qd,aa,ah,d1,d2,d3,hw,Kq];refine⟨qa,aQ,⟨i+1,a.1,bx++[[I a.1,I a.2]],zd,zE,zd,hr,by simp[Qd]⟩,zE⟩
   obtain rfl:i=e.al.length:=zE
   simp[f53,f3,gF,gU,hr,Dn]
open Go Go.Abs
def IS(s:ByteArray)(i:Nat):Nat:=(s.data.toList.getD i 0).toNat
def Dp(s:ByteArray)(i:Nat)(h:i<s.size):(s.data[i]'h).toNat=IS s i:=by
 have h':i<s.data.size:=h;simp only[IS,zzax,zzcd,zzah h',Option.getD_some]
def YX(s:ByteArray)(n i:Nat):Bool:=match n with
 |0=>true
 |n+1=>if IS s i<32\/126<IS s i then false else YX s n (i+1)
def YY(s:ByteArray):Bool:=YX s s.size 0
def as9(s:ByteArray)(f:Nat->AV)(m:AM):Prop:=∃i:Nat,f 3=I i/\i<=s.size/\YY s=YX s (s.size-i) i/\m=⟨[],[],fun _=>.gone,0⟩
def xW(s:ByteArray)(h:s.size<=1000000):Pure Tryz.prog aD 158 [.str s] (.bool (YY s)):=by
 refine Qp MZ (fun _ _ _=>.junk) zd ?_;simp[MY];refine Qi vk (as9 s) (fun f _=>s.size-(numOf (f 3)).toNat) ?_ ?_
 ·exact⟨0,zd,zE,rfl,rfl⟩
 rintro f m ⟨i,f3,hi,hr,rfl⟩;rcases zzaa i s.size with ai|bq
 ·have aa:(i:Int)<(s.size:Int):=zE
  have hw:=bP i zE;obtain⟨n,hn⟩:∃n,s.size-i=n+1:=⟨s.size-i-1,zE⟩;have hb:=Dp s i ai;rw[hn,YX]at hr;by_cases h1:IS s i<32
  ·rw[if_pos (.inl h1)]at hr;have mX:((IS s i:Nat):Int)<32:=zE
   simp[f3,vk,Ey,ai,aa,hr,hb,mX]
  have mX:¬((IS s i:Nat):Int)<32:=zE
  by_cases h2:126<IS s i
  ·rw[if_pos (.inr h2)]at hr;have Nx:(126:Int)<((IS s i:Nat):Int):=zE
   simp[f3,vk,Ey,ai,aa,hr,hb,mX,Nx]
  rw[if_neg zE]at hr;have Nx:¬(126:Int)<((IS s i:Nat):Int):=zE
  simp[f3,vk,ai,aa,hw,hb,mX,Nx];refine⟨aQ,⟨i+1,zd,zE,by rw[hr];congr 1;omega,rfl⟩,zE⟩
 obtain rfl:i=s.size:=zE
 rw[zzfp,YX]at hr;simp[f3,vk,Ey,hr]
def sW(s:ByteArray)(i:Nat):Option Nat->List ByteArray
 |none=>[]
 |some f=>[s.extract f i]
def YZ(s:ByteArray):Nat->Nat->Option Nat->List ByteArray
 |0,i,first=>sW s i first
 |n+1,i,first=>if IS s i≠32 then YZ s n (i+1) (some (first.getD i))else sW s i first++YZ s n (i+1) none
def nQ(s:ByteArray):List ByteArray:=YZ s s.size 0 none
def Lb(s:ByteArray)(i:Nat)(first:Option Nat):List ByteArray:=if i<=s.size then YZ s (s.size-i) i first else[]
def Y2{s:ByteArray}{i:Nat}(first:Option Nat)(h:i<s.size)(hb:IS s i≠32):Lb s i first=Lb s (i+1) (some (first.getD i)):=by
 obtain⟨n,hn⟩:∃n,s.size-i=n+1:=⟨s.size-i-1,zE⟩;rw[Lb,if_pos zE,Lb,if_pos zE,hn,YZ,if_pos hb,show s.size-(i+1)=n by omega]
def ae5{s:ByteArray}{i:Nat}(first:Option Nat)(h:i<=s.size)(hb:i<s.size->IS s i=32):Lb s i first=sW s i first++Lb s (i+1) none:=by
 by_cases hi:i=s.size
 ·subst hi;have:Lb s (s.size+1) none=[]:=by rw[Lb,if_neg zE]
  rw[this,Lb,if_pos zE,zzfp,YZ,zzau]
 obtain⟨n,hn⟩:∃n,s.size-i=n+1:=⟨s.size-i-1,zE⟩;have:Lb s (i+1) none=YZ s n (i+1) none:=by rw[Lb,if_pos zE,show s.size-(i+1)=n by omega]
 rw[this,Lb,if_pos h,hn,YZ,if_neg (by simp[hb zE])]
def Oj:Option Nat->Int
 |none=> -1
 |some k=>k
def Lc(s:ByteArray):Pure Tryz.prog aD 159 [.str s] (.fn 211 [] [.ep [.str s] 0]):=by
 refine Qp M0 (fun _ _ _=>.junk) zd ?_;simp[TQ,TR]
def ata(Y:YT)(lp:Nat)(K:AM->Prop)(s:ByteArray)(f:Nat->AV)(m:AM):Prop:=∃(i:Nat)(first:Option Nat),f 4=I i/\i<=s.size+1/\f 3=I (Oj first)/\(∀k,first=some k->k<=i/\i<=s.size)/\wG (Y lp) K ((Lb s i first).map fun w=>[.str w]) m
def Ld(s:ByteArray)(h:s.size<=1000000):Iter Tryz.prog aD 211 [] [.ep [.str s] 0] ((nQ s).map fun w=>[.str w]):=by
 intro Y lp m K hF;refine Xn Ni (fun _ _ _=>.junk) zd ?_;simp[Nh,T8];refine Qi iL (ata Y lp K s) (fun f _=>s.size+1-(numOf (f 4)).toNat) ?_ ?_
 ·exact⟨0,none,zd,zE,by simp[Oj],⟨fun k(hk:none=some k)=>(by cases hk),by simpa[Lb,nQ]using hF⟩⟩
 rintro f m ⟨i,first,f4,hi,f3,hfi,hr⟩;rcases zzaa s.size i with lH|cn
 ·have bO:¬(i:Int)<=(s.size:Int):=zE
  rw[Lb,if_neg zE]at hr;simp[f4,iL,bO];exact hr m (fu.refl m)
 have ae6:(i:Int)<=(s.size:Int):=zE
 have hw:=bP i zE;by_cases hb:i<s.size/\IS s i≠32
 ·obtain⟨ai,hb⟩:=hb;have aa:(i:Int)<(s.size:Int):=zE
  have hbb:=Dp s i ai;have hbI:¬((IS s i:Nat):Int)=32:=zE
  rw[Y2 first ai hb]at hr;cases first with
  |none=>
   simp[f4,f3,Oj,iL,ae6,ai,aa,hbb,hbI,hw];refine⟨aQ,⟨i+1,some i,zd,zE,by simp[Oj],⟨fun k(hk:some i=some k)=>(by cases hk;omega),hr⟩⟩,zE⟩
  |some k=>
   have Nz:¬(k:Int)<0:=zE
   obtain⟨dA,ef⟩:=hfi k rfl;simp[f4,f3,Oj,iL,ae6,ai,aa,hbb,hbI,hw,Nz];refine⟨aQ,⟨i+1,some k,zd,zE,by simp[Oj],⟨fun k'(hk:some k=some k')=>(by cases hk;omega),hr⟩⟩,zE⟩
 have cL:i<s.size->IS s i=32:=fun h=>Classical.byContradiction fun h2=>hb ⟨h,h2⟩;rw[ae5 first cn cL]at hr;cases first with
 |none=>
  simp only[sW,zzai]at hr;rcases zzaa i s.size with ai|bq
  ·have aa:(i:Int)<(s.size:Int):=zE
   have hbb:=Dp s i ai;have amD:=cL ai;simp[f4,f3,Oj,iL,ae6,ai,aa,hbb,amD,hw];refine⟨aQ,⟨i+1,none,zd,zE,by simp[Oj],⟨fun k(hk:none=some k)=>(by cases hk),hr⟩⟩,zE⟩
  obtain rfl:i=s.size:=zE
  simp[f4,f3,Oj,iL,hw];refine⟨aQ,⟨s.size+1,none,zd,zE,by simp[Oj],⟨fun k(hk:none=some k)=>(by cases hk),hr⟩⟩⟩
 |some k=>
  obtain⟨dA,ef⟩:=hfi k rfl;have Nz:(0:Int)<=(k:Int):=zE
  simp only[sW,zzae,zzai,zzbb]at hr;rcases zzaa i s.size with ai|bq
  ·have aa:(i:Int)<(s.size:Int):=zE
   have hbb:=Dp s i ai;have amD:=cL ai;simp[f4,f3,Oj,iL,ae6,ai,aa,hbb,amD,hw,Nz,dA];refine hr m (fu.refl m) _ (fun m2 h2=>?_) (fun m2 h2=>?_)
   ·simp;refine⟨aQ,⟨i+1,none,zd,zE,by simp[Oj],⟨fun k(hk:none=some k)=>(by cases hk),h2⟩⟩,zE⟩
   simp;exact h2 m2 (fu.refl m2)
  obtain rfl:i=s.size:=zE
  simp[f4,f3,Oj,iL,hw,Nz,dA];refine hr m (fu.refl m) _ (fun m2 h2=>?_) (fun m2 h2=>?_)
  ·simp;refine⟨aQ,⟨s.size+1,none,zd,zE,by simp[Oj],⟨fun k(hk:none=some k)=>(by cases hk),h2⟩⟩⟩
  simp;exact h2 m2 (fu.refl m2)
open Go Go.Abs
def Zf(n:Int):Prop:= -9223372036854775808<=n/\n<=9223372036854775807
def OKP(p:Pl):Prop:=∀e∈p.ens,e.al.length<=8796093022208
open Go Go.Abs
def Y3(p:Pl)(e:bC):Int->List Sp->Bool
 |_,[]=>true
 |last,a::r=>match Xj a.2 p.aM with
  |none=>false
  |some y=>if a.1<=last\/p.rg<=a.1\/y.fr<IntKind.i64.wrap (e.i+e.fr)then false else if Xd p a.2 a.1 e.st e.fr=false then false else Y3 p e a.1 r
def atb(p:Pl)(e:bC):Int:=Ul (fun i=>Xd p e.it i e.st e.fr) (min p.rg 8).toNat
def GG(a:Int):Int:=IntKind.i64.wrap (((a%2 ^ IntKind.i64.bits).toNat&&& ((1:Int)%2 ^ IntKind.i64.bits).toNat:Nat):Int)
def ae7(a b:Int):Int:=IntKind.i64.wrap (((a%2 ^ IntKind.i64.bits).toNat&&& (2 ^ IntKind.i64.bits-1-(b%2 ^ IntKind.i64.bits).toNat):Nat):Int)
def Y4(p:Pl)(e:bC):Bool:=match Xj e.it p.aM with
 |none=>false
 |some x=>if e.fr<1\/e.i<0\/x.fr<e.fr\/IntKind.i64.wrap (x.fr-e.fr)<e.i then false else
  if GG e.re=0\/ae7 e.re (atb p e)≠0 then false else Y3 p e 0 e.al&&(decide (e.id≠0)||(decide (e.it=p.fi)&&decide (e.al=[])))
open Go Go.Abs
def ae8(x r n:Nat)(h:r<n):((x+2 ^ n)/2 ^ r)%2=(x/2 ^ r)%2:=by
 obtain⟨k,rfl⟩:∃k,n=r+(k+1):=⟨n-r-1,zE⟩;have e:2 ^ (r+(k+1))=2 ^ r*(2*2 ^ k):=by rw[Nat.pow_add,zzhm,zzeg (2 ^ k) 2]
 rw[e,Nat.add_mul_div_left _ _ (Nat.two_pow_pos r),Nat.add_mul_mod_self_left]
def nR(b:Nat->Bool):Nat->Nat
 |0=>0
 |n+1=>nR b n+if b n then 2 ^ n else 0
def uN(b:Nat->Bool):∀n,nR b n<2 ^ n
 |0=>by simp[nR]
 |n+1=>by
  have:=uN b n;rw[nR,zzhm];split<;>omega
def Dq(b:Nat->Bool):∀n,Ul b n=(nR b n:Int)
 |0=>rfl
 |n+1=>by
  rw[Ul,nR,Dq b n];split
  ·push_cast;rfl
  simp
def xX(b:Nat->Bool)(r:Nat):∀n,(nR b n).testBit r=(decide (r<n)&&b r)
 |0=>by simp[nR]
 |n+1=>by
  have ih:=xX b r n;have ai:=uN b n;rw[nR];by_cases hb:b n=true
  ·rw[if_pos hb];rcases zzdv r n with h|h|h
   ·rw[zzdm,ae8 _ _ _ h,<- zzdm,ih];simp[h,Nat.lt_succ_of_lt h]
   ·subst h
    have:(nR b r+2 ^ r)/2 ^ r=1:=by
     rw[Nat.add_div_right _ (Nat.two_pow_pos r),zzew ai]
    rw[zzdm,this];simp[hb]
   have:nR b n+2 ^ n<2 ^ r:=by
    have:2 ^ (n+1)<=2 ^ r:=zzez zE h;rw[zzhm]at this;omega
   rw[Nat.testBit_lt_two_pow this];simp;intro h2;omega
  rw[if_neg hb,zzcn,ih];by_cases h:r=n
  ·subst h;simp[hb]
  have:decide (r<n)=decide (r<n+1):=decide_eq_decide.2 zE;rw[this]
def amE(x:Int)(r:Nat):Bool:=x.toNat.testBit r
def Y5(b:Nat->Bool)(n r:Nat):amE (Ul b n) r=(decide (r<n)&&b r):=by
 unfold amE;rw[Dq,zzgl,xX]
def GH(b:Nat->Bool)(n:Nat)(hn:n<=8):0<=Ul b n/\Ul b n<256:=by
 have:=uN b n;rw[Dq];have h2:2 ^ n<=2 ^ 8:=zzez zE hn;omega
def atc(x:Int)(h:0<=x/\x<256):(x%2 ^ IntKind.i64.bits).toNat=x.toNat:=by
 have:(2:Int) ^ IntKind.i64.bits=18446744073709551616:=by decide
 rw[this,Int.emod_eq_of_lt h.1 zE]
def Y6(x:Int)(h:0<=x/\x<256):GG x=x%2:=by
 unfold GG;rw[atc x h,atc 1 zE];have:x.toNat&&& (1:Int).toNat=x.toNat%2:=Nat.and_one_is_mod _;rw[this,Ql]<;>omega
open Go Go.Abs
def Q2{x:Int}(h:0<=x/\x<256):ae7 x x=0:=by
 have key:∀n:Nat,n<256->ae7 (n:Int) (n:Int)=0:=by decide+kernel
 have:=key x.toNat zE;rwa [zzfz h.1]at this
def xY{b c:Nat->Bool}:∀(n:Nat),(∀i,i<n->b i=c i)->Ul b n=Ul c n
 |0,_=>rfl
 |n+1,h=>by rw[Ul,Ul,xY n (fun i hi=>h i zE),h n zE]
def Y7{b:Nat->Bool}{n:Nat}(hn:1<=n/\n<=8)(h0:b 0=true):GG (Ul b n)=1:=by
 have hb:=GH b n hn.2;rw[Y6 _ hb];have h1:=Y5 b n 0;rw[h0]at h1;have h2:decide (0<n)=true:=by simp;omega
 rw[h2]at h1;simp only[amE,Nat.testBit_zero,zzgg,decide_eq_true_eq]at h1;omega
structure VP (p:Pl):Prop where
 rg:1<=p.rg/\p.rg<=8
 ln:1<=p.ln/\p.ln<=100000000
 fill:∃y,Xj p.fi p.aM=some y/\y.ki=5/\1<=y.fr/\y.fr<=100000000
 aM:∀y∈p.aM,Sy y=true
 ens:∀e∈p.ens,1<=e.id/\jy p e=true/\mC p e=true
def GI{p:Pl}:∀{l:List En}{seen:Pi},Gk p seen l=true->∀e∈l,1<=e.id/\jy p e=true/\mC p e=true
 |x::r,seen,h,e,he=>by
  rw[Gk,zzac]at h;rcases zzap.1 he with rfl|he
  ·have h1:=h.1;simp only[zP,zzac,wi,decide_eq_true_eq]at h1;exact⟨h1.1.1,h1.2.2.1,h1.2.2.2.1⟩
  exact GI h.2 e he
def nS{p:Pl}(h:jJ p=true):VP p:=by
 simp only[jJ,zzac]at h;obtain⟨h1,h2,h3,h4,h5⟩:=h;simp only[Jn,zzac,wi,decide_eq_true_eq]at h1;simp only[SA,zzac,decide_eq_true_eq]at h2;simp only[xF,zzac,decide_eq_true_eq]at h4;refine⟨h1.2.2.2.2.1,h1.2.2.2.2.2,?_,pP h2.2.2.1,GI h4.2⟩;have hf:=h2.2.2.2;unfold gM at hf;cases hx:Xj p.fi p.aM with
 |none=>rw[hx]at hf;cases hf
 |some y=>
  rw[hx]at hf;have hb:=XY (pP h2.2.2.1 y (xC hx).1);exact⟨y,rfl,Nm hf,zE,zE⟩
def Le{p:Pl}(h:VP p)(r f n:Int)(hr:0<=r/\r<8)(hn:1<=n/\n<=1000000)(hf:0<=f/\f+n-1<=100000000):Xd p p.fi r f n=true:=by
 obtain⟨y,hy,hk,_⟩:=h.fill;exact(Jt _ _ _ _ _).2 ⟨⟨zE,zE,zE,zE⟩,fun x h1 h2=>⟨y,hy,hr,zE,.inl hk⟩⟩
def Qbx{p:Pl}(h:VP p)(hl:p.ln<=1000000)(x:Int×Int)(hx:0<=x.1/\1<=x.2/\x.2<=Yf p/\x.1+x.2<=p.ln):Y4 p (Zy p x)=true:=by
 obtain⟨y,hy,hk,hy1,hy2⟩:=h.fill;have hff:Yf p=y.fr:=by simp only[Yf,hy]
 rw[hff]at hx;have hre:(Zy p x).re=Ga p:=rfl
 have hm:atb p (Zy p x)=Ga p:=by
  refine xY _ fun i hi=>?_;exact Le h i x.1 x.2 zE zE zE
 have IJ:=h.rg;have h1:GG (Ga p)=1:=Y7 (n:=(min p.rg 8).toNat) zE rfl;have h2:ae7 (Ga p) (Ga p)=0:=Q2 (GH _ _ zE);have hw:IntKind.i64.wrap (y.fr-x.2)=y.fr-x.2:=by rw[Ql]<;>omega
 have cM:(Zy p x).it=p.fi:=rfl;have zx:(Zy p x).fr=x.2:=rfl;have hi0:(Zy p x).i=0:=rfl;have fK:(Zy p x).al=[]:=rfl;rw[Y4,cM,hy];simp only;rw[hm,hre,zx,hi0,fK,hw,h1,h2,if_neg zE,if_neg zE];simp[Y3]
def Y8{lo up:Int}{ks:Pi}(h:We lo up none ks=true):ks.Pairwise (·<·)/\∀k∈ks,lo<=k/\k<=up:=by
 obtain⟨h1,h2⟩:=kR h;exact⟨h1,fun k hk=>⟨(h2 k hk).1,(h2 k hk).2.1⟩⟩
