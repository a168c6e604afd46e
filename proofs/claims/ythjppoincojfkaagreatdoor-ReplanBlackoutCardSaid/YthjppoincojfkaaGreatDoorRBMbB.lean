import Derived.Test.YthjppoincojfkaaGreatDoorRBMN
import Derived.Test.YthjppoincojfkaaGreatDoorRBMT
set_option linter.all false
set_option maxRecDepth 100000
set_option maxHeartbeats 64000000
namespace Go.Proofs.YthjppoincojfkaaGreatDoor
open Go Go.Abs
def xS(f:Int)(e:bF):Bool:=decide (e.st<=f/\f<e.st+e.fr)
def Kt(e:bF):Prop:=(0<=e.st/\e.st<=1000000)/\(0<=e.fr/\e.fr<=1000000)/\(0<=e.i/\e.i<=1000000)/\e.al.length<=8796093022208
def gR(f:Int):List bF->Nat->Int
 |[],_=> -1
 |e::r,i=>if xS f e=true then i else gR f r (i+1)
def Dm(f:Int):List bF->Option bF
 |[]=>none
 |e::r=>if xS f e=true then some e else Dm f r
def xU{f:Int}:∀{L:List bF}{i:Nat},Dm f L=none->gR f L i= -1
 |[],_,_=>rfl
 |a::r,i,h=>by
  simp only[Dm]at h;split at h
  ·cases h
  rename_i hn;simp only[gR,if_neg hn];exact xU h
def xV{f:Int}{a:bF}:∀{L:List bF}{i:Nat},Dm f L=some a->∃k:Nat,gR f L i=((i+k:Nat):Int)/\L[k]?=some a/\xS f a=true
 |[],_,h=>by cases h
 |b::r,i,h=>by
  simp only[Dm]at h;split at h
  ·rename_i hb;cases h;exact⟨0,by simp[gR,hb],rfl,hb⟩
  rename_i hn;obtain⟨k,h1,h2,h3⟩:=xV (i:=i+1) h;exact⟨k+1,by simp only[gR,if_neg hn,h1];omega,Nm h2,h3⟩
def K3(f:Int):UV:=fun _ _ l=>match l with
 |[.agg [_,_,.int _ st,.int _ fr,_,_,_],_]=>.bool (decide (st<=f/\f<st+fr))
 |_=>.junk
def xW(f:Int):Option bF->AV
 |none=>aiR
 |some e=>.aS [.agg (Qe e),I (e.i+f-e.st),.bool true]
open Go Go.Abs
structure Cue where
 id:Int
 fr:Int
 to:Int
 pr:Int
 tx:ByteArray
def Qm(c:Cue):P2:=[I c.id,I c.fr,I c.to,I c.pr,.str c.tx]
structure Pg where
 p:Pl
 ev:List bF
 cu:List Cue
 ed:Int
 dr:Pi
 ve:Int
def Qg(g:Pg):P2:=Qa g.p++[.sl .ro (g.ev.map Qe),.sl .ro (g.cu.map Qm),I g.ed,.sl .ro (g.dr.map Xb),I g.ve]
structure Od where
 sq:Int
 ch:Int
 fr:Int
 ki:Int
 en:Int
 n:Int
 nw:En
 cl:Cl
 cu:Cue
def Qq(o:Od):P2:=[I o.sq,I o.ch,I o.fr,I o.ki,I o.en,I o.n]++(Qd o.nw++(Qi o.cl++Qm o.cu))
def Gw(pre a r bs:P2)(h:bs.length=a.length):setA (pre++(a++r)) pre.length bs=pre++(bs++r):=by
 induction bs generalizing pre a with
 |nil=>cases a with
  |nil=>rfl
  |cons _ _=>simp at h
 |cons x bs ih=>cases a with
  |nil=>simp at h
  |cons y a=>
   rw[setA];have e:(pre++(y::a++r)).set pre.length x=(pre++[x])++(a++r):=zd
   rw[e];have:=ih (pre++[x]) a (Nm h);rw[show(pre++[x]).length=pre.length+1 by simp]at this;rw[this];simp
theorem jO(l:P2)(o:Nat):setA l o []=l:=rfl
def xX(y:AV):∀(xs l:P2)(n:Nat),setA (y::l) (n+1) xs=y::setA l n xs
 |[],_,_=>rfl
 |x::xs,l,n=>by
  rw[setA,setA,zzdx];exact xX y xs _ _
def jP(y x:AV)(xs l:P2):setA (y::l) 0 (x::xs)=x::setA l 0 xs:=by
 rw[setA,List.set_cons_zero,xX]
def jQ{sz:Nat}:∀{rows:T5},(∀r∈rows,r.length=sz)->rows.flatten.length=rows.length*sz
 |[],_=>zd
 |a::r,h=>by
  have:=jQ (rows:=r) fun x hx=>h x (by simp[hx]);rw[zzci,zzak,this,h a zd,zzbg,zzhj];omega
def Qbq{sz:Nat}:∀{rows:T5},(∀r∈rows,r.length=sz)->aY sz rows.length rows.flatten=rows
 |[],_=>rfl
 |a::r,h=>by
  have ha:=h a zd;have ih:=Qbq (rows:=r) fun x hx=>h x (by simp[hx]);rw[zzbg,wH,zzci,List.take_append_of_le_length zE,zzdu zE,zzas zE,List.drop_of_length_le zE,zzai,ih]
def Bi{sz:Nat}:∀{rows:T5}{i:Nat}{row:P2},(∀r∈rows,r.length=sz)->rows[i]?=some row->∃pre r,rows.flatten=pre++(row++r)/\pre.length=i*sz
 |[],i,row,_,h=>by simp at h
 |a::r,0,row,h,hi=>by simp at hi;subst hi;exact⟨[],r.flatten,zd,zd⟩
 |a::r,i+1,row,h,hi=>by
  obtain⟨p,q,h1,h2⟩:=Bi (rows:=r) (fun x hx=>h x (by simp[hx])) (Nm hi);have ha:=h a zd;exact⟨a++p,q,by rw[zzci,h1,zzbe],by rw[zzak,h2,ha,zzhj];omega⟩
def uN{sz:Nat}{rows:T5}{i:Nat}{row:P2}(h:∀r∈rows,r.length=sz)(hi:rows[i]?=some row):(∃r,rows.flatten.drop (i*sz)=row++r)/\setA rows.flatten (i*sz) row=rows.flatten:=by
 obtain⟨p,q,h1,h2⟩:=Bi h hi;refine⟨⟨q,by rw[h1,<- h2,zzg]⟩,?_⟩;rw[h1,<- h2];exact Gw p row q row rfl
def kW{α:Type}{f:α->P2}(h:∀a,Zl (f a)=true)(l:List α):Zl (l.map f).flatten=true:=by
 induction l with
 |nil=>rfl
 |cons a r ih=>rw[zzaz,zzci];exact P5 (h a) ih
def kX{α:Type}{f:α->P2}{sz:Nat}(h:∀a,(f a).length=sz)(l:List α):∀r∈l.map f,r.length=sz:=by
 intro r hr;simp only[zzb]at hr;obtain⟨a,_,rfl⟩:=hr;exact h a
def pS(l:List Sp)(h:l.length<=8796093022208):Pure Tryz.prog aD 116 [.sl .ro (l.map Qf)] (.sl .ro (l.map Qf)):=by
 refine Qp abP (fun _ _ _=>.junk) zd ?_;simp[agl,agm];exact⟨by rintro row a b _ rfl;rfl,zE⟩
def pT(l:List It)(h:l.length<=1000000000):Pure Tryz.prog aD 117 [.sl .ro (l.map Qh)] (.sl .ro (l.map Qh)):=by
 refine Qp abQ (fun _ _ _=>.junk) zd ?_;simp[agn,ago];exact⟨fun _ _=>rfl,zE⟩
def pU(l:List Bk)(h:l.length<=1000000000):Pure Tryz.prog aD 120 [.sl .ro (l.map Xj)] (.sl .ro (l.map Xj)):=by
 refine Qp abS (fun _ _ _=>.junk) zd ?_;simp[agr,agt];exact⟨fun _ _=>rfl,zE⟩
def Dn(l:List Cl)(h:l.length<=1000000000):Pure Tryz.prog aD 121 [.sl .ro (l.map Qi)] (.sl .ro (l.map Qi)):=by
 refine Qp MC (fun _ _ _=>.junk) zd ?_;simp[Ts,Tt];exact⟨fun _ _=>rfl,zE⟩
def N9(l:List Sp)(h:l.length<=8796093022208):Pure Tryz.prog aD 102 [.sl .ro (l.map Qf)] (.sl .ro (l.map Qf)):=by
 refine Qp abE (fun _ _ _=>.junk) zd ?_;simp[af7,af8];exact⟨by rintro row a b _ rfl;rfl,zE⟩
def aeN(l:List Cue)(h:l.length<=1000000000):Pure Tryz.prog aD 103 [.sl .ro (l.map Qm)] (.sl .ro (l.map Qm)):=by
 refine Qp abF (fun _ _ _=>.junk) zd ?_;simp[af9,aga];exact⟨fun _ _=>rfl,zE⟩
def aeO(l:Pi)(h:l.length<=1000000000):Pure Tryz.prog aD 104 [.sl .ro (l.map Xb)] (.sl .ro (l.map Xb)):=by
 refine Qp abG (fun _ _ _=>.junk) zd ?_;simp[agb,agc];exact⟨fun _ _=>rfl,zE⟩
def Wp(e:En)(h:e.al.length<=8796093022208):Pure Tryz.prog aD 119 [.agg (Qd e)] (.agg (Qd e)):=by
 have k:=N9 e.al h;refine Qp abR (fun _ _ l=>l.headD .junk) zd ?_;simp[agp,agq,Qd];exact k
def aeP:UV:=fun _ f _=>if f=999999 then .aJ 0 []else .junk
def xY(Y:YT)(rows:T5)(h:∀r∈rows,r.length=7)(hl:rows.length<=1000000000)(aN:rows≠[])(m:AM)(K:So)(hK:K (.bs m.boxes.length 0 rows.length 7) {m with boxes:=m.boxes++[rows.flatten]}):
  aB Tryz.prog aD Y 118 [.sl .ro rows] m K:=by
 refine Xn BU aeP zd ?_;simp[MA,MB,aeP,aN];exact⟨⟨zE,h⟩,hK⟩
def YR(Y:YT)(rows:T5)(h:∀r∈rows,r.length=7)(hl:rows.length<=1000000000)(aN:rows≠[])(m:AM)(K:So)(hK:K (.bs m.boxes.length 0 rows.length 7) {m with boxes:=m.boxes++[rows.flatten]}):
  aB Tryz.prog aD Y 101 [.sl .ro rows] m K:=by
 refine Xn Mw aeP zd ?_;simp[Tl,Tm,aeP,aN];exact⟨⟨zE,h⟩,hK⟩
def Gx:Pure Tryz.prog aD 118 [.sl .ro []] (.sl .ro []):=by
 refine Qp BU (fun _ _ _=>.junk) zd ?_;simp[MA,MB]
def YS:Pure Tryz.prog aD 101 [.sl .ro []] (.sl .ro []):=by
 refine Qp Mw (fun _ _ _=>.junk) zd ?_;simp[Tl,Tm]
open Go Go.Abs
def Kl(p:Pl):UV:=fun _ f l=>if f=118 then(if p.ens=[]then .sl .ro []else .gd false .junk)else l.headD .junk
def Bj(p:Pl):Prop:=p.sh.length<=1000000/\p.aM.length<=1000000/\p.ens.length<=1000000/\p.bks.length<=1000000/\p.cls.length<=1000000/\∀e∈p.ens,e.al.length<=8796093022208
def asW(p:Pl)(m0:P2)(f:Nat->AV)(m:AM):Prop:=∃(i:Nat)(bx:T5),f 22=I i/\i<=p.ens.length/\m=⟨[I p.ch,I p.nu,I p.de,I p.of,.sl .ro (p.sh.map Qf),I p.ep,I p.rg,I p.ln,I p.fi,.sl .ro (p.aM.map Qh),.bs 2 0 p.ens.length 7,.sl .ro (p.bks.map Xj),.sl .ro (p.cls.map Qi)]::m0::(p.ens.map Qd).flatten::bx,[],fun _=>.gone,0⟩
def pV(p:Pl)(h:Bj p):Pure Tryz.prog aD 66 [.agg (Qa p)] (.agg (Qa p)):=by
 obtain⟨h1,h2,h3,h4,h5,h6⟩:=h;have k1:=pS p.sh zE;have k2:=pT p.aM zE;have k4:=pU p.bks zE;have k5:=Dn p.cls zE;have hsz:=kX (f:=Qd) (sz:=7) (fun _=>rfl) p.ens;refine Qp u6 (Kl p) zd ?_;by_cases hn:p.ens=[]
 ·have k3:=Gx;simp[IK,Qa,Kl,hn];refine⟨k1,k2,k3,?_⟩;refine Qk ez (fun f m=>f 22=I 0/\m=⟨[I p.ch,I p.nu,I p.de,I p.of,.sl .ro (p.sh.map Qf),I p.ep,I p.rg,I p.ln,I p.fi,.sl .ro (p.aM.map Qh),.sl .ro [],.sl .ro (p.bks.map Xj),.sl .ro (p.cls.map Qi)]::[[I 0,I 0,I 0,I 0,.sl .nil [],I 0,I 0,I 0,I 0,.sl .nil [],.sl .nil [],.sl .nil [],.sl .nil []]],[],fun _=>.gone,0⟩) (fun f _=>0) ?_ ?_
  ·exact⟨zd,zd⟩
  rintro f m ⟨f22,rfl⟩;simp[f22,ez,IL,Kl];exact⟨k4,k5⟩
 have aN:p.ens.map Qd≠[]:=by simpa using hn
 simp[IK,Qa,Kl,hn];refine⟨k1,k2,xY _ _ hsz (by simpa using by omega) aN _ _ ?_⟩;simp;obtain⟨F,hF⟩:∃F,(p.ens.map Qd).flatten=F:=⟨_,rfl⟩;have hFl:F.length=p.ens.length*7:=by rw[<- hF,jQ hsz];simp
 have bU:Zl F=true:=by rw[<- hF];exact kW (fun _=>rfl) _
 have ic:aY 7 p.ens.length F=p.ens.map Qd:=by have:=Qbq hsz;rw[hF]at this;simpa using this
 have hmp:∀m,F.map (bz m 4)=F:=fun m=>Va m 3 bU;rw[hF];refine Qk ez (asW p [I 0,I 0,I 0,I 0,.sl .nil [],I 0,I 0,I 0,I 0,.sl .nil [],.sl .nil [],.sl .nil [],.sl .nil []]) (fun f _=>p.ens.length-(numOf (f 22)).toNat) ?_ ?_
 ·exact⟨0,[],zd,zE,by rw[hF]⟩
 rintro f m ⟨i,bx,f22,hi,rfl⟩;rw[hF];rcases zzaa i p.ens.length with ai|bn
 ·obtain⟨e,he⟩:=aV ai;have aa:(i:Int)<(p.ens.length:Int):=zE
  have hw:=bO i zE;obtain⟨⟨r,hd⟩,bY⟩:=uN hsz (i:=i) (row:=Qd e) (by simp[he]);rw[hF]at hd bY;simp only[Qd,zzae,zzai]at hd bY;have Gy:=Wp e (h6 e (zzad he));simp only[Qd]at Gy;simp[-setA,jO,jP,f22,ez,aa,hd,bY,hFl,hw,Kl];refine⟨Gy,zE,aQ,⟨i+1,bx++[[I e.id,I e.it,I e.fr,I e.ea,I e.la,I e.bo,.sl .ro (e.al.map Qf)]],zd,zE,by rw[hF]⟩,zE⟩
 obtain rfl:i=p.ens.length:=zE
 simp[f22,ez,IL,Kl,hFl,hmp,ic];exact⟨k4,k5⟩
def PgC(g:Pg):Prop:=Bj g.p/\g.ev.length<=1000000/\g.cu.length<=1000000/\g.dr.length<=1000000/\∀e∈g.ev,e.al.length<=8796093022208
def Bl(g:Pg):UV:=fun _ f l=>if f=101 then(if g.ev=[]then .sl .ro []else .gd false .junk)else l.headD .junk
def kY(g:Pg)(V:AV):P2:=[I g.p.ch,I g.p.nu,I g.p.de,I g.p.of,.sl .ro (g.p.sh.map Qf),I g.p.ep,I g.p.rg,I g.p.ln,I g.p.fi,.sl .ro (g.p.aM.map Qh),.sl .ro (g.p.ens.map Qd),.sl .ro (g.p.bks.map Xj),.sl .ro (g.p.cls.map Qi),V,.sl .ro (g.cu.map Qm),I g.ed,.sl .ro (g.dr.map Xb),I g.ve]
def asX(g:Pg)(m0:P2)(f:Nat->AV)(m:AM):Prop:=∃(i:Nat)(bx:T5),f 16=I i/\i<=g.ev.length/\m=⟨kY g (.bs 2 0 g.ev.length 7)::m0::(g.ev.map Qe).flatten::bx,[],fun _=>.gone,0⟩
def YU:P2:=[I 0,I 0,I 0,I 0,.sl .nil [],I 0,I 0,I 0,I 0,.sl .nil [],.sl .nil [],.sl .nil [],.sl .nil [],.sl .nil [],.sl .nil [],I 0,.sl .nil [],I 0]
def YV(g:Pg)(h:PgC g):Pure Tryz.prog aD 52 [.agg (Qg g)] (.agg (Qg g)):=by
 obtain⟨h0,h1,h2,h3,h4⟩:=h;have k1:=pV g.p h0;have k3:=aeN g.cu zE;have k4:=aeO g.dr zE;have hsz:=kX (f:=Qe) (sz:=7) (fun _=>rfl) g.ev;simp only[Qa]at k1;refine Qp ajR (Bl g) zd ?_;by_cases hn:g.ev=[]
 ·have k2:=YS;simp[abp,Qg,Qa,Bl,hn];refine⟨k1,k2,?_⟩;refine Qk Ec (fun f m=>f 16=I 0/\m=⟨kY g (.sl .ro [])::[YU],[],fun _=>.gone,0⟩) (fun f _=>0) ?_ ?_
  ·exact⟨zd,by simp[kY,YU]⟩
  rintro f m ⟨f16,rfl⟩;simp[f16,Ec,ajQ,kY,YU,Bl];exact⟨k3,k4⟩
 have aN:g.ev.map Qe≠[]:=by simpa using hn
 simp[abp,Qg,Qa,Bl,hn];refine⟨k1,YR _ _ hsz (by simpa using by omega) aN _ _ ?_⟩;simp;obtain⟨F,hF⟩:∃F,(g.ev.map Qe).flatten=F:=⟨_,rfl⟩;have hFl:F.length=g.ev.length*7:=by rw[<- hF,jQ hsz];simp
 have bU:Zl F=true:=by rw[<- hF];exact kW (fun _=>rfl) _
 have ic:aY 7 g.ev.length F=g.ev.map Qe:=by have:=Qbq hsz;rw[hF]at this;simpa using this
 have hmp:∀m,F.map (bz m 4)=F:=fun m=>Va m 3 bU;rw[hF];refine Qk Ec (asX g YU) (fun f _=>g.ev.length-(numOf (f 16)).toNat) ?_ ?_
 ·exact⟨0,[],zd,zE,by rw[hF];rfl⟩
 rintro f m ⟨i,bx,f16,hi,rfl⟩;rw[hF];rcases zzaa i g.ev.length with ai|bn
 ·obtain⟨e,he⟩:=aV ai;have aa:(i:Int)<(g.ev.length:Int):=zE
  have hw:=bO i zE;obtain⟨⟨r,hd⟩,bY⟩:=uN hsz (i:=i) (row:=Qe e) (by simp[he]);rw[hF]at hd bY
  have hs6:F.set (i*7+6) (.sl .ro (e.al.map Qf))=F:=by
   have h7:F[i*7+6]?=some (.sl .ro (e.al.map Qf)):=by
    have:=congrArg (fun l=>l[6]?) hd;simpa[Qe]using this
   apply zzcz;intro j;by_cases hj:i*7+6=j
   ·subst hj;rw[h7,zzbf (zza.1 h7).1]
   rw[zzbn hj]
  simp only[Qe,zzae,zzai]at hd;have axv:=N9 e.al (h4 e (zzad he));simp[f16,Ec,kY,aa,hd,hs6,hFl,hw,Bl];refine⟨axv,zE,aQ,⟨i+1,bx++[[I e.id,I e.it,I e.st,I e.fr,I e.i,I e.re,.sl .ro (e.al.map Qf)]],zd,zE,by rw[hF];rfl⟩,zE⟩
 obtain rfl:i=g.ev.length:=zE
 simp[f16,Ec,ajQ,kY,YU,Bl,hFl,hmp,ic];exact⟨k3,k4⟩
open Go Go.Abs
def uO(n:Int):Bool:=decide (1<=n)&&decide (n<=1000000)
def Wi(n:Int):Pure Tryz.prog aD 45 [I n] (.bool (uO n)):=by
 refine Qp SQ (fun _ _ _=>.junk) zd ?_;by_cases h:1<=n
 ·simp[abm,abn,h,uO]
 simp[abm,abn,h,uO]
def eB:ByteArray:=⟨#[]⟩
def Gz(tx:ByteArray):tx.toList=[]<->tx=eB:=by
 obtain⟨⟨l⟩⟩:=tx;rw[ByteArray.toList_eq];simp[eB]
def Sw(o:Od):Bool:=decide (o.en=0/\o.n=0/\o.cl=⟨0,0,0,0,0,0,0,0⟩/\(o.cu.id=0/\o.cu.fr=0/\o.cu.to=0/\o.cu.pr=0/\o.cu.tx=eB)/\o.nw.id=0/\o.nw.it=0/\o.nw.fr=0/\o.nw.ea=0/\o.nw.la=0/\o.nw.bo=0/\o.nw.al=[])
def K4(o:Od):Pure Tryz.prog aD 46 [.agg (Qq o)] (.bool (Sw o)):=by
 refine Qp SR (fun _ _ _=>.junk) zd ?_;obtain⟨sq,ch,fr,ki,en,n,⟨a1,a2,a3,a4,a5,a6,al⟩,⟨c1,c2,c3,c4,c5,c6,c7,c8⟩,⟨d1,d2,d3,d4,tx⟩⟩:=o;simp[ajM,ajN,Qq,Qd,Qi,Qm];rw[zzcy];simp[Sw,Gz,and_assoc]
def Dp(r:Int):List Sp->Bool
 |[]=>true
 |a::l=>if r<a.1/\a.1<=7/\uO a.2=true then Dp a.1 l else false
def pW(e:En):Bool:=uO e.id&&uO e.it&&decide (1<=e.fr/\e.fr<=100000000)&&decide (0<=e.ea/\e.ea<=e.la/\e.la<=100000000)&&(decide (e.bo=0)||uO e.bo)&&Dp 0 e.al
def aiS(e:En)(f:Nat->AV)(m:AM):Prop:=∃(i:Nat)(r:Int)(bx:T5),f 53=I i/\i<=e.al.length/\f 3=I r/\Dp 0 e.al=Dp r (e.al.drop i)/\m=⟨Qd e::bx,[],fun _=>.gone,0⟩
def Km:UV:=fun _ f l=>match l with|[.int _ n]=>.bool (uO n)|_=>.junk
def ud(e:En)(hl:e.al.length<=8796093022208):Pure Tryz.prog aD 47 [.agg (Qd e)] (.bool (pW e)):=by
 have q1:=Wi e.id;have q2:=Wi e.it;have q3:=Wi e.bo;refine Qp SS Km zd ?_;cases h1:uO e.id with
 |false=>rw[h1]at q1;simp[qp,gX,Qd,Km,h1,pW];exact q1
 |true=>
  rw[h1]at q1;cases h2:uO e.it with
  |false=>rw[h2]at q2;simp[qp,gX,Qd,Km,h1,h2,pW];exact⟨q1,q2⟩
  |true=>
   rw[h2]at q2;by_cases h3:e.fr<1
   ·have:¬1<=e.fr:=zE
    simp[qp,gX,Qd,Km,h1,h2,h3,pW,this];exact⟨q1,q2⟩
   by_cases h4:100000000<e.fr
   ·have:¬e.fr<=100000000:=zE
    simp[qp,gX,Qd,Km,h1,h2,h3,h4,pW,this];exact⟨q1,q2⟩
   have e34:1<=e.fr/\e.fr<=100000000:=zE
   by_cases h5:e.ea<0
   ·have:¬0<=e.ea:=zE
    simp[qp,gX,Qd,Km,h1,h2,h3,h4,h5,pW,this];exact⟨q1,q2⟩
   by_cases h6:e.la<e.ea
   ·have:¬e.ea<=e.la:=zE
    simp[qp,gX,Qd,Km,h1,h2,h3,h4,h5,h6,pW,this];exact⟨q1,q2⟩
   by_cases h7:100000000<e.la
   ·have:¬e.la<=100000000:=zE
    simp[qp,gX,Qd,Km,h1,h2,h3,h4,h5,h6,h7,pW,this];exact⟨q1,q2⟩
   have axw:0<=e.ea/\e.ea<=e.la/\e.la<=100000000:=zE
   by_cases h8:e.bo≠0/\uO e.bo=false
   ·obtain⟨h8,h9⟩:=h8;rw[h9]at q3;have h8':(e.bo !=0)=true:=by simpa using h8
    simp[qp,gX,Qd,Km,h1,h2,h3,h4,h5,h6,h7,h8,h8',h9,pW];exact⟨q1,q2,q3⟩
   have hb:(decide (e.bo=0)||uO e.bo)=true:=by
    by_cases hb:e.bo=0
    ·simp[hb]
    cases h9:uO e.bo with
    |true=>simp
    |false=>exact absurd ⟨hb,h9⟩ h8
   have hv:pW e=Dp 0 e.al:=by simp only[pW,h1,h2,e34,axw,hb,zzea,and_self,decide_true]
   rw[hv]
   have hbo:(e.bo=0)\/(e.bo≠0/\uO e.bo=true):=by
    by_cases dZ:e.bo=0
    ·exact .inl dZ
    exact .inr ⟨dZ,by simpa[dZ]using hb⟩
   obtain dZ|⟨dZ,dy⟩:=hbo
   ·simp[qp,Qd,Km,h1,h2,h3,h4,h5,h6,h7,dZ];refine⟨q1,q2,?_⟩;clear q1 q2 q3;refine Qk gI (aiS e) (fun f _=>e.al.length-(numOf (f 53)).toNat) ?_ ?_
    ·exact⟨0,0,[],zd,zE,zd,zd,by simp[Qd,dZ]⟩
    rintro f m ⟨i,r,bx,f53,hi,f3,hr,rfl⟩;rcases zzaa i e.al.length with ai|bn
    ·obtain⟨a,ha⟩:=aV ai;have ah:=Zv ha;have aa:(i:Int)<(e.al.length:Int):=zE
     have hw:=bO i zE;have hd:e.al.drop i=a::e.al.drop (i+1):=by rw[zzah ai,(zza.1 ha).2]
     rw[hd,Dp]at hr;have qa:=Wi a.2;by_cases d1:a.1<=r
     ·rw[if_neg zE]at hr;simp[f53,f3,gI,gX,Qd,aa,ah,d1,hr,Km]
     by_cases d2:7<a.1
     ·rw[if_neg zE]at hr;simp[f53,f3,gI,gX,Qd,aa,ah,d1,d2,hr,Km]
     cases d3:uO a.2 with
     |false=>
      rw[d3]at qa;rw[if_neg (by simp[d3])]at hr;simp[f53,f3,gI,gX,Qd,aa,ah,d1,d2,d3,hr,Km];exact qa
     |true=>
      rw[d3]at qa;rw[if_pos ⟨zE,zE,d3⟩]at hr;simp[f53,f3,gI,Qd,aa,ah,d1,d2,d3,hw,Km];refine⟨qa,aQ,⟨i+1,a.1,bx++[[I a.1,I a.2]],zd,zE,zd,hr,by simp[Qd]⟩,zE⟩
    obtain rfl:i=e.al.length:=zE
    simp[f53,f3,gI,gX,hr,Dp]
   rw[dy]at q3;have KA:(e.bo !=0)=true:=by simpa using dZ
   simp[qp,Qd,Km,h1,h2,h3,h4,h5,h6,h7,KA,dy];refine⟨q1,q2,q3,?_⟩;clear q1 q2 q3;refine Qk gI (aiS e) (fun f _=>e.al.length-(numOf (f 53)).toNat) ?_ ?_
   ·exact⟨0,0,[],zd,zE,zd,zd,by simp[Qd]⟩
   rintro f m ⟨i,r,bx,f53,hi,f3,hr,rfl⟩;rcases zzaa i e.al.length with ai|bn
   ·obtain⟨a,ha⟩:=aV ai;have ah:=Zv ha;have aa:(i:Int)<(e.al.length:Int):=zE
    have hw:=bO i zE;have hd:e.al.drop i=a::e.al.drop (i+1):=by rw[zzah ai,(zza.1 ha).2]
    rw[hd,Dp]at hr;have qa:=Wi a.2;by_cases d1:a.1<=r
    ·rw[if_neg zE]at hr;simp[f53,f3,gI,gX,Qd,aa,ah,d1,hr,Km]
    by_cases d2:7<a.1
    ·rw[if_neg zE]at hr;simp[f53,f3,gI,gX,Qd,aa,ah,d1,d2,hr,Km]
    cases d3:uO a.2 with
    |false=>
     rw[d3]at qa;rw[if_neg (by simp[d3])]at hr;simp[f53,f3,gI,gX,Qd,aa,ah,d1,d2,d3,hr,Km];exact qa
    |true=>
     rw[d3]at qa;rw[if_pos ⟨zE,zE,d3⟩]at hr;simp[f53,f3,gI,Qd,aa,ah,d1,d2,d3,hw,Km];refine⟨qa,aQ,⟨i+1,a.1,bx++[[I a.1,I a.2]],zd,zE,zd,hr,by simp[Qd]⟩,zE⟩
   obtain rfl:i=e.al.length:=zE
   simp[f53,f3,gI,gX,hr,Dp]
open Go Go.Abs
def Iy(s:ByteArray)(i:Nat):Nat:=(s.data.toList.getD i 0).toNat
def Dq(s:ByteArray)(i:Nat)(h:i<s.size):(s.data[i]'h).toNat=Iy s i:=by
 have h':i<s.data.size:=h;simp only[Iy,zzav,zzca,zzag h',Option.getD_some]
def YW(s:ByteArray)(n i:Nat):Bool:=match n with
 |0=>true
 |n+1=>if Iy s i<32\/126<Iy s i then false else YW s n (i+1)
def YX(s:ByteArray):Bool:=YW s s.size 0
def asY(s:ByteArray)(f:Nat->AV)(m:AM):Prop:=∃i:Nat,f 3=I i/\i<=s.size/\YX s=YW s (s.size-i) i/\m=⟨[],[],fun _=>.gone,0⟩
def xZ(s:ByteArray)(h:s.size<=1000000):Pure Tryz.prog aD 158 [.str s] (.bool (YX s)):=by
 refine Qp MO (fun _ _ _=>.junk) zd ?_;simp[MN];refine Qk vk (asY s) (fun f _=>s.size-(numOf (f 3)).toNat) ?_ ?_
 ·exact⟨0,zd,zE,rfl,rfl⟩
 rintro f m ⟨i,f3,hi,hr,rfl⟩;rcases zzaa i s.size with ai|bn
 ·have aa:(i:Int)<(s.size:Int):=zE
  have hw:=bO i zE;obtain⟨n,hn⟩:∃n,s.size-i=n+1:=⟨s.size-i-1,zE⟩;have hb:=Dq s i ai;rw[hn,YW]at hr;by_cases h1:Iy s i<32
  ·rw[if_pos (.inl h1)]at hr;have mV:((Iy s i:Nat):Int)<32:=zE
   simp[f3,vk,Eo,ai,aa,hr,hb,mV]
  have mV:¬((Iy s i:Nat):Int)<32:=zE
  by_cases h2:126<Iy s i
  ·rw[if_pos (.inr h2)]at hr;have No:(126:Int)<((Iy s i:Nat):Int):=zE
   simp[f3,vk,Eo,ai,aa,hr,hb,mV,No]
  rw[if_neg zE]at hr;have No:¬(126:Int)<((Iy s i:Nat):Int):=zE
  simp[f3,vk,ai,aa,hw,hb,mV,No];refine⟨aQ,⟨i+1,zd,zE,by rw[hr];congr 1;omega,rfl⟩,zE⟩
 obtain rfl:i=s.size:=zE
 rw[zzfp,YW]at hr;simp[f3,vk,Eo,hr]
def sR(s:ByteArray)(i:Nat):Option Nat->List ByteArray
 |none=>[]
 |some f=>[s.extract f i]
def YY(s:ByteArray):Nat->Nat->Option Nat->List ByteArray
 |0,i,first=>sR s i first
 |n+1,i,first=>if Iy s i≠32 then YY s n (i+1) (some (first.getD i))else sR s i first++YY s n (i+1) none
def nP(s:ByteArray):List ByteArray:=YY s s.size 0 none
def K5(s:ByteArray)(i:Nat)(first:Option Nat):List ByteArray:=if i<=s.size then YY s (s.size-i) i first else[]
def YZ{s:ByteArray}{i:Nat}(first:Option Nat)(h:i<s.size)(hb:Iy s i≠32):K5 s i first=K5 s (i+1) (some (first.getD i)):=by
 obtain⟨n,hn⟩:∃n,s.size-i=n+1:=⟨s.size-i-1,zE⟩;rw[K5,if_pos zE,K5,if_pos zE,hn,YY,if_pos hb,show s.size-(i+1)=n by omega]
def aeQ{s:ByteArray}{i:Nat}(first:Option Nat)(h:i<=s.size)(hb:i<s.size->Iy s i=32):K5 s i first=sR s i first++K5 s (i+1) none:=by
 by_cases hi:i=s.size
 ·subst hi;have:K5 s (s.size+1) none=[]:=by rw[K5,if_neg zE]
  rw[this,K5,if_pos zE,zzfp,YY,zzat]
 obtain⟨n,hn⟩:∃n,s.size-i=n+1:=⟨s.size-i-1,zE⟩;have:K5 s (i+1) none=YY s n (i+1) none:=by rw[K5,if_pos zE,show s.size-(i+1)=n by omega]
 rw[this,K5,if_pos h,hn,YY,if_neg (by simp[hb zE])]
def Oa:Option Nat->Int
 |none=> -1
 |some k=>k
def K6(s:ByteArray):Pure Tryz.prog aD 159 [.str s] (.fn 211 [] [.ep [.str s] 0]):=by
 refine Qp MP (fun _ _ _=>.junk) zd ?_;simp[TJ,TK]
def asZ(Y:YT)(lp:Nat)(K:AM->Prop)(s:ByteArray)(f:Nat->AV)(m:AM):Prop:=∃(i:Nat)(first:Option Nat),f 4=I i/\i<=s.size+1/\f 3=I (Oa first)/\(∀k,first=some k->k<=i/\i<=s.size)/\wI (Y lp) K ((K5 s i first).map fun w=>[.str w]) m
def K7(s:ByteArray)(h:s.size<=1000000):Iter Tryz.prog aD 211 [] [.ep [.str s] 0] ((nP s).map fun w=>[.str w]):=by
 intro Y lp m K hF;refine Xn M6 (fun _ _ _=>.junk) zd ?_;simp[M5,TZ];refine Qk iQ (asZ Y lp K s) (fun f _=>s.size+1-(numOf (f 4)).toNat) ?_ ?_
 ·exact⟨0,none,zd,zE,by simp[Oa],⟨fun k(hk:none=some k)=>(by cases hk),by simpa[K5,nP]using hF⟩⟩
 rintro f m ⟨i,first,f4,hi,f3,hfi,hr⟩;rcases zzaa s.size i with lH|cm
 ·have bP:¬(i:Int)<=(s.size:Int):=zE
  rw[K5,if_neg zE]at hr;simp[f4,iQ,bP];exact hr m (fD.refl m)
 have aeR:(i:Int)<=(s.size:Int):=zE
 have hw:=bO i zE;by_cases hb:i<s.size/\Iy s i≠32
 ·obtain⟨ai,hb⟩:=hb;have aa:(i:Int)<(s.size:Int):=zE
  have hbb:=Dq s i ai;have hbI:¬((Iy s i:Nat):Int)=32:=zE
  rw[YZ first ai hb]at hr;cases first with
  |none=>
   simp[f4,f3,Oa,iQ,aeR,ai,aa,hbb,hbI,hw];refine⟨aQ,⟨i+1,some i,zd,zE,by simp[Oa],⟨fun k(hk:some i=some k)=>(by cases hk;omega),hr⟩⟩,zE⟩
  |some k=>
   have Nq:¬(k:Int)<0:=zE
   obtain⟨dB,ef⟩:=hfi k rfl;simp[f4,f3,Oa,iQ,aeR,ai,aa,hbb,hbI,hw,Nq];refine⟨aQ,⟨i+1,some k,zd,zE,by simp[Oa],⟨fun k'(hk:some k=some k')=>(by cases hk;omega),hr⟩⟩,zE⟩
 have cM:i<s.size->Iy s i=32:=fun h=>Classical.byContradiction fun h2=>hb ⟨h,h2⟩;rw[aeQ first cm cM]at hr;cases first with
 |none=>
  simp only[sR,zzai]at hr;rcases zzaa i s.size with ai|bn
  ·have aa:(i:Int)<(s.size:Int):=zE
   have hbb:=Dq s i ai;have amk:=cM ai;simp[f4,f3,Oa,iQ,aeR,ai,aa,hbb,amk,hw];refine⟨aQ,⟨i+1,none,zd,zE,by simp[Oa],⟨fun k(hk:none=some k)=>(by cases hk),hr⟩⟩,zE⟩
  obtain rfl:i=s.size:=zE
  simp[f4,f3,Oa,iQ,hw];refine⟨aQ,⟨s.size+1,none,zd,zE,by simp[Oa],⟨fun k(hk:none=some k)=>(by cases hk),hr⟩⟩⟩
 |some k=>
  obtain⟨dB,ef⟩:=hfi k rfl;have Nq:(0:Int)<=(k:Int):=zE
  simp only[sR,zzae,zzai,zzaz]at hr;rcases zzaa i s.size with ai|bn
  ·have aa:(i:Int)<(s.size:Int):=zE
   have hbb:=Dq s i ai;have amk:=cM ai;simp[f4,f3,Oa,iQ,aeR,ai,aa,hbb,amk,hw,Nq,dB];refine hr m (fD.refl m) _ (fun m2 h2=>?_) (fun m2 h2=>?_)
   ·simp;refine⟨aQ,⟨i+1,none,zd,zE,by simp[Oa],⟨fun k(hk:none=some k)=>(by cases hk),h2⟩⟩,zE⟩
   simp;exact h2 m2 (fD.refl m2)
  obtain rfl:i=s.size:=zE
  simp[f4,f3,Oa,iQ,hw,Nq,dB];refine hr m (fD.refl m) _ (fun m2 h2=>?_) (fun m2 h2=>?_)
  ·simp;refine⟨aQ,⟨s.size+1,none,zd,zE,by simp[Oa],⟨fun k(hk:none=some k)=>(by cases hk),h2⟩⟩⟩
  simp;exact h2 m2 (fD.refl m2)
open Go Go.Abs
def Xz(n:Int):Prop:= -9223372036854775808<=n/\n<=9223372036854775807
def OKP(p:Pl):Prop:=∀e∈p.ens,e.al.length<=8796093022208
open Go Go.Abs
def Y2(p:Pl)(e:bF):Int->List Sp->Bool
 |_,[]=>true
 |last,a::r=>match Xg a.2 p.aM with
  |none=>false
  |some y=>if a.1<=last\/p.rg<=a.1\/y.fr<IntKind.i64.wrap (e.i+e.fr)then false else if Xk p a.2 a.1 e.st e.fr=false then false else Y2 p e a.1 r
def as0(p:Pl)(e:bF):Int:=Ug (fun i=>Xk p e.it i e.st e.fr) (min p.rg 8).toNat
def GA(a:Int):Int:=IntKind.i64.wrap (((a%2 ^ IntKind.i64.bits).toNat&&& ((1:Int)%2 ^ IntKind.i64.bits).toNat:Nat):Int)
def aeS(a b:Int):Int:=IntKind.i64.wrap (((a%2 ^ IntKind.i64.bits).toNat&&& (2 ^ IntKind.i64.bits-1-(b%2 ^ IntKind.i64.bits).toNat):Nat):Int)
def Y3(p:Pl)(e:bF):Bool:=match Xg e.it p.aM with
 |none=>false
 |some x=>if e.fr<1\/e.i<0\/x.fr<e.fr\/IntKind.i64.wrap (x.fr-e.fr)<e.i then false else
  if GA e.re=0\/aeS e.re (as0 p e)≠0 then false else Y2 p e 0 e.al&&(decide (e.id≠0)||(decide (e.it=p.fi)&&decide (e.al=[])))
open Go Go.Abs
def aeT(x r n:Nat)(h:r<n):((x+2 ^ n)/2 ^ r)%2=(x/2 ^ r)%2:=by
 obtain⟨k,rfl⟩:∃k,n=r+(k+1):=⟨n-r-1,zE⟩;have e:2 ^ (r+(k+1))=2 ^ r*(2*2 ^ k):=by rw[Nat.pow_add,zzhl,zzef (2 ^ k) 2]
 rw[e,Nat.add_mul_div_left _ _ (Nat.two_pow_pos r),Nat.add_mul_mod_self_left]
def nQ(b:Nat->Bool):Nat->Nat
 |0=>0
 |n+1=>nQ b n+if b n then 2 ^ n else 0
def uP(b:Nat->Bool):∀n,nQ b n<2 ^ n
 |0=>by simp[nQ]
 |n+1=>by
  have:=uP b n;rw[nQ,zzhl];split<;>omega
def Dr(b:Nat->Bool):∀n,Ug b n=(nQ b n:Int)
 |0=>rfl
 |n+1=>by
  rw[Ug,nQ,Dr b n];split
  ·push_cast;rfl
  simp
def x8(b:Nat->Bool)(r:Nat):∀n,(nQ b n).testBit r=(decide (r<n)&&b r)
 |0=>by simp[nQ]
 |n+1=>by
  have ih:=x8 b r n;have ai:=uP b n;rw[nQ];by_cases hb:b n=true
  ·rw[if_pos hb];rcases zzds r n with h|h|h
   ·rw[zzdm,aeT _ _ _ h,<- zzdm,ih];simp[h,Nat.lt_succ_of_lt h]
   ·subst h
    have:(nQ b r+2 ^ r)/2 ^ r=1:=by
     rw[Nat.add_div_right _ (Nat.two_pow_pos r),zzex ai]
    rw[zzdm,this];simp[hb]
   have:nQ b n+2 ^ n<2 ^ r:=by
    have:2 ^ (n+1)<=2 ^ r:=zzfa zE h;rw[zzhl]at this;omega
   rw[Nat.testBit_lt_two_pow this];simp;intro h2;omega
  rw[if_neg hb,zzcm,ih];by_cases h:r=n
  ·subst h;simp[hb]
  have:decide (r<n)=decide (r<n+1):=decide_eq_decide.2 zE;rw[this]
def aml(x:Int)(r:Nat):Bool:=x.toNat.testBit r
def Y4(b:Nat->Bool)(n r:Nat):aml (Ug b n) r=(decide (r<n)&&b r):=by
 unfold aml;rw[Dr,Int.toNat_natCast,x8]
def GB(b:Nat->Bool)(n:Nat)(hn:n<=8):0<=Ug b n/\Ug b n<256:=by
 have:=uP b n;rw[Dr];have h2:2 ^ n<=2 ^ 8:=zzfa zE hn;omega
def as1(x:Int)(h:0<=x/\x<256):(x%2 ^ IntKind.i64.bits).toNat=x.toNat:=by
 have:(2:Int) ^ IntKind.i64.bits=18446744073709551616:=by decide
 rw[this,Int.emod_eq_of_lt h.1 zE]
def Y5(x:Int)(h:0<=x/\x<256):GA x=x%2:=by
 unfold GA;rw[as1 x h,as1 1 zE];have:x.toNat&&& (1:Int).toNat=x.toNat%2:=Nat.and_one_is_mod _;rw[this,Ql]<;>omega
open Go Go.Abs
def Q1{x:Int}(h:0<=x/\x<256):aeS x x=0:=by
 have key:∀n:Nat,n<256->aeS (n:Int) (n:Int)=0:=by decide+kernel
 have:=key x.toNat zE;rwa [zzfy h.1]at this
def x9{b c:Nat->Bool}:∀(n:Nat),(∀i,i<n->b i=c i)->Ug b n=Ug c n
 |0,_=>rfl
 |n+1,h=>by rw[Ug,Ug,x9 n (fun i hi=>h i zE),h n zE]
def Y6{b:Nat->Bool}{n:Nat}(hn:1<=n/\n<=8)(h0:b 0=true):GA (Ug b n)=1:=by
 have hb:=GB b n hn.2;rw[Y5 _ hb];have h1:=Y4 b n 0;rw[h0]at h1;have h2:decide (0<n)=true:=by simp;omega
 rw[h2]at h1;simp only[aml,Nat.testBit_zero,zzgg,decide_eq_true_eq]at h1;omega
structure VP (p:Pl):Prop where
 rg:1<=p.rg/\p.rg<=8
 ln:1<=p.ln/\p.ln<=100000000
 fill:∃y,Xg p.fi p.aM=some y/\y.ki=5/\1<=y.fr/\y.fr<=100000000
 aM:∀y∈p.aM,Sq y=true
 ens:∀e∈p.ens,1<=e.id/\QN p e=true/\gQ p e=true
def GC{p:Pl}:∀{l:List En}{seen:Pi},tZ p seen l=true->∀e∈l,1<=e.id/\QN p e=true/\gQ p e=true
 |x::r,seen,h,e,he=>by
  rw[tZ,zzac]at h;rcases zzaq.1 he with rfl|he
  ·have h1:=h.1;simp only[ru,zzac,wi,decide_eq_true_eq]at h1;exact⟨h1.1.1,h1.2.2.1,h1.2.2.2.1⟩
  exact GC h.2 e he
def rA{p:Pl}(h:iG p=true):VP p:=by
 simp only[iG,zzac]at h;obtain⟨h1,h2,h3,h4,h5⟩:=h;simp only[Jo,zzac,wi,decide_eq_true_eq]at h1;simp only[Sr,zzac,decide_eq_true_eq]at h2;simp only[mA,zzac,decide_eq_true_eq]at h4;refine⟨h1.2.2.2.2.1,h1.2.2.2.2.2,?_,pM h2.2.2.1,GC h4.2⟩;have hf:=h2.2.2.2;unfold gO at hf;cases hx:Xg p.fi p.aM with
 |none=>rw[hx]at hf;cases hf
 |some y=>
  rw[hx]at hf;have hb:=X3 (pM h2.2.2.1 y (Qdd hx).1);exact⟨y,rfl,Nm hf,zE,zE⟩
def K8{p:Pl}(h:VP p)(r f n:Int)(hr:0<=r/\r<8)(hn:1<=n/\n<=1000000)(hf:0<=f/\f+n-1<=100000000):Xk p p.fi r f n=true:=by
 obtain⟨y,hy,hk,_⟩:=h.fill;exact(Qbw _ _ _ _ _).2 ⟨⟨zE,zE,zE,zE⟩,fun x h1 h2=>⟨y,hy,hr,zE,.inl hk⟩⟩
def Qbr{p:Pl}(h:VP p)(hl:p.ln<=1000000)(x:Int×Int)(hx:0<=x.1/\1<=x.2/\x.2<=Yf p/\x.1+x.2<=p.ln):Y3 p (Zy p x)=true:=by
 obtain⟨y,hy,hk,hy1,hy2⟩:=h.fill;have hff:Yf p=y.fr:=by simp only[Yf,hy]
 rw[hff]at hx;have hre:(Zy p x).re=F2 p:=rfl
 have hm:as0 p (Zy p x)=F2 p:=by
  refine x9 _ fun i hi=>?_;exact K8 h i x.1 x.2 zE zE zE
 have KQ:=h.rg;have h1:GA (F2 p)=1:=Y6 (n:=(min p.rg 8).toNat) zE rfl;have h2:aeS (F2 p) (F2 p)=0:=Q1 (GB _ _ zE);have hw:IntKind.i64.wrap (y.fr-x.2)=y.fr-x.2:=by rw[Ql]<;>omega
 have cT:(Zy p x).it=p.fi:=rfl;have wC:(Zy p x).fr=x.2:=rfl;have hi0:(Zy p x).i=0:=rfl;have fP:(Zy p x).al=[]:=rfl;rw[Y3,cT,hy];simp only;rw[hm,hre,wC,hi0,fP,hw,h1,h2,if_neg zE,if_neg zE];simp[Y2]
def Y7{lo up:Int}{ks:Pi}(h:Kw lo up none ks=true):ks.Pairwise (·<·)/\∀k∈ks,lo<=k/\k<=up:=by
 obtain⟨h1,h2⟩:=kU h;exact⟨h1,fun k hk=>⟨(h2 k hk).1,(h2 k hk).2.1⟩⟩
