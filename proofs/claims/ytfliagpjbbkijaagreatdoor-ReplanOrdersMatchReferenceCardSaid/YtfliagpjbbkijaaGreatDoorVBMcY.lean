import Derived.Test.YtfliagpjbbkijaaGreatDoorVBMS
set_option linter.all false
set_option maxRecDepth 100000
set_option maxHeartbeats 64000000
namespace Go.Proofs.YtfliagpjbbkijaaGreatDoor
open Go Go.Abs
def Bp(f:Int)(e:ck):Bool:=decide (e.st<=f/\f<e.st+e.fr)
def Yl(e:ck):Prop:=(0<=e.st/\e.st<=1000000)/\(0<=e.fr/\e.fr<=1000000)/\(0<=e.i/\e.i<=1000000)/\e.al.length<=8796093022208
def ig(f:Int):List ck->Nat->Int
 |[],_=> -1
 |e::r,i=>if Bp f e=true then i else ig f r (i+1)
def DG(f:Int):List ck->Option ck
 |[]=>none
 |e::r=>if Bp f e=true then some e else DG f r
def xY{f:Int}:∀{L:List ck}{i:Nat},DG f L=none->ig f L i= -1
 |[],_,_=>rfl
 |a::r,i,h=>by
  simp only[DG]at h;split at h
  ·cases h
  rename_i hn;simp only[ig,if_neg hn];exact xY h
def xZ{f:Int}{a:ck}:∀{L:List ck}{i:Nat},DG f L=some a->∃k:Nat,ig f L i=((i+k:Nat):Int)/\L[k]?=some a/\Bp f a=true
 |[],_,h=>by cases h
 |b::r,i,h=>by
  simp only[DG]at h;split at h
  ·rename_i hb;cases h;exact⟨0,by simp[ig,hb],rfl,hb⟩
  rename_i hn;obtain⟨k,h1,h2,h3⟩:=xZ (i:=i+1) h;exact⟨k+1,by simp only[ig,if_neg hn,h1];omega,Nm h2,h3⟩
def LK(f:Int):X1:=fun _ _ l=>match l with
 |[.agg [_,_,.int _ st,.int _ fr,_,_,_],_]=>.bool (decide (st<=f/\f<st+fr))
 |_=>.junk
def ya(f:Int):Option ck->AV
 |none=>ajB
 |some e=>.aS [.agg (Qg e),I (e.i+f-e.st),.bool true]
structure Cue where
 id:Int
 fr:Int
 to:Int
 pr:Int
 tx:ByteArray
def Qp(c:Cue):P1:=[I c.id,I c.fr,I c.to,I c.pr,.str c.tx]
structure Pg where
 p:Pl
 ev:List ck
 cu:List Cue
 ed:Int
 dr:Pi
 ve:Int
def Qo(g:Pg):P1:=Qc g.p++[.sl .ro (g.ev.map Qg),.sl .ro (g.cu.map Qp),I g.ed,.sl .ro (g.dr.map Qy),I g.ve]
structure Od where
 sq:Int
 ch:Int
 fr:Int
 ki:Int
 en:Int
 n:Int
 nw:En
 cl:Cl
 cu:Cue
def Qt(o:Od):P1:=[I o.sq,I o.ch,I o.fr,I o.ki,I o.en,I o.n]++(Qd o.nw++(Qj o.cl++Qp o.cu))
def G7(pre a r bs:P1)(h:bs.length=a.length):setA (pre++(a++r)) pre.length bs=pre++(bs++r):=by
 induction bs generalizing pre a with
 |nil=>cases a with
  |nil=>rfl
  |cons _ _=>simp at h
 |cons x bs ih=>cases a with
  |nil=>simp at h
  |cons y a=>
   rw[setA];have e:(pre++(y::a++r)).set pre.length x=(pre++[x])++(a++r):=zd
   rw[e];have:=ih (pre++[x]) a (Nm h);rw[show(pre++[x]).length=pre.length+1 by simp]at this;rw[this];simp
theorem nK(l:P1)(o:Nat):setA l o []=l:=rfl
def xH(y:AV):∀(xs l:P1)(n:Nat),setA (y::l) (n+1) xs=y::setA l n xs
 |[],_,_=>rfl
 |x::xs,l,n=>by
  rw[setA,setA,zzdn];exact xH y xs _ _
def nL(y x:AV)(xs l:P1):setA (y::l) 0 (x::xs)=x::setA l 0 xs:=by
 rw[setA,zzfl,xH]
def pZ{sz:Nat}:∀{rows:X2},(∀r∈rows,r.length=sz)->rows.flatten.length=rows.length*sz
 |[],_=>zd
 |a::r,h=>by
  have:=pZ (rows:=r) fun x hx=>h x (by simp[hx]);rw[zzcg,zzal,this,h a zd,zzba,zzhm];omega
def Qbh{sz:Nat}:∀{rows:X2},(∀r∈rows,r.length=sz)->aY sz rows.length rows.flatten=rows
 |[],_=>rfl
 |a::r,h=>by
  have ha:=h a zd;have ih:=Qbh (rows:=r) fun x hx=>h x (by simp[hx]);rw[zzba,mY,zzcg,zzdu zE,zzeo zE,zzai zE,List.drop_of_length_le zE,zzah,ih]
def Bx{sz:Nat}:∀{rows:X2}{i:Nat}{row:P1},(∀r∈rows,r.length=sz)->rows[i]?=some row->∃pre r,rows.flatten=pre++(row++r)/\pre.length=i*sz
 |[],i,row,_,h=>by simp at h
 |a::r,0,row,h,hi=>by simp at hi;subst hi;exact⟨[],r.flatten,zd,zd⟩
 |a::r,i+1,row,h,hi=>by
  obtain⟨p,q,h1,h2⟩:=Bx (rows:=r) (fun x hx=>h x (by simp[hx])) (Nm hi);have ha:=h a zd;exact⟨a++p,q,by rw[zzcg,h1,zzbd],by rw[zzal,h2,ha,zzhm];omega⟩
def Dw{sz:Nat}{rows:X2}{i:Nat}{row:P1}(h:∀r∈rows,r.length=sz)(hi:rows[i]?=some row):(∃r,rows.flatten.drop (i*sz)=row++r)/\setA rows.flatten (i*sz) row=rows.flatten:=by
 obtain⟨p,q,h1,h2⟩:=Bx h hi;refine⟨⟨q,by rw[h1,<- h2,zzdy]⟩,?_⟩;rw[h1,<- h2];exact G7 p row q row rfl
def p8{α:Type}{f:α->P1}(h:∀a,Zw (f a)=true)(l:List α):Zw (l.map f).flatten=true:=by
 induction l with
 |nil=>rfl
 |cons a r ih=>rw[zzax,zzcg];exact RT (h a) ih
def pY{α:Type}{f:α->P1}{sz:Nat}(h:∀a,(f a).length=sz)(l:List α):∀r∈l.map f,r.length=sz:=by
 intro r hr;simp only[zzbk]at hr;obtain⟨a,_,rfl⟩:=hr;exact h a
def Ov(l:List Sp)(h:l.length<=8796093022208):Pure Tryz.prog aD 87 [.sl .ro (l.map Qe)] (.sl .ro (l.map Qe)):=by
 refine Qm alk (fun _ _ _=>.junk) zd ?_;simp[apN,apO];exact⟨by rintro row a b _ rfl;rfl,zE⟩
def Ow(l:List It)(h:l.length<=1000000000):Pure Tryz.prog aD 88 [.sl .ro (l.map Ql)] (.sl .ro (l.map Ql)):=by
 refine Qm alm (fun _ _ _=>.junk) zd ?_;simp[apP,apQ];exact⟨fun _ _=>rfl,zE⟩
def Ox(l:List Bk)(h:l.length<=1000000000):Pure Tryz.prog aD 91 [.sl .ro (l.map Xm)] (.sl .ro (l.map Xm)):=by
 refine Qm alq (fun _ _ _=>.junk) zd ?_;simp[apT,apU];exact⟨fun _ _=>rfl,zE⟩
def Oy(l:List Cl)(h:l.length<=1000000000):Pure Tryz.prog aD 92 [.sl .ro (l.map Qj)] (.sl .ro (l.map Qj)):=by
 refine Qm alr (fun _ _ _=>.junk) zd ?_;simp[apV,apW];exact⟨fun _ _=>rfl,zE⟩
def OL(l:List Sp)(h:l.length<=8796093022208):Pure Tryz.prog aD 97 [.sl .ro (l.map Qe)] (.sl .ro (l.map Qe)):=by
 refine Qm alA (fun _ _ _=>.junk) zd ?_;simp[apZ,ap0];exact⟨by rintro row a b _ rfl;rfl,zE⟩
def afP(l:List Cue)(h:l.length<=1000000000):Pure Tryz.prog aD 98 [.sl .ro (l.map Qp)] (.sl .ro (l.map Qp)):=by
 refine Qm alB (fun _ _ _=>.junk) zd ?_;simp[ap1,ap2];exact⟨fun _ _=>rfl,zE⟩
def afQ(l:Pi)(h:l.length<=1000000000):Pure Tryz.prog aD 99 [.sl .ro (l.map Qy)] (.sl .ro (l.map Qy)):=by
 refine Qm alC (fun _ _ _=>.junk) zd ?_;simp[ap3,ap4];exact⟨fun _ _=>rfl,zE⟩
def mA(e:En)(h:e.al.length<=8796093022208):Pure Tryz.prog aD 90 [.agg (Qd e)] (.agg (Qd e)):=by
 have k:=OL e.al h;refine Qm alp (fun _ _ l=>l.headD .junk) zd ?_;simp[apR,apS,Qd];exact k
def afR:X1:=fun _ f _=>if f=999999 then .aM 0 []else .junk
def G4(Y:YT)(rows:X2)(h:∀r∈rows,r.length=7)(hl:rows.length<=1000000000)(aK:rows≠[])(m:AM)(K:UV)(hK:K (.bs m.boxes.length 0 rows.length 7) {m with boxes:=m.boxes++[rows.flatten]}):
  aF Tryz.prog aD Y 89 [.sl .ro rows] m K:=by
 refine Xn Tn afR zd ?_;simp[aln,alo,afR,aK];exact⟨⟨zE,h⟩,hK⟩
def Z2(Y:YT)(rows:X2)(h:∀r∈rows,r.length=7)(hl:rows.length<=1000000000)(aK:rows≠[])(m:AM)(K:UV)(hK:K (.bs m.boxes.length 0 rows.length 7) {m with boxes:=m.boxes++[rows.flatten]}):
  aF Tryz.prog aD Y 96 [.sl .ro rows] m K:=by
 refine Xn Tq afR zd ?_;simp[aly,alz,afR,aK];exact⟨⟨zE,h⟩,hK⟩
def Z3:Pure Tryz.prog aD 89 [.sl .ro []] (.sl .ro []):=by
 refine Qm Tn (fun _ _ _=>.junk) zd ?_;simp[aln,alo]
def Z4:Pure Tryz.prog aD 96 [.sl .ro []] (.sl .ro []):=by
 refine Qm Tq (fun _ _ _=>.junk) zd ?_;simp[aly,alz]
def mz(p:Pl):X1:=fun _ f l=>if f=89 then(if p.ens=[]then .sl .ro []else .gd false .junk)else l.headD .junk
def Ec(p:Pl):Prop:=p.sh.length<=1000000/\p.aT.length<=1000000/\p.ens.length<=1000000/\p.bks.length<=1000000/\p.cls.length<=1000000/\∀e∈p.ens,e.al.length<=8796093022208
def aur(p:Pl)(m0:P1)(f:Nat->AV)(m:AM):Prop:=∃(i:Nat)(bx:X2),f 22=I i/\i<=p.ens.length/\m=⟨[I p.ch,I p.nu,I p.de,I p.of,.sl .ro (p.sh.map Qe),I p.ep,I p.rg,I p.ln,I p.fi,.sl .ro (p.aT.map Ql),.bs 2 0 p.ens.length 7,.sl .ro (p.bks.map Xm),.sl .ro (p.cls.map Qj)]::m0::(p.ens.map Qd).flatten::bx,[],fun _=>.gone,0⟩
def p9(p:Pl)(h:Ec p):Pure Tryz.prog aD 50 [.agg (Qc p)] (.agg (Qc p)):=by
 obtain⟨h1,h2,h3,h4,h5,h6⟩:=h;have k1:=Ov p.sh zE;have k2:=Ow p.aT zE;have k4:=Ox p.bks zE;have k5:=Oy p.cls zE;have hsz:=pY (f:=Qd) (sz:=7) (fun _=>rfl) p.ens;refine Qm S7 (mz p) zd ?_;by_cases hn:p.ens=[]
 ·have k3:=Z3;simp[abN,Qc,mz,hn];refine⟨k1,k2,k3,?_⟩;refine Qk sd (fun f m=>f 22=I 0/\m=⟨[I p.ch,I p.nu,I p.de,I p.of,.sl .ro (p.sh.map Qe),I p.ep,I p.rg,I p.ln,I p.fi,.sl .ro (p.aT.map Ql),.sl .ro [],.sl .ro (p.bks.map Xm),.sl .ro (p.cls.map Qj)]::[[I 0,I 0,I 0,I 0,.sl .nil [],I 0,I 0,I 0,I 0,.sl .nil [],.sl .nil [],.sl .nil [],.sl .nil []]],[],fun _=>.gone,0⟩) (fun f _=>0) ?_ ?_
  ·exact⟨zd,zd⟩
  rintro f m ⟨f22,rfl⟩;simp[f22,sd,abO,mz];exact⟨k4,k5⟩
 have aK:p.ens.map Qd≠[]:=by simpa using hn
 simp[abN,Qc,mz,hn];refine⟨k1,k2,G4 _ _ hsz (by simpa using by omega) aK _ _ ?_⟩;simp;obtain⟨F,hF⟩:∃F,(p.ens.map Qd).flatten=F:=⟨_,rfl⟩;have hFl:F.length=p.ens.length*7:=by rw[<- hF,pZ hsz];simp
 have bY:Zw F=true:=by rw[<- hF];exact p8 (fun _=>rfl) _
 have kL:aY 7 p.ens.length F=p.ens.map Qd:=by have:=Qbh hsz;rw[hF]at this;simpa using this
 have hmp:∀m,F.map (bG m 4)=F:=fun m=>Vn m 3 bY;rw[hF];refine Qk sd (aur p [I 0,I 0,I 0,I 0,.sl .nil [],I 0,I 0,I 0,I 0,.sl .nil [],.sl .nil [],.sl .nil [],.sl .nil []]) (fun f _=>p.ens.length-(numOf (f 22)).toNat) ?_ ?_
 ·exact⟨0,[],zd,zE,by rw[hF]⟩
 rintro f m ⟨i,bx,f22,hi,rfl⟩;rw[hF];rcases zzab i p.ens.length with ah|bu
 ·obtain⟨e,he⟩:=aX ah;have aa:(i:Int)<(p.ens.length:Int):=zE
  have hw:=bO i zE;obtain⟨⟨r,hd⟩,cI⟩:=Dw hsz (i:=i) (row:=Qd e) (by simp[he]);rw[hF]at hd cI;simp only[Qd,zzaf,zzah]at hd cI;have ZB:=mA e (h6 e (zzad he));simp only[Qd]at ZB;simp[-setA,nK,nL,f22,sd,aa,hd,cI,hFl,hw,mz];refine⟨ZB,zE,aP,⟨i+1,bx++[[I e.id,I e.it,I e.fr,I e.ea,I e.la,I e.bo,.sl .ro (e.al.map Qe)]],zd,zE,by rw[hF]⟩,zE⟩
 obtain rfl:i=p.ens.length:=zE
 simp[f22,sd,abO,mz,hFl,hmp,kL];exact⟨k4,k5⟩
def PgC(g:Pg):Prop:=Ec g.p/\g.ev.length<=1000000/\g.cu.length<=1000000/\g.dr.length<=1000000/\∀e∈g.ev,e.al.length<=8796093022208
def By(g:Pg):X1:=fun _ f l=>if f=96 then(if g.ev=[]then .sl .ro []else .gd false .junk)else l.headD .junk
def kU(g:Pg)(V:AV):P1:=[I g.p.ch,I g.p.nu,I g.p.de,I g.p.of,.sl .ro (g.p.sh.map Qe),I g.p.ep,I g.p.rg,I g.p.ln,I g.p.fi,.sl .ro (g.p.aT.map Ql),.sl .ro (g.p.ens.map Qd),.sl .ro (g.p.bks.map Xm),.sl .ro (g.p.cls.map Qj),V,.sl .ro (g.cu.map Qp),I g.ed,.sl .ro (g.dr.map Qy),I g.ve]
def aus(g:Pg)(m0:P1)(f:Nat->AV)(m:AM):Prop:=∃(i:Nat)(bx:X2),f 16=I i/\i<=g.ev.length/\m=⟨kU g (.bs 2 0 g.ev.length 7)::m0::(g.ev.map Qg).flatten::bx,[],fun _=>.gone,0⟩
def ZZ:P1:=[I 0,I 0,I 0,I 0,.sl .nil [],I 0,I 0,I 0,I 0,.sl .nil [],.sl .nil [],.sl .nil [],.sl .nil [],.sl .nil [],.sl .nil [],I 0,.sl .nil [],I 0]
def ZX(g:Pg)(h:PgC g):Pure Tryz.prog aD 52 [.agg (Qo g)] (.agg (Qo g)):=by
 obtain⟨h0,h1,h2,h3,h4⟩:=h;have k1:=p9 g.p h0;have k3:=afP g.cu zE;have k4:=afQ g.dr zE;have hsz:=pY (f:=Qg) (sz:=7) (fun _=>rfl) g.ev;simp only[Qc]at k1;refine Qm akE (By g) zd ?_;by_cases hn:g.ev=[]
 ·have k2:=Z4;simp[abP,Qo,Qc,By,hn];refine⟨k1,k2,?_⟩;refine Qk El (fun f m=>f 16=I 0/\m=⟨kU g (.sl .ro [])::[ZZ],[],fun _=>.gone,0⟩) (fun f _=>0) ?_ ?_
  ·exact⟨zd,by simp[kU,ZZ]⟩
  rintro f m ⟨f16,rfl⟩;simp[f16,El,akD,kU,ZZ,By];exact⟨k3,k4⟩
 have aK:g.ev.map Qg≠[]:=by simpa using hn
 simp[abP,Qo,Qc,By,hn];refine⟨k1,Z2 _ _ hsz (by simpa using by omega) aK _ _ ?_⟩;simp;obtain⟨F,hF⟩:∃F,(g.ev.map Qg).flatten=F:=⟨_,rfl⟩;have hFl:F.length=g.ev.length*7:=by rw[<- hF,pZ hsz];simp
 have bY:Zw F=true:=by rw[<- hF];exact p8 (fun _=>rfl) _
 have kL:aY 7 g.ev.length F=g.ev.map Qg:=by have:=Qbh hsz;rw[hF]at this;simpa using this
 have hmp:∀m,F.map (bG m 4)=F:=fun m=>Vn m 3 bY;rw[hF];refine Qk El (aus g ZZ) (fun f _=>g.ev.length-(numOf (f 16)).toNat) ?_ ?_
 ·exact⟨0,[],zd,zE,by rw[hF];try rfl⟩
 rintro f m ⟨i,bx,f16,hi,rfl⟩;rw[hF];rcases zzab i g.ev.length with ah|bu
 ·obtain⟨e,he⟩:=aX ah;have aa:(i:Int)<(g.ev.length:Int):=zE
  have hw:=bO i zE;obtain⟨⟨r,hd⟩,cI⟩:=Dw hsz (i:=i) (row:=Qg e) (by simp[he]);rw[hF]at hd cI
  have hs6:F.set (i*7+6) (.sl .ro (e.al.map Qe))=F:=by
   have h7:F[i*7+6]?=some (.sl .ro (e.al.map Qe)):=by
    have:=congrArg (fun l=>l[6]?) hd;simpa[Qg]using this
   apply zzct;intro j;by_cases hj:i*7+6=j
   ·subst hj;rw[h7,zzbg (zza.1 h7).1]
   rw[zzbm hj]
  simp only[Qg,zzaf,zzah]at hd;have aza:=OL e.al (h4 e (zzad he));simp[f16,El,kU,aa,hd,hs6,hFl,hw,By];refine⟨aza,zE,aP,⟨i+1,bx++[[I e.id,I e.it,I e.st,I e.fr,I e.i,I e.re,.sl .ro (e.al.map Qe)]],zd,zE,by rw[hF];try rfl⟩,zE⟩
 obtain rfl:i=g.ev.length:=zE
 simp[f16,El,akD,kU,ZZ,By,hFl,hmp,kL];exact⟨k3,k4⟩
def ez(n:Int):Bool:=decide (1<=n)&&decide (n<=1000000)
def Kq(n:Int):Pure Tryz.prog aD 28 [I n] (.bool (ez n)):=by
 refine Qm ake (fun _ _ _=>.junk) zd ?_;by_cases h:1<=n
 ·simp[akc,akd,h,ez]
 simp[akc,akd,h,ez]
def eB:ByteArray:=⟨#[]⟩
def jO(tx:ByteArray):tx.toList=[]<->tx=eB:=by
 obtain⟨⟨l⟩⟩:=tx;rw[ByteArray.toList_eq];simp[eB]
def Yk(o:Od):Bool:=decide (o.en=0/\o.n=0/\o.cl=⟨0,0,0,0,0,0,0,0⟩/\(o.cu.id=0/\o.cu.fr=0/\o.cu.to=0/\o.cu.pr=0/\o.cu.tx=eB)/\o.nw.id=0/\o.nw.it=0/\o.nw.fr=0/\o.nw.ea=0/\o.nw.la=0/\o.nw.bo=0/\o.nw.al=[])
def LM(o:Od):Pure Tryz.prog aD 29 [.agg (Qt o)] (.bool (Yk o)):=by
 refine Qm akf (fun _ _ _=>.junk) zd ?_;obtain⟨sq,ch,fr,ki,en,n,⟨a1,a2,a3,a4,a5,a6,al⟩,⟨c1,c2,c3,c4,c5,c6,c7,c8⟩,⟨d1,d2,d3,d4,tx⟩⟩:=o;simp[apl,apm,Qt,Qd,Qj,Qp];rw[zzbq];simp[Yk,jO,and_assoc]
def rS(r:Int):List Sp->Bool
 |[]=>true
 |a::l=>if r<a.1/\a.1<=7/\ez a.2=true then rS a.1 l else false
def yb(e:En):Bool:=ez e.id&&ez e.it&&decide (1<=e.fr/\e.fr<=100000000)&&decide (0<=e.ea/\e.ea<=e.la/\e.la<=100000000)&&(decide (e.bo=0)||ez e.bo)&&rS 0 e.al
def ajC(e:En)(f:Nat->AV)(m:AM):Prop:=∃(i:Nat)(r:Int)(bx:X2),f 53=I i/\i<=e.al.length/\f 3=I r/\rS 0 e.al=rS r (e.al.drop i)/\m=⟨Qd e::bx,[],fun _=>.gone,0⟩
def Vh:X1:=fun _ f l=>match l with|[.int _ n]=>.bool (ez n)|_=>.junk
def tX(e:En)(hl:e.al.length<=8796093022208):Pure Tryz.prog aD 30 [.agg (Qd e)] (.bool (yb e)):=by
 have q1:=Kq e.id;have q2:=Kq e.it;have q3:=Kq e.bo;refine Qm akg Vh zd ?_;cases h1:ez e.id with
 |false=>rw[h1]at q1;simp[tE,iL,Qd,Vh,h1,yb];exact q1
 |true=>
  rw[h1]at q1;cases h2:ez e.it with
  |false=>rw[h2]at q2;simp[tE,iL,Qd,Vh,h1,h2,yb];exact⟨q1,q2⟩
  |true=>
   rw[h2]at q2;by_cases h3:e.fr<1
   ·have:¬1<=e.fr:=zE
    simp[tE,iL,Qd,Vh,h1,h2,h3,yb,this];exact⟨q1,q2⟩
   by_cases h4:100000000<e.fr
   ·have:¬e.fr<=100000000:=zE
    simp[tE,iL,Qd,Vh,h1,h2,h3,h4,yb,this];exact⟨q1,q2⟩
   have e34:1<=e.fr/\e.fr<=100000000:=zE
   by_cases h5:e.ea<0
   ·have:¬0<=e.ea:=zE
    simp[tE,iL,Qd,Vh,h1,h2,h3,h4,h5,yb,this];exact⟨q1,q2⟩
   by_cases h6:e.la<e.ea
   ·have:¬e.ea<=e.la:=zE
    simp[tE,iL,Qd,Vh,h1,h2,h3,h4,h5,h6,yb,this];exact⟨q1,q2⟩
   by_cases h7:100000000<e.la
   ·have:¬e.la<=100000000:=zE
    simp[tE,iL,Qd,Vh,h1,h2,h3,h4,h5,h6,h7,yb,this];exact⟨q1,q2⟩
   have azb:0<=e.ea/\e.ea<=e.la/\e.la<=100000000:=zE
   by_cases h8:e.bo≠0/\ez e.bo=false
   ·obtain⟨h8,h9⟩:=h8;rw[h9]at q3;have h8':(e.bo !=0)=true:=by simpa using h8
    simp[tE,iL,Qd,Vh,h1,h2,h3,h4,h5,h6,h7,h8,h8',h9,yb];exact⟨q1,q2,q3⟩
   have hb:(decide (e.bo=0)||ez e.bo)=true:=by
    by_cases hb:e.bo=0
    ·simp[hb]
    cases h9:ez e.bo with
    |true=>simp
    |false=>exact absurd ⟨hb,h9⟩ h8
   have hv:yb e=rS 0 e.al:=by simp only[yb,h1,h2,e34,azb,hb,zzdt,and_self,decide_true]
   rw[hv]
   have hbo:(e.bo=0)\/(e.bo≠0/\ez e.bo=true):=by
    by_cases di:e.bo=0
    ·exact .inl di
    exact .inr ⟨di,by simpa[di]using hb⟩
   obtain di|⟨di,dI⟩:=hbo
   ·simp[tE,Qd,Vh,h1,h2,h3,h4,h5,h6,h7,di];refine⟨q1,q2,?_⟩;clear q1 q2 q3;refine Qk gO (ajC e) (fun f _=>e.al.length-(numOf (f 53)).toNat) ?_ ?_
    ·exact⟨0,0,[],zd,zE,zd,zd,by simp[Qd,di]⟩
    rintro f m ⟨i,r,bx,f53,hi,f3,hr,rfl⟩;rcases zzab i e.al.length with ah|bu
    ·obtain⟨a,ha⟩:=aX ah;have ai:=Ze ha;have aa:(i:Int)<(e.al.length:Int):=zE
     have hw:=bO i zE;have hd:e.al.drop i=a::e.al.drop (i+1):=by rw[zzae ah,(zza.1 ha).2]
     rw[hd,rS]at hr;have qa:=Kq a.2;by_cases d1:a.1<=r
     ·rw[if_neg zE]at hr;simp[f53,f3,gO,iL,Qd,aa,ai,d1,hr,Vh]
     by_cases d2:7<a.1
     ·rw[if_neg zE]at hr;simp[f53,f3,gO,iL,Qd,aa,ai,d1,d2,hr,Vh]
     cases d3:ez a.2 with
     |false=>
      rw[d3]at qa;rw[if_neg (by simp[d3])]at hr;simp[f53,f3,gO,iL,Qd,aa,ai,d1,d2,d3,hr,Vh];exact qa
     |true=>
      rw[d3]at qa;rw[if_pos ⟨zE,zE,d3⟩]at hr;simp[f53,f3,gO,Qd,aa,ai,d1,d2,d3,hw,Vh];refine⟨qa,aP,⟨i+1,a.1,bx++[[I a.1,I a.2]],zd,zE,zd,hr,by simp[Qd]⟩,zE⟩
    obtain rfl:i=e.al.length:=zE
    simp[f53,f3,gO,iL,hr,rS]
   rw[dI]at q3;have FZ:(e.bo !=0)=true:=by simpa using di
   simp[tE,Qd,Vh,h1,h2,h3,h4,h5,h6,h7,FZ,dI];refine⟨q1,q2,q3,?_⟩;clear q1 q2 q3;refine Qk gO (ajC e) (fun f _=>e.al.length-(numOf (f 53)).toNat) ?_ ?_
   ·exact⟨0,0,[],zd,zE,zd,zd,by simp[Qd]⟩
   rintro f m ⟨i,r,bx,f53,hi,f3,hr,rfl⟩;rcases zzab i e.al.length with ah|bu
   ·obtain⟨a,ha⟩:=aX ah;have ai:=Ze ha;have aa:(i:Int)<(e.al.length:Int):=zE
    have hw:=bO i zE;have hd:e.al.drop i=a::e.al.drop (i+1):=by rw[zzae ah,(zza.1 ha).2]
    rw[hd,rS]at hr;have qa:=Kq a.2;by_cases d1:a.1<=r
    ·rw[if_neg zE]at hr;simp[f53,f3,gO,iL,Qd,aa,ai,d1,hr,Vh]
    by_cases d2:7<a.1
    ·rw[if_neg zE]at hr;simp[f53,f3,gO,iL,Qd,aa,ai,d1,d2,hr,Vh]
    cases d3:ez a.2 with
    |false=>
     rw[d3]at qa;rw[if_neg (by simp[d3])]at hr;simp[f53,f3,gO,iL,Qd,aa,ai,d1,d2,d3,hr,Vh];exact qa
    |true=>
     rw[d3]at qa;rw[if_pos ⟨zE,zE,d3⟩]at hr;simp[f53,f3,gO,Qd,aa,ai,d1,d2,d3,hw,Vh];refine⟨qa,aP,⟨i+1,a.1,bx++[[I a.1,I a.2]],zd,zE,zd,hr,by simp[Qd]⟩,zE⟩
   obtain rfl:i=e.al.length:=zE
   simp[f53,f3,gO,iL,hr,rS]
def tY(s:ByteArray)(i:Nat):Nat:=(s.data.toList.getD i 0).toNat
def rT(s:ByteArray)(i:Nat)(h:i<s.size):(s.data[i]'h).toNat=tY s i:=by
 have h':i<s.data.size:=h;simp only[tY,zzaq,zzby,zzag h',Option.getD_some]
def Hy(s:ByteArray)(n i:Nat):Bool:=match n with
 |0=>true
 |n+1=>if tY s i<32\/126<tY s i then false else Hy s n (i+1)
def RU(s:ByteArray):Bool:=Hy s s.size 0
def aut(s:ByteArray)(f:Nat->AV)(m:AM):Prop:=∃i:Nat,f 3=I i/\i<=s.size/\RU s=Hy s (s.size-i) i/\m=⟨[],[],fun _=>.gone,0⟩
def yc(s:ByteArray)(h:s.size<=1000000):Pure Tryz.prog aD 125 [.str s] (.bool (RU s)):=by
 refine Qm ack (fun _ _ _=>.junk) zd ?_;simp[TA];refine Qk uY (aut s) (fun f _=>s.size-(numOf (f 3)).toNat) ?_ ?_
 ·exact⟨0,zd,zE,rfl,rfl⟩
 rintro f m ⟨i,f3,hi,hr,rfl⟩;rcases zzab i s.size with ah|bu
 ·have aa:(i:Int)<(s.size:Int):=zE
  have hw:=bO i zE;obtain⟨n,hn⟩:∃n,s.size-i=n+1:=⟨s.size-i-1,zE⟩;have hb:=rT s i ah;rw[hn,Hy]at hr;by_cases h1:tY s i<32
  ·rw[if_pos (.inl h1)]at hr;have lR:((tY s i:Nat):Int)<32:=zE
   simp[f3,uY,MU,ah,aa,hr,hb,lR]
  have lR:¬((tY s i:Nat):Int)<32:=zE
  by_cases h2:126<tY s i
  ·rw[if_pos (.inr h2)]at hr;have ze:(126:Int)<((tY s i:Nat):Int):=zE
   simp[f3,uY,MU,ah,aa,hr,hb,lR,ze]
  rw[if_neg zE]at hr;have ze:¬(126:Int)<((tY s i:Nat):Int):=zE
  simp[f3,uY,ah,aa,hw,hb,lR,ze];refine⟨aP,⟨i+1,zd,zE,by rw[hr];congr 1;omega,rfl⟩,zE⟩
 obtain rfl:i=s.size:=zE
 rw[zzex,Hy]at hr;simp[f3,uY,MU,hr]
def ij(s:ByteArray)(i:Nat):Option Nat->List ByteArray
 |none=>[]
 |some f=>[s.extract f i]
def Z5(s:ByteArray):Nat->Nat->Option Nat->List ByteArray
 |0,i,first=>ij s i first
 |n+1,i,first=>if tY s i≠32 then Z5 s n (i+1) (some (first.getD i))else ij s i first++Z5 s n (i+1) none
def Uh(s:ByteArray):List ByteArray:=Z5 s s.size 0 none
def DH(s:ByteArray)(i:Nat)(first:Option Nat):List ByteArray:=if i<=s.size then Z5 s (s.size-i) i first else[]
def Hz{s:ByteArray}{i:Nat}(first:Option Nat)(h:i<s.size)(hb:tY s i≠32):DH s i first=DH s (i+1) (some (first.getD i)):=by
 obtain⟨n,hn⟩:∃n,s.size-i=n+1:=⟨s.size-i-1,zE⟩;rw[DH,if_pos zE,DH,if_pos zE,hn,Z5,if_pos hb,show s.size-(i+1)=n by omega]
def DI{s:ByteArray}{i:Nat}(first:Option Nat)(h:i<=s.size)(hb:i<s.size->tY s i=32):DH s i first=ij s i first++DH s (i+1) none:=by
 by_cases hi:i=s.size
 ·subst hi;have:DH s (s.size+1) none=[]:=by rw[DH,if_neg zE]
  rw[this,DH,if_pos zE,zzex,Z5,zzau]
 obtain⟨n,hn⟩:∃n,s.size-i=n+1:=⟨s.size-i-1,zE⟩;have:DH s (i+1) none=Z5 s n (i+1) none:=by rw[DH,if_pos zE,show s.size-(i+1)=n by omega]
 rw[this,DH,if_pos h,hn,Z5,if_neg (by simp[hb zE])]
def OM:Option Nat->Int
 |none=> -1
 |some k=>k
def LN(s:ByteArray):Pure Tryz.prog aD 126 [.str s] (.fn 174 [] [.ep [.str s] 0]):=by
 refine Qm acm (fun _ _ _=>.junk) zd ?_;simp[ahb,ahc]
def auu(Y:YT)(lp:Nat)(K:AM->Prop)(s:ByteArray)(f:Nat->AV)(m:AM):Prop:=∃(i:Nat)(first:Option Nat),f 4=I i/\i<=s.size+1/\f 3=I (OM first)/\(∀k,first=some k->k<=i/\i<=s.size)/\wk (Y lp) K ((DH s i first).map fun w=>[.str w]) m
def LO(s:ByteArray)(h:s.size<=1000000):Iter Tryz.prog aD 174 [] [.ep [.str s] 0] ((Uh s).map fun w=>[.str w]):=by
 intro Y lp m K hF;refine Xn acX (fun _ _ _=>.junk) zd ?_;simp[TN,ahG];refine Qk iO (auu Y lp K s) (fun f _=>s.size+1-(numOf (f 4)).toNat) ?_ ?_
 ·exact⟨0,none,zd,zE,by simp[OM],⟨fun k(hk:none=some k)=>(by cases hk),by simpa[DH,Uh]using hF⟩⟩
 rintro f m ⟨i,first,f4,hi,f3,PL,hr⟩;rcases zzab s.size i with oN|cw
 ·have bT:¬(i:Int)<=(s.size:Int):=zE
  rw[DH,if_neg zE]at hr;simp[f4,iO,bT];exact hr m (fR.refl m)
 have afS:(i:Int)<=(s.size:Int):=zE
 have hw:=bO i zE;by_cases hb:i<s.size/\tY s i≠32
 ·obtain⟨ah,hb⟩:=hb;have aa:(i:Int)<(s.size:Int):=zE
  have NG:=rT s i ah;have hbI:¬((tY s i:Nat):Int)=32:=zE
  rw[Hz first ah hb]at hr;cases first with
  |none=>
   simp[f4,f3,OM,iO,afS,ah,aa,NG,hbI,hw];refine⟨aP,⟨i+1,some i,zd,zE,by simp[OM],⟨fun k(hk:some i=some k)=>(by cases hk;omega),hr⟩⟩,zE⟩
  |some k=>
   have AJ:¬(k:Int)<0:=zE
   obtain⟨cZ,dM⟩:=PL k rfl;simp[f4,f3,OM,iO,afS,ah,aa,NG,hbI,hw,AJ];refine⟨aP,⟨i+1,some k,zd,zE,by simp[OM],⟨fun k'(hk:some k=some k')=>(by cases hk;omega),hr⟩⟩,zE⟩
 have cU:i<s.size->tY s i=32:=fun h=>Classical.byContradiction fun h2=>hb ⟨h,h2⟩;rw[DI first cw cU]at hr;cases first with
 |none=>
  simp only[ij,zzah]at hr;rcases zzab i s.size with ah|bu
  ·have aa:(i:Int)<(s.size:Int):=zE
   have NG:=rT s i ah;have HA:=cU ah;simp[f4,f3,OM,iO,afS,ah,aa,NG,HA,hw];refine⟨aP,⟨i+1,none,zd,zE,by simp[OM],⟨fun k(hk:none=some k)=>(by cases hk),hr⟩⟩,zE⟩
  obtain rfl:i=s.size:=zE
  simp[f4,f3,OM,iO,hw];refine⟨aP,⟨s.size+1,none,zd,zE,by simp[OM],⟨fun k(hk:none=some k)=>(by cases hk),hr⟩⟩⟩
 |some k=>
  obtain⟨cZ,dM⟩:=PL k rfl;have AJ:(0:Int)<=(k:Int):=zE
  simp only[ij,zzaf,zzah,zzax]at hr;rcases zzab i s.size with ah|bu
  ·have aa:(i:Int)<(s.size:Int):=zE
   have NG:=rT s i ah;have HA:=cU ah;simp[f4,f3,OM,iO,afS,ah,aa,NG,HA,hw,AJ,cZ];refine hr m (fR.refl m) _ (fun m2 h2=>?_) (fun m2 h2=>?_)
   ·simp;refine⟨aP,⟨i+1,none,zd,zE,by simp[OM],⟨fun k(hk:none=some k)=>(by cases hk),h2⟩⟩,zE⟩
   simp;exact h2 m2 (fR.refl m2)
  obtain rfl:i=s.size:=zE
  simp[f4,f3,OM,iO,hw,AJ,cZ];refine hr m (fR.refl m) _ (fun m2 h2=>?_) (fun m2 h2=>?_)
  ·simp;refine⟨aP,⟨s.size+1,none,zd,zE,by simp[OM],⟨fun k(hk:none=some k)=>(by cases hk),h2⟩⟩⟩
  simp;exact h2 m2 (fR.refl m2)
def yU:ByteArray:=⟨#[32]⟩
def Qbu{α:Type}(l:List α):l=[]\/∃L b,l=L++[b]:=by
 rcases zzhg l with h|⟨L,b,h⟩
 ·exact .inl h
 exact .inr ⟨L,b,by rw[h,zzhh]⟩
def HB(cF:List ByteArray)(w:ByteArray):List ByteArray:=match cF.getLast? with
 |some r=>if r.size+1+w.size<=32 then cF.dropLast++[r++(yU++w)]else cF++[w]
 |none=>[w]
theorem qb(w:ByteArray):HB [] w=[w]:=rfl
def kV(pre:List ByteArray)(r w:ByteArray):HB (pre++[r]) w=if r.size+1+w.size<=32 then pre++[r++(yU++w)]else pre++[r]++[w]:=by simp[HB]
def lay:List ByteArray->List ByteArray->Option (List ByteArray)
 |cF,[]=>some cF
 |cF,w::r=>if 32<w.size then none else lay (HB cF w) r
def qc:∀(a b cF:List ByteArray),lay cF (a++b)=(lay cF a).bind fun x=>lay x b
 |[],_,_=>rfl
 |w::r,b,cF=>by
  simp only[zzaf,lay];split
  ·rfl
  exact qc r b _
def uM(s:ByteArray):∀(n i:Nat)(first:Option Nat),(Z5 s n i first).length<=n+1
 |0,i,first=>by rw[Z5];cases first<;>simp[ij]
 |n+1,i,first=>by
  rw[Z5];split
  ·have:=uM s n (i+1) (some (first.getD i));omega
  have:=uM s n (i+1) none;rw[zzal];have h2:(ij s i first).length<=1:=by cases first<;>simp[ij]
  omega
def Z6(a b:ByteArray):(a++b).size=a.size+b.size:=zd
def ON{cF:List ByteArray}{w:ByteArray}(h:∀r∈cF,r.size<=32)(hw:w.size<=32):∀r∈HB cF w,r.size<=32:=by
 rcases Qbu cF with rfl|⟨pre,r,rfl⟩
 ·intro x hx;simp[qb]at hx;subst hx;exact hw
 rw[kV];split
 ·intro x hx;rcases zzat.1 hx with hx|hx
  ·exact h x (by simp[hx])
  simp only[zzcv]at hx;subst hx;rw[Z6,Z6];have:yU.size=1:=rfl;omega
 intro x hx;rcases zzat.1 hx with hx|hx
 ·exact h x hx
 simp only[zzcv]at hx;subst hx;exact hw
def HC(cF:List ByteArray)(w:ByteArray):(HB cF w).length<=cF.length+1:=by
 rcases Qbu cF with rfl|⟨pre,r,rfl⟩
 ·simp[qb]
 rw[kV];split<;>simp
def Jd(s:ByteArray):Option (List ByteArray):=if 200<s.size\/RU s=false then none else match lay [] (Uh s)with
 |some l=>if l=[]\/4<l.length then none else some l
 |none=>none
def Vg(l:List ByteArray):P1:=l.map AV.str
def Ju(r:ByteArray):P1:=[.str r]
def Je:Option (List ByteArray)->AV
 |none=>.aS [.sl .nil [],.bool false]
 |some l=>.aS [.sl .ro (l.map Ju),.bool true]
def RV(cF:List ByteArray)(V:AV)(rest:X2):Prop:=(cF=[]/\V=.sl .nil [])\/(cF≠[]/\∃k,V=.bs (k+3) 0 cF.length 1/\k<rest.length/\Qf rest k=Vg cF)
def auv(q:List ByteArray)(i:Nat)(m:AM):Prop:=∃(cF:List ByteArray)(rest:X2)(V:AV),lay [] (q.take i)=some cF/\(∀r∈cF,r.size<=32)/\cF.length<=i/\m.boxes=[.sl .nil []]::[.bool false]::[V]::rest/\RV cF V rest
def azc(q:List ByteArray)(ex:Exit)(m:AM):Prop:=ex=.ret/\lay [] q=none/\∃rest,m.boxes=[.sl .nil []]::[.bool false]::rest
def Bz(s:ByteArray):X1:=fun d f _=>if f=999999 then(if d=49 then .aM 0 []else .junk)else if f=125 then .bool (RU s)else .fn 174 [] [.ep [.str s] 0]
def yd(l:List ByteArray):aY 1 l.length (Vg l)=l.map Ju:=by
 induction l with
 |nil=>rfl
 |cons a r ih=>
  show aY 1 (r.length+1) (AV.str a::Vg r)=_;rw[mY];simp[ih,Ju]
def qd(m:AM)(d:Nat)(l:List ByteArray):(Vg l).map (bG m (d+1))=Vg l:=by
 induction l with
 |nil=>rfl
 |cons a r ih=>simp[Vg]at ih |-
def RV.ext{cF:List ByteArray}{V:AV}{rest:X2}(h:RV cF V rest)(ex:X2):RV cF V (rest++ex):=by
 obtain h|⟨h1,k,h2,h3,h4⟩:=h
 ·exact .inl h
 exact .inr ⟨h1,k,h2,by simp;omega,by rw[Qi h3,h4]⟩
def RW(s:ByteArray):Pure Tryz.prog aD 71 [.str s] (Je (Jd s)):=by
 refine Qm akY (Bz s) zd ?_;by_cases h2:200<s.size
 ·have ze:(200:Int)<(s.size:Int):=zE
  have:Jd s=none:=by rw[Jd,if_pos (.inl h2)]
  rw[this];simp[abZ,I1,ze,Je]
 have ze:¬(200:Int)<(s.size:Int):=zE
 have kp:=yc s zE;have kw:=LN s;have kit:=LO s zE;cases hp:RU s with
 |false=>
  rw[hp]at kp;have:Jd s=none:=by rw[Jd,if_pos (.inr hp)]
  rw[this];simp[abZ,I1,ze,Je,Bz,hp];exact kp
 |true=>
  rw[hp]at kp
  have uu:Jd s=match lay [] (Uh s)with
   |some l=>if l=[]\/4<l.length then none else some l
   |none=>none:=by rw[Jd,if_neg (by simp[hp];omega)]
  rw[uu];have hql:(Uh s).length<=201:=by have:=uM s s.size 0 none;unfold Uh;omega
  generalize Uh s=q at kit hql;simp[abZ,ze,Bz,hp];refine⟨kp,kw,?_⟩;refine ji (xs:=q.map fun w=>[.str w]) zd kit (by intro x hx;simp at hx;obtain⟨a,_,rfl⟩:=hx;rfl) (auv q) (azc q) ?_ ?_ ?_ ?_ ?_ ?_
  ·exact⟨[],[],.sl .nil [],rfl,fun _ h=>(by cases h),zd,zd,.inl ⟨rfl,rfl⟩⟩
  ·rintro i m m' ⟨cF,rest,V,g1,g2,g3,g4,g5⟩ ⟨⟨b2,e2⟩,_,_⟩;exact⟨cF,rest++b2,V,g1,g2,g3,by rw[e2,g4];simp,g5.ext b2⟩
  ·rintro ex m m' ⟨g1,g2,rest,g3⟩ ⟨⟨b2,e2⟩,_,_⟩;exact⟨g1,g2,rest++b2,by rw[e2,g3];simp⟩
  ·rintro l1 i m x hg hr ⟨cF,rest,V,g1,g2,g3,g4,g5⟩ hx K' k1 k2 k3
   obtain⟨w,hy,rfl⟩:∃w,q[i]?=some w/\[AV.str w]=x:=by
    rw[zzbc]at hx;cases hq:q[i]? with
    |none=>rw[hq]at hx;cases hx
    |some y=>rw[hq]at hx;exact⟨y,rfl,Option.some.inj hx⟩
   have ah:i<q.length:=(zza.1 hy).1;have bD:q.take (i+1)=q.take i++[w]:=by rw[zzap,hy];try rfl
   have eR:lay [] (q.take (i+1))=if 32<w.size then none else some (HB cF w):=by
    rw[bD,qc,g1];simp[lay]
   rw[Ut]at g4;obtain⟨mb,ml,ms,mn⟩:=m;simp only at g4 hr;subst g4;by_cases hw:32<w.size
   ·have KF:(32:Int)<(w.size:Int):=zE
    simp[Zk,hr,KF];refine k2 _ ⟨rfl,?_,_,rfl⟩;have hq:q=q.take (i+1)++q.drop (i+1):=(zze _ _).symm;rw[hq,qc,eR,if_pos hw];try rfl
   have KF:¬(32:Int)<(w.size:Int):=zE
   rw[if_neg hw]at eR;have hsz:=ON g2 (by omega:w.size<=32);have eO:=HC cF w;obtain⟨h0,hV⟩|⟨h0,k,hV,cZ,dM⟩:=g5
   ·subst h0;subst hV;have iF:IntKind.i64.wrap (-1)= -1:=by rw[Qh]<;>omega
    simp[Zk,hr,KF,Bz,iF];refine k1 _ ⟨[w],rest++[[.str w]],.bs (rest.length+3) 0 1 1,by rw[eR,qb],fun r h=>by simp at h;subst h;omega,zd,zd,.inr ⟨zd,rest.length,rfl,zd,by simp[Vg]⟩⟩
   subst hV;obtain⟨pre,r,rfl⟩:=(Qbu cF).resolve_left h0;have cw:pre.length+1<=i:=by simpa using g3
   have iF:IntKind.i64.wrap (pre.length:Int)=(pre.length:Int):=by rw[Qh]<;>omega
   have fQ:(Vg (pre++[r])).length=pre.length+1:=by simp[Vg]
   have azd:=g2 r zd;have hsC:Vg (pre++[r])=Vg pre++[.str r]:=by simp[Vg]
   have iy:(Vg pre).length=pre.length:=by simp[Vg]
   have LF:(Vg (pre++[r])).take (pre.length+1)=Vg (pre++[r]):=zzai zE;have fD:(Vg (pre++[r])).drop pre.length=[.str r]:=by rw[hsC,<- iy,zzdy]
   have gm:IntKind.i64.wrap ((r.size:Int)+1)=(r.size:Int)+1:=by rw[Qh]<;>omega
   have eY:IntKind.i64.wrap ((r.size:Int)+1+(w.size:Int))=(r.size:Int)+1+(w.size:Int):=by rw[Qh]<;>omega
   rw[kV]at eR hsz eO;by_cases hc:r.size+1+w.size<=32
   ·rw[if_pos hc]at eR hsz eO;have kj:(r.size:Int)+1+(w.size:Int)<=32:=zE
    have bQ:(Vg (pre++[r])).set pre.length (.str (r++(yU++w)))=Vg (pre++[r++(yU++w)]):=by
     rw[hsC,<- iy,zzch _ _ (zzaa _)];simp[Vg]
    simp only[yU]at bQ;simp[Zk,hr,KF,Bz,iF,dM,fD,fQ,gm,eY,kj,bQ]
    have hrk:Qf (rest.set k (Vg (pre++[r++(yU++w)]))) k=Vg (pre++[r++(yU++w)]):=by
     simp[Qf,zzaq,-Vo,cZ]
    have hs1:yU.size=1:=rfl;refine⟨zE,(by show yU.size+w.size<=_;omega),(by show r.size+(yU.size+w.size)<=_;omega),zE,cZ,k1 _ ⟨pre++[r++(yU++w)],rest.set k (Vg (pre++[r++(yU++w)])),.bs (k+3) 0 (pre.length+1) 1,eR,hsz,by simp;omega,by simp[yU],.inr ⟨zd,k,zd,Nm cZ,hrk⟩⟩⟩
   rw[if_neg hc]at eR hsz eO;have kj:¬(r.size:Int)+1+(w.size:Int)<=32:=zE
   simp[Zk,hr,KF,Bz,iF,dM,fD,fQ,gm,eY,kj];have aK:¬Vg (pre++[r])=[]:=fun h=>by rw[h]at fQ;simp at fQ
   have hR:(rest.set k []).length=rest.length:=zd
   refine⟨zE,⟨⟨cZ,aK⟩,zE⟩,k1 _ ⟨pre++[r]++[w],rest.set k []++[Vg (pre++[r])++[.str w]],.bs (rest.length+3) 0 (pre.length+1+1) 1,eR,hsz,by simp;omega,by simp[LF],.inr ⟨zd,rest.length,zd,zd,?_⟩⟩⟩;rw[<- hR,FH];simp[Vg]
  ·rintro m ⟨cF,rest,V,g1,g2,g3,g4,g5⟩;rw[zzbv,zzbp]at g1;rw[g1];obtain⟨mb,ml,ms,mn⟩:=m;simp only at g4;subst g4;obtain⟨h0,hV⟩|⟨h0,k,hV,cZ,dM⟩:=g5
   ·subst h0;subst hV;simp[I1,Je]
   subst hV;have aH:¬cF.length=0:=fun h=>h0 (zzbl.1 h);have fQ:(Vg cF).length=cF.length:=by simp[Vg]
   by_cases h4:4<cF.length
   ·have IC:(4:Int)<(cF.length:Int):=zE
    simp[I1,Je,h0,h4,IC]
   have IC:¬(4:Int)<(cF.length:Int):=zE
   have hmp:=fun m=>qd m 4 cF;have anx:=fun m=>qd m 3 cF;have kL:=yd cF;simp[I1,Je,h0,h4,IC,dM,anx,kL,fQ]
  rintro ex m ⟨rfl,g2,rest,g3⟩;rw[g2];simp[I1,g3,Je]
def uN(c:Cue):Bool:=if c.id<1\/4611686018427387903<c.id then false else if c.to=0 then decide (c.fr=0/\c.pr=0/\c.tx=eB)else
 if c.fr<0\/c.to<=c.fr\/100000000<c.to then false else if c.pr<0\/3<c.pr then false else(Jd c.tx).isSome
def HD(c:Cue):Pure Tryz.prog aD 32 [.agg (Qp c)] (.bool (uN c)):=by
 have k:=RW c.tx;refine Qm akj (fun _ _ _=>Je (Jd c.tx)) zd ?_;by_cases h1:c.id<1
 ·simp[uR,uT,Qp,h1,uN]
 by_cases h2:4611686018427387903<c.id
 ·simp[uR,uT,Qp,h1,h2,uN]
 by_cases h3:c.to=0
 ·simp[uR,uT,Qp,h1,h2,h3,uN];rw[zzbq];simp[jO]
 by_cases h4:c.fr<0
 ·simp[uR,uT,Qp,h1,h2,h3,h4,uN]
 by_cases h5:c.to<=c.fr
 ·simp[uR,uT,Qp,h1,h2,h3,h4,h5,uN]
 by_cases h6:100000000<c.to
 ·simp[uR,uT,Qp,h1,h2,h3,h4,h5,h6,uN]
 by_cases h7:c.pr<0
 ·simp[uR,uT,Qp,h1,h2,h3,h4,h5,h6,h7,uN]
 by_cases h8:3<c.pr
 ·simp[uR,uT,Qp,h1,h2,h3,h4,h5,h6,h7,h8,uN]
 cases hr:Jd c.tx with
 |none=>
  rw[hr]at k;simp[uR,uT,Qp,h1,h2,h3,h4,h5,h6,h7,h8,uN,hr,Je];exact k
 |some l=>
  rw[hr]at k;simp[uR,uT,Qp,h1,h2,h3,h4,h5,h6,h7,h8,uN,hr,Je];exact k
def dJ:En:=⟨0,0,0,0,0,0,[]⟩
def eF:Cl:=⟨0,0,0,0,0,0,0,0⟩
def eG:Cue:=⟨0,0,0,0,eB⟩
def Ym(o:Od):Od:=if o.ki=1 then{o with n:=0,en:=0}else if o.ki=2 then{o with en:=0}else if o.ki=3 then{o with nw:=dJ}else if o.ki=4 then{o with cl:=eF}else{o with cu:=eG}
def okB(o:Od):Bool:=if o.ki=1 then ez o.en else if o.ki=2 then ez o.en else if o.ki=3 then yb o.nw else if o.ki=4 then Xe o.cl else uN o.cu
def Xp(o:Od):Bool:=if o.sq<0\/200<o.sq\/o.ch< -1\/40<=o.ch then false else if o.fr<0\/100000000<o.fr then false else
 if o.ki<1\/5<o.ki then false else if o.ki=1/\(o.n< -100000000\/100000000<o.n)then false else okB o&&Yk (Ym o)
def jP(a b:Bool):X1:=fun _ f _=>if f=29 then .bool b else .bool a
def Wj(o:Od)(hl:o.nw.al.length<=8796093022208):Pure Tryz.prog aD 9 [.agg (Qt o)] (.bool (Xp o)):=by
 have kb:=LM (Ym o);have kk:o.ki=3\/Pure Tryz.prog aD 29 [.agg (Qt (Ym o))] (.bool (Yk (Ym o))):=.inr kb;refine Qm apc (jP (okB o) (Yk (Ym o))) zd ?_;by_cases a1:o.sq<0
 ·simp[zX,zY,Qt,Qd,Qj,Qp,a1,Xp]
 by_cases a2:200<o.sq
 ·simp[zX,zY,Qt,Qd,Qj,Qp,a1,a2,Xp]
 by_cases a3:o.ch< -1
 ·simp[zX,zY,Qt,Qd,Qj,Qp,a1,a2,a3,Xp]
 by_cases a4:40<=o.ch
 ·simp[zX,zY,Qt,Qd,Qj,Qp,a1,a2,a3,a4,Xp]
 by_cases a5:o.fr<0
 ·simp[zX,zY,Qt,Qd,Qj,Qp,a1,a2,a3,a4,a5,Xp]
 by_cases a6:100000000<o.fr
 ·simp[zX,zY,Qt,Qd,Qj,Qp,a1,a2,a3,a4,a5,a6,Xp]
 have hA:¬(o.sq<0\/200<o.sq\/o.ch< -1\/40<=o.ch):=zE
 have hB:¬(o.fr<0\/100000000<o.fr):=zE
 have hv:Xp o=if o.ki<1\/5<o.ki then false else if o.ki=1/\(o.n< -100000000\/100000000<o.n)then false else okB o&&Yk (Ym o):=by rw[Xp,if_neg hA,if_neg hB]
 rw[hv];by_cases k1:o.ki=1
 ·have c1:¬(o.ki<1\/5<o.ki):=zE
  rw[if_neg c1];by_cases b1:o.n< -100000000
  ·rw[if_pos ⟨k1,.inl b1⟩];simp[zX,zY,Qt,Qd,Qj,Qp,a1,a2,a3,a4,a5,a6,k1,b1]
  by_cases b2:100000000<o.n
  ·rw[if_pos ⟨k1,.inr b2⟩];simp[zX,zY,Qt,Qd,Qj,Qp,a1,a2,a3,a4,a5,a6,k1,b1,b2]
  rw[if_neg zE];have q:=Kq o.en;have hk:okB o=ez o.en:=by rw[okB,if_pos k1]
  have hr:Ym o={o with n:=0,en:=0}:=by rw[Ym,if_pos k1]
  rw[hr]at kb |-
  rw[hk];simp only[Qt,Qd,Qj,Qp,k1]at kb;cases hi:ez o.en with
  |false=>
   rw[hi]at q;simp[zX,zY,Qt,Qd,Qj,Qp,a1,a2,a3,a4,a5,a6,k1,b1,b2,jP];exact q
  |true=>
   rw[hi]at q;simp[zX,zY,Qt,Qd,Qj,Qp,a1,a2,a3,a4,a5,a6,k1,b1,b2,jP];exact⟨q,kb⟩
 by_cases k2:o.ki=2
 ·have c1:¬(o.ki<1\/5<o.ki):=zE
  rw[if_neg c1,if_neg zE];have q:=Kq o.en;have hk:okB o=ez o.en:=by rw[okB,if_neg k1,if_pos k2]
  have hr:Ym o={o with en:=0}:=by rw[Ym,if_neg k1,if_pos k2]
  rw[hr]at kb |-
  rw[hk];simp only[Qt,Qd,Qj,Qp,k2,zzaf,zzah]at kb;try simp only[Qd,Qj,Qp]at q
  cases hi:ez o.en with
  |false=>
   rw[hi]at q;simp[zX,zY,Qt,Qd,Qj,Qp,a1,a2,a3,a4,a5,a6,k2,jP];exact q
  |true=>
   rw[hi]at q;simp[zX,zY,Qt,Qd,Qj,Qp,a1,a2,a3,a4,a5,a6,k2,jP];exact⟨q,kb⟩
 by_cases k3:o.ki=3
 ·have c1:¬(o.ki<1\/5<o.ki):=zE
  rw[if_neg c1,if_neg zE];have q:=tX o.nw hl;have hk:okB o=yb o.nw:=by rw[okB,if_neg k1,if_neg k2,if_pos k3]
  have hr:Ym o={o with nw:=dJ}:=by rw[Ym,if_neg k1,if_neg k2,if_pos k3]
  rw[hr]at kb |-
  rw[hk];simp only[Qt,Qd,Qj,Qp,k3,dJ,zzce,zzaf,zzah]at kb;have kb:=Xl (l:=[.agg [I o.sq,I o.ch,I o.fr,I 3,I o.en,I o.n,I 0,I 0,I 0,I 0,I 0,I 0,.sl .nil [],I o.cl.ki,I o.cl.it,I o.cl.fr,I o.cl.to,I o.cl.re,I o.cl.n,I o.cl.a,I o.cl.b,I o.cu.id,I o.cu.fr,I o.cu.to,I o.cu.pr,.str o.cu.tx]]) kb ⟨Wq ⟨Ps,Ps,Ps,Ps,Ps,Ps,Ps,Ps,Ps,Ps,Ps,Ps,Wk.sl _ _,Ps,Ps,Ps,Ps,Ps,Ps,Ps,Ps,Ps,Ps,Ps,Ps,Ps,trivial⟩,trivial⟩;try simp only[Qd]at q
  cases hi:yb o.nw with
  |false=>
   rw[hi]at q;simp[zX,zY,Qt,Qd,Qj,Qp,a1,a2,a3,a4,a5,a6,k3,jP];exact q
  |true=>
   rw[hi]at q;simp[zX,zY,Qt,Qd,Qj,Qp,a1,a2,a3,a4,a5,a6,k3,jP,dJ];exact⟨q,kb⟩
 by_cases k4:o.ki=4
 ·have c1:¬(o.ki<1\/5<o.ki):=zE
  rw[if_neg c1,if_neg zE];have q:=Kj o.cl;have hk:okB o=Xe o.cl:=by rw[okB,if_neg k1,if_neg k2,if_neg k3,if_pos k4]
  have hr:Ym o={o with cl:=eF}:=by rw[Ym,if_neg k1,if_neg k2,if_neg k3,if_pos k4]
  rw[hr]at kb |-
  rw[hk];simp only[Qt,Qd,Qj,Qp,k4,eF,zzaf,zzah]at kb;try simp only[Qj]at q
  cases hi:Xe o.cl with
  |false=>
   rw[hi]at q;simp[zX,zY,Qt,Qd,Qj,Qp,a1,a2,a3,a4,a5,a6,k4,jP];exact q
  |true=>
   rw[hi]at q;simp[zX,zY,Qt,Qd,Qj,Qp,a1,a2,a3,a4,a5,a6,k4,jP,eF];exact⟨q,kb⟩
 by_cases k5:o.ki=5
 ·have c1:¬(o.ki<1\/5<o.ki):=zE
  rw[if_neg c1,if_neg zE];have q:=HD o.cu;have hk:okB o=uN o.cu:=by rw[okB,if_neg k1,if_neg k2,if_neg k3,if_neg k4]
  have hr:Ym o={o with cu:=eG}:=by rw[Ym,if_neg k1,if_neg k2,if_neg k3,if_neg k4]
  rw[hr]at kb |-
  rw[hk];simp only[Qt,Qd,Qj,Qp,k5,eG,zzaf,zzah]at kb;simp only[Qp]at q;cases hi:uN o.cu with
  |false=>
   rw[hi]at q;simp[zX,zY,Qt,Qd,Qj,Qp,a1,a2,a3,a4,a5,a6,k5,jP];exact q
  |true=>
   rw[hi]at q;simp[zX,zY,Qt,Qd,Qj,Qp,a1,a2,a3,a4,a5,a6,k5,jP,eG];exact⟨q,kb⟩
 rw[if_pos zE];simp[zX,zY,Qt,Qd,Qj,Qp,a1,a2,a3,a4,a5,a6,k1,k2,k3,k4,k5]
def Ef(s:ByteArray)(i:Nat):Option Nat->ByteArray
 |none=>⟨#[]⟩
 |some k=>s.extract k i
def Z7(s:ByteArray)(k i:Nat)(h:k<=i):s.extract k i++s.extract i (i+1)=s.extract k (i+1):=by
 rw[ByteArray.extract_append_extract];congr 1<;>omega
def Z8(s:ByteArray)(k i:Nat)(h:k<i)(hi:i<=s.size):s.extract k i≠⟨#[]⟩:=by
 intro e;have h2:(s.extract k i).size=0:=by rw[e];try rfl
 rw[zzen]at h2;omega
def aze(ls:P2)(rt:Rt)(o:List ByteArray):Prop:=(o=[]/\rt=.nil/\ls=[])\/(o≠[]/\rt=.own 0 1/\ls=[o.length])
def auw(s:ByteArray)(f:Nat->AV)(m:AM):Prop:=∃(i:Nat)(first:Option Nat)(o:List ByteArray)(rt:Rt)(ls:P2),f 5=I i/\i<=s.size/\f 4=.str (Ef s i first)/\(∀k,first=some k->k<i)/\f 3=.sl rt (o.map Ju)/\aze ls rt o/\o.length<=i/\o++DH s i first=Uh s/\m=⟨[],ls,fun _=>.gone,0⟩
def Z9(s:ByteArray)(h:s.size<=1000000):Pure Tryz.prog aD 131 [.str s] (.sl .ro ((Uh s).map Ju)):=by
 have key:∃rt,Pure Tryz.prog aD 131 [.str s] (.sl rt ((Uh s).map Ju)):=by
  refine⟨if Uh s=[]then .nil else .ro,Qm acq (fun _ _ _=>.junk) zd ?_⟩;simp[TE];refine Qk gq (auw s) (fun f _=>s.size-(numOf (f 5)).toNat) ?_ ?_
  ·exact⟨0,none,[],.nil,[],zd,zE,by simp[Ef],(fun k hk=>by cases hk),zd,.inl ⟨rfl,rfl,rfl⟩,zd,by simp[DH,Uh],rfl⟩
  rintro f m ⟨i,first,o,rt,ls,f5,hi,f4,PL,f3,hO,XC,hr,rfl⟩;rcases zzab i s.size with ah|bu
  ·have aa:(i:Int)<(s.size:Int):=zE
   have hw:=bO i zE;have NG:=rT s i ah;by_cases hb:tY s i≠32
   ·have hbI:¬((tY s i:Nat):Int)=32:=zE
    rw[Hz first ah hb]at hr
    have cI:Ef s i first++s.extract i (i+1)=Ef s (i+1) (some (first.getD i)):=by
     cases first with
     |none=>
      simp only[Ef,Option.getD_none];exact ByteArray.empty_append
     |some k=>simp only[Ef,Option.getD_some];exact Z7 s k i (by have:=PL k rfl;omega)
    have hsz:(Ef s i first).size<=s.size:=by
     cases first with
     |none=>exact zzbe _
     |some k=>simp only[Ef,zzen];omega
    simp[f5,f4,gq,ah,aa,NG,hbI,hw,cI];refine⟨zE,zE,aP,⟨i+1,some (first.getD i),o,rt,ls,zd,zE,zd,?_,by simp[f3],hO,zE,hr,rfl⟩,zE⟩
    ·intro k hk;cases hk;cases first with
     |none=>simp
     |some k=>have:=PL k rfl;simp;omega
   have HA:tY s i=32:=zE
   rw[DI first hi (fun _=>HA)]at hr;cases first with
   |none=>
    simp only[ij,zzah]at hr;simp[f5,f4,gq,ah,aa,NG,HA,hw,Ef];refine⟨aP,⟨i+1,none,o,rt,ls,zd,zE,by simp[Ef],(fun k hk=>by cases hk),by simp[f3],hO,zE,hr,rfl⟩,zE⟩
   |some k=>
    have hk:=PL k rfl;have aK:=Z8 s k i hk hi;simp only[ij]at hr;have dW:¬(s.extract k i).toList=[]:=fun e=>aK ((jO _).1 e);rw[<- zzbd]at hr;obtain⟨rfl,rfl,rfl⟩|⟨h0,rfl,rfl⟩:=hO
    ·simp[f5,f4,f3,gq,ah,aa,NG,HA,hw,Ef,dW];refine⟨aP,⟨i+1,none,[]++[s.extract k i],.own 0 1,[1],zd,zE,by simp[Ef],(fun k hk=>by cases hk),by simp[Ju],.inr ⟨zd,rfl,zd⟩,zd,hr,rfl⟩,zE⟩
    simp[f5,f4,f3,gq,ah,aa,NG,HA,hw,Ef,dW];refine⟨⟨?_,zE⟩,aP,⟨i+1,none,o++[s.extract k i],.own 0 1,[o.length+1],zd,zE,by simp[Ef],(fun k hk=>by cases hk),by simp[Ju],.inr ⟨zd,rfl,zd⟩,by simp;omega,hr,rfl⟩,zE⟩
    ·rintro row (⟨a,_,rfl⟩|rfl)<;>rfl
  obtain rfl:i=s.size:=zE
  rw[DI first hi (fun h=>absurd h (Nat.lt_irrefl _)),show DH s (s.size+1) none=[] by rw[DH,if_neg zE],zzau]at hr;cases first with
  |none=>
   simp only[ij,zzau]at hr;subst hr;obtain⟨h0,rfl,rfl⟩|⟨h0,rfl,rfl⟩:=hO
   ·simp[f5,f4,f3,gq,Ef,EA,h0]
   simp[f5,f4,f3,gq,Ef,EA,h0]
  |some k=>
   have hk:=PL k rfl;have aK:=Z8 s k s.size hk hi;have dW:¬(s.extract k s.size).toList=[]:=fun e=>aK ((jO _).1 e);simp only[ij]at hr;rw[<- hr];obtain⟨rfl,rfl,rfl⟩|⟨h0,rfl,rfl⟩:=hO
   ·simp[f5,f4,f3,gq,Ef,dW,EA,Ju]
   simp[f5,f4,f3,gq,Ef,dW,EA,Ju];exact⟨by rintro row (⟨a,_,rfl⟩|rfl)<;>rfl,zE⟩
 obtain⟨rt,h⟩:=key;exact Zc h (Wk.sl _ _)
def RV2(cF:List ByteArray)(V:AV)(rest:X2):Prop:=(cF=[]/\V=.sl .nil []/\rest=[])\/(cF≠[]/\∃k,V=.bs k 0 cF.length 1/\k<rest.length/\Qf rest k=Vg cF)
def auy(s:ByteArray)(f:Nat->AV)(m:AM):Prop:=∃i:Nat,f 4=I i/\i<=s.size/\RU s=Hy s (s.size-i) i/\m=⟨[],[],fun _=>.gone,0⟩
def auz(q:List ByteArray)(f:Nat->AV)(m:AM):Prop:=∃(i:Nat)(cF:List ByteArray)(V:AV)(rest:X2),f 7=I i/\i<=q.length/\f 5=.sl .ro (q.map Ju)/\f 6=V/\lay [] (q.take i)=some cF/\(∀r∈cF,r.size<=32)/\cF.length<=i/\RV2 cF V rest/\m=⟨rest,[],fun _=>.gone,0⟩
def HE(s:ByteArray):X1:=fun d f _=>if f=999999 then(if d=81 then .aM 0 []else .junk)else .sl .ro ((Uh s).map Ju)
def aaa{q:List ByteArray}{i:Nat}(h:lay [] (q.take i)=none):lay [] q=none:=by
 have hq:q=q.take i++q.drop i:=(zze _ _).symm;rw[hq,qc,h];try rfl
def afT(s:ByteArray):Pure Tryz.prog aD 82 [.str s] (Je (Jd s)):=by
 refine Qm alc (HE s) zd ?_;by_cases h2:200<s.size
 ·have ze:(200:Int)<(s.size:Int):=zE
  have:Jd s=none:=by rw[Jd,if_pos (.inl h2)]
  rw[this];simp[Tk,Er,ze,Je]
 have ze:¬(200:Int)<(s.size:Int):=zE
 have kw:=Z9 s zE;simp[Tk,ze];refine Qk Es (auy s) (fun f _=>s.size-(numOf (f 4)).toNat) ?_ ?_
 ·exact⟨0,zd,zE,rfl,rfl⟩
 rintro f m ⟨i,f4,hi,hr,rfl⟩;rcases zzab i s.size with ah|bu
 ·have aa:(i:Int)<(s.size:Int):=zE
  have hw:=bO i zE;obtain⟨n,hn⟩:∃n,s.size-i=n+1:=⟨s.size-i-1,zE⟩;have hb:=rT s i ah;rw[hn,Hy]at hr;by_cases h1:tY s i<32
  ·rw[if_pos (.inl h1)]at hr;have:Jd s=none:=by rw[Jd,if_pos (.inr hr)]
   have lR:((tY s i:Nat):Int)<32:=zE
   rw[this];simp[f4,Es,Er,ah,aa,hb,lR,Je]
  have lR:¬((tY s i:Nat):Int)<32:=zE
  by_cases h3:126<tY s i
  ·rw[if_pos (.inr h3)]at hr;have:Jd s=none:=by rw[Jd,if_pos (.inr hr)]
   have h3':(126:Int)<((tY s i:Nat):Int):=zE
   rw[this];simp[f4,Es,Er,ah,aa,hb,lR,h3',Je]
  rw[if_neg zE]at hr;have h3':¬(126:Int)<((tY s i:Nat):Int):=zE
  simp[f4,Es,ah,aa,hw,hb,lR,h3'];refine⟨aP,⟨i+1,zd,zE,by rw[hr];congr 1;omega,rfl⟩,zE⟩
 obtain rfl:i=s.size:=zE
 rw[zzex,Hy]at hr
 have uu:Jd s=match lay [] (Uh s)with
  |some l=>if l=[]\/4<l.length then none else some l
  |none=>none:=by
   rw[Jd,if_neg (by simp[hr];omega)];try rfl
 rw[uu];have hql:(Uh s).length<=201:=by have:=uM s s.size 0 none;unfold Uh;omega
 simp[f4,Es,HE];refine⟨kw,?_⟩;clear kw uu;generalize Uh s=q at hql;clear hr;refine Qk sg (auz q) (fun f _=>q.length-(numOf (f 7)).toNat) ?_ ?_
 ·exact⟨0,[],.sl .nil [],[],zd,zE,zd,zd,rfl,(fun _ h=>by cases h),zd,.inl ⟨rfl,rfl,rfl⟩,rfl⟩
 rintro f m ⟨i,cF,V,rest,f7,hi,f5,f6,g1,g2,g3,g5,rfl⟩;rcases zzab i q.length with ah|bu
 ·obtain⟨w,hy⟩:=aX ah;have ai:Qf (q.map Ju) i=[.str w]:=Qv (by simp[hy,Ju]);have aa:(i:Int)<(q.length:Int):=zE
  have rj:=bO i zE;have bD:q.take (i+1)=q.take i++[w]:=by rw[zzap,hy];try rfl
  have eR:lay [] (q.take (i+1))=if 32<w.size then none else some (HB cF w):=by
   rw[bD,qc,g1];simp[lay]
  by_cases hw:32<w.size
  ·have KF:(32:Int)<(w.size:Int):=zE
   rw[if_pos hw]at eR;rw[aaa eR];simp[f7,f6,sg,Er,aa,ai,KF,Je]
  have KF:¬(32:Int)<(w.size:Int):=zE
  rw[if_neg hw]at eR;have hsz:=ON g2 (by omega:w.size<=32);have eO:=HC cF w;obtain⟨h0,hV,hre⟩|⟨h0,k,hV,cZ,dM⟩:=g5
  ·subst h0;subst hV;subst hre;have iF:IntKind.i64.wrap (-1)= -1:=by rw[Qh]<;>omega
   simp[f7,f6,sg,aa,ai,KF,HE,iF,rj];refine⟨aP,⟨i+1,[w],.bs 0 0 1 1,[[.str w]],zd,zE,zd,zd,by rw[eR,qb],(fun r h=>by simp at h;subst h;omega),zd,.inr ⟨zd,0,rfl,zd,by simp[Vg]⟩,rfl⟩,zE⟩
  subst hV;obtain⟨pre,r,rfl⟩:=(Qbu cF).resolve_left h0;have cw:pre.length+1<=i:=by simpa using g3
  have iF:IntKind.i64.wrap (pre.length:Int)=(pre.length:Int):=by rw[Qh]<;>omega
  have fQ:(Vg (pre++[r])).length=pre.length+1:=by simp[Vg]
  have azd:=g2 r zd;have hsC:Vg (pre++[r])=Vg pre++[.str r]:=by simp[Vg]
  have iy:(Vg pre).length=pre.length:=by simp[Vg]
  have LF:(Vg (pre++[r])).take (pre.length+1)=Vg (pre++[r]):=zzai zE;have fD:(Vg (pre++[r])).drop pre.length=[.str r]:=by rw[hsC,<- iy,zzdy]
  have gm:IntKind.i64.wrap ((r.size:Int)+1)=(r.size:Int)+1:=by rw[Qh]<;>omega
  have eY:IntKind.i64.wrap ((r.size:Int)+1+(w.size:Int))=(r.size:Int)+1+(w.size:Int):=by rw[Qh]<;>omega
  rw[kV]at eR hsz eO;by_cases hc:r.size+1+w.size<=32
  ·rw[if_pos hc]at eR hsz eO;have kj:(r.size:Int)+1+(w.size:Int)<=32:=zE
   simp[f7,f6,sg,aa,ai,KF,HE,iF,dM,fD,fQ,gm,eY,kj,rj];have has:r++⟨#[32]⟩++w=r++(yU++w):=zzh
   have bQ:(Vg (pre++[r])).set pre.length (.str (r++(yU++w)))=Vg (pre++[r++(yU++w)]):=by
    rw[hsC,<- iy,zzch _ _ (zzaa _)];simp[Vg]
   have hrk:Qf (rest.set k (Vg (pre++[r++(yU++w)]))) k=Vg (pre++[r++(yU++w)]):=by
    simp[Qf,zzaq,-Vo,cZ]
   have hs1:(⟨#[32]⟩:ByteArray).size=1:=rfl;have az8:(⟨⟨[32]⟩⟩:ByteArray).size=1:=rfl;have azf:r++⟨⟨[32]⟩⟩++w=r++(yU++w):=zzh;refine⟨zE,zE,zE,zE,cZ,ag ?_,⟨i+1,pre++[r++(yU++w)],.bs k 0 (pre.length+1) 1,rest.set k (Vg (pre++[r++(yU++w)])),zd,zE,zd,zd,eR,hsz,by simp;omega,.inr ⟨zd,k,zd,Nm cZ,hrk⟩,by first|rw[has,bQ]|rw[azf,bQ]⟩,zE⟩;repeat(first|exact Qa _ _|refine Qb _ rfl ?_)
  rw[if_neg hc]at eR hsz eO;have kj:¬(r.size:Int)+1+(w.size:Int)<=32:=zE
  simp[f7,f6,sg,aa,ai,KF,HE,iF,dM,fD,fQ,gm,eY,kj,rj];have aK:¬Vg (pre++[r])=[]:=fun h=>by rw[h]at fQ;simp at fQ
  have hR:(rest.set k []).length=rest.length:=zd
  refine⟨zE,⟨⟨cZ,aK⟩,zE⟩,aP,⟨i+1,pre++[r]++[w],.bs rest.length 0 (pre.length+1+1) 1,rest.set k []++[Vg (pre++[r])++[.str w]],zd,zE,zd,zd,eR,hsz,by simp;omega,.inr ⟨zd,rest.length,zd,zd,?_⟩,by rw[LF]⟩,zE⟩
  ·rw[<- hR,FH];simp[Vg]
 have hte:q.take i=q:=zzai bu;rw[hte]at g1;rw[g1];have bT:¬(i:Int)<(q.length:Int):=zE
 obtain⟨h0,hV,hre⟩|⟨h0,k,hV,cZ,dM⟩:=g5
 ·subst h0;subst hV;simp[f7,f6,sg,bT,Er,Je]
 subst hV;have aH:¬cF.length=0:=fun h=>h0 (zzbl.1 h);have sD:¬cF.length<1:=zE
 have aab:¬(cF.length:Int)<1:=zE
 have fQ:(Vg cF).length=cF.length:=by simp[Vg]
 by_cases h4:4<cF.length
 ·have IC:(4:Int)<(cF.length:Int):=zE
  simp[f7,f6,sg,bT,Er,Je,h0,h4,IC,aab]
 have IC:¬(4:Int)<(cF.length:Int):=zE
 have hmp:=fun m=>qd m 4 cF;have anx:=fun m=>qd m 3 cF;have kL:=yd cF;simp[f7,f6,sg,bT,Er,Je,h0,h4,IC,dM,anx,kL,fQ,aab]
def aac(c:Cue):Pure Tryz.prog aD 48 [.agg (Qp c)] (.bool (uN c)):=by
 have k:=afT c.tx;refine Qm akA (fun _ _ _=>Je (Jd c.tx)) zd ?_;by_cases h1:c.id<1
 ·simp[Pv,Pw,Qp,h1,uN]
 by_cases h2:4611686018427387903<c.id
 ·simp[Pv,Pw,Qp,h1,h2,uN]
 by_cases h3:c.to=0
 ·simp[Pv,Pw,Qp,h1,h2,h3,uN];rw[zzbq];simp[jO,and_assoc]
 cases hr:Jd c.tx with
 |none=>
  rw[hr]at k;simp[Pv,Pw,Qp,h1,h2,h3,uN,hr,Je];exact k
 |some l=>
  rw[hr]at k;simp[Pv,Pw,Qp,h1,h2,h3,uN,hr,Je];refine⟨k,?_⟩;rw[zzbq];simp;omega
def RX(n:Int):Pure Tryz.prog aD 45 [I n] (.bool (ez n)):=by
 refine Qm akx (fun _ _ _=>.junk) zd ?_;by_cases h:1<=n
 ·simp[akv,akw,h,ez]
 simp[akv,akw,h,ez]
def zL{α:Type}{a b:List α}{i:Nat}{x y:α}(hx:a[i]?=some x)(hy:b[i]?=some y)(h:a.take i=b.take i):a.take (i+1)=b.take (i+1)<->x=y:=by
 rw[zzap,zzap,hx,hy,h];simp
def td{α:Type}{a b:List α}{i:Nat}(h:a.take i≠b.take i):a≠b:=fun e=>h (by rw[e])
def aad(a b:List Sp)(ha:a.length<=8796093022208):Pure Tryz.prog aD 129 [.sl .ro (a.map Qe),.sl .ro (b.map Qe)] (.bool (decide (a=b))):=by
 refine Qm MV (fun _ _ _=>.junk) zd ?_;by_cases hl:a.length=b.length
 ·simp[Ac,hl];refine Qk fJ (fun f m=>∃i:Nat,f 5=I i/\i<=b.length/\a.take i=b.take i/\m=⟨[],[],fun _=>.gone,0⟩) (fun f _=>b.length-(numOf (f 5)).toNat) ?_ ?_
  ·exact⟨0,zd,zE,zd,rfl⟩
  rintro f m ⟨i,h5,hi,ht,rfl⟩;rcases zzab i b.length with ah|bu
  ·obtain⟨x,hx⟩:∃x,a[i]?=some x:=⟨_,zzac zE⟩;obtain⟨y,hy⟩:=aX ah;have hrx:=Ze hx;have hry:=Ze hy;have aa:(i:Int)<(b.length:Int):=zE
   have hw:=bO i zE;have hs:=zL hx hy ht;by_cases e1:x.1=y.1
   ·by_cases e2:x.2=y.2
    ·simp[h5,hl,aa,hrx,hry,fJ,e1,e2,hw];refine⟨aP,⟨i+1,zd,zE,hs.2 (Prod.ext e1 e2)⟩,zE⟩
    have aK:a≠b:=td fun h=>e2 (by rw[hs.1 h]);simp[h5,hl,aa,hrx,hry,fJ,e1,e2,oq,aK]
   have aK:a≠b:=td fun h=>e1 (by rw[hs.1 h]);simp[h5,hl,aa,hrx,hry,fJ,e1,oq,aK]
  have bT:¬(i:Int)<(b.length:Int):=zE
  have he:a=b:=by
   rw[zzai zE,zzai zE]at ht;exact ht
  simp[h5,bT,fJ,oq,he]
 have aK:a≠b:=fun e=>hl (by rw[e]);have fA:¬(a.length:Int)=(b.length:Int):=zE
 simp[Ac,oq,fA,aK]
def LP(a b:ByteArray):a.toList=b.toList<->a=b:=by
 obtain⟨⟨l⟩⟩:=a;obtain⟨⟨l'⟩⟩:=b;rw[ByteArray.toList_eq,ByteArray.toList_eq];simp
def DJ(a b:En):Bool:=decide (a.al=b.al/\a.id=b.id/\a.it=b.it/\a.fr=b.fr/\a.ea=b.ea/\a.la=b.la/\a.bo=b.bo)
def LQ(a b:Cue):Bool:=decide (a.id=b.id/\a.fr=b.fr/\a.to=b.to/\a.pr=b.pr/\a.tx=b.tx)
def zM(a b:Od):Bool:=DJ a.nw b.nw&&(decide (a.sq=b.sq)&&(decide (a.ch=b.ch)&&(decide (a.fr=b.fr)&&(decide (a.ki=b.ki)&&(decide (a.en=b.en)&&(decide (a.n=b.n)&&(decide (a.cl=b.cl)&&LQ a.cu b.cu)))))))
def aae(a b:En)(ha:a.al.length<=8796093022208):Pure Tryz.prog aD 76 [.agg (Qd a),.agg (Qd b)] (.bool (DJ a b)):=by
 have k:=aad a.al b.al ha;refine Qm Th (fun _ _ _=>.bool (decide (a.al=b.al))) zd ?_;obtain⟨a1,a2,a3,a4,a5,a6,al⟩:=a;obtain⟨b1,b2,b3,b4,b5,b6,bl⟩:=b;simp[ak3,ak4,Qd];refine⟨k,?_⟩;rw[zzbq];simp[DJ,and_assoc]
def afU(a b:Od)(ha:a.nw.al.length<=8796093022208):Pure Tryz.prog aD 36 [.agg (Qt a),.agg (Qt b)] (.bool (zM a b)):=by
 have k:=aae a.nw b.nw ha;refine Qm S4 (fun _ _ _=>.bool (DJ a.nw b.nw)) zd ?_;obtain⟨sq,ch,fr,ki,en,n,⟨a1,a2,a3,a4,a5,a6,al⟩,⟨c1,c2,c3,c4,c5,c6,c7,c8⟩,⟨d1,d2,d3,d4,tx⟩⟩:=a;obtain⟨sq',ch',fr',ki',en',n',⟨a1',a2',a3',a4',a5',a6',al'⟩,⟨c1',c2',c3',c4',c5',c6',c7',c8'⟩,⟨d1',d2',d3',d4',tx'⟩⟩:=b;simp only[Qd]at k;simp[akk,akl,Qt,Qd,Qj,Qp];refine⟨k,?_⟩;rw[zzbq];simp[zM,LQ,and_assoc];intros;exact LP _ _
def zN(r:Int):List Sp->Bool
 |[]=>true
 |a::l=>if ez a.2=false\/a.1<=r\/8<=a.1 then false else zN a.1 l
def OO:∀(l:List Sp)(r:Int),zN r l=rS r l
 |[],_=>rfl
 |a::l,r=>by
  rw[zN,rS,OO l a.1];by_cases h:r<a.1/\a.1<=7/\ez a.2=true
  ·have h1:=h.1;have h2:=h.2.1;rw[if_pos h,if_neg (by rw[h.2.2];simp;omega)]
  rw[if_neg h];cases hi:ez a.2 with
  |false=>rw[if_pos (.inl rfl)]
  |true=>
   have h':¬(r<a.1/\a.1<=7):=fun hh=>h ⟨hh.1,hh.2,hi⟩;rw[if_pos (.inr zE)]
def aaf(e:En)(f:Nat->AV)(m:AM):Prop:=∃(i:Nat)(r:Int),f 7=I i/\i<=e.al.length/\f 6=I r/\zN 0 e.al=zN r (e.al.drop i)/\m=⟨[Qd e],[],fun _=>.gone,0⟩
def LR(e:En)(hl:e.al.length<=8796093022208):Pure Tryz.prog aD 46 [.agg (Qd e)] (.bool (yb e)):=by
 have q1:=RX e.id;have q2:=RX e.it;have q3:=RX e.bo;refine Qm aky Vh zd ?_
 have hbo:(e.bo=0)\/(e.bo≠0/\ez e.bo=true)\/(e.bo≠0/\ez e.bo=false):=by
  by_cases di:e.bo=0
  ·exact .inl di
  cases hb:ez e.bo with
  |true=>exact .inr (.inl ⟨di,rfl⟩)
  |false=>exact .inr (.inr ⟨di,rfl⟩)
 by_cases hbad:(ez e.it&&ez e.id&&decide (1<=e.fr/\e.fr<=100000000)&&decide (0<=e.ea/\e.ea<=e.la/\e.la<=100000000)&&(decide (e.bo=0)||ez e.bo))=true
 ·simp only[zzak,decide_eq_true_eq,zzgx]at hbad;obtain⟨⟨⟨⟨b1,b2⟩,b3,b4⟩,b5,b6,b7⟩,b8⟩:=hbad
  have hv:yb e=zN 0 e.al:=by
   rw[OO];have h8:(decide (e.bo=0)||ez e.bo)=true:=by rw[zzgx,decide_eq_true_eq];exact b8
   simp only[yb,b1,b2,b3,b4,b5,b6,b7,h8,zzdt,and_self,decide_true]
  have c1:¬e.fr<1:=zE
  have c2:¬100000000<e.fr:=zE
  have c3:¬e.ea<0:=zE
  have c4:¬e.la<e.ea:=zE
  have c5:¬100000000<e.la:=zE
  rw[hv];have loop:∀(E:QP)(Q:So),True:=fun _ _=>trivial;rw[b2]at q1;rw[b1]at q2;obtain h0|⟨h0,h1⟩|⟨h0,h1⟩:=hbo
  ·simp[IW,Qd,Vh,b1,b2,h0,c1,c2,c3,c4,c5];refine⟨q2,q1,?_⟩;refine Qk gP (aaf e) (fun f _=>e.al.length-(numOf (f 7)).toNat) ?_ ?_
   ·exact⟨0,0,zd,zE,zd,zd,by simp[Qd,h0]⟩
   rintro f m ⟨i,r,f7,hi,f6,hr,rfl⟩;rcases zzab i e.al.length with ah|bu
   ·obtain⟨a,ha⟩:=aX ah;have ai:=Ze ha;have aa:(i:Int)<(e.al.length:Int):=zE
    have hw:=bO i zE;have hd:e.al.drop i=a::e.al.drop (i+1):=by rw[zzae ah,(zza.1 ha).2]
    rw[hd,zN]at hr;have qa:=RX a.2;cases d3:ez a.2 with
    |false=>
     rw[d3]at qa;rw[if_pos (.inl d3)]at hr;simp[f7,f6,gP,tF,Qd,aa,ai,d3,hr,Vh];exact qa
    |true=>
     rw[d3]at qa;by_cases d1:a.1<=r
     ·rw[if_pos (.inr (.inl d1))]at hr;simp[f7,f6,gP,tF,Qd,aa,ai,d1,d3,hr,Vh];exact qa
     by_cases d2:8<=a.1
     ·rw[if_pos (.inr (.inr d2))]at hr;simp[f7,f6,gP,tF,Qd,aa,ai,d1,d2,d3,hr,Vh];exact qa
     rw[if_neg (by rw[d3];simp;omega)]at hr;simp[f7,f6,gP,Qd,aa,ai,d1,d2,d3,Vh,hw];refine⟨qa,aP,⟨i+1,a.1,zd,zE,zd,hr,by simp[Qd]⟩,zE⟩
   obtain rfl:i=e.al.length:=zE
   rw[zzbz,zN]at hr;simp[f7,f6,gP,tF,Qd,hr]
  ·rw[h1]at q3;simp[IW,Qd,Vh,b1,b2,h0,h1,c1,c2,c3,c4,c5];refine⟨q2,q1,q3,?_⟩;refine Qk gP (aaf e) (fun f _=>e.al.length-(numOf (f 7)).toNat) ?_ ?_
   ·exact⟨0,0,zd,zE,zd,zd,by simp[Qd]⟩
   rintro f m ⟨i,r,f7,hi,f6,hr,rfl⟩;rcases zzab i e.al.length with ah|bu
   ·obtain⟨a,ha⟩:=aX ah;have ai:=Ze ha;have aa:(i:Int)<(e.al.length:Int):=zE
    have hw:=bO i zE;have hd:e.al.drop i=a::e.al.drop (i+1):=by rw[zzae ah,(zza.1 ha).2]
    rw[hd,zN]at hr;have qa:=RX a.2;cases d3:ez a.2 with
    |false=>
     rw[d3]at qa;rw[if_pos (.inl d3)]at hr;simp[f7,f6,gP,tF,Qd,aa,ai,d3,hr,Vh];exact qa
    |true=>
     rw[d3]at qa;by_cases d1:a.1<=r
     ·rw[if_pos (.inr (.inl d1))]at hr;simp[f7,f6,gP,tF,Qd,aa,ai,d1,d3,hr,Vh];exact qa
     by_cases d2:8<=a.1
     ·rw[if_pos (.inr (.inr d2))]at hr;simp[f7,f6,gP,tF,Qd,aa,ai,d1,d2,d3,hr,Vh];exact qa
     rw[if_neg (by rw[d3];simp;omega)]at hr;simp[f7,f6,gP,Qd,aa,ai,d1,d2,d3,Vh,hw];refine⟨qa,aP,⟨i+1,a.1,zd,zE,zd,hr,by simp[Qd]⟩,zE⟩
   obtain rfl:i=e.al.length:=zE
   rw[zzbz,zN]at hr;simp[f7,f6,gP,tF,Qd,hr]
  obtain b8|b8:=b8
  ·exact absurd b8 h0
  rw[h1]at b8;cases b8
 have hv:yb e=false:=by
  cases hi:yb e with
  |false=>rfl
  |true=>
   refine absurd ?_ hbad;simp only[yb,zzak]at hi |-
   exact⟨⟨⟨⟨hi.1.1.1.1.2,hi.1.1.1.1.1⟩,hi.1.1.1.2⟩,hi.1.1.2⟩,hi.1.2⟩
 rw[hv]
 have hX:(!ez e.it||!ez e.id||!(decide (e.bo=0)||ez e.bo)||decide (e.fr<1)||decide (100000000<e.fr)||decide (e.ea<0)||decide (e.la<e.ea)||decide (100000000<e.la))=true:=by
  cases hx:(!ez e.it||!ez e.id||!(decide (e.bo=0)||ez e.bo)||decide (e.fr<1)||decide (100000000<e.fr)||decide (e.ea<0)||decide (e.la<e.ea)||decide (100000000<e.la))with
  |true=>rfl
  |false=>
   refine absurd ?_ hbad;simp only[Bool.or_eq_false_iff,Bool.not_eq_false',decide_eq_false_iff_not]at hx;obtain⟨⟨⟨⟨⟨⟨⟨x1,x2⟩,x3⟩,x4⟩,x5⟩,x6⟩,x7⟩,x8⟩:=hx;rw[x1,x2,x3];simp;omega
 obtain h0|⟨h0,h1⟩|⟨h0,h1⟩:=hbo
 ·simp[h0]at hX;simp[IW,tF,Qd,Vh,h0];refine⟨q2,q1,?_⟩;intro a1 a2 a3 a4 a5 a6 a7;exfalso;simp[a1,a2]at hX;omega
 ·simp[h0,h1]at hX;rw[h1]at q3;simp[IW,tF,Qd,Vh,h0,h1];refine⟨q2,q1,q3,?_⟩;intro a1 a2 a3 a4 a5 a6 a7;exfalso;simp[a1,a2]at hX;omega
 rw[h1]at q3;simp[IW,tF,Qd,Vh,h0,h1];exact⟨q2,q1,q3⟩
