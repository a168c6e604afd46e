import Derived.Test.YthjppoincojfkaaGreatDoorRAMN
import Derived.Test.YthjppoincojfkaaGreatDoorRAMT
set_option linter.all false
set_option maxRecDepth 100000
set_option maxHeartbeats 64000000
namespace Go.Proofs.YthjppoincojfkaaGreatDoor
open Go Go.Abs
def Uc(f:Int)(e:bC):Bool:=decide (e.st<=f/\f<e.st+e.fr)
def Jw(e:bC):Prop:=(0<=e.st/\e.st<=1000000)/\(0<=e.fr/\e.fr<=1000000)/\(0<=e.i/\e.i<=1000000)/\e.al.length<=8796093022208
def gV(f:Int):List bC->Nat->Int
 |[],_=> -1
 |e::r,i=>if Uc f e=true then i else gV f r (i+1)
def Yt(f:Int):List bC->Option bC
 |[]=>none
 |e::r=>if Uc f e=true then some e else Yt f r
def yc{f:Int}:∀{L:List bC}{i:Nat},Yt f L=none->gV f L i= -1
 |[],_,_=>rfl
 |a::r,i,h=>by
  simp only[Yt]at h;split at h
  ·cases h
  rename_i hn;simp only[gV,if_neg hn];exact yc h
def yd{f:Int}{a:bC}:∀{L:List bC}{i:Nat},Yt f L=some a->∃k:Nat,gV f L i=((i+k:Nat):Int)/\L[k]?=some a/\Uc f a=true
 |[],_,h=>by cases h
 |b::r,i,h=>by
  simp only[Yt]at h;split at h
  ·rename_i hb;cases h;exact⟨0,by simp[gV,hb],rfl,hb⟩
  rename_i hn;obtain⟨k,h1,h2,h3⟩:=yd (i:=i+1) h;exact⟨k+1,by simp only[gV,if_neg hn,h1];omega,Nm h2,h3⟩
def K9(f:Int):UV:=fun _ _ l=>match l with
 |[.agg [_,_,.int _ st,.int _ fr,_,_,_],_]=>.bool (decide (st<=f/\f<st+fr))
 |_=>.junk
def YW(f:Int):Option bC->AV
 |none=>Oc
 |some e=>.aS [.agg (Qf e),I (e.i+f-e.st),.bool true]
open Go Go.Abs
structure Cue where
 id:Int
 fr:Int
 to:Int
 pr:Int
 tx:ByteArray
def Qi(c:Cue):P2:=[I c.id,I c.fr,I c.to,I c.pr,.str c.tx]
structure Pg where
 p:Pl
 ev:List bC
 cu:List Cue
 ed:Int
 dr:Pi
 ve:Int
def Qh(g:Pg):P2:=Qa g.p++[.sl .ro (g.ev.map Qf),.sl .ro (g.cu.map Qi),I g.ed,.sl .ro (g.dr.map Xa),I g.ve]
structure Od where
 sq:Int
 ch:Int
 fr:Int
 ki:Int
 en:Int
 n:Int
 nw:En
 cl:Cl
 cu:Cue
def Qq(o:Od):P2:=[I o.sq,I o.ch,I o.fr,I o.ki,I o.en,I o.n]++(Qd o.nw++(Qg o.cl++Qi o.cu))
def GJ(pre a r bs:P2)(h:bs.length=a.length):setA (pre++(a++r)) pre.length bs=pre++(bs++r):=by
 induction bs generalizing pre a with
 |nil=>cases a with
  |nil=>rfl
  |cons _ _=>simp at h
 |cons x bs ih=>cases a with
  |nil=>simp at h
  |cons y a=>
   rw[setA];have e:(pre++(y::a++r)).set pre.length x=(pre++[x])++(a++r):=zd
   rw[e];have:=ih (pre++[x]) a (Nm h);rw[show(pre++[x]).length=pre.length+1 by simp]at this;rw[this];simp
theorem jR(l:P2)(o:Nat):setA l o []=l:=rfl
def yf(y:AV):∀(xs l:P2)(n:Nat),setA (y::l) (n+1) xs=y::setA l n xs
 |[],_,_=>rfl
 |x::xs,l,n=>by
  rw[setA,setA,zzdx];exact yf y xs _ _
def jS(y x:AV)(xs l:P2):setA (y::l) 0 (x::xs)=x::setA l 0 xs:=by
 rw[setA,List.set_cons_zero,yf]
def jT{sz:Nat}:∀{rows:T5},(∀r∈rows,r.length=sz)->rows.flatten.length=rows.length*sz
 |[],_=>zd
 |a::r,h=>by
  have:=jT (rows:=r) fun x hx=>h x (by simp[hx]);rw[zzch,zzak,this,h a zd,zzbd,zzhi];omega
def Qbu{sz:Nat}:∀{rows:T5},(∀r∈rows,r.length=sz)->aY sz rows.length rows.flatten=rows
 |[],_=>rfl
 |a::r,h=>by
  have ha:=h a zd;have ih:=Qbu (rows:=r) fun x hx=>h x (by simp[hx]);rw[zzbd,wQ,zzch,List.take_append_of_le_length zE,zzdt zE,zzau zE,List.drop_of_length_le zE,zzai,ih]
def Br{sz:Nat}:∀{rows:T5}{i:Nat}{row:P2},(∀r∈rows,r.length=sz)->rows[i]?=some row->∃pre r,rows.flatten=pre++(row++r)/\pre.length=i*sz
 |[],i,row,_,h=>by simp at h
 |a::r,0,row,h,hi=>by simp at hi;subst hi;exact⟨[],r.flatten,zd,zd⟩
 |a::r,i+1,row,h,hi=>by
  obtain⟨p,q,h1,h2⟩:=Br (rows:=r) (fun x hx=>h x (by simp[hx])) (Nm hi);have ha:=h a zd;exact⟨a++p,q,by rw[zzch,h1,zzbe],by rw[zzak,h2,ha,zzhi];omega⟩
def uV{sz:Nat}{rows:T5}{i:Nat}{row:P2}(h:∀r∈rows,r.length=sz)(hi:rows[i]?=some row):(∃r,rows.flatten.drop (i*sz)=row++r)/\setA rows.flatten (i*sz) row=rows.flatten:=by
 obtain⟨p,q,h1,h2⟩:=Br h hi;refine⟨⟨q,by rw[h1,<- h2,zzfy]⟩,?_⟩;rw[h1,<- h2];exact GJ p row q row rfl
def kW{α:Type}{f:α->P2}(h:∀a,Zm (f a)=true)(l:List α):Zm (l.map f).flatten=true:=by
 induction l with
 |nil=>rfl
 |cons a r ih=>rw[zzaz,zzch];exact P0 (h a) ih
def kX{α:Type}{f:α->P2}{sz:Nat}(h:∀a,(f a).length=sz)(l:List α):∀r∈l.map f,r.length=sz:=by
 intro r hr;simp only[zzbg]at hr;obtain⟨a,_,rfl⟩:=hr;exact h a
def pV(l:List Sp)(h:l.length<=8796093022208):Pure Tryz.prog aD 116 [.sl .ro (l.map Qe)] (.sl .ro (l.map Qe)):=by
 refine Qo abL (fun _ _ _=>.junk) zd ?_;simp[agh,agi];exact⟨by rintro row a b _ rfl;rfl,zE⟩
def pW(l:List It)(h:l.length<=1000000000):Pure Tryz.prog aD 117 [.sl .ro (l.map Qm)] (.sl .ro (l.map Qm)):=by
 refine Qo abM (fun _ _ _=>.junk) zd ?_;simp[agj,agk];exact⟨fun _ _=>rfl,zE⟩
def pX(l:List Bk)(h:l.length<=1000000000):Pure Tryz.prog aD 120 [.sl .ro (l.map Xj)] (.sl .ro (l.map Xj)):=by
 refine Qo abO (fun _ _ _=>.junk) zd ?_;simp[agn,ago];exact⟨fun _ _=>rfl,zE⟩
def Dt(l:List Cl)(h:l.length<=1000000000):Pure Tryz.prog aD 121 [.sl .ro (l.map Qg)] (.sl .ro (l.map Qg)):=by
 refine Qo MD (fun _ _ _=>.junk) zd ?_;simp[Ts,Tt];exact⟨fun _ _=>rfl,zE⟩
def Oe(l:List Sp)(h:l.length<=8796093022208):Pure Tryz.prog aD 102 [.sl .ro (l.map Qe)] (.sl .ro (l.map Qe)):=by
 refine Qo abA (fun _ _ _=>.junk) zd ?_;simp[af3,af4];exact⟨by rintro row a b _ rfl;rfl,zE⟩
def aeP(l:List Cue)(h:l.length<=1000000000):Pure Tryz.prog aD 103 [.sl .ro (l.map Qi)] (.sl .ro (l.map Qi)):=by
 refine Qo abB (fun _ _ _=>.junk) zd ?_;simp[af5,af6];exact⟨fun _ _=>rfl,zE⟩
def aeQ(l:Pi)(h:l.length<=1000000000):Pure Tryz.prog aD 104 [.sl .ro (l.map Xa)] (.sl .ro (l.map Xa)):=by
 refine Qo abC (fun _ _ _=>.junk) zd ?_;simp[af7,af8];exact⟨fun _ _=>rfl,zE⟩
def Wq(e:En)(h:e.al.length<=8796093022208):Pure Tryz.prog aD 119 [.agg (Qd e)] (.agg (Qd e)):=by
 have k:=Oe e.al h;refine Qo abN (fun _ _ l=>l.headD .junk) zd ?_;simp[agl,agm,Qd];exact k
def aeR:UV:=fun _ f _=>if f=999999 then .aJ 0 []else .junk
def yg(Y:YT)(rows:T5)(h:∀r∈rows,r.length=7)(hl:rows.length<=1000000000)(aO:rows≠[])(m:AM)(K:So)(hK:K (.bs m.boxes.length 0 rows.length 7) {m with boxes:=m.boxes++[rows.flatten]}):
  aB Tryz.prog aD Y 118 [.sl .ro rows] m K:=by
 refine Xn BZ aeR zd ?_;simp[MB,MC,aeR,aO];exact⟨⟨zE,h⟩,hK⟩
def YX(Y:YT)(rows:T5)(h:∀r∈rows,r.length=7)(hl:rows.length<=1000000000)(aO:rows≠[])(m:AM)(K:So)(hK:K (.bs m.boxes.length 0 rows.length 7) {m with boxes:=m.boxes++[rows.flatten]}):
  aB Tryz.prog aD Y 101 [.sl .ro rows] m K:=by
 refine Xn Mx aeR zd ?_;simp[Tl,Tm,aeR,aO];exact⟨⟨zE,h⟩,hK⟩
def GK:Pure Tryz.prog aD 118 [.sl .ro []] (.sl .ro []):=by
 refine Qo BZ (fun _ _ _=>.junk) zd ?_;simp[MB,MC]
def YY:Pure Tryz.prog aD 101 [.sl .ro []] (.sl .ro []):=by
 refine Qo Mx (fun _ _ _=>.junk) zd ?_;simp[Tl,Tm]
open Go Go.Abs
def Kk(p:Pl):UV:=fun _ f l=>if f=118 then(if p.ens=[]then .sl .ro []else .gd false .junk)else l.headD .junk
def Bs(p:Pl):Prop:=p.sh.length<=1000000/\p.aN.length<=1000000/\p.ens.length<=1000000/\p.bks.length<=1000000/\p.cls.length<=1000000/\∀e∈p.ens,e.al.length<=8796093022208
def asR(p:Pl)(m0:P2)(f:Nat->AV)(m:AM):Prop:=∃(i:Nat)(bx:T5),f 22=I i/\i<=p.ens.length/\m=⟨[I p.ch,I p.nu,I p.de,I p.of,.sl .ro (p.sh.map Qe),I p.ep,I p.rg,I p.ln,I p.fi,.sl .ro (p.aN.map Qm),.bs 2 0 p.ens.length 7,.sl .ro (p.bks.map Xj),.sl .ro (p.cls.map Qg)]::m0::(p.ens.map Qd).flatten::bx,[],fun _=>.gone,0⟩
def pY(p:Pl)(h:Bs p):Pure Tryz.prog aD 66 [.agg (Qa p)] (.agg (Qa p)):=by
 obtain⟨h1,h2,h3,h4,h5,h6⟩:=h;have k1:=pV p.sh zE;have k2:=pW p.aN zE;have k4:=pX p.bks zE;have k5:=Dt p.cls zE;have hsz:=kX (f:=Qd) (sz:=7) (fun _=>rfl) p.ens;refine Qo vl (Kk p) zd ?_;by_cases hn:p.ens=[]
 ·have k3:=GK;simp[IQ,Qa,Kk,hn];refine⟨k1,k2,k3,?_⟩;refine Qk ew (fun f m=>f 22=I 0/\m=⟨[I p.ch,I p.nu,I p.de,I p.of,.sl .ro (p.sh.map Qe),I p.ep,I p.rg,I p.ln,I p.fi,.sl .ro (p.aN.map Qm),.sl .ro [],.sl .ro (p.bks.map Xj),.sl .ro (p.cls.map Qg)]::[[I 0,I 0,I 0,I 0,.sl .nil [],I 0,I 0,I 0,I 0,.sl .nil [],.sl .nil [],.sl .nil [],.sl .nil []]],[],fun _=>.gone,0⟩) (fun f _=>0) ?_ ?_
  ·exact⟨zd,zd⟩
  rintro f m ⟨f22,rfl⟩;simp[f22,ew,IS,Kk];exact⟨k4,k5⟩
 have aO:p.ens.map Qd≠[]:=by simpa using hn
 simp[IQ,Qa,Kk,hn];refine⟨k1,k2,yg _ _ hsz (by simpa using by omega) aO _ _ ?_⟩;simp;obtain⟨F,hF⟩:∃F,(p.ens.map Qd).flatten=F:=⟨_,rfl⟩;have hFl:F.length=p.ens.length*7:=by rw[<- hF,jT hsz];simp
 have bU:Zm F=true:=by rw[<- hF];exact kW (fun _=>rfl) _
 have fE:aY 7 p.ens.length F=p.ens.map Qd:=by have:=Qbu hsz;rw[hF]at this;simpa using this
 have hmp:∀m,F.map (bz m 4)=F:=fun m=>Ve m 3 bU;rw[hF];refine Qk ew (asR p [I 0,I 0,I 0,I 0,.sl .nil [],I 0,I 0,I 0,I 0,.sl .nil [],.sl .nil [],.sl .nil [],.sl .nil []]) (fun f _=>p.ens.length-(numOf (f 22)).toNat) ?_ ?_
 ·exact⟨0,[],zd,zE,by rw[hF]⟩
 rintro f m ⟨i,bx,f22,hi,rfl⟩;rw[hF];rcases zzaa i p.ens.length with ai|bn
 ·obtain⟨e,he⟩:=aV ai;have aa:(i:Int)<(p.ens.length:Int):=zE
  have hw:=bO i zE;obtain⟨⟨r,hd⟩,bZ⟩:=uV hsz (i:=i) (row:=Qd e) (by simp[he]);rw[hF]at hd bZ;simp only[Qd,zzad,zzai]at hd bZ;have GL:=Wq e (h6 e (zzae he));simp only[Qd]at GL;simp[-setA,jR,jS,f22,ew,aa,hd,bZ,hFl,hw,Kk];refine⟨GL,zE,aQ,⟨i+1,bx++[[I e.id,I e.it,I e.fr,I e.ea,I e.la,I e.bo,.sl .ro (e.al.map Qe)]],zd,zE,by rw[hF]⟩,zE⟩
 obtain rfl:i=p.ens.length:=zE
 simp[f22,ew,IS,Kk,hFl,hmp,fE];exact⟨k4,k5⟩
def PgC(g:Pg):Prop:=Bs g.p/\g.ev.length<=1000000/\g.cu.length<=1000000/\g.dr.length<=1000000/\∀e∈g.ev,e.al.length<=8796093022208
def Bt(g:Pg):UV:=fun _ f l=>if f=101 then(if g.ev=[]then .sl .ro []else .gd false .junk)else l.headD .junk
def kY(g:Pg)(V:AV):P2:=[I g.p.ch,I g.p.nu,I g.p.de,I g.p.of,.sl .ro (g.p.sh.map Qe),I g.p.ep,I g.p.rg,I g.p.ln,I g.p.fi,.sl .ro (g.p.aN.map Qm),.sl .ro (g.p.ens.map Qd),.sl .ro (g.p.bks.map Xj),.sl .ro (g.p.cls.map Qg),V,.sl .ro (g.cu.map Qi),I g.ed,.sl .ro (g.dr.map Xa),I g.ve]
def asS(g:Pg)(m0:P2)(f:Nat->AV)(m:AM):Prop:=∃(i:Nat)(bx:T5),f 16=I i/\i<=g.ev.length/\m=⟨kY g (.bs 2 0 g.ev.length 7)::m0::(g.ev.map Qf).flatten::bx,[],fun _=>.gone,0⟩
def YZ:P2:=[I 0,I 0,I 0,I 0,.sl .nil [],I 0,I 0,I 0,I 0,.sl .nil [],.sl .nil [],.sl .nil [],.sl .nil [],.sl .nil [],.sl .nil [],I 0,.sl .nil [],I 0]
def Y2(g:Pg)(h:PgC g):Pure Tryz.prog aD 52 [.agg (Qh g)] (.agg (Qh g)):=by
 obtain⟨h0,h1,h2,h3,h4⟩:=h;have k1:=pY g.p h0;have k3:=aeP g.cu zE;have k4:=aeQ g.dr zE;have hsz:=kX (f:=Qf) (sz:=7) (fun _=>rfl) g.ev;simp only[Qa]at k1;refine Qo ajS (Bt g) zd ?_;by_cases hn:g.ev=[]
 ·have k2:=YY;simp[abl,Qh,Qa,Bt,hn];refine⟨k1,k2,?_⟩;refine Qk Ek (fun f m=>f 16=I 0/\m=⟨kY g (.sl .ro [])::[YZ],[],fun _=>.gone,0⟩) (fun f _=>0) ?_ ?_
  ·exact⟨zd,by simp[kY,YZ]⟩
  rintro f m ⟨f16,rfl⟩;simp[f16,Ek,ajR,kY,YZ,Bt];exact⟨k3,k4⟩
 have aO:g.ev.map Qf≠[]:=by simpa using hn
 simp[abl,Qh,Qa,Bt,hn];refine⟨k1,YX _ _ hsz (by simpa using by omega) aO _ _ ?_⟩;simp;obtain⟨F,hF⟩:∃F,(g.ev.map Qf).flatten=F:=⟨_,rfl⟩;have hFl:F.length=g.ev.length*7:=by rw[<- hF,jT hsz];simp
 have bU:Zm F=true:=by rw[<- hF];exact kW (fun _=>rfl) _
 have fE:aY 7 g.ev.length F=g.ev.map Qf:=by have:=Qbu hsz;rw[hF]at this;simpa using this
 have hmp:∀m,F.map (bz m 4)=F:=fun m=>Ve m 3 bU;rw[hF];refine Qk Ek (asS g YZ) (fun f _=>g.ev.length-(numOf (f 16)).toNat) ?_ ?_
 ·exact⟨0,[],zd,zE,by rw[hF];rfl⟩
 rintro f m ⟨i,bx,f16,hi,rfl⟩;rw[hF];rcases zzaa i g.ev.length with ai|bn
 ·obtain⟨e,he⟩:=aV ai;have aa:(i:Int)<(g.ev.length:Int):=zE
  have hw:=bO i zE;obtain⟨⟨r,hd⟩,bZ⟩:=uV hsz (i:=i) (row:=Qf e) (by simp[he]);rw[hF]at hd bZ
  have hs6:F.set (i*7+6) (.sl .ro (e.al.map Qe))=F:=by
   have h7:F[i*7+6]?=some (.sl .ro (e.al.map Qe)):=by
    have:=congrArg (fun l=>l[6]?) hd;simpa[Qf]using this
   apply zzda;intro j;by_cases hj:i*7+6=j
   ·subst hj;rw[h7,zzbf (zza.1 h7).1]
   rw[zzbn hj]
  simp only[Qf,zzad,zzai]at hd;have axv:=Oe e.al (h4 e (zzae he));simp[f16,Ek,kY,aa,hd,hs6,hFl,hw,Bt];refine⟨axv,zE,aQ,⟨i+1,bx++[[I e.id,I e.it,I e.st,I e.fr,I e.i,I e.re,.sl .ro (e.al.map Qe)]],zd,zE,by rw[hF];rfl⟩,zE⟩
 obtain rfl:i=g.ev.length:=zE
 simp[f16,Ek,ajR,kY,YZ,Bt,hFl,hmp,fE];exact⟨k3,k4⟩
open Go Go.Abs
def uW(n:Int):Bool:=decide (1<=n)&&decide (n<=1000000)
def Wi(n:Int):Pure Tryz.prog aD 45 [I n] (.bool (uW n)):=by
 refine Qo SQ (fun _ _ _=>.junk) zd ?_;by_cases h:1<=n
 ·simp[abi,abj,h,uW]
 simp[abi,abj,h,uW]
def eB:ByteArray:=⟨#[]⟩
def GM(tx:ByteArray):tx.toList=[]<->tx=eB:=by
 obtain⟨⟨l⟩⟩:=tx;rw[ByteArray.toList_eq];simp[eB]
def Qcw(o:Od):Bool:=decide (o.en=0/\o.n=0/\o.cl=⟨0,0,0,0,0,0,0,0⟩/\(o.cu.id=0/\o.cu.fr=0/\o.cu.to=0/\o.cu.pr=0/\o.cu.tx=eB)/\o.nw.id=0/\o.nw.it=0/\o.nw.fr=0/\o.nw.ea=0/\o.nw.la=0/\o.nw.bo=0/\o.nw.al=[])
def La(o:Od):Pure Tryz.prog aD 46 [.agg (Qq o)] (.bool (Qcw o)):=by
 refine Qo SR (fun _ _ _=>.junk) zd ?_;obtain⟨sq,ch,fr,ki,en,n,⟨a1,a2,a3,a4,a5,a6,al⟩,⟨c1,c2,c3,c4,c5,c6,c7,c8⟩,⟨d1,d2,d3,d4,tx⟩⟩:=o;simp[ajN,ajO,Qq,Qd,Qg,Qi];rw[zzcz];simp[Qcw,GM,and_assoc]
def Du(r:Int):List Sp->Bool
 |[]=>true
 |a::l=>if r<a.1/\a.1<=7/\uW a.2=true then Du a.1 l else false
def pZ(e:En):Bool:=uW e.id&&uW e.it&&decide (1<=e.fr/\e.fr<=100000000)&&decide (0<=e.ea/\e.ea<=e.la/\e.la<=100000000)&&(decide (e.bo=0)||uW e.bo)&&Du 0 e.al
def aiN(e:En)(f:Nat->AV)(m:AM):Prop:=∃(i:Nat)(r:Int)(bx:T5),f 53=I i/\i<=e.al.length/\f 3=I r/\Du 0 e.al=Du r (e.al.drop i)/\m=⟨Qd e::bx,[],fun _=>.gone,0⟩
def Kl:UV:=fun _ f l=>match l with|[.int _ n]=>.bool (uW n)|_=>.junk
def uh(e:En)(hl:e.al.length<=8796093022208):Pure Tryz.prog aD 47 [.agg (Qd e)] (.bool (pZ e)):=by
 have q1:=Wi e.id;have q2:=Wi e.it;have q3:=Wi e.bo;refine Qo SS Kl zd ?_;cases h1:uW e.id with
 |false=>rw[h1]at q1;simp[qx,gZ,Qd,Kl,h1,pZ];exact q1
 |true=>
  rw[h1]at q1;cases h2:uW e.it with
  |false=>rw[h2]at q2;simp[qx,gZ,Qd,Kl,h1,h2,pZ];exact⟨q1,q2⟩
  |true=>
   rw[h2]at q2;by_cases h3:e.fr<1
   ·have:¬1<=e.fr:=zE
    simp[qx,gZ,Qd,Kl,h1,h2,h3,pZ,this];exact⟨q1,q2⟩
   by_cases h4:100000000<e.fr
   ·have:¬e.fr<=100000000:=zE
    simp[qx,gZ,Qd,Kl,h1,h2,h3,h4,pZ,this];exact⟨q1,q2⟩
   have e34:1<=e.fr/\e.fr<=100000000:=zE
   by_cases h5:e.ea<0
   ·have:¬0<=e.ea:=zE
    simp[qx,gZ,Qd,Kl,h1,h2,h3,h4,h5,pZ,this];exact⟨q1,q2⟩
   by_cases h6:e.la<e.ea
   ·have:¬e.ea<=e.la:=zE
    simp[qx,gZ,Qd,Kl,h1,h2,h3,h4,h5,h6,pZ,this];exact⟨q1,q2⟩
   by_cases h7:100000000<e.la
   ·have:¬e.la<=100000000:=zE
    simp[qx,gZ,Qd,Kl,h1,h2,h3,h4,h5,h6,h7,pZ,this];exact⟨q1,q2⟩
   have axw:0<=e.ea/\e.ea<=e.la/\e.la<=100000000:=zE
   by_cases h8:e.bo≠0/\uW e.bo=false
   ·obtain⟨h8,h9⟩:=h8;rw[h9]at q3;have h8':(e.bo !=0)=true:=by simpa using h8
    simp[qx,gZ,Qd,Kl,h1,h2,h3,h4,h5,h6,h7,h8,h8',h9,pZ];exact⟨q1,q2,q3⟩
   have hb:(decide (e.bo=0)||uW e.bo)=true:=by
    by_cases hb:e.bo=0
    ·simp[hb]
    cases h9:uW e.bo with
    |true=>simp
    |false=>exact absurd ⟨hb,h9⟩ h8
   have hv:pZ e=Du 0 e.al:=by simp only[pZ,h1,h2,e34,axw,hb,zzds,and_self,decide_true]
   rw[hv]
   have hbo:(e.bo=0)\/(e.bo≠0/\uW e.bo=true):=by
    by_cases dY:e.bo=0
    ·exact .inl dY
    exact .inr ⟨dY,by simpa[dY]using hb⟩
   obtain dY|⟨dY,dz⟩:=hbo
   ·simp[qx,Qd,Kl,h1,h2,h3,h4,h5,h6,h7,dY];refine⟨q1,q2,?_⟩;clear q1 q2 q3;refine Qk gK (aiN e) (fun f _=>e.al.length-(numOf (f 53)).toNat) ?_ ?_
    ·exact⟨0,0,[],zd,zE,zd,zd,by simp[Qd,dY]⟩
    rintro f m ⟨i,r,bx,f53,hi,f3,hr,rfl⟩;rcases zzaa i e.al.length with ai|bn
    ·obtain⟨a,ha⟩:=aV ai;have ah:=Zx ha;have aa:(i:Int)<(e.al.length:Int):=zE
     have hw:=bO i zE;have hd:e.al.drop i=a::e.al.drop (i+1):=by rw[zzag ai,(zza.1 ha).2]
     rw[hd,Du]at hr;have qa:=Wi a.2;by_cases d1:a.1<=r
     ·rw[if_neg zE]at hr;simp[f53,f3,gK,gZ,Qd,aa,ah,d1,hr,Kl]
     by_cases d2:7<a.1
     ·rw[if_neg zE]at hr;simp[f53,f3,gK,gZ,Qd,aa,ah,d1,d2,hr,Kl]
     cases d3:uW a.2 with
     |false=>
      rw[d3]at qa;rw[if_neg (by simp[d3])]at hr;simp[f53,f3,gK,gZ,Qd,aa,ah,d1,d2,d3,hr,Kl];exact qa
     |true=>
      rw[d3]at qa;rw[if_pos ⟨zE,zE,d3⟩]at hr;simp[f53,f3,gK,Qd,aa,ah,d1,d2,d3,hw,Kl];refine⟨qa,aQ,⟨i+1,a.1,bx++[[I a.1,I a.2]],zd,zE,zd,hr,by simp[Qd]⟩,zE⟩
    obtain rfl:i=e.al.length:=zE
    simp[f53,f3,gK,gZ,hr,Du]
   rw[dz]at q3;have KF:(e.bo !=0)=true:=by simpa using dY
   simp[qx,Qd,Kl,h1,h2,h3,h4,h5,h6,h7,KF,dz];refine⟨q1,q2,q3,?_⟩;clear q1 q2 q3;refine Qk gK (aiN e) (fun f _=>e.al.length-(numOf (f 53)).toNat) ?_ ?_
   ·exact⟨0,0,[],zd,zE,zd,zd,by simp[Qd]⟩
   rintro f m ⟨i,r,bx,f53,hi,f3,hr,rfl⟩;rcases zzaa i e.al.length with ai|bn
   ·obtain⟨a,ha⟩:=aV ai;have ah:=Zx ha;have aa:(i:Int)<(e.al.length:Int):=zE
    have hw:=bO i zE;have hd:e.al.drop i=a::e.al.drop (i+1):=by rw[zzag ai,(zza.1 ha).2]
    rw[hd,Du]at hr;have qa:=Wi a.2;by_cases d1:a.1<=r
    ·rw[if_neg zE]at hr;simp[f53,f3,gK,gZ,Qd,aa,ah,d1,hr,Kl]
    by_cases d2:7<a.1
    ·rw[if_neg zE]at hr;simp[f53,f3,gK,gZ,Qd,aa,ah,d1,d2,hr,Kl]
    cases d3:uW a.2 with
    |false=>
     rw[d3]at qa;rw[if_neg (by simp[d3])]at hr;simp[f53,f3,gK,gZ,Qd,aa,ah,d1,d2,d3,hr,Kl];exact qa
    |true=>
     rw[d3]at qa;rw[if_pos ⟨zE,zE,d3⟩]at hr;simp[f53,f3,gK,Qd,aa,ah,d1,d2,d3,hw,Kl];refine⟨qa,aQ,⟨i+1,a.1,bx++[[I a.1,I a.2]],zd,zE,zd,hr,by simp[Qd]⟩,zE⟩
   obtain rfl:i=e.al.length:=zE
   simp[f53,f3,gK,gZ,hr,Du]
open Go Go.Abs
def IF(s:ByteArray)(i:Nat):Nat:=(s.data.toList.getD i 0).toNat
def Dv(s:ByteArray)(i:Nat)(h:i<s.size):(s.data[i]'h).toNat=IF s i:=by
 have h':i<s.data.size:=h;simp only[IF,zzaw,zzc,zzah h',Option.getD_some]
def Y3(s:ByteArray)(n i:Nat):Bool:=match n with
 |0=>true
 |n+1=>if IF s i<32\/126<IF s i then false else Y3 s n (i+1)
def Y4(s:ByteArray):Bool:=Y3 s s.size 0
def asT(s:ByteArray)(f:Nat->AV)(m:AM):Prop:=∃i:Nat,f 3=I i/\i<=s.size/\Y4 s=Y3 s (s.size-i) i/\m=⟨[],[],fun _=>.gone,0⟩
def yh(s:ByteArray)(h:s.size<=1000000):Pure Tryz.prog aD 158 [.str s] (.bool (Y4 s)):=by
 refine Qo MP (fun _ _ _=>.junk) zd ?_;simp[MO];refine Qk vz (asT s) (fun f _=>s.size-(numOf (f 3)).toNat) ?_ ?_
 ·exact⟨0,zd,zE,rfl,rfl⟩
 rintro f m ⟨i,f3,hi,hr,rfl⟩;rcases zzaa i s.size with ai|bn
 ·have aa:(i:Int)<(s.size:Int):=zE
  have hw:=bO i zE;obtain⟨n,hn⟩:∃n,s.size-i=n+1:=⟨s.size-i-1,zE⟩;have hb:=Dv s i ai;rw[hn,Y3]at hr;by_cases h1:IF s i<32
  ·rw[if_pos (.inl h1)]at hr;have mX:((IF s i:Nat):Int)<32:=zE
   simp[f3,vz,Ex,ai,aa,hr,hb,mX]
  have mX:¬((IF s i:Nat):Int)<32:=zE
  by_cases h2:126<IF s i
  ·rw[if_pos (.inr h2)]at hr;have Im:(126:Int)<((IF s i:Nat):Int):=zE
   simp[f3,vz,Ex,ai,aa,hr,hb,mX,Im]
  rw[if_neg zE]at hr;have Im:¬(126:Int)<((IF s i:Nat):Int):=zE
  simp[f3,vz,ai,aa,hw,hb,mX,Im];refine⟨aQ,⟨i+1,zd,zE,by rw[hr];congr 1;omega,rfl⟩,zE⟩
 obtain rfl:i=s.size:=zE
 rw[zzfn,Y3]at hr;simp[f3,vz,Ex,hr]
def tc(s:ByteArray)(i:Nat):Option Nat->List ByteArray
 |none=>[]
 |some f=>[s.extract f i]
def Y5(s:ByteArray):Nat->Nat->Option Nat->List ByteArray
 |0,i,first=>tc s i first
 |n+1,i,first=>if IF s i≠32 then Y5 s n (i+1) (some (first.getD i))else tc s i first++Y5 s n (i+1) none
def nS(s:ByteArray):List ByteArray:=Y5 s s.size 0 none
def Lb(s:ByteArray)(i:Nat)(first:Option Nat):List ByteArray:=if i<=s.size then Y5 s (s.size-i) i first else[]
def Y6{s:ByteArray}{i:Nat}(first:Option Nat)(h:i<s.size)(hb:IF s i≠32):Lb s i first=Lb s (i+1) (some (first.getD i)):=by
 obtain⟨n,hn⟩:∃n,s.size-i=n+1:=⟨s.size-i-1,zE⟩;rw[Lb,if_pos zE,Lb,if_pos zE,hn,Y5,if_pos hb,show s.size-(i+1)=n by omega]
def aeS{s:ByteArray}{i:Nat}(first:Option Nat)(h:i<=s.size)(hb:i<s.size->IF s i=32):Lb s i first=tc s i first++Lb s (i+1) none:=by
 by_cases hi:i=s.size
 ·subst hi;have:Lb s (s.size+1) none=[]:=by rw[Lb,if_neg zE]
  rw[this,Lb,if_pos zE,zzfn,Y5,zzar]
 obtain⟨n,hn⟩:∃n,s.size-i=n+1:=⟨s.size-i-1,zE⟩;have:Lb s (i+1) none=Y5 s n (i+1) none:=by rw[Lb,if_pos zE,show s.size-(i+1)=n by omega]
 rw[this,Lb,if_pos h,hn,Y5,if_neg (by simp[hb zE])]
def Of:Option Nat->Int
 |none=> -1
 |some k=>k
def Lc(s:ByteArray):Pure Tryz.prog aD 159 [.str s] (.fn 211 [] [.ep [.str s] 0]):=by
 refine Qo MQ (fun _ _ _=>.junk) zd ?_;simp[TJ,TK]
def asU(Y:YT)(lp:Nat)(K:AM->Prop)(s:ByteArray)(f:Nat->AV)(m:AM):Prop:=∃(i:Nat)(first:Option Nat),f 4=I i/\i<=s.size+1/\f 3=I (Of first)/\(∀k,first=some k->k<=i/\i<=s.size)/\wR (Y lp) K ((Lb s i first).map fun w=>[.str w]) m
def Ld(s:ByteArray)(h:s.size<=1000000):Iter Tryz.prog aD 211 [] [.ep [.str s] 0] ((nS s).map fun w=>[.str w]):=by
 intro Y lp m K hF;refine Xn M7 (fun _ _ _=>.junk) zd ?_;simp[M6,TZ];refine Qk iS (asU Y lp K s) (fun f _=>s.size+1-(numOf (f 4)).toNat) ?_ ?_
 ·exact⟨0,none,zd,zE,by simp[Of],⟨fun k(hk:none=some k)=>(by cases hk),by simpa[Lb,nS]using hF⟩⟩
 rintro f m ⟨i,first,f4,hi,f3,hfi,hr⟩;rcases zzaa s.size i with lF|cB
 ·have bQ:¬(i:Int)<=(s.size:Int):=zE
  rw[Lb,if_neg zE]at hr;simp[f4,iS,bQ];exact hr m (fF.refl m)
 have aeT:(i:Int)<=(s.size:Int):=zE
 have hw:=bO i zE;by_cases hb:i<s.size/\IF s i≠32
 ·obtain⟨ai,hb⟩:=hb;have aa:(i:Int)<(s.size:Int):=zE
  have hbb:=Dv s i ai;have hbI:¬((IF s i:Nat):Int)=32:=zE
  rw[Y6 first ai hb]at hr;cases first with
  |none=>
   simp[f4,f3,Of,iS,aeT,ai,aa,hbb,hbI,hw];refine⟨aQ,⟨i+1,some i,zd,zE,by simp[Of],⟨fun k(hk:some i=some k)=>(by cases hk;omega),hr⟩⟩,zE⟩
  |some k=>
   have Nq:¬(k:Int)<0:=zE
   obtain⟨dD,ee⟩:=hfi k rfl;simp[f4,f3,Of,iS,aeT,ai,aa,hbb,hbI,hw,Nq];refine⟨aQ,⟨i+1,some k,zd,zE,by simp[Of],⟨fun k'(hk:some k=some k')=>(by cases hk;omega),hr⟩⟩,zE⟩
 have cN:i<s.size->IF s i=32:=fun h=>Classical.byContradiction fun h2=>hb ⟨h,h2⟩;rw[aeS first cB cN]at hr;cases first with
 |none=>
  simp only[tc,zzai]at hr;rcases zzaa i s.size with ai|bn
  ·have aa:(i:Int)<(s.size:Int):=zE
   have hbb:=Dv s i ai;have amm:=cN ai;simp[f4,f3,Of,iS,aeT,ai,aa,hbb,amm,hw];refine⟨aQ,⟨i+1,none,zd,zE,by simp[Of],⟨fun k(hk:none=some k)=>(by cases hk),hr⟩⟩,zE⟩
  obtain rfl:i=s.size:=zE
  simp[f4,f3,Of,iS,hw];refine⟨aQ,⟨s.size+1,none,zd,zE,by simp[Of],⟨fun k(hk:none=some k)=>(by cases hk),hr⟩⟩⟩
 |some k=>
  obtain⟨dD,ee⟩:=hfi k rfl;have Nq:(0:Int)<=(k:Int):=zE
  simp only[tc,zzad,zzai,zzaz]at hr;rcases zzaa i s.size with ai|bn
  ·have aa:(i:Int)<(s.size:Int):=zE
   have hbb:=Dv s i ai;have amm:=cN ai;simp[f4,f3,Of,iS,aeT,ai,aa,hbb,amm,hw,Nq,dD];refine hr m (fF.refl m) _ (fun m2 h2=>?_) (fun m2 h2=>?_)
   ·simp;refine⟨aQ,⟨i+1,none,zd,zE,by simp[Of],⟨fun k(hk:none=some k)=>(by cases hk),h2⟩⟩,zE⟩
   simp;exact h2 m2 (fF.refl m2)
  obtain rfl:i=s.size:=zE
  simp[f4,f3,Of,iS,hw,Nq,dD];refine hr m (fF.refl m) _ (fun m2 h2=>?_) (fun m2 h2=>?_)
  ·simp;refine⟨aQ,⟨s.size+1,none,zd,zE,by simp[Of],⟨fun k(hk:none=some k)=>(by cases hk),h2⟩⟩⟩
  simp;exact h2 m2 (fF.refl m2)
open Go Go.Abs
def Zg(n:Int):Prop:= -9223372036854775808<=n/\n<=9223372036854775807
def OKP(p:Pl):Prop:=∀e∈p.ens,e.al.length<=8796093022208
open Go Go.Abs
def Y7(p:Pl)(e:bC):Int->List Sp->Bool
 |_,[]=>true
 |last,a::r=>match Xk a.2 p.aN with
  |none=>false
  |some y=>if a.1<=last\/p.rg<=a.1\/y.fr<IntKind.i64.wrap (e.i+e.fr)then false else if Xy p a.2 a.1 e.st e.fr=false then false else Y7 p e a.1 r
def asV(p:Pl)(e:bC):Int:=Ut (fun i=>Xy p e.it i e.st e.fr) (min p.rg 8).toNat
def GN(a:Int):Int:=IntKind.i64.wrap (((a%2 ^ IntKind.i64.bits).toNat&&& ((1:Int)%2 ^ IntKind.i64.bits).toNat:Nat):Int)
def aeU(a b:Int):Int:=IntKind.i64.wrap (((a%2 ^ IntKind.i64.bits).toNat&&& (2 ^ IntKind.i64.bits-1-(b%2 ^ IntKind.i64.bits).toNat):Nat):Int)
def Y8(p:Pl)(e:bC):Bool:=match Xk e.it p.aN with
 |none=>false
 |some x=>if e.fr<1\/e.i<0\/x.fr<e.fr\/IntKind.i64.wrap (x.fr-e.fr)<e.i then false else
  if GN e.re=0\/aeU e.re (asV p e)≠0 then false else Y7 p e 0 e.al&&(decide (e.id≠0)||(decide (e.it=p.fi)&&decide (e.al=[])))
open Go Go.Abs
def aeV(x r n:Nat)(h:r<n):((x+2 ^ n)/2 ^ r)%2=(x/2 ^ r)%2:=by
 obtain⟨k,rfl⟩:∃k,n=r+(k+1):=⟨n-r-1,zE⟩;have e:2 ^ (r+(k+1))=2 ^ r*(2*2 ^ k):=by rw[Nat.pow_add,zzhl,zzed (2 ^ k) 2]
 rw[e,Nat.add_mul_div_left _ _ (Nat.two_pow_pos r),Nat.add_mul_mod_self_left]
def yj(b:Nat->Bool):Nat->Nat
 |0=>0
 |n+1=>yj b n+if b n then 2 ^ n else 0
def Dw(b:Nat->Bool):∀n,yj b n<2 ^ n
 |0=>by simp[yj]
 |n+1=>by
  have:=Dw b n;rw[yj,zzhl];split<;>omega
def Le(b:Nat->Bool):∀n,Ut b n=(yj b n:Int)
 |0=>rfl
 |n+1=>by
  rw[Ut,yj,Le b n];split
  ·push_cast;rfl
  simp
def GO(b:Nat->Bool)(r:Nat):∀n,(yj b n).testBit r=(decide (r<n)&&b r)
 |0=>by simp[yj]
 |n+1=>by
  have ih:=GO b r n;have ai:=Dw b n;rw[yj];by_cases hb:b n=true
  ·rw[if_pos hb];rcases zzdq r n with h|h|h
   ·rw[zzef,aeV _ _ _ h,<- zzef,ih];simp[h,Nat.lt_succ_of_lt h]
   ·subst h
    have:(yj b r+2 ^ r)/2 ^ r=1:=by
     rw[Nat.add_div_right _ (Nat.two_pow_pos r),zzgm ai]
    rw[zzef,this];simp[hb]
   have:yj b n+2 ^ n<2 ^ r:=by
    have:2 ^ (n+1)<=2 ^ r:=Nat.pow_le_pow_right zE h;rw[zzhl]at this;omega
   rw[Nat.testBit_lt_two_pow this];simp;intro h2;omega
  rw[if_neg hb,zzcn,ih];by_cases h:r=n
  ·subst h;simp[hb]
  have:decide (r<n)=decide (r<n+1):=decide_eq_decide.2 zE;rw[this]
def amn(x:Int)(r:Nat):Bool:=x.toNat.testBit r
def Y9(b:Nat->Bool)(n r:Nat):amn (Ut b n) r=(decide (r<n)&&b r):=by
 unfold amn;rw[Le,Int.toNat_natCast,GO]
def GP(b:Nat->Bool)(n:Nat)(hn:n<=8):0<=Ut b n/\Ut b n<256:=by
 have:=Dw b n;rw[Le];have h2:2 ^ n<=2 ^ 8:=Nat.pow_le_pow_right zE hn;omega
def asW(x:Int)(h:0<=x/\x<256):(x%2 ^ IntKind.i64.bits).toNat=x.toNat:=by
 have:(2:Int) ^ IntKind.i64.bits=18446744073709551616:=by decide
 rw[this,Int.emod_eq_of_lt h.1 zE]
def Zs(x:Int)(h:0<=x/\x<256):GN x=x%2:=by
 unfold GN;rw[asW x h,asW 1 zE];have:x.toNat&&& (1:Int).toNat=x.toNat%2:=Nat.and_one_is_mod _;rw[this,Ql]<;>omega
open Go Go.Abs
def Q4{x:Int}(h:0<=x/\x<256):aeU x x=0:=by
 have key:∀n:Nat,n<256->aeU (n:Int) (n:Int)=0:=by decide+kernel
 have:=key x.toNat zE;rwa [Int.toNat_of_nonneg h.1]at this
def yl{b c:Nat->Bool}:∀(n:Nat),(∀i,i<n->b i=c i)->Ut b n=Ut c n
 |0,_=>rfl
 |n+1,h=>by rw[Ut,Ut,yl n (fun i hi=>h i zE),h n zE]
def ZA{b:Nat->Bool}{n:Nat}(hn:1<=n/\n<=8)(h0:b 0=true):GN (Ut b n)=1:=by
 have hb:=GP b n hn.2;rw[Zs _ hb];have h1:=Y9 b n 0;rw[h0]at h1;have h2:decide (0<n)=true:=by simp;omega
 rw[h2]at h1;simp only[amn,Nat.testBit_zero,zzgd,decide_eq_true_eq]at h1;omega
structure VP (p:Pl):Prop where
 rg:1<=p.rg/\p.rg<=8
 ln:1<=p.ln/\p.ln<=100000000
 fill:∃y,Xk p.fi p.aN=some y/\y.ki=5/\1<=y.fr/\y.fr<=100000000
 aN:∀y∈p.aN,Sq y=true
 ens:∀e∈p.ens,1<=e.id/\jO p e=true/\mB p e=true
def GQ{p:Pl}:∀{l:List En}{seen:Pi},Gs p seen l=true->∀e∈l,1<=e.id/\jO p e=true/\mB p e=true
 |x::r,seen,h,e,he=>by
  rw[Gs,zzac]at h;rcases zzao.1 he with rfl|he
  ·have h1:=h.1;simp only[zZ,zzac,wi,decide_eq_true_eq]at h1;exact⟨h1.1.1,h1.2.2.1,h1.2.2.2.1⟩
  exact GQ h.2 e he
def Dx{p:Pl}(h:rE p=true):VP p:=by
 simp only[rE,zzac]at h;obtain⟨h1,h2,h3,h4,h5⟩:=h;simp only[Jo,zzac,wi,decide_eq_true_eq]at h1;simp only[Sr,zzac,decide_eq_true_eq]at h2;simp only[xU,zzac,decide_eq_true_eq]at h4;refine⟨h1.2.2.2.2.1,h1.2.2.2.2.2,?_,pP h2.2.2.1,GQ h4.2⟩;have hf:=h2.2.2.2;unfold gQ at hf;cases hx:Xk p.fi p.aN with
 |none=>rw[hx]at hf;cases hf
 |some y=>
  rw[hx]at hf;have hb:=X4 (pP h2.2.2.1 y (xQ hx).1);exact⟨y,rfl,Nm hf,zE,zE⟩
def Lg{p:Pl}(h:VP p)(r f n:Int)(hr:0<=r/\r<8)(hn:1<=n/\n<=1000000)(hf:0<=f/\f+n-1<=100000000):Xy p p.fi r f n=true:=by
 obtain⟨y,hy,hk,_⟩:=h.fill;exact(Lh _ _ _ _ _).2 ⟨⟨zE,zE,zE,zE⟩,fun x h1 h2=>⟨y,hy,hr,zE,.inl hk⟩⟩
def Qbv{p:Pl}(h:VP p)(hl:p.ln<=1000000)(x:Int×Int)(hx:0<=x.1/\1<=x.2/\x.2<=Yh p/\x.1+x.2<=p.ln):Y8 p (Vg p x)=true:=by
 obtain⟨y,hy,hk,hy1,hy2⟩:=h.fill;have hff:Yh p=y.fr:=by simp only[Yh,hy]
 rw[hff]at hx;have hre:(Vg p x).re=F8 p:=rfl
 have hm:asV p (Vg p x)=F8 p:=by
  refine yl _ fun i hi=>?_;exact Lg h i x.1 x.2 zE zE zE
 have NW:=h.rg;have h1:GN (F8 p)=1:=ZA (n:=(min p.rg 8).toNat) zE rfl;have h2:aeU (F8 p) (F8 p)=0:=Q4 (GP _ _ zE);have hw:IntKind.i64.wrap (y.fr-x.2)=y.fr-x.2:=by rw[Ql]<;>omega
 have cU:(Vg p x).it=p.fi:=rfl;have zJ:(Vg p x).fr=x.2:=rfl;have hi0:(Vg p x).i=0:=rfl;have fR:(Vg p x).al=[]:=rfl;rw[Y8,cU,hy];simp only;rw[hm,hre,zJ,hi0,fR,hw,h1,h2,if_neg zE,if_neg zE];simp[Y7]
def ZB{lo up:Int}{ks:Pi}(h:Ku lo up none ks=true):ks.Pairwise (·<·)/\∀k∈ks,lo<=k/\k<=up:=by
 obtain⟨h1,h2⟩:=kU h;exact⟨h1,fun k hk=>⟨(h2 k hk).1,(h2 k hk).2.1⟩⟩
