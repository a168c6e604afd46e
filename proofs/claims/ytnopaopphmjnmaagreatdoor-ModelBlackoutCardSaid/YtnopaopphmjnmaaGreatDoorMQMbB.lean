import Derived.Test.YtnopaopphmjnmaaGreatDoorMQMN
import Derived.Test.YtnopaopphmjnmaaGreatDoorMQMT
set_option linter.all false
set_option maxRecDepth 100000
set_option maxHeartbeats 64000000
namespace Go.Proofs.YtnopaopphmjnmaaGreatDoor
open Go Go.Abs
def th(f:Int)(e:bE):Bool:=decide (e.st<=f/\f<e.st+e.fr)
def Ul(e:bE):Prop:=(0<=e.st/\e.st<=1000000)/\(0<=e.fr/\e.fr<=1000000)/\(0<=e.i/\e.i<=1000000)/\e.al.length<=8796093022208
def ig(f:Int):List bE->Nat->Int
 |[],_=> -1
 |e::r,i=>if th f e=true then i else ig f r (i+1)
def zy(f:Int):List bE->Option bE
 |[]=>none
 |e::r=>if th f e=true then some e else zy f r
def yp{f:Int}:∀{L:List bE}{i:Nat},zy f L=none->ig f L i= -1
 |[],_,_=>rfl
 |a::r,i,h=>by
  simp only[zy]at h;split at h
  ·cases h
  rename_i hn;simp only[ig,if_neg hn];exact yp h
def yq{f:Int}{a:bE}:∀{L:List bE}{i:Nat},zy f L=some a->∃k:Nat,ig f L i=((i+k:Nat):Int)/\L[k]?=some a/\th f a=true
 |[],_,h=>by cases h
 |b::r,i,h=>by
  simp only[zy]at h;split at h
  ·rename_i hb;cases h;exact⟨0,by simp[ig,hb],rfl,hb⟩
  rename_i hn;obtain⟨k,h1,h2,h3⟩:=yq (i:=i+1) h;exact⟨k+1,by simp only[ig,if_neg hn,h1];omega,by simpa using h2,h3⟩
def Mi(f:Int):Nat->FuncId->List AV->AV:=fun _ _ l=>match l with
 |[.agg [_,_,.int _ st,.int _ fr,_,_,_],_]=>.bool (decide (st<=f/\f<st+fr))
 |_=>.junk
def UE(f:Int):Option bE->AV
 |none=>aas
 |some e=>.aZ [.agg (Qe e),I (e.i+f-e.st),.bool true]
open Go Go.Abs
structure Cue where
 id:Int
 fr:Int
 to:Int
 pr:Int
 tx:ByteArray
def Qi(c:Cue):List AV:=[I c.id,I c.fr,I c.to,I c.pr,.str c.tx]
structure Pg where
 p:Pl
 ev:List bE
 cu:List Cue
 ed:Int
 dr:List Int
 ve:Int
def Qm(g:Pg):List AV:=Qa g.p++[.sl .ro (g.ev.map Qe),.sl .ro (g.cu.map Qi),I g.ed,.sl .ro (g.dr.map Qy),I g.ve]
structure Od where
 sq:Int
 ch:Int
 fr:Int
 ki:Int
 en:Int
 n:Int
 nw:En
 cl:Cl
 cu:Cue
def Qp(o:Od):List AV:=[I o.sq,I o.ch,I o.fr,I o.ki,I o.en,I o.n]++(Qd o.nw++(Qg o.cl++Qi o.cu))
def Hq(pre a r bs:List AV)(h:bs.length=a.length):setA (pre++(a++r)) pre.length bs=pre++(bs++r):=by
 induction bs generalizing pre a with
 |nil=>cases a with
  |nil=>rfl
  |cons _ _=>simp at h
 |cons x bs ih=>cases a with
  |nil=>simp at h
  |cons y a=>
   rw[setA];have e:(pre++(y::a++r)).set pre.length x=(pre++[x])++(a++r):=zd
   rw[e];have:=ih (pre++[x]) a (by simpa using h);rw[show(pre++[x]).length=pre.length+1 by simp]at this;rw[this];simp
theorem j4(l:List AV)(o:Nat):setA l o []=l:=rfl
def yt(y:AV):∀(xs l:List AV)(n:Nat),setA (y::l) (n+1) xs=y::setA l n xs
 |[],_,_=>rfl
 |x::xs,l,n=>by
  rw[setA,setA,zzdz];exact yt y xs _ _
def j5(y x:AV)(xs l:List AV):setA (y::l) 0 (x::xs)=x::setA l 0 xs:=by
 rw[setA,List.set_cons_zero,yt]
def Qae{sz:Nat}:∀{rows:List (List AV)},(∀r∈rows,r.length=sz)->rows.flatten.length=rows.length*sz
 |[],_=>zd
 |a::r,h=>by
  have:=Qae (rows:=r) fun x hx=>h x (by simp[hx]);rw[zzcl,zzai,this,h a zd,zzbe,zzhu];omega
def Ju{sz:Nat}:∀{rows:List (List AV)},(∀r∈rows,r.length=sz)->bh sz rows.length rows.flatten=rows
 |[],_=>rfl
 |a::r,h=>by
  have ha:=h a zd;have ih:=Ju (rows:=r) fun x hx=>h x (by simp[hx]);rw[zzbe,xb,zzcl,List.take_append_of_le_length zE,zzdv zE,zzap zE,List.drop_of_length_le zE,zzah,ih]
def BI{sz:Nat}:∀{rows:List (List AV)}{i:Nat}{row:List AV},(∀r∈rows,r.length=sz)->rows[i]?=some row->∃pre r,rows.flatten=pre++(row++r)/\pre.length=i*sz
 |[],i,row,_,h=>by simp at h
 |a::r,0,row,h,hi=>by simp at hi;subst hi;exact⟨[],r.flatten,zd,zd⟩
 |a::r,i+1,row,h,hi=>by
  obtain⟨p,q,h1,h2⟩:=BI (rows:=r) (fun x hx=>h x (by simp[hx])) (by simpa using hi);have ha:=h a zd;exact⟨a++p,q,by rw[zzcl,h1,zzb],by rw[zzai,h2,ha,zzhu];omega⟩
def lG{sz:Nat}{rows:List (List AV)}{i:Nat}{row:List AV}(h:∀r∈rows,r.length=sz)(hi:rows[i]?=some row):(∃r,rows.flatten.drop (i*sz)=row++r)/\setA rows.flatten (i*sz) row=rows.flatten:=by
 obtain⟨p,q,h1,h2⟩:=BI h hi;refine⟨⟨q,by rw[h1,<- h2,zzfq]⟩,?_⟩;rw[h1,<- h2];exact Hq p row q row rfl
def fD{α:Type}{f:α->List AV}(h:∀a,Zj (f a)=true)(l:List α):Zj (l.map f).flatten=true:=by
 induction l with
 |nil=>rfl
 |cons a r ih=>rw[zzay,zzcl];exact R8 (h a) ih
def Qbb{α:Type}{f:α->List AV}{sz:Nat}(h:∀a,(f a).length=sz)(l:List α):∀r∈l.map f,r.length=sz:=by
 intro r hr;simp only[zzax]at hr;obtain⟨a,_,rfl⟩:=hr;exact h a
def qf(l:List Sp)(h:l.length<=8796093022208):Pure Tryz.prog aA 124 [.sl .ro (l.map Qf)] (.sl .ro (l.map Qf)):=by
 refine Qo adb (fun _ _ _=>.junk) zd ?_;simp[ah7,ah8];exact⟨by rintro row a b _ rfl;rfl,zE⟩
def qg(l:List It)(h:l.length<=1000000000):Pure Tryz.prog aA 125 [.sl .ro (l.map Qn)] (.sl .ro (l.map Qn)):=by
 refine Qo ade (fun _ _ _=>.junk) zd ?_;simp[ah9,aia];exact⟨fun _ _=>rfl,zE⟩
def qh(l:List Bk)(h:l.length<=1000000000):Pure Tryz.prog aA 128 [.sl .ro (l.map Xg)] (.sl .ro (l.map Xg)):=by
 refine Qo adg (fun _ _ _=>.junk) zd ?_;simp[aid,aie];exact⟨fun _ _=>rfl,zE⟩
def DU(l:List Cl)(h:l.length<=1000000000):Pure Tryz.prog aA 129 [.sl .ro (l.map Qg)] (.sl .ro (l.map Qg)):=by
 refine Qo NK (fun _ _ _=>.junk) zd ?_;simp[U8,U9];exact⟨fun _ _=>rfl,zE⟩
def Pt(l:List Sp)(h:l.length<=8796093022208):Pure Tryz.prog aA 152 [.sl .ro (l.map Qf)] (.sl .ro (l.map Qf)):=by
 refine Qo adp (fun _ _ _=>.junk) zd ?_;simp[aio,aip];exact⟨by rintro row a b _ rfl;rfl,zE⟩
def agl(l:List Cue)(h:l.length<=1000000000):Pure Tryz.prog aA 153 [.sl .ro (l.map Qi)] (.sl .ro (l.map Qi)):=by
 refine Qo adq (fun _ _ _=>.junk) zd ?_;simp[aiq,air];exact⟨fun _ _=>rfl,zE⟩
def agm(l:List Int)(h:l.length<=1000000000):Pure Tryz.prog aA 154 [.sl .ro (l.map Qy)] (.sl .ro (l.map Qy)):=by
 refine Qo adr (fun _ _ _=>.junk) zd ?_;simp[ais,ait];exact⟨fun _ _=>rfl,zE⟩
def Wv(e:En)(h:e.al.length<=8796093022208):Pure Tryz.prog aA 127 [.agg (Qd e)] (.agg (Qd e)):=by
 have k:=Pt e.al h;refine Qo adf (fun _ _ l=>l.headD .junk) zd ?_;simp[aib,aic,Qd];exact k
def agn:Nat->FuncId->List AV->AV:=fun _ f _=>if f=999999 then .aL 0 []else .junk
def yu(Y:YT)(rows:List (List AV))(h:∀r∈rows,r.length=7)(hl:rows.length<=1000000000)(aM:rows≠[])(m:AM)(K:AV->AM->Prop)(hK:K (.bs m.boxes.length 0 rows.length 7) {m with boxes:=m.boxes++[rows.flatten]}):
  an Tryz.prog aA Y 126 [.sl .ro rows] m K:=by
 refine Xd Cr agn zd ?_;simp[NI,NJ,agn,aM];exact⟨⟨zE,h⟩,hK⟩
def aat(Y:YT)(rows:List (List AV))(h:∀r∈rows,r.length=7)(hl:rows.length<=1000000000)(aM:rows≠[])(m:AM)(K:AV->AM->Prop)(hK:K (.bs m.boxes.length 0 rows.length 7) {m with boxes:=m.boxes++[rows.flatten]}):
  an Tryz.prog aA Y 151 [.sl .ro rows] m K:=by
 refine Xd NS agn zd ?_;simp[VL,VM,agn,aM];exact⟨⟨zE,h⟩,hK⟩
def Hr:Pure Tryz.prog aA 126 [.sl .ro []] (.sl .ro []):=by
 refine Qo Cr (fun _ _ _=>.junk) zd ?_;simp[NI,NJ]
def aau:Pure Tryz.prog aA 151 [.sl .ro []] (.sl .ro []):=by
 refine Qo NS (fun _ _ _=>.junk) zd ?_;simp[VL,VM]
open Go Go.Abs
def Kr(p:Pl):Nat->FuncId->List AV->AV:=fun _ f l=>if f=126 then(if p.ens=[]then .sl .ro []else .gd false .junk)else l.headD .junk
def BJ(p:Pl):Prop:=p.sh.length<=1000000/\p.aN.length<=1000000/\p.ens.length<=1000000/\p.bks.length<=1000000/\p.cls.length<=1000000/\∀e∈p.ens,e.al.length<=8796093022208
def atO(p:Pl)(m0:List AV)(f:Nat->AV)(m:AM):Prop:=∃(i:Nat)(bx:List (List AV)),f 22=I i/\i<=p.ens.length/\m=⟨[I p.ch,I p.nu,I p.de,I p.of,.sl .ro (p.sh.map Qf),I p.ep,I p.rg,I p.ln,I p.fi,.sl .ro (p.aN.map Qn),.bs 2 0 p.ens.length 7,.sl .ro (p.bks.map Xg),.sl .ro (p.cls.map Qg)]::m0::(p.ens.map Qd).flatten::bx,[],fun _=>.gone,0⟩
def qi(p:Pl)(h:BJ p):Pure Tryz.prog aA 61 [.agg (Qa p)] (.agg (Qa p)):=by
 obtain⟨h1,h2,h3,h4,h5,h6⟩:=h;have k1:=qf p.sh zE;have k2:=qg p.aN zE;have k4:=qh p.bks zE;have k5:=DU p.cls zE;have hsz:=Qbb (f:=Qd) (sz:=7) (fun _=>rfl) p.ens;refine Qo vu (Kr p) zd ?_;by_cases hn:p.ens=[]
 ·have k3:=Hr;simp[J8,Qa,Kr,hn];refine⟨k1,k2,k3,?_⟩;refine Qk eN (fun f m=>f 22=I 0/\m=⟨[I p.ch,I p.nu,I p.de,I p.of,.sl .ro (p.sh.map Qf),I p.ep,I p.rg,I p.ln,I p.fi,.sl .ro (p.aN.map Qn),.sl .ro [],.sl .ro (p.bks.map Xg),.sl .ro (p.cls.map Qg)]::[[I 0,I 0,I 0,I 0,.sl .nil [],I 0,I 0,I 0,I 0,.sl .nil [],.sl .nil [],.sl .nil [],.sl .nil []]],[],fun _=>.gone,0⟩) (fun f _=>0) ?_ ?_
  ·exact⟨zd,zd⟩
  rintro f m ⟨f22,rfl⟩;simp[f22,eN,J9,Kr];exact⟨k4,k5⟩
 have aM:p.ens.map Qd≠[]:=by simpa using hn
 simp[J8,Qa,Kr,hn];refine⟨k1,k2,yu _ _ hsz (by simpa using by omega) aM _ _ ?_⟩;simp;obtain⟨F,hF⟩:∃F,(p.ens.map Qd).flatten=F:=⟨_,rfl⟩;have J1:F.length=p.ens.length*7:=by rw[<- hF,Qae hsz];simp
 have bZ:Zj F=true:=by rw[<- hF];exact fD (fun _=>rfl) _
 have fQ:bh 7 p.ens.length F=p.ens.map Qd:=by have:=Ju hsz;rw[hF]at this;simpa using this
 have Aj:∀m,F.map (bJ m 4)=F:=fun m=>Zp m 3 bZ;rw[hF];refine Qk eN (atO p [I 0,I 0,I 0,I 0,.sl .nil [],I 0,I 0,I 0,I 0,.sl .nil [],.sl .nil [],.sl .nil [],.sl .nil []]) (fun f _=>p.ens.length-(numOf (f 22)).toNat) ?_ ?_
 ·exact⟨0,[],zd,zE,by rw[hF]⟩
 rintro f m ⟨i,bx,f22,hi,rfl⟩;rw[hF];rcases zzaa i p.ens.length with ai|bz
 ·obtain⟨e,he⟩:=aU ai;have aa:(i:Int)<(p.ens.length:Int):=zE
  have hw:=bM i zE;obtain⟨⟨r,hd⟩,ct⟩:=lG hsz (i:=i) (row:=Qd e) (by simp[he]);rw[hF]at hd ct;simp only[Qd,zzad,zzah]at hd ct;have Hs:=Wv e (h6 e (zzac he));simp only[Qd]at Hs;simp[-setA,j4,j5,f22,eN,aa,hd,ct,J1,hw,Kr];refine⟨Hs,zE,aP,⟨i+1,bx++[[I e.id,I e.it,I e.fr,I e.ea,I e.la,I e.bo,.sl .ro (e.al.map Qf)]],zd,zE,by rw[hF]⟩,zE⟩
 obtain rfl:i=p.ens.length:=zE
 simp[f22,eN,J9,Kr,J1,Aj,fQ];exact⟨k4,k5⟩
def PgC(g:Pg):Prop:=BJ g.p/\g.ev.length<=1000000/\g.cu.length<=1000000/\g.dr.length<=1000000/\∀e∈g.ev,e.al.length<=8796093022208
def BK(g:Pg):Nat->FuncId->List AV->AV:=fun _ f l=>if f=151 then(if g.ev=[]then .sl .ro []else .gd false .junk)else l.headD .junk
def lH(g:Pg)(V:AV):List AV:=[I g.p.ch,I g.p.nu,I g.p.de,I g.p.of,.sl .ro (g.p.sh.map Qf),I g.p.ep,I g.p.rg,I g.p.ln,I g.p.fi,.sl .ro (g.p.aN.map Qn),.sl .ro (g.p.ens.map Qd),.sl .ro (g.p.bks.map Xg),.sl .ro (g.p.cls.map Qg),V,.sl .ro (g.cu.map Qi),I g.ed,.sl .ro (g.dr.map Qy),I g.ve]
def atP(g:Pg)(m0:List AV)(f:Nat->AV)(m:AM):Prop:=∃(i:Nat)(bx:List (List AV)),f 16=I i/\i<=g.ev.length/\m=⟨lH g (.bs 2 0 g.ev.length 7)::m0::(g.ev.map Qe).flatten::bx,[],fun _=>.gone,0⟩
def iL:List AV:=[I 0,I 0,I 0,I 0,.sl .nil [],I 0,I 0,I 0,I 0,.sl .nil [],.sl .nil [],.sl .nil [],.sl .nil [],.sl .nil [],.sl .nil [],I 0,.sl .nil [],I 0]
def aav(g:Pg)(h:PgC g):Pure Tryz.prog aA 76 [.agg (Qm g)] (.agg (Qm g)):=by
 obtain⟨h0,h1,h2,h3,h4⟩:=h;have k1:=qi g.p h0;have k3:=agl g.cu zE;have k4:=agm g.dr zE;have hsz:=Qbb (f:=Qe) (sz:=7) (fun _=>rfl) g.ev;simp only[Qa]at k1;refine Qo amf (BK g) zd ?_;by_cases hn:g.ev=[]
 ·have k2:=aau;simp[acE,Qm,Qa,BK,hn];refine⟨k1,k2,?_⟩;refine Qk EZ (fun f m=>f 16=I 0/\m=⟨lH g (.sl .ro [])::[iL],[],fun _=>.gone,0⟩) (fun f _=>0) ?_ ?_
  ·exact⟨zd,by simp[lH,iL]⟩
  rintro f m ⟨f16,rfl⟩;simp[f16,EZ,ame,lH,iL,BK];exact⟨k3,k4⟩
 have aM:g.ev.map Qe≠[]:=by simpa using hn
 simp[acE,Qm,Qa,BK,hn];refine⟨k1,aat _ _ hsz (by simpa using by omega) aM _ _ ?_⟩;simp;obtain⟨F,hF⟩:∃F,(g.ev.map Qe).flatten=F:=⟨_,rfl⟩;have J1:F.length=g.ev.length*7:=by rw[<- hF,Qae hsz];simp
 have bZ:Zj F=true:=by rw[<- hF];exact fD (fun _=>rfl) _
 have fQ:bh 7 g.ev.length F=g.ev.map Qe:=by have:=Ju hsz;rw[hF]at this;simpa using this
 have Aj:∀m,F.map (bJ m 4)=F:=fun m=>Zp m 3 bZ;rw[hF];refine Qk EZ (atP g iL) (fun f _=>g.ev.length-(numOf (f 16)).toNat) ?_ ?_
 ·exact⟨0,[],zd,zE,by rw[hF];rfl⟩
 rintro f m ⟨i,bx,f16,hi,rfl⟩;rw[hF];rcases zzaa i g.ev.length with ai|bz
 ·obtain⟨e,he⟩:=aU ai;have aa:(i:Int)<(g.ev.length:Int):=zE
  have hw:=bM i zE;obtain⟨⟨r,hd⟩,ct⟩:=lG hsz (i:=i) (row:=Qe e) (by simp[he]);rw[hF]at hd ct
  have hs6:F.set (i*7+6) (.sl .ro (e.al.map Qf))=F:=by
   have h7:F[i*7+6]?=some (.sl .ro (e.al.map Qf)):=by
    have:=congrArg (fun l=>l[6]?) hd;simpa[Qe]using this
   apply zzcm;intro j;by_cases hj:i*7+6=j
   ·subst hj;rw[h7,zzba (zza.1 h7).1]
   rw[zzbf hj]
  simp only[Qe,zzad,zzah]at hd;have ayo:=Pt e.al (h4 e (zzac he));simp[f16,EZ,lH,aa,hd,hs6,J1,hw,BK];refine⟨ayo,zE,aP,⟨i+1,bx++[[I e.id,I e.it,I e.st,I e.fr,I e.i,I e.re,.sl .ro (e.al.map Qf)]],zd,zE,by rw[hF];rfl⟩,zE⟩
 obtain rfl:i=g.ev.length:=zE
 simp[f16,EZ,ame,lH,iL,BK,J1,Aj,fQ];exact⟨k3,k4⟩
open Go Go.Abs
def eX(n:Int):Bool:=decide (1<=n)&&decide (n<=1000000)
def Wl(n:Int):Pure Tryz.prog aA 80 [I n] (.bool (eX n)):=by
 refine Qo amj (fun _ _ _=>.junk) zd ?_;by_cases h:1<=n
 ·simp[amh,ami,h,eX]
 simp[amh,ami,h,eX]
def eB:ByteArray:=⟨#[]⟩
def j6(tx:ByteArray):tx.toList=[]<->tx=eB:=by
 obtain⟨⟨l⟩⟩:=tx;rw[ByteArray.toList_eq];simp[eB]
def Jy(o:Od):Bool:=decide (o.en=0/\o.n=0/\o.cl=⟨0,0,0,0,0,0,0,0⟩/\(o.cu.id=0/\o.cu.fr=0/\o.cu.to=0/\o.cu.pr=0/\o.cu.tx=eB)/\o.nw.id=0/\o.nw.it=0/\o.nw.fr=0/\o.nw.ea=0/\o.nw.la=0/\o.nw.bo=0/\o.nw.al=[])
def Mj(o:Od):Pure Tryz.prog aA 81 [.agg (Qp o)] (.bool (Jy o)):=by
 refine Qo amk (fun _ _ _=>.junk) zd ?_;obtain⟨sq,ch,fr,ki,en,n,⟨a1,a2,a3,a4,a5,a6,al⟩,⟨c1,c2,c3,c4,c5,c6,c7,c8⟩,⟨d1,d2,d3,d4,tx⟩⟩:=o;simp[ap8,ap9,Qp,Qd,Qg,Qi];rw[zzbv];simp[Jy,j6,and_assoc]
def yw(r:Int):List Sp->Bool
 |[]=>true
 |a::l=>if r<a.1/\a.1<=7/\eX a.2=true then yw a.1 l else false
def zz(e:En):Bool:=eX e.id&&eX e.it&&decide (1<=e.fr/\e.fr<=100000000)&&decide (0<=e.ea/\e.ea<=e.la/\e.la<=100000000)&&(decide (e.bo=0)||eX e.bo)&&yw 0 e.al
def akL(e:En)(f:Nat->AV)(m:AM):Prop:=∃(i:Nat)(r:Int)(bx:List (List AV)),f 53=I i/\i<=e.al.length/\f 3=I r/\yw 0 e.al=yw r (e.al.drop i)/\m=⟨Qd e::bx,[],fun _=>.gone,0⟩
def Vk:Nat->FuncId->List AV->AV:=fun _ f l=>match l with|[.int _ n]=>.bool (eX n)|_=>.junk
def uy(e:En)(hl:e.al.length<=8796093022208):Pure Tryz.prog aA 82 [.agg (Qd e)] (.bool (zz e)):=by
 have q1:=Wl e.id;have q2:=Wl e.it;have q3:=Wl e.bo;refine Qo aml Vk zd ?_;cases h1:eX e.id with
 |false=>rw[h1]at q1;simp[tX,iV,Qd,Vk,h1,zz];exact q1
 |true=>
  rw[h1]at q1;cases h2:eX e.it with
  |false=>rw[h2]at q2;simp[tX,iV,Qd,Vk,h1,h2,zz];exact⟨q1,q2⟩
  |true=>
   rw[h2]at q2;by_cases h3:e.fr<1
   ·have:¬1<=e.fr:=zE
    simp[tX,iV,Qd,Vk,h1,h2,h3,zz,this];exact⟨q1,q2⟩
   by_cases h4:100000000<e.fr
   ·have:¬e.fr<=100000000:=zE
    simp[tX,iV,Qd,Vk,h1,h2,h3,h4,zz,this];exact⟨q1,q2⟩
   have e34:1<=e.fr/\e.fr<=100000000:=zE
   by_cases h5:e.ea<0
   ·have:¬0<=e.ea:=zE
    simp[tX,iV,Qd,Vk,h1,h2,h3,h4,h5,zz,this];exact⟨q1,q2⟩
   by_cases h6:e.la<e.ea
   ·have:¬e.ea<=e.la:=zE
    simp[tX,iV,Qd,Vk,h1,h2,h3,h4,h5,h6,zz,this];exact⟨q1,q2⟩
   by_cases h7:100000000<e.la
   ·have:¬e.la<=100000000:=zE
    simp[tX,iV,Qd,Vk,h1,h2,h3,h4,h5,h6,h7,zz,this];exact⟨q1,q2⟩
   have ayp:0<=e.ea/\e.ea<=e.la/\e.la<=100000000:=zE
   by_cases h8:e.bo≠0/\eX e.bo=false
   ·obtain⟨h8,h9⟩:=h8;rw[h9]at q3;have h8':(e.bo !=0)=true:=by simpa using h8
    simp[tX,iV,Qd,Vk,h1,h2,h3,h4,h5,h6,h7,h8,h8',h9,zz];exact⟨q1,q2,q3⟩
   have hb:(decide (e.bo=0)||eX e.bo)=true:=by
    by_cases hb:e.bo=0
    ·simp[hb]
    cases h9:eX e.bo with
    |true=>simp
    |false=>exact absurd ⟨hb,h9⟩ h8
   have hv:zz e=yw 0 e.al:=by simp only[zz,h1,h2,e34,ayp,hb,zzdu,and_self,decide_true]
   rw[hv]
   have hbo:(e.bo=0)\/(e.bo≠0/\eX e.bo=true):=by
    by_cases dV:e.bo=0
    ·exact .inl dV
    exact .inr ⟨dV,by simpa[dV]using hb⟩
   obtain dV|⟨dV,mM⟩:=hbo
   ·simp[tX,Qd,Vk,h1,h2,h3,h4,h5,h6,h7,dV];refine⟨q1,q2,?_⟩;clear q1 q2 q3;refine Qk gU (akL e) (fun f _=>e.al.length-(numOf (f 53)).toNat) ?_ ?_
    ·exact⟨0,0,[],zd,zE,zd,zd,by simp[Qd,dV]⟩
    rintro f m ⟨i,r,bx,f53,hi,f3,hr,rfl⟩;rcases zzaa i e.al.length with ai|bz
    ·obtain⟨a,ha⟩:=aU ai;have ah:=Zf ha;have aa:(i:Int)<(e.al.length:Int):=zE
     have hw:=bM i zE;have hd:e.al.drop i=a::e.al.drop (i+1):=by rw[zzaf ai,(zza.1 ha).2]
     rw[hd,yw]at hr;have qa:=Wl a.2;by_cases d1:a.1<=r
     ·rw[if_neg zE]at hr;simp[f53,f3,gU,iV,Qd,aa,ah,d1,hr,Vk]
     by_cases d2:7<a.1
     ·rw[if_neg zE]at hr;simp[f53,f3,gU,iV,Qd,aa,ah,d1,d2,hr,Vk]
     cases d3:eX a.2 with
     |false=>
      rw[d3]at qa;rw[if_neg (by simp[d3])]at hr;simp[f53,f3,gU,iV,Qd,aa,ah,d1,d2,d3,hr,Vk];exact qa
     |true=>
      rw[d3]at qa;rw[if_pos ⟨zE,zE,d3⟩]at hr;simp[f53,f3,gU,Qd,aa,ah,d1,d2,d3,hw,Vk];refine⟨qa,aP,⟨i+1,a.1,bx++[[I a.1,I a.2]],zd,zE,zd,hr,by simp[Qd]⟩,zE⟩
    obtain rfl:i=e.al.length:=zE
    simp[f53,f3,gU,iV,hr,yw]
   rw[mM]at q3;have afG:(e.bo !=0)=true:=by simpa using dV
   simp[tX,Qd,Vk,h1,h2,h3,h4,h5,h6,h7,afG,mM];refine⟨q1,q2,q3,?_⟩;clear q1 q2 q3;refine Qk gU (akL e) (fun f _=>e.al.length-(numOf (f 53)).toNat) ?_ ?_
   ·exact⟨0,0,[],zd,zE,zd,zd,by simp[Qd]⟩
   rintro f m ⟨i,r,bx,f53,hi,f3,hr,rfl⟩;rcases zzaa i e.al.length with ai|bz
   ·obtain⟨a,ha⟩:=aU ai;have ah:=Zf ha;have aa:(i:Int)<(e.al.length:Int):=zE
    have hw:=bM i zE;have hd:e.al.drop i=a::e.al.drop (i+1):=by rw[zzaf ai,(zza.1 ha).2]
    rw[hd,yw]at hr;have qa:=Wl a.2;by_cases d1:a.1<=r
    ·rw[if_neg zE]at hr;simp[f53,f3,gU,iV,Qd,aa,ah,d1,hr,Vk]
    by_cases d2:7<a.1
    ·rw[if_neg zE]at hr;simp[f53,f3,gU,iV,Qd,aa,ah,d1,d2,hr,Vk]
    cases d3:eX a.2 with
    |false=>
     rw[d3]at qa;rw[if_neg (by simp[d3])]at hr;simp[f53,f3,gU,iV,Qd,aa,ah,d1,d2,d3,hr,Vk];exact qa
    |true=>
     rw[d3]at qa;rw[if_pos ⟨zE,zE,d3⟩]at hr;simp[f53,f3,gU,Qd,aa,ah,d1,d2,d3,hw,Vk];refine⟨qa,aP,⟨i+1,a.1,bx++[[I a.1,I a.2]],zd,zE,zd,hr,by simp[Qd]⟩,zE⟩
   obtain rfl:i=e.al.length:=zE
   simp[f53,f3,gU,iV,hr,yw]
open Go Go.Abs
def uz(s:ByteArray)(i:Nat):Nat:=(s.data.toList.getD i 0).toNat
def rU(s:ByteArray)(i:Nat)(h:i<s.size):(s.data[i]'h).toNat=uz s i:=by
 have h':i<s.data.size:=h;simp only[uz,zzar,zzce,zzaj h',zzha]
def Ht(s:ByteArray)(n i:Nat):Bool:=match n with
 |0=>true
 |n+1=>if uz s i<32\/126<uz s i then false else Ht s n (i+1)
def Sy(s:ByteArray):Bool:=Ht s s.size 0
def atQ(s:ByteArray)(f:Nat->AV)(m:AM):Prop:=∃i:Nat,f 3=I i/\i<=s.size/\Sy s=Ht s (s.size-i) i/\m=⟨[],[],fun _=>.gone,0⟩
def yx(s:ByteArray)(h:s.size<=1000000):Pure Tryz.prog aA 245 [.str s] (.bool (Sy s)):=by
 refine Qo aek (fun _ _ _=>.junk) zd ?_;simp[WA];refine Qk vR (atQ s) (fun f _=>s.size-(numOf (f 3)).toNat) ?_ ?_
 ·exact⟨0,zd,zE,rfl,rfl⟩
 rintro f m ⟨i,f3,hi,hr,rfl⟩;rcases zzaa i s.size with ai|bz
 ·have aa:(i:Int)<(s.size:Int):=zE
  have hw:=bM i zE;obtain⟨n,hn⟩:∃n,s.size-i=n+1:=⟨s.size-i-1,zE⟩;have hb:=rU s i ai;rw[hn,Ht]at hr;by_cases h1:uz s i<32
  ·rw[if_pos (.inl h1)]at hr;have oV:((uz s i:Nat):Int)<32:=zE
   simp[f3,vR,Oc,ai,aa,hr,hb,oV]
  have oV:¬((uz s i:Nat):Int)<32:=zE
  by_cases h2:126<uz s i
  ·rw[if_pos (.inr h2)]at hr;have EH:(126:Int)<((uz s i:Nat):Int):=zE
   simp[f3,vR,Oc,ai,aa,hr,hb,oV,EH]
  rw[if_neg zE]at hr;have EH:¬(126:Int)<((uz s i:Nat):Int):=zE
  simp[f3,vR,ai,aa,hw,hb,oV,EH];refine⟨aP,⟨i+1,zd,zE,by rw[hr];congr 1;omega,rfl⟩,zE⟩
 obtain rfl:i=s.size:=zE
 rw[zzdi,Ht]at hr;simp[f3,vR,Oc,hr]
def ij(s:ByteArray)(i:Nat):Option Nat->List ByteArray
 |none=>[]
 |some f=>[s.extract f i]
def wdS(s:ByteArray):Nat->Nat->Option Nat->List ByteArray
 |0,i,first=>ij s i first
 |n+1,i,first=>if uz s i≠32 then wdS s n (i+1) (some (first.getD i))else ij s i first++wdS s n (i+1) none
def Uo(s:ByteArray):List ByteArray:=wdS s s.size 0 none
def DV(s:ByteArray)(i:Nat)(first:Option Nat):List ByteArray:=if i<=s.size then wdS s (s.size-i) i first else[]
def Hu{s:ByteArray}{i:Nat}(first:Option Nat)(h:i<s.size)(hb:uz s i≠32):DV s i first=DV s (i+1) (some (first.getD i)):=by
 obtain⟨n,hn⟩:∃n,s.size-i=n+1:=⟨s.size-i-1,zE⟩;rw[DV,if_pos zE,DV,if_pos zE,hn,wdS,if_pos hb,show s.size-(i+1)=n by omega]
def DW{s:ByteArray}{i:Nat}(first:Option Nat)(h:i<=s.size)(hb:i<s.size->uz s i=32):DV s i first=ij s i first++DV s (i+1) none:=by
 by_cases hi:i=s.size
 ·subst hi;have:DV s (s.size+1) none=[]:=by rw[DV,if_neg zE]
  rw[this,DV,if_pos zE,zzdi,wdS,zzau]
 obtain⟨n,hn⟩:∃n,s.size-i=n+1:=⟨s.size-i-1,zE⟩;have:DV s (i+1) none=wdS s n (i+1) none:=by rw[DV,if_pos zE,show s.size-(i+1)=n by omega]
 rw[this,DV,if_pos h,hn,wdS,if_neg (by simp[hb zE])]
def Pu:Option Nat->Int
 |none=> -1
 |some k=>k
def Mk(s:ByteArray):Pure Tryz.prog aA 246 [.str s] (.fn 303 [] [.ep [.str s] 0]):=by
 refine Qo ael (fun _ _ _=>.junk) zd ?_;simp[ai6,ai7]
def atS(Y:YT)(lp:Nat)(K:AM->Prop)(s:ByteArray)(f:Nat->AV)(m:AM):Prop:=∃(i:Nat)(first:Option Nat),f 4=I i/\i<=s.size+1/\f 3=I (Pu first)/\(∀k,first=some k->k<=i/\i<=s.size)/\xd (Y lp) K ((DV s i first).map fun w=>[.str w]) m
def Ml(s:ByteArray)(h:s.size<=1000000):Iter Tryz.prog aA 303 [] [.ep [.str s] 0] ((Uo s).map fun w=>[.str w]):=by
 intro Y lp m K hF;refine Xd aeO (fun _ _ _=>.junk) zd ?_;simp[WO,ajy];refine Qk je (atS Y lp K s) (fun f _=>s.size+1-(numOf (f 4)).toNat) ?_ ?_
 ·exact⟨0,none,zd,zE,by simp[Pu],⟨fun k(hk:none=some k)=>(by cases hk),by simpa[DV,Uo]using hF⟩⟩
 rintro f m ⟨i,first,f4,hi,f3,CU,hr⟩;rcases zzaa s.size i with pe|cw
 ·have bL:¬(i:Int)<=(s.size:Int):=zE
  rw[DV,if_neg zE]at hr;simp[f4,je,bL];exact hr m (fR.refl m)
 have ago:(i:Int)<=(s.size:Int):=zE
 have hw:=bM i zE;by_cases hb:i<s.size/\uz s i≠32
 ·obtain⟨ai,hb⟩:=hb;have aa:(i:Int)<(s.size:Int):=zE
  have EJ:=rU s i ai;have hbI:¬((uz s i:Nat):Int)=32:=zE
  rw[Hu first ai hb]at hr;cases first with
  |none=>
   simp[f4,f3,Pu,je,ago,ai,aa,EJ,hbI,hw];refine⟨aP,⟨i+1,some i,zd,zE,by simp[Pu],⟨fun k(hk:some i=some k)=>(by cases hk;omega),hr⟩⟩,zE⟩
  |some k=>
   have RF:¬(k:Int)<0:=zE
   obtain⟨dw,dD⟩:=CU k rfl;simp[f4,f3,Pu,je,ago,ai,aa,EJ,hbI,hw,RF];refine⟨aP,⟨i+1,some k,zd,zE,by simp[Pu],⟨fun k'(hk:some k=some k')=>(by cases hk;omega),hr⟩⟩,zE⟩
 have cO:i<s.size->uz s i=32:=fun h=>Classical.byContradiction fun h2=>hb ⟨h,h2⟩;rw[DW first cw cO]at hr;cases first with
 |none=>
  simp only[ij,zzah]at hr;rcases zzaa i s.size with ai|bz
  ·have aa:(i:Int)<(s.size:Int):=zE
   have EJ:=rU s i ai;have Hv:=cO ai;simp[f4,f3,Pu,je,ago,ai,aa,EJ,Hv,hw];refine⟨aP,⟨i+1,none,zd,zE,by simp[Pu],⟨fun k(hk:none=some k)=>(by cases hk),hr⟩⟩,zE⟩
  obtain rfl:i=s.size:=zE
  simp[f4,f3,Pu,je,hw];refine⟨aP,⟨s.size+1,none,zd,zE,by simp[Pu],⟨fun k(hk:none=some k)=>(by cases hk),hr⟩⟩⟩
 |some k=>
  obtain⟨dw,dD⟩:=CU k rfl;have RF:(0:Int)<=(k:Int):=zE
  simp only[ij,zzad,zzah,zzay]at hr;rcases zzaa i s.size with ai|bz
  ·have aa:(i:Int)<(s.size:Int):=zE
   have EJ:=rU s i ai;have Hv:=cO ai;simp[f4,f3,Pu,je,ago,ai,aa,EJ,Hv,hw,RF,dw];refine hr m (fR.refl m) _ (fun m2 h2=>?_) (fun m2 h2=>?_)
   ·simp;refine⟨aP,⟨i+1,none,zd,zE,by simp[Pu],⟨fun k(hk:none=some k)=>(by cases hk),h2⟩⟩,zE⟩
   simp;exact h2 m2 (fR.refl m2)
  obtain rfl:i=s.size:=zE
  simp[f4,f3,Pu,je,hw,RF,dw];refine hr m (fR.refl m) _ (fun m2 h2=>?_) (fun m2 h2=>?_)
  ·simp;refine⟨aP,⟨s.size+1,none,zd,zE,by simp[Pu],⟨fun k(hk:none=some k)=>(by cases hk),h2⟩⟩⟩
  simp;exact h2 m2 (fR.refl m2)
open Go Go.Abs
def Xo(n:Int):Prop:= -9223372036854775808<=n/\n<=9223372036854775807
def OKP(p:Pl):Prop:=∀e∈p.ens,e.al.length<=8796093022208
open Go Go.Abs
def aaw(p:Pl)(e:bE):Int->List Sp->Bool
 |_,[]=>true
 |last,a::r=>match Xh a.2 p.aN with
  |none=>false
  |some y=>if a.1<=last\/p.rg<=a.1\/y.fr<IntKind.i64.wrap (e.i+e.fr)then false else if Xt p a.2 a.1 e.st e.fr=false then false else aaw p e a.1 r
def atT(p:Pl)(e:bE):Int:=Un (fun i=>Xt p e.it i e.st e.fr) (min p.rg 8).toNat
def Hw(a:Int):Int:=IntKind.i64.wrap (((a%2 ^ IntKind.i64.bits).toNat&&& ((1:Int)%2 ^ IntKind.i64.bits).toNat:Nat):Int)
def agp(a b:Int):Int:=IntKind.i64.wrap (((a%2 ^ IntKind.i64.bits).toNat&&& (2 ^ IntKind.i64.bits-1-(b%2 ^ IntKind.i64.bits).toNat):Nat):Int)
def aax(p:Pl)(e:bE):Bool:=match Xh e.it p.aN with
 |none=>false
 |some x=>if e.fr<1\/e.i<0\/x.fr<e.fr\/IntKind.i64.wrap (x.fr-e.fr)<e.i then false else
  if Hw e.re=0\/agp e.re (atT p e)≠0 then false else aaw p e 0 e.al&&(decide (e.id≠0)||(decide (e.it=p.fi)&&decide (e.al=[])))
open Go Go.Abs
def agq(x r n:Nat)(h:r<n):((x+2 ^ n)/2 ^ r)%2=(x/2 ^ r)%2:=by
 obtain⟨k,rfl⟩:∃k,n=r+(k+1):=⟨n-r-1,zE⟩;have e:2 ^ (r+(k+1))=2 ^ r*(2*2 ^ k):=by rw[Nat.pow_add,zzhw,zzeg (2 ^ k) 2]
 rw[e,Nat.add_mul_div_left _ _ (Nat.two_pow_pos r),Nat.add_mul_mod_self_left]
def oe(b:Nat->Bool):Nat->Nat
 |0=>0
 |n+1=>oe b n+if b n then 2 ^ n else 0
def va(b:Nat->Bool):∀n,oe b n<2 ^ n
 |0=>by simp[oe]
 |n+1=>by
  have:=va b n;rw[oe,zzhw];split<;>omega
def DX(b:Nat->Bool):∀n,Un b n=(oe b n:Int)
 |0=>rfl
 |n+1=>by
  rw[Un,oe,DX b n];split
  ·push_cast;rfl
  simp
def yy(b:Nat->Bool)(r:Nat):∀n,(oe b n).testBit r=(decide (r<n)&&b r)
 |0=>by simp[oe]
 |n+1=>by
  have ih:=yy b r n;have ai:=va b n;rw[oe];by_cases hb:b n=true
  ·rw[if_pos hb];rcases zzeb r n with h|h|h
   ·rw[zzdm,agq _ _ _ h,<- zzdm,ih];simp[h,Nat.lt_succ_of_lt h]
   ·subst h
    have:(oe b r+2 ^ r)/2 ^ r=1:=by
     rw[Nat.add_div_right _ (Nat.two_pow_pos r),zzey ai]
    rw[zzdm,this];simp[hb]
   have:oe b n+2 ^ n<2 ^ r:=by
    have:2 ^ (n+1)<=2 ^ r:=zzfa zE h;rw[zzhw]at this;omega
   rw[Nat.testBit_lt_two_pow this];simp;intro h2;omega
  rw[if_neg hb,zzcq,ih];by_cases h:r=n
  ·subst h;simp[hb]
  have:decide (r<n)=decide (r<n+1):=decide_eq_decide.2 zE;rw[this]
def an0(x:Int)(r:Nat):Bool:=x.toNat.testBit r
def aay(b:Nat->Bool)(n r:Nat):an0 (Un b n) r=(decide (r<n)&&b r):=by
 unfold an0;rw[DX,zzes,yy]
def Hy(b:Nat->Bool)(n:Nat)(hn:n<=8):0<=Un b n/\Un b n<256:=by
 have:=va b n;rw[DX];have h2:2 ^ n<=2 ^ 8:=zzfa zE hn;omega
def atU(x:Int)(h:0<=x/\x<256):(x%2 ^ IntKind.i64.bits).toNat=x.toNat:=by
 have:(2:Int) ^ IntKind.i64.bits=18446744073709551616:=by decide
 rw[this,Int.emod_eq_of_lt h.1 zE]
def aaz(x:Int)(h:0<=x/\x<256):Hw x=x%2:=by
 unfold Hw;rw[atU x h,atU 1 zE];have:x.toNat&&& (1:Int).toNat=x.toNat%2:=Nat.and_one_is_mod _;rw[this,Qj]<;>omega
open Go Go.Abs
def SA{x:Int}(h:0<=x/\x<256):agp x x=0:=by
 have key:∀n:Nat,n<256->agp (n:Int) (n:Int)=0:=by decide+kernel
 have:=key x.toNat zE;rwa [zzgg h.1]at this
def yz{b c:Nat->Bool}:∀(n:Nat),(∀i,i<n->b i=c i)->Un b n=Un c n
 |0,_=>rfl
 |n+1,h=>by rw[Un,Un,yz n (fun i hi=>h i zE),h n zE]
def aaA{b:Nat->Bool}{n:Nat}(hn:1<=n/\n<=8)(h0:b 0=true):Hw (Un b n)=1:=by
 have hb:=Hy b n hn.2;rw[aaz _ hb];have h1:=aay b n 0;rw[h0]at h1;have h2:decide (0<n)=true:=by simp;omega
 rw[h2]at h1;simp only[an0,Nat.testBit_zero,zzgn,decide_eq_true_eq]at h1;omega
structure VP (p:Pl):Prop where
 rg:1<=p.rg/\p.rg<=8
 ln:1<=p.ln/\p.ln<=100000000
 fill:∃y,Xh p.fi p.aN=some y/\y.ki=5/\1<=y.fr/\y.fr<=100000000
 aN:∀y∈p.aN,Up y=true
 ens:∀e∈p.ens,1<=e.id/\jX p e=true/\mW p e=true
def Hz{p:Pl}:∀{l:List En}{seen:List Int},G3 p seen l=true->∀e∈l,1<=e.id/\jX p e=true/\mW p e=true
 |x::r,seen,h,e,he=>by
  rw[G3,zzak]at h;rcases zzat.1 he with rfl|he
  ·have h1:=h.1;simp only[Ae,zzak,wi,decide_eq_true_eq]at h1;exact⟨h1.1.1,h1.2.2.1,h1.2.2.2.1⟩
  exact Hz h.2 e he
def rV{p:Pl}(h:oa p=true):VP p:=by
 simp only[oa,zzak]at h;obtain⟨h1,h2,h3,h4,h5⟩:=h;simp only[Js,zzak,wi,decide_eq_true_eq]at h1;simp only[UA,zzak,decide_eq_true_eq]at h2;simp only[yb,zzak,decide_eq_true_eq]at h4;refine⟨h1.2.2.2.2.1,h1.2.2.2.2.2,?_,p6 h2.2.2.1,Hz h4.2⟩;have hf:=h2.2.2.2;unfold xg at hf;cases hx:Xh p.fi p.aN with
 |none=>rw[hx]at hf;cases hf
 |some y=>
  rw[hx]at hf;have hb:=Z4 (p6 h2.2.2.1 y (p7 hx).1);exact⟨y,rfl,by simpa using hf,zE,zE⟩
def Mm{p:Pl}(h:VP p)(r f n:Int)(hr:0<=r/\r<8)(hn:1<=n/\n<=1000000)(hf:0<=f/\f+n-1<=100000000):Xt p p.fi r f n=true:=by
 obtain⟨y,hy,hk,_⟩:=h.fill;exact(Qes _ _ _ _ _).2 ⟨⟨zE,zE,zE,zE⟩,fun x h1 h2=>⟨y,hy,hr,zE,.inl hk⟩⟩
def Qbt{p:Pl}(h:VP p)(hl:p.ln<=1000000)(x:Int×Int)(hx:0<=x.1/\1<=x.2/\x.2<=Yk p/\x.1+x.2<=p.ln):aax p (Vg p x)=true:=by
 obtain⟨y,hy,hk,hy1,hy2⟩:=h.fill;have hff:Yk p=y.fr:=by simp only[Yk,hy]
 rw[hff]at hx;have hre:(Vg p x).re=GI p:=rfl
 have hm:atT p (Vg p x)=GI p:=by
  refine yz _ fun i hi=>?_;exact Mm h i x.1 x.2 zE zE zE
 have EL:=h.rg;have h1:Hw (GI p)=1:=aaA (n:=(min p.rg 8).toNat) zE rfl;have h2:agp (GI p) (GI p)=0:=SA (Hy _ _ zE);have hw:IntKind.i64.wrap (y.fr-x.2)=y.fr-x.2:=by rw[Qj]<;>omega
 have cp:(Vg p x).it=p.fi:=rfl;have iS:(Vg p x).fr=x.2:=rfl;have hi0:(Vg p x).i=0:=rfl;have eD:(Vg p x).al=[]:=rfl;rw[aax,cp,hy];simp only;rw[hm,hre,iS,hi0,eD,hw,h1,h2,if_neg zE,if_neg zE];simp[aaw]
def aaB{lo up:Int}{ks:List Int}(h:Kz lo up none ks=true):ks.Pairwise (·<·)/\∀k∈ks,lo<=k/\k<=up:=by
 obtain⟨h1,h2⟩:=lE h;exact⟨h1,fun k hk=>⟨(h2 k hk).1,(h2 k hk).2.1⟩⟩
