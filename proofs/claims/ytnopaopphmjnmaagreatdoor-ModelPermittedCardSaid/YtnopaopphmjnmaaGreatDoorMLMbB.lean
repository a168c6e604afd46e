import Derived.Test.YtnopaopphmjnmaaGreatDoorMLMN
import Derived.Test.YtnopaopphmjnmaaGreatDoorMLMT
set_option linter.all false
set_option maxRecDepth 100000
set_option maxHeartbeats 64000000
namespace Go.Proofs.YtnopaopphmjnmaaGreatDoor
open Go Go.Abs
def Wv(f:Int)(e:bD):Bool:=decide (e.st<=f/\f<e.st+e.fr)
def Uh(e:bD):Prop:=(0<=e.st/\e.st<=1000000)/\(0<=e.fr/\e.fr<=1000000)/\(0<=e.i/\e.i<=1000000)/\e.al.length<=8796093022208
def gW(f:Int):List bD->Nat->Int
 |[],_=> -1
 |e::r,i=>if Wv f e=true then i else gW f r (i+1)
def y9(f:Int):List bD->Option bD
 |[]=>none
 |e::r=>if Wv f e=true then some e else y9 f r
def xW{f:Int}:∀{L:List bD}{i:Nat},y9 f L=none->gW f L i= -1
 |[],_,_=>rfl
 |a::r,i,h=>by
  simp only[y9]at h;split at h
  ·cases h
  rename_i hn;simp only[gW,if_neg hn];exact xW h
def xX{f:Int}{a:bD}:∀{L:List bD}{i:Nat},y9 f L=some a->∃k:Nat,gW f L i=((i+k:Nat):Int)/\L[k]?=some a/\Wv f a=true
 |[],_,h=>by cases h
 |b::r,i,h=>by
  simp only[y9]at h;split at h
  ·rename_i hb;cases h;exact⟨0,by simp[gW,hb],rfl,hb⟩
  rename_i hn;obtain⟨k,h1,h2,h3⟩:=xX (i:=i+1) h;exact⟨k+1,by simp only[gW,if_neg hn,h1];omega,by simpa using h2,h3⟩
def Lp(f:Int):Nat->FuncId->List AV->AV:=fun _ _ l=>match l with
 |[.agg [_,_,.int _ st,.int _ fr,_,_,_],_]=>.bool (decide (st<=f/\f<st+fr))
 |_=>.junk
def Tx(f:Int):Option bD->AV
 |none=>ZS
 |some e=>.aW [.agg (Qf e),I (e.i+f-e.st),.bool true]
open Go Go.Abs
structure Cue where
 id:Int
 fr:Int
 to:Int
 pr:Int
 tx:ByteArray
def Qj(c:Cue):List AV:=[I c.id,I c.fr,I c.to,I c.pr,.str c.tx]
structure Pg where
 p:Pl
 ev:List bD
 cu:List Cue
 ed:Int
 dr:List Int
 ve:Int
def Qo(g:Pg):List AV:=Qb g.p++[.sl .ro (g.ev.map Qf),.sl .ro (g.cu.map Qj),I g.ed,.sl .ro (g.dr.map Qy),I g.ve]
structure Od where
 sq:Int
 ch:Int
 fr:Int
 ki:Int
 en:Int
 n:Int
 nw:En
 cl:Cl
 cu:Cue
def Qq(o:Od):List AV:=[I o.sq,I o.ch,I o.fr,I o.ki,I o.en,I o.n]++(Qd o.nw++(Qg o.cl++Qj o.cu))
def GC(pre a r bs:List AV)(h:bs.length=a.length):setA (pre++(a++r)) pre.length bs=pre++(bs++r):=by
 induction bs generalizing pre a with
 |nil=>cases a with
  |nil=>rfl
  |cons _ _=>simp at h
 |cons x bs ih=>cases a with
  |nil=>simp at h
  |cons y a=>
   rw[setA];have e:(pre++(y::a++r)).set pre.length x=(pre++[x])++(a++r):=by simp
   rw[e];have:=ih (pre++[x]) a (by simpa using h);rw[show(pre++[x]).length=pre.length+1 by simp]at this;rw[this];simp
theorem jQ(l:List AV)(o:Nat):setA l o []=l:=rfl
def xY(y:AV):∀(xs l:List AV)(n:Nat),setA (y::l) (n+1) xs=y::setA l n xs
 |[],_,_=>rfl
 |x::xs,l,n=>by
  rw[setA,setA,zzdw];exact xY y xs _ _
def jR(y x:AV)(xs l:List AV):setA (y::l) 0 (x::xs)=x::setA l 0 xs:=by
 rw[setA,List.set_cons_zero,xY]
def Wy{sz:Nat}:∀{rows:List (List AV)},(∀r∈rows,r.length=sz)->rows.flatten.length=rows.length*sz
 |[],_=>by simp
 |a::r,h=>by
  have:=Wy (rows:=r) fun x hx=>h x (by simp[hx]);rw[zzcl,zzah,this,h a (by simp),zzbb,zzhr];omega
def Jn{sz:Nat}:∀{rows:List (List AV)},(∀r∈rows,r.length=sz)->aV sz rows.length rows.flatten=rows
 |[],_=>rfl
 |a::r,h=>by
  have ha:=h a (by simp);have ih:=Jn (rows:=r) fun x hx=>h x (by simp[hx]);rw[zzbb,wK,zzcl,List.take_append_of_le_length (by omega),zzdp (by omega),zzap (by omega),List.drop_of_length_le (by omega),zzai,ih]
def Bn{sz:Nat}:∀{rows:List (List AV)}{i:Nat}{row:List AV},(∀r∈rows,r.length=sz)->rows[i]?=some row->∃pre r,rows.flatten=pre++(row++r)/\pre.length=i*sz
 |[],i,row,_,h=>by simp at h
 |a::r,0,row,h,hi=>by simp at hi;subst hi;exact⟨[],r.flatten,by simp,by simp⟩
 |a::r,i+1,row,h,hi=>by
  obtain⟨p,q,h1,h2⟩:=Bn (rows:=r) (fun x hx=>h x (by simp[hx])) (by simpa using hi);have ha:=h a (by simp);exact⟨a++p,q,by rw[zzcl,h1,zzaw],by rw[zzah,h2,ha,zzhr];omega⟩
def lz{sz:Nat}{rows:List (List AV)}{i:Nat}{row:List AV}(h:∀r∈rows,r.length=sz)(hi:rows[i]?=some row):(∃r,rows.flatten.drop (i*sz)=row++r)/\setA rows.flatten (i*sz) row=rows.flatten:=by
 obtain⟨p,q,h1,h2⟩:=Bn h hi;refine⟨⟨q,by rw[h1,<- h2,zzfk]⟩,?_⟩;rw[h1,<- h2];exact GC p row q row rfl
def fe{α:Type}{f:α->List AV}(h:∀a,Zg (f a)=true)(l:List α):Zg (l.map f).flatten=true:=by
 induction l with
 |nil=>rfl
 |cons a r ih=>rw[zzaz,zzcl];exact Rn (h a) ih
def Qav{α:Type}{f:α->List AV}{sz:Nat}(h:∀a,(f a).length=sz)(l:List α):∀r∈l.map f,r.length=sz:=by
 intro r hr;simp only[zzax]at hr;obtain⟨a,_,rfl⟩:=hr;exact h a
def pW(l:List Sp)(h:l.length<=8796093022208):Pure Tryz.prog az 124 [.sl .ro (l.map Qe)] (.sl .ro (l.map Qe)):=by
 refine Qn acy (fun _ _ _=>.junk) (by simp) ?_;simp[ahs,aht];exact⟨by rintro row a b _ rfl;rfl,by omega⟩
def pX(l:List It)(h:l.length<=1000000000):Pure Tryz.prog az 125 [.sl .ro (l.map Qm)] (.sl .ro (l.map Qm)):=by
 refine Qn acz (fun _ _ _=>.junk) (by simp) ?_;simp[ahu,ahv];exact⟨fun _ _=>rfl,by omega⟩
def pY(l:List Bk)(h:l.length<=1000000000):Pure Tryz.prog az 128 [.sl .ro (l.map Xg)] (.sl .ro (l.map Xg)):=by
 refine Qn acB (fun _ _ _=>.junk) (by simp) ?_;simp[ahy,ahz];exact⟨fun _ _=>rfl,by omega⟩
def Ds(l:List Cl)(h:l.length<=1000000000):Pure Tryz.prog az 129 [.sl .ro (l.map Qg)] (.sl .ro (l.map Qg)):=by
 refine Qn MY (fun _ _ _=>.junk) (by simp) ?_;simp[TY,TZ];exact⟨fun _ _=>rfl,by omega⟩
def OE(l:List Sp)(h:l.length<=8796093022208):Pure Tryz.prog az 152 [.sl .ro (l.map Qe)] (.sl .ro (l.map Qe)):=by
 refine Qn acK (fun _ _ _=>.junk) (by simp) ?_;simp[ahI,ahJ];exact⟨by rintro row a b _ rfl;rfl,by omega⟩
def afJ(l:List Cue)(h:l.length<=1000000000):Pure Tryz.prog az 153 [.sl .ro (l.map Qj)] (.sl .ro (l.map Qj)):=by
 refine Qn acL (fun _ _ _=>.junk) (by simp) ?_;simp[ahK,ahL];exact⟨fun _ _=>rfl,by omega⟩
def afK(l:List Int)(h:l.length<=1000000000):Pure Tryz.prog az 154 [.sl .ro (l.map Qy)] (.sl .ro (l.map Qy)):=by
 refine Qn acM (fun _ _ _=>.junk) (by simp) ?_;simp[ahM,ahN];exact⟨fun _ _=>rfl,by omega⟩
def Wm(e:En)(h:e.al.length<=8796093022208):Pure Tryz.prog az 127 [.agg (Qd e)] (.agg (Qd e)):=by
 have k:=OE e.al h;refine Qn acA (fun _ _ l=>l.headD .junk) (by simp) ?_;simp[ahw,ahx,Qd];exact k
def afL:Nat->FuncId->List AV->AV:=fun _ f _=>if f=999999 then .aJ 0 []else .junk
def xZ(Y:YT)(rows:List (List AV))(h:∀r∈rows,r.length=7)(hl:rows.length<=1000000000)(aK:rows≠[])(m:AM)(K:AV->AM->Prop)(hK:K (.bs m.boxes.length 0 rows.length 7) {m with boxes:=m.boxes++[rows.flatten]}):
  an Tryz.prog az Y 126 [.sl .ro rows] m K:=by
 refine Xe BS afL (by simp) ?_;simp[MW,MX,afL,aK];exact⟨⟨by omega,h⟩,hK⟩
def ZT(Y:YT)(rows:List (List AV))(h:∀r∈rows,r.length=7)(hl:rows.length<=1000000000)(aK:rows≠[])(m:AM)(K:AV->AM->Prop)(hK:K (.bs m.boxes.length 0 rows.length 7) {m with boxes:=m.boxes++[rows.flatten]}):
  an Tryz.prog az Y 151 [.sl .ro rows] m K:=by
 refine Xe M8 afL (by simp) ?_;simp[UD,UE,afL,aK];exact⟨⟨by omega,h⟩,hK⟩
def GD:Pure Tryz.prog az 126 [.sl .ro []] (.sl .ro []):=by
 refine Qn BS (fun _ _ _=>.junk) (by simp) ?_;simp[MW,MX]
def ZU:Pure Tryz.prog az 151 [.sl .ro []] (.sl .ro []):=by
 refine Qn M8 (fun _ _ _=>.junk) (by simp) ?_;simp[UD,UE]
open Go Go.Abs
def Ki(p:Pl):Nat->FuncId->List AV->AV:=fun _ f l=>if f=126 then(if p.ens=[]then .sl .ro []else .gd false .junk)else l.headD .junk
def Bo(p:Pl):Prop:=p.sh.length<=1000000/\p.aL.length<=1000000/\p.ens.length<=1000000/\p.bks.length<=1000000/\p.cls.length<=1000000/\∀e∈p.ens,e.al.length<=8796093022208
def asH(p:Pl)(m0:List AV)(f:Nat->AV)(m:AM):Prop:=∃(i:Nat)(bx:List (List AV)),f 22=I i/\i<=p.ens.length/\m=⟨[I p.ch,I p.nu,I p.de,I p.of,.sl .ro (p.sh.map Qe),I p.ep,I p.rg,I p.ln,I p.fi,.sl .ro (p.aL.map Qm),.bs 2 0 p.ens.length 7,.sl .ro (p.bks.map Xg),.sl .ro (p.cls.map Qg)]::m0::(p.ens.map Qd).flatten::bx,[],fun _=>.gone,0⟩
def pZ(p:Pl)(h:Bo p):Pure Tryz.prog az 61 [.agg (Qb p)] (.agg (Qb p)):=by
 obtain⟨h1,h2,h3,h4,h5,h6⟩:=h;have k1:=pW p.sh (by omega);have k2:=pX p.aL (by omega);have k4:=pY p.bks (by omega);have k5:=Ds p.cls (by omega);have hsz:=Qav (f:=Qd) (sz:=7) (fun _=>rfl) p.ens;refine Qn u7 (Ki p) (by simp) ?_;by_cases hn:p.ens=[]
 ·have k3:=GD;simp[IY,Qb,Ki,hn];refine⟨k1,k2,k3,?_⟩;refine Qi ez (fun f m=>f 22=I 0/\m=⟨[I p.ch,I p.nu,I p.de,I p.of,.sl .ro (p.sh.map Qe),I p.ep,I p.rg,I p.ln,I p.fi,.sl .ro (p.aL.map Qm),.sl .ro [],.sl .ro (p.bks.map Xg),.sl .ro (p.cls.map Qg)]::[[I 0,I 0,I 0,I 0,.sl .nil [],I 0,I 0,I 0,I 0,.sl .nil [],.sl .nil [],.sl .nil [],.sl .nil []]],[],fun _=>.gone,0⟩) (fun f _=>0) ?_ ?_
  ·exact⟨by simp,by simp⟩
  rintro f m ⟨f22,rfl⟩;simp[f22,ez,IZ,Ki];exact⟨k4,k5⟩
 have aK:p.ens.map Qd≠[]:=by simpa using hn
 simp[IY,Qb,Ki,hn];refine⟨k1,k2,xZ _ _ hsz (by simpa using by omega) aK _ _ ?_⟩;simp;obtain⟨F,hF⟩:∃F,(p.ens.map Qd).flatten=F:=⟨_,rfl⟩;have IU:F.length=p.ens.length*7:=by rw[<- hF,Wy hsz];simp
 have bQ:Zg F=true:=by rw[<- hF];exact fe (fun _=>rfl) _
 have lS:aV 7 p.ens.length F=p.ens.map Qd:=by have:=Jn hsz;rw[hF]at this;simpa using this
 have zT:∀m,F.map (bF m 4)=F:=fun m=>Zk m 3 bQ;rw[hF];refine Qi ez (asH p [I 0,I 0,I 0,I 0,.sl .nil [],I 0,I 0,I 0,I 0,.sl .nil [],.sl .nil [],.sl .nil [],.sl .nil []]) (fun f _=>p.ens.length-(numOf (f 22)).toNat) ?_ ?_
 ·exact⟨0,[],by simp,by omega,by rw[hF]⟩
 rintro f m ⟨i,bx,f22,hi,rfl⟩;rw[hF];rcases zzaa i p.ens.length with ai|bu
 ·obtain⟨e,he⟩:=aS ai;have aa:(i:Int)<(p.ens.length:Int):=by omega
  have hw:=bJ i (by omega);obtain⟨⟨r,hd⟩,cc⟩:=lz hsz (i:=i) (row:=Qd e) (by simp[he]);rw[hF]at hd cc;simp only[Qd,zzae,zzai]at hd cc;have GF:=Wm e (h6 e (zzad he));simp only[Qd]at GF;simp[-setA,jQ,jR,f22,ez,aa,hd,cc,IU,hw,Ki];refine⟨GF,by omega,aO,⟨i+1,bx++[[I e.id,I e.it,I e.fr,I e.ea,I e.la,I e.bo,.sl .ro (e.al.map Qe)]],by simp,by omega,by rw[hF]⟩,by omega⟩
 obtain rfl:i=p.ens.length:=by omega
 simp[f22,ez,IZ,Ki,IU,zT,lS];exact⟨k4,k5⟩
def PgC(g:Pg):Prop:=Bo g.p/\g.ev.length<=1000000/\g.cu.length<=1000000/\g.dr.length<=1000000/\∀e∈g.ev,e.al.length<=8796093022208
def Bp(g:Pg):Nat->FuncId->List AV->AV:=fun _ f l=>if f=151 then(if g.ev=[]then .sl .ro []else .gd false .junk)else l.headD .junk
def lB(g:Pg)(V:AV):List AV:=[I g.p.ch,I g.p.nu,I g.p.de,I g.p.of,.sl .ro (g.p.sh.map Qe),I g.p.ep,I g.p.rg,I g.p.ln,I g.p.fi,.sl .ro (g.p.aL.map Qm),.sl .ro (g.p.ens.map Qd),.sl .ro (g.p.bks.map Xg),.sl .ro (g.p.cls.map Qg),V,.sl .ro (g.cu.map Qj),I g.ed,.sl .ro (g.dr.map Qy),I g.ve]
def asI(g:Pg)(m0:List AV)(f:Nat->AV)(m:AM):Prop:=∃(i:Nat)(bx:List (List AV)),f 16=I i/\i<=g.ev.length/\m=⟨lB g (.bs 2 0 g.ev.length 7)::m0::(g.ev.map Qf).flatten::bx,[],fun _=>.gone,0⟩
def iE:List AV:=[I 0,I 0,I 0,I 0,.sl .nil [],I 0,I 0,I 0,I 0,.sl .nil [],.sl .nil [],.sl .nil [],.sl .nil [],.sl .nil [],.sl .nil [],I 0,.sl .nil [],I 0]
def ZV(g:Pg)(h:PgC g):Pure Tryz.prog az 76 [.agg (Qo g)] (.agg (Qo g)):=by
 obtain⟨h0,h1,h2,h3,h4⟩:=h;have k1:=pZ g.p h0;have k3:=afJ g.cu (by omega);have k4:=afK g.dr (by omega);have hsz:=Qav (f:=Qf) (sz:=7) (fun _=>rfl) g.ev;simp only[Qb]at k1;refine Qn alm (Bp g) (by simp) ?_;by_cases hn:g.ev=[]
 ·have k2:=ZU;simp[abV,Qo,Qb,Bp,hn];refine⟨k1,k2,?_⟩;refine Qi Em (fun f m=>f 16=I 0/\m=⟨lB g (.sl .ro [])::[iE],[],fun _=>.gone,0⟩) (fun f _=>0) ?_ ?_
  ·exact⟨by simp,by simp[lB,iE]⟩
  rintro f m ⟨f16,rfl⟩;simp[f16,Em,alk,lB,iE,Bp];exact⟨k3,k4⟩
 have aK:g.ev.map Qf≠[]:=by simpa using hn
 simp[abV,Qo,Qb,Bp,hn];refine⟨k1,ZT _ _ hsz (by simpa using by omega) aK _ _ ?_⟩;simp;obtain⟨F,hF⟩:∃F,(g.ev.map Qf).flatten=F:=⟨_,rfl⟩;have IU:F.length=g.ev.length*7:=by rw[<- hF,Wy hsz];simp
 have bQ:Zg F=true:=by rw[<- hF];exact fe (fun _=>rfl) _
 have lS:aV 7 g.ev.length F=g.ev.map Qf:=by have:=Jn hsz;rw[hF]at this;simpa using this
 have zT:∀m,F.map (bF m 4)=F:=fun m=>Zk m 3 bQ;rw[hF];refine Qi Em (asI g iE) (fun f _=>g.ev.length-(numOf (f 16)).toNat) ?_ ?_
 ·exact⟨0,[],by simp,by omega,by rw[hF];rfl⟩
 rintro f m ⟨i,bx,f16,hi,rfl⟩;rw[hF];rcases zzaa i g.ev.length with ai|bu
 ·obtain⟨e,he⟩:=aS ai;have aa:(i:Int)<(g.ev.length:Int):=by omega
  have hw:=bJ i (by omega);obtain⟨⟨r,hd⟩,cc⟩:=lz hsz (i:=i) (row:=Qf e) (by simp[he]);rw[hF]at hd cc
  have hs6:F.set (i*7+6) (.sl .ro (e.al.map Qe))=F:=by
   have h7:F[i*7+6]?=some (.sl .ro (e.al.map Qe)):=by
    have:=congrArg (fun l=>l[6]?) hd;simpa[Qf]using this
   apply zzcm;intro j;by_cases hj:i*7+6=j
   ·subst hj;rw[h7,zzb (zza.1 h7).1]
   rw[zzbe hj]
  simp only[Qf,zzae,zzai]at hd;have aw4:=OE e.al (h4 e (zzad he));simp[f16,Em,lB,aa,hd,hs6,IU,hw,Bp];refine⟨aw4,by omega,aO,⟨i+1,bx++[[I e.id,I e.it,I e.st,I e.fr,I e.i,I e.re,.sl .ro (e.al.map Qe)]],by simp,by omega,by rw[hF];rfl⟩,by omega⟩
 obtain rfl:i=g.ev.length:=by omega
 simp[f16,Em,alk,lB,iE,Bp,IU,zT,lS];exact⟨k3,k4⟩
open Go Go.Abs
def eG(n:Int):Bool:=decide (1<=n)&&decide (n<=1000000)
def Ky(n:Int):Pure Tryz.prog az 80 [I n] (.bool (eG n)):=by
 refine Qn alq (fun _ _ _=>.junk) (by simp) ?_;by_cases h:1<=n
 ·simp[alo,alp,h,eG]
 simp[alo,alp,h,eG]
def eB:ByteArray:=⟨#[]⟩
def jS(tx:ByteArray):tx.toList=[]<->tx=eB:=by
 obtain⟨⟨l⟩⟩:=tx;rw[ByteArray.toList_eq];simp[eB]
def Jq(o:Od):Bool:=decide (o.en=0/\o.n=0/\o.cl=⟨0,0,0,0,0,0,0,0⟩/\(o.cu.id=0/\o.cu.fr=0/\o.cu.to=0/\o.cu.pr=0/\o.cu.tx=eB)/\o.nw.id=0/\o.nw.it=0/\o.nw.fr=0/\o.nw.ea=0/\o.nw.la=0/\o.nw.bo=0/\o.nw.al=[])
def Lq(o:Od):Pure Tryz.prog az 81 [.agg (Qq o)] (.bool (Jq o)):=by
 refine Qn alr (fun _ _ _=>.junk) (by simp) ?_;obtain⟨sq,ch,fr,ki,en,n,⟨a1,a2,a3,a4,a5,a6,al⟩,⟨c1,c2,c3,c4,c5,c6,c7,c8⟩,⟨d1,d2,d3,d4,tx⟩⟩:=o;simp[apa,apb,Qq,Qd,Qg,Qj];rw[zzbt];simp[Jq,jS,and_assoc]
def x9(r:Int):List Sp->Bool
 |[]=>true
 |a::l=>if r<a.1/\a.1<=7/\eG a.2=true then x9 a.1 l else false
def za(e:En):Bool:=eG e.id&&eG e.it&&decide (1<=e.fr/\e.fr<=100000000)&&decide (0<=e.ea/\e.ea<=e.la/\e.la<=100000000)&&(decide (e.bo=0)||eG e.bo)&&x9 0 e.al
def aj3(e:En)(f:Nat->AV)(m:AM):Prop:=∃(i:Nat)(r:Int)(bx:List (List AV)),f 53=I i/\i<=e.al.length/\f 3=I r/\x9 0 e.al=x9 r (e.al.drop i)/\m=⟨Qd e::bx,[],fun _=>.gone,0⟩
def Vh:Nat->FuncId->List AV->AV:=fun _ f l=>match l with|[.int _ n]=>.bool (eG n)|_=>.junk
def tY(e:En)(hl:e.al.length<=8796093022208):Pure Tryz.prog az 82 [.agg (Qd e)] (.bool (za e)):=by
 have q1:=Ky e.id;have q2:=Ky e.it;have q3:=Ky e.bo;refine Qn alu Vh (by simp) ?_;cases h1:eG e.id with
 |false=>rw[h1]at q1;simp[tE,iL,Qd,Vh,h1,za];exact q1
 |true=>
  rw[h1]at q1;cases h2:eG e.it with
  |false=>rw[h2]at q2;simp[tE,iL,Qd,Vh,h1,h2,za];exact⟨q1,q2⟩
  |true=>
   rw[h2]at q2;by_cases h3:e.fr<1
   ·have:¬1<=e.fr:=by omega
    simp[tE,iL,Qd,Vh,h1,h2,h3,za,this];exact⟨q1,q2⟩
   by_cases h4:100000000<e.fr
   ·have:¬e.fr<=100000000:=by omega
    simp[tE,iL,Qd,Vh,h1,h2,h3,h4,za,this];exact⟨q1,q2⟩
   have e34:1<=e.fr/\e.fr<=100000000:=by omega
   by_cases h5:e.ea<0
   ·have:¬0<=e.ea:=by omega
    simp[tE,iL,Qd,Vh,h1,h2,h3,h4,h5,za,this];exact⟨q1,q2⟩
   by_cases h6:e.la<e.ea
   ·have:¬e.ea<=e.la:=by omega
    simp[tE,iL,Qd,Vh,h1,h2,h3,h4,h5,h6,za,this];exact⟨q1,q2⟩
   by_cases h7:100000000<e.la
   ·have:¬e.la<=100000000:=by omega
    simp[tE,iL,Qd,Vh,h1,h2,h3,h4,h5,h6,h7,za,this];exact⟨q1,q2⟩
   have aw5:0<=e.ea/\e.ea<=e.la/\e.la<=100000000:=by omega
   by_cases h8:e.bo≠0/\eG e.bo=false
   ·obtain⟨h8,h9⟩:=h8;rw[h9]at q3;have h8':(e.bo !=0)=true:=by simpa using h8
    simp[tE,iL,Qd,Vh,h1,h2,h3,h4,h5,h6,h7,h8,h8',h9,za];exact⟨q1,q2,q3⟩
   have hb:(decide (e.bo=0)||eG e.bo)=true:=by
    by_cases hb:e.bo=0
    ·simp[hb]
    cases h9:eG e.bo with
    |true=>simp
    |false=>exact absurd ⟨hb,h9⟩ h8
   have hv:za e=x9 0 e.al:=by simp only[za,h1,h2,e34,aw5,hb,zzdo,and_self,decide_true]
   rw[hv]
   have hbo:(e.bo=0)\/(e.bo≠0/\eG e.bo=true):=by
    by_cases dO:e.bo=0
    ·exact .inl dO
    exact .inr ⟨dO,by simpa[dO]using hb⟩
   obtain dO|⟨dO,mF⟩:=hbo
   ·simp[tE,Qd,Vh,h1,h2,h3,h4,h5,h6,h7,dO];refine⟨q1,q2,?_⟩;clear q1 q2 q3;refine Qi gN (aj3 e) (fun f _=>e.al.length-(numOf (f 53)).toNat) ?_ ?_
    ·exact⟨0,0,[],by simp,by omega,by simp,by simp,by simp[Qd,dO]⟩
    rintro f m ⟨i,r,bx,f53,hi,f3,hr,rfl⟩;rcases zzaa i e.al.length with ai|bu
    ·obtain⟨a,ha⟩:=aS ai;have ah:=Zc ha;have aa:(i:Int)<(e.al.length:Int):=by omega
     have hw:=bJ i (by omega);have hd:e.al.drop i=a::e.al.drop (i+1):=by rw[zzaf ai,(zza.1 ha).2]
     rw[hd,x9]at hr;have qa:=Ky a.2;by_cases d1:a.1<=r
     ·rw[if_neg (by omega)]at hr;simp[f53,f3,gN,iL,Qd,aa,ah,d1,hr,Vh]
     by_cases d2:7<a.1
     ·rw[if_neg (by omega)]at hr;simp[f53,f3,gN,iL,Qd,aa,ah,d1,d2,hr,Vh]
     cases d3:eG a.2 with
     |false=>
      rw[d3]at qa;rw[if_neg (by simp[d3])]at hr;simp[f53,f3,gN,iL,Qd,aa,ah,d1,d2,d3,hr,Vh];exact qa
     |true=>
      rw[d3]at qa;rw[if_pos ⟨by omega,by omega,d3⟩]at hr;simp[f53,f3,gN,Qd,aa,ah,d1,d2,d3,hw,Vh];refine⟨qa,aO,⟨i+1,a.1,bx++[[I a.1,I a.2]],by simp,by omega,by simp,hr,by simp[Qd]⟩,by omega⟩
    obtain rfl:i=e.al.length:=by omega
    simp[f53,f3,gN,iL,hr,x9]
   rw[mF]at q3;have ae3:(e.bo !=0)=true:=by simpa using dO
   simp[tE,Qd,Vh,h1,h2,h3,h4,h5,h6,h7,ae3,mF];refine⟨q1,q2,q3,?_⟩;clear q1 q2 q3;refine Qi gN (aj3 e) (fun f _=>e.al.length-(numOf (f 53)).toNat) ?_ ?_
   ·exact⟨0,0,[],by simp,by omega,by simp,by simp,by simp[Qd]⟩
   rintro f m ⟨i,r,bx,f53,hi,f3,hr,rfl⟩;rcases zzaa i e.al.length with ai|bu
   ·obtain⟨a,ha⟩:=aS ai;have ah:=Zc ha;have aa:(i:Int)<(e.al.length:Int):=by omega
    have hw:=bJ i (by omega);have hd:e.al.drop i=a::e.al.drop (i+1):=by rw[zzaf ai,(zza.1 ha).2]
    rw[hd,x9]at hr;have qa:=Ky a.2;by_cases d1:a.1<=r
    ·rw[if_neg (by omega)]at hr;simp[f53,f3,gN,iL,Qd,aa,ah,d1,hr,Vh]
    by_cases d2:7<a.1
    ·rw[if_neg (by omega)]at hr;simp[f53,f3,gN,iL,Qd,aa,ah,d1,d2,hr,Vh]
    cases d3:eG a.2 with
    |false=>
     rw[d3]at qa;rw[if_neg (by simp[d3])]at hr;simp[f53,f3,gN,iL,Qd,aa,ah,d1,d2,d3,hr,Vh];exact qa
    |true=>
     rw[d3]at qa;rw[if_pos ⟨by omega,by omega,d3⟩]at hr;simp[f53,f3,gN,Qd,aa,ah,d1,d2,d3,hw,Vh];refine⟨qa,aO,⟨i+1,a.1,bx++[[I a.1,I a.2]],by simp,by omega,by simp,hr,by simp[Qd]⟩,by omega⟩
   obtain rfl:i=e.al.length:=by omega
   simp[f53,f3,gN,iL,hr,x9]
open Go Go.Abs
def tZ(s:ByteArray)(i:Nat):Nat:=(s.data.toList.getD i 0).toNat
def rH(s:ByteArray)(i:Nat)(h:i<s.size):(s.data[i]'h).toNat=tZ s i:=by
 have h':i<s.data.size:=h;simp only[tZ,zzar,zzcd,zzaj h',zzha]
def GG(s:ByteArray)(n i:Nat):Bool:=match n with
 |0=>true
 |n+1=>if tZ s i<32\/126<tZ s i then false else GG s n (i+1)
def RM(s:ByteArray):Bool:=GG s s.size 0
def asJ(s:ByteArray)(f:Nat->AV)(m:AM):Prop:=∃i:Nat,f 3=I i/\i<=s.size/\RM s=GG s (s.size-i) i/\m=⟨[],[],fun _=>.gone,0⟩
def ya(s:ByteArray)(h:s.size<=1000000):Pure Tryz.prog az 245 [.str s] (.bool (RM s)):=by
 refine Qn adH (fun _ _ _=>.junk) (by simp) ?_;simp[U5];refine Qi vB (asJ s) (fun f _=>s.size-(numOf (f 3)).toNat) ?_ ?_
 ·exact⟨0,by simp,by omega,rfl,rfl⟩
 rintro f m ⟨i,f3,hi,hr,rfl⟩;rcases zzaa i s.size with ai|bu
 ·have aa:(i:Int)<(s.size:Int):=by omega
  have hw:=bJ i (by omega);obtain⟨n,hn⟩:∃n,s.size-i=n+1:=⟨s.size-i-1,by omega⟩;have hb:=rH s i ai;rw[hn,GG]at hr;by_cases h1:tZ s i<32
  ·rw[if_pos (.inl h1)]at hr;have oO:((tZ s i:Nat):Int)<32:=by omega
   simp[f3,vB,Nu,ai,aa,hr,hb,oO]
  have oO:¬((tZ s i:Nat):Int)<32:=by omega
  by_cases h2:126<tZ s i
  ·rw[if_pos (.inr h2)]at hr;have D6:(126:Int)<((tZ s i:Nat):Int):=by omega
   simp[f3,vB,Nu,ai,aa,hr,hb,oO,D6]
  rw[if_neg (by omega)]at hr;have D6:¬(126:Int)<((tZ s i:Nat):Int):=by omega
  simp[f3,vB,ai,aa,hw,hb,oO,D6];refine⟨aO,⟨i+1,by simp,by omega,by rw[hr];congr 1;omega,rfl⟩,by omega⟩
 obtain rfl:i=s.size:=by omega
 rw[zzdn,GG]at hr;simp[f3,vB,Nu,hr]
def gX(s:ByteArray)(i:Nat):Option Nat->List ByteArray
 |none=>[]
 |some f=>[s.extract f i]
def ZW(s:ByteArray):Nat->Nat->Option Nat->List ByteArray
 |0,i,first=>gX s i first
 |n+1,i,first=>if tZ s i≠32 then ZW s n (i+1) (some (first.getD i))else gX s i first++ZW s n (i+1) none
def Ul(s:ByteArray):List ByteArray:=ZW s s.size 0 none
def Dt(s:ByteArray)(i:Nat)(first:Option Nat):List ByteArray:=if i<=s.size then ZW s (s.size-i) i first else[]
def GH{s:ByteArray}{i:Nat}(first:Option Nat)(h:i<s.size)(hb:tZ s i≠32):Dt s i first=Dt s (i+1) (some (first.getD i)):=by
 obtain⟨n,hn⟩:∃n,s.size-i=n+1:=⟨s.size-i-1,by omega⟩;rw[Dt,if_pos (by omega),Dt,if_pos (by omega),hn,ZW,if_pos hb,show s.size-(i+1)=n by omega]
def Du{s:ByteArray}{i:Nat}(first:Option Nat)(h:i<=s.size)(hb:i<s.size->tZ s i=32):Dt s i first=gX s i first++Dt s (i+1) none:=by
 by_cases hi:i=s.size
 ·subst hi;have:Dt s (s.size+1) none=[]:=by rw[Dt,if_neg (by omega)]
  rw[this,Dt,if_pos (by omega),zzdn,ZW,zzau]
 obtain⟨n,hn⟩:∃n,s.size-i=n+1:=⟨s.size-i-1,by omega⟩;have:Dt s (i+1) none=ZW s n (i+1) none:=by rw[Dt,if_pos (by omega),show s.size-(i+1)=n by omega]
 rw[this,Dt,if_pos h,hn,ZW,if_neg (by simp[hb (by omega)])]
def OF:Option Nat->Int
 |none=> -1
 |some k=>k
def Lr(s:ByteArray):Pure Tryz.prog az 246 [.str s] (.fn 303 [] [.ep [.str s] 0]):=by
 refine Qn adI (fun _ _ _=>.junk) (by simp) ?_;simp[air,ais]
def asK(Y:YT)(lp:Nat)(K:AM->Prop)(s:ByteArray)(f:Nat->AV)(m:AM):Prop:=∃(i:Nat)(first:Option Nat),f 4=I i/\i<=s.size+1/\f 3=I (OF first)/\(∀k,first=some k->k<=i/\i<=s.size)/\wL (Y lp) K ((Dt s i first).map fun w=>[.str w]) m
def Ls(s:ByteArray)(h:s.size<=1000000):Iter Tryz.prog az 303 [] [.ep [.str s] 0] ((Ul s).map fun w=>[.str w]):=by
 intro Y lp m K hF;refine Xe aeb (fun _ _ _=>.junk) (by simp) ?_;simp[VH,aiT];refine Qi iU (asK Y lp K s) (fun f _=>s.size+1-(numOf (f 4)).toNat) ?_ ?_
 ·exact⟨0,none,by simp,by omega,by simp[OF],⟨fun k(hk:none=some k)=>(by cases hk),by simpa[Dt,Ul]using hF⟩⟩
 rintro f m ⟨i,first,f4,hi,f3,AD,hr⟩;rcases zzaa s.size i with tJ|ck
 ·have bI:¬(i:Int)<=(s.size:Int):=by omega
  rw[Dt,if_neg (by omega)]at hr;simp[f4,iU,bI];exact hr m (fF.refl m)
 have afM:(i:Int)<=(s.size:Int):=by omega
 have hw:=bJ i (by omega);by_cases hb:i<s.size/\tZ s i≠32
 ·obtain⟨ai,hb⟩:=hb;have aa:(i:Int)<(s.size:Int):=by omega
  have D8:=rH s i ai;have hbI:¬((tZ s i:Nat):Int)=32:=by omega
  rw[GH first ai hb]at hr;cases first with
  |none=>
   simp[f4,f3,OF,iU,afM,ai,aa,D8,hbI,hw];refine⟨aO,⟨i+1,some i,by simp,by omega,by simp[OF],⟨fun k(hk:some i=some k)=>(by cases hk;omega),hr⟩⟩,by omega⟩
  |some k=>
   have QL:¬(k:Int)<0:=by omega
   obtain⟨cV,dw⟩:=AD k rfl;simp[f4,f3,OF,iU,afM,ai,aa,D8,hbI,hw,QL];refine⟨aO,⟨i+1,some k,by simp,by omega,by simp[OF],⟨fun k'(hk:some k=some k')=>(by cases hk;omega),hr⟩⟩,by omega⟩
 have cH:i<s.size->tZ s i=32:=fun h=>Classical.byContradiction fun h2=>hb ⟨h,h2⟩;rw[Du first ck cH]at hr;cases first with
 |none=>
  simp only[gX,zzai]at hr;rcases zzaa i s.size with ai|bu
  ·have aa:(i:Int)<(s.size:Int):=by omega
   have D8:=rH s i ai;have GI:=cH ai;simp[f4,f3,OF,iU,afM,ai,aa,D8,GI,hw];refine⟨aO,⟨i+1,none,by simp,by omega,by simp[OF],⟨fun k(hk:none=some k)=>(by cases hk),hr⟩⟩,by omega⟩
  obtain rfl:i=s.size:=by omega
  simp[f4,f3,OF,iU,hw];refine⟨aO,⟨s.size+1,none,by simp,by omega,by simp[OF],⟨fun k(hk:none=some k)=>(by cases hk),hr⟩⟩⟩
 |some k=>
  obtain⟨cV,dw⟩:=AD k rfl;have QL:(0:Int)<=(k:Int):=by omega
  simp only[gX,zzae,zzai,zzaz]at hr;rcases zzaa i s.size with ai|bu
  ·have aa:(i:Int)<(s.size:Int):=by omega
   have D8:=rH s i ai;have GI:=cH ai;simp[f4,f3,OF,iU,afM,ai,aa,D8,GI,hw,QL,cV];refine hr m (fF.refl m) _ (fun m2 h2=>?_) (fun m2 h2=>?_)
   ·simp;refine⟨aO,⟨i+1,none,by simp,by omega,by simp[OF],⟨fun k(hk:none=some k)=>(by cases hk),h2⟩⟩,by omega⟩
   simp;exact h2 m2 (fF.refl m2)
  obtain rfl:i=s.size:=by omega
  simp[f4,f3,OF,iU,hw,QL,cV];refine hr m (fF.refl m) _ (fun m2 h2=>?_) (fun m2 h2=>?_)
  ·simp;refine⟨aO,⟨s.size+1,none,by simp,by omega,by simp[OF],⟨fun k(hk:none=some k)=>(by cases hk),h2⟩⟩⟩
  simp;exact h2 m2 (fF.refl m2)
open Go Go.Abs
def Xw(n:Int):Prop:= -9223372036854775808<=n/\n<=9223372036854775807
def OKP(p:Pl):Prop:=∀e∈p.ens,e.al.length<=8796093022208
open Go Go.Abs
def ZX(p:Pl)(e:bD):Int->List Sp->Bool
 |_,[]=>true
 |last,a::r=>match Xh a.2 p.aL with
  |none=>false
  |some y=>if a.1<=last\/p.rg<=a.1\/y.fr<IntKind.i64.wrap (e.i+e.fr)then false else if Xo p a.2 a.1 e.st e.fr=false then false else ZX p e a.1 r
def asL(p:Pl)(e:bD):Int:=Uk (fun i=>Xo p e.it i e.st e.fr) (min p.rg 8).toNat
def GJ(a:Int):Int:=IntKind.i64.wrap (((a%2 ^ IntKind.i64.bits).toNat&&& ((1:Int)%2 ^ IntKind.i64.bits).toNat:Nat):Int)
def afN(a b:Int):Int:=IntKind.i64.wrap (((a%2 ^ IntKind.i64.bits).toNat&&& (2 ^ IntKind.i64.bits-1-(b%2 ^ IntKind.i64.bits).toNat):Nat):Int)
def ZY(p:Pl)(e:bD):Bool:=match Xh e.it p.aL with
 |none=>false
 |some x=>if e.fr<1\/e.i<0\/x.fr<e.fr\/IntKind.i64.wrap (x.fr-e.fr)<e.i then false else
  if GJ e.re=0\/afN e.re (asL p e)≠0 then false else ZX p e 0 e.al&&(decide (e.id≠0)||(decide (e.it=p.fi)&&decide (e.al=[])))
open Go Go.Abs
def afO(x r n:Nat)(h:r<n):((x+2 ^ n)/2 ^ r)%2=(x/2 ^ r)%2:=by
 obtain⟨k,rfl⟩:∃k,n=r+(k+1):=⟨n-r-1,by omega⟩;have e:2 ^ (r+(k+1))=2 ^ r*(2*2 ^ k):=by rw[Nat.pow_add,zzhu,zzec (2 ^ k) 2]
 rw[e,Nat.add_mul_div_left _ _ (Nat.two_pow_pos r),Nat.add_mul_mod_self_left]
def nX(b:Nat->Bool):Nat->Nat
 |0=>0
 |n+1=>nX b n+if b n then 2 ^ n else 0
def uM(b:Nat->Bool):∀n,nX b n<2 ^ n
 |0=>by simp[nX]
 |n+1=>by
  have:=uM b n;rw[nX,zzhu];split<;>omega
def Dv(b:Nat->Bool):∀n,Uk b n=(nX b n:Int)
 |0=>rfl
 |n+1=>by
  rw[Uk,nX,Dv b n];split
  ·push_cast;rfl
  simp
def yb(b:Nat->Bool)(r:Nat):∀n,(nX b n).testBit r=(decide (r<n)&&b r)
 |0=>by simp[nX]
 |n+1=>by
  have ih:=yb b r n;have ai:=uM b n;rw[nX];by_cases hb:b n=true
  ·rw[if_pos hb];rcases zzfm r n with h|h|h
   ·rw[zzdj,afO _ _ _ h,<- zzdj,ih];simp[h,Nat.lt_succ_of_lt h]
   ·subst h
    have:(nX b r+2 ^ r)/2 ^ r=1:=by
     rw[Nat.add_div_right _ (Nat.two_pow_pos r),zzet ai]
    rw[zzdj,this];simp[hb]
   have:nX b n+2 ^ n<2 ^ r:=by
    have:2 ^ (n+1)<=2 ^ r:=zzev (by omega) h;rw[zzhu]at this;omega
   rw[Nat.testBit_lt_two_pow this];simp;intro h2;omega
  rw[if_neg hb,zzcq,ih];by_cases h:r=n
  ·subst h;simp[hb]
  have:decide (r<n)=decide (r<n+1):=decide_eq_decide.2 (by omega);rw[this]
def am6(x:Int)(r:Nat):Bool:=x.toNat.testBit r
def ZZ(b:Nat->Bool)(n r:Nat):am6 (Uk b n) r=(decide (r<n)&&b r):=by
 unfold am6;rw[Dv,zzgq,yb]
def GK(b:Nat->Bool)(n:Nat)(hn:n<=8):0<=Uk b n/\Uk b n<256:=by
 have:=uM b n;rw[Dv];have h2:2 ^ n<=2 ^ 8:=zzev (by omega) hn;omega
def asM(x:Int)(h:0<=x/\x<256):(x%2 ^ IntKind.i64.bits).toNat=x.toNat:=by
 have:(2:Int) ^ IntKind.i64.bits=18446744073709551616:=by decide
 rw[this,Int.emod_eq_of_lt h.1 (by omega)]
def Z0(x:Int)(h:0<=x/\x<256):GJ x=x%2:=by
 unfold GJ;rw[asM x h,asM 1 (by omega)];have:x.toNat&&& (1:Int).toNat=x.toNat%2:=Nat.and_one_is_mod _;rw[this,Qk]<;>omega
open Go Go.Abs
def RN{x:Int}(h:0<=x/\x<256):afN x x=0:=by
 have key:∀n:Nat,n<256->afN (n:Int) (n:Int)=0:=by decide+kernel
 have:=key x.toNat (by omega);rwa [zzge h.1]at this
def yc{b c:Nat->Bool}:∀(n:Nat),(∀i,i<n->b i=c i)->Uk b n=Uk c n
 |0,_=>rfl
 |n+1,h=>by rw[Uk,Uk,yc n (fun i hi=>h i (by omega)),h n (by omega)]
def Z1{b:Nat->Bool}{n:Nat}(hn:1<=n/\n<=8)(h0:b 0=true):GJ (Uk b n)=1:=by
 have hb:=GK b n hn.2;rw[Z0 _ hb];have h1:=ZZ b n 0;rw[h0]at h1;have h2:decide (0<n)=true:=by simp;omega
 rw[h2]at h1;simp only[am6,Nat.testBit_zero,zzgm,decide_eq_true_eq]at h1;omega
structure VP (p:Pl):Prop where
 rg:1<=p.rg/\p.rg<=8
 ln:1<=p.ln/\p.ln<=100000000
 fill:∃y,Xh p.fi p.aL=some y/\y.ki=5/\1<=y.fr/\y.fr<=100000000
 aL:∀y∈p.aL,Ts y=true
 ens:∀e∈p.ens,1<=e.id/\jN p e=true/\mR p e=true
def GL{p:Pl}:∀{l:List En}{seen:List Int},Gl p seen l=true->∀e∈l,1<=e.id/\jN p e=true/\mR p e=true
 |x::r,seen,h,e,he=>by
  rw[Gl,zzak]at h;rcases zzat.1 he with rfl|he
  ·have h1:=h.1;simp only[zO,zzak,wi,decide_eq_true_eq]at h1;exact⟨h1.1.1,h1.2.2.1,h1.2.2.2.1⟩
  exact GL h.2 e he
def yd{p:Pl}(h:nU p=true):VP p:=by
 simp only[nU,zzak]at h;obtain⟨h1,h2,h3,h4,h5⟩:=h;simp only[Jl,zzak,wi,decide_eq_true_eq]at h1;simp only[Tt,zzak,decide_eq_true_eq]at h2;simp only[xL,zzak,decide_eq_true_eq]at h4;refine⟨h1.2.2.2.2.1,h1.2.2.2.2.2,?_,pP h2.2.2.1,GL h4.2⟩;have hf:=h2.2.2.2;unfold wN at hf;cases hx:Xh p.fi p.aL with
 |none=>rw[hx]at hf;cases hf
 |some y=>
  rw[hx]at hf;have hb:=Y2 (pP h2.2.2.1 y (pQ hx).1);exact⟨y,rfl,by simpa using hf,by omega,by omega⟩
def Lt{p:Pl}(h:VP p)(r f n:Int)(hr:0<=r/\r<8)(hn:1<=n/\n<=1000000)(hf:0<=f/\f+n-1<=100000000):Xo p p.fi r f n=true:=by
 obtain⟨y,hy,hk,_⟩:=h.fill;exact(nY _ _ _ _ _).2 ⟨⟨by omega,by omega,by omega,by omega⟩,fun x h1 h2=>⟨y,hy,hr,by omega,.inl hk⟩⟩
def Qbo{p:Pl}(h:VP p)(hl:p.ln<=1000000)(x:Int×Int)(hx:0<=x.1/\1<=x.2/\x.2<=Yi p/\x.1+x.2<=p.ln):ZY p (Ve p x)=true:=by
 obtain⟨y,hy,hk,hy1,hy2⟩:=h.fill;have hff:Yi p=y.fr:=by simp only[Yi,hy]
 rw[hff]at hx;have hre:(Ve p x).re=F0 p:=rfl
 have hm:asL p (Ve p x)=F0 p:=by
  refine yc _ fun i hi=>?_;exact Lt h i x.1 x.2 (by omega) (by omega) (by omega)
 have Ld:=h.rg;have h1:GJ (F0 p)=1:=Z1 (n:=(min p.rg 8).toNat) (by omega) rfl;have h2:afN (F0 p) (F0 p)=0:=RN (GK _ _ (by omega));have hw:IntKind.i64.wrap (y.fr-x.2)=y.fr-x.2:=by rw[Qk]<;>omega
 have cm:(Ve p x).it=p.fi:=rfl;have uv:(Ve p x).fr=x.2:=rfl;have hi0:(Ve p x).i=0:=rfl;have eu:(Ve p x).al=[]:=rfl;rw[ZY,cm,hy];simp only;rw[hm,hre,uv,hi0,eu,hw,h1,h2,if_neg (by omega),if_neg (by omega)];simp[ZX]
def Z2{lo up:Int}{ks:List Int}(h:Kn lo up none ks=true):ks.Pairwise (·<·)/\∀k∈ks,lo<=k/\k<=up:=by
 obtain⟨h1,h2⟩:=lq h;exact⟨h1,fun k hk=>⟨(h2 k hk).1,(h2 k hk).2.1⟩⟩
end Go.Proofs.YtnopaopphmjnmaaGreatDoor
