import Derived.Test.YtnopaopphmjnmaaGreatDoorMDMN
import Derived.Test.YtnopaopphmjnmaaGreatDoorMDMT
set_option linter.all false
set_option maxRecDepth 100000
set_option maxHeartbeats 64000000
namespace Go.Proofs.YtnopaopphmjnmaaGreatDoor
open Go Go.Abs
def Wt(f:Int)(e:bD):Bool:=decide (e.st<=f/\f<e.st+e.fr)
def Uf(e:bD):Prop:=(0<=e.st/\e.st<=1000000)/\(0<=e.fr/\e.fr<=1000000)/\(0<=e.i/\e.i<=1000000)/\e.al.length<=8796093022208
def gU(f:Int):List bD->Nat->Int
 |[],_=> -1
 |e::r,i=>if Wt f e=true then i else gU f r (i+1)
def zJ(f:Int):List bD->Option bD
 |[]=>none
 |e::r=>if Wt f e=true then some e else zJ f r
def xJ{f:Int}:∀{L:List bD}{i:Nat},zJ f L=none->gU f L i= -1
 |[],_,_=>rfl
 |a::r,i,h=>by
  simp only[zJ]at h;split at h
  ·cases h
  rename_i hn;simp only[gU,if_neg hn];exact xJ h
def xK{f:Int}{a:bD}:∀{L:List bD}{i:Nat},zJ f L=some a->∃k:Nat,gU f L i=((i+k:Nat):Int)/\L[k]?=some a/\Wt f a=true
 |[],_,h=>by cases h
 |b::r,i,h=>by
  simp only[zJ]at h;split at h
  ·rename_i hb;cases h;exact⟨0,by simp[gU,hb],rfl,hb⟩
  rename_i hn;obtain⟨k,h1,h2,h3⟩:=xK (i:=i+1) h;exact⟨k+1,by simp only[gU,if_neg hn,h1];omega,by simpa using h2,h3⟩
def Lx(f:Int):Nat->FuncId->List AV->AV:=fun _ _ l=>match l with
 |[.agg [_,_,.int _ st,.int _ fr,_,_,_],_]=>.bool (decide (st<=f/\f<st+fr))
 |_=>.junk
def Tt(f:Int):Option bD->AV
 |none=>Z4
 |some e=>.aU [.agg (Qf e),I (e.i+f-e.st),.bool true]
open Go Go.Abs
structure Cue where
 id:Int
 fr:Int
 to:Int
 pr:Int
 tx:ByteArray
def Qj(c:Cue):List AV:=[I c.id,I c.fr,I c.to,I c.pr,.str c.tx]
structure Pg where
 p:Pl
 ev:List bD
 cu:List Cue
 ed:Int
 dr:List Int
 ve:Int
def Qo(g:Pg):List AV:=Qc g.p++[.sl .ro (g.ev.map Qf),.sl .ro (g.cu.map Qj),I g.ed,.sl .ro (g.dr.map Qy),I g.ve]
structure Od where
 sq:Int
 ch:Int
 fr:Int
 ki:Int
 en:Int
 n:Int
 nw:En
 cl:Cl
 cu:Cue
def Qp(o:Od):List AV:=[I o.sq,I o.ch,I o.fr,I o.ki,I o.en,I o.n]++(Qd o.nw++(Qg o.cl++Qj o.cu))
def GF(pre a r bs:List AV)(h:bs.length=a.length):setA (pre++(a++r)) pre.length bs=pre++(bs++r):=by
 induction bs generalizing pre a with
 |nil=>cases a with
  |nil=>rfl
  |cons _ _=>simp at h
 |cons x bs ih=>cases a with
  |nil=>simp at h
  |cons y a=>
   rw[setA];have e:(pre++(y::a++r)).set pre.length x=(pre++[x])++(a++r):=by simp
   rw[e];have:=ih (pre++[x]) a (by simpa using h);rw[show(pre++[x]).length=pre.length+1 by simp]at this;rw[this];simp
theorem jN(l:List AV)(o:Nat):setA l o []=l:=rfl
def xL(y:AV):∀(xs l:List AV)(n:Nat),setA (y::l) (n+1) xs=y::setA l n xs
 |[],_,_=>rfl
 |x::xs,l,n=>by
  rw[setA,setA,zzdu];exact xL y xs _ _
def jO(y x:AV)(xs l:List AV):setA (y::l) 0 (x::xs)=x::setA l 0 xs:=by
 rw[setA,List.set_cons_zero,xL]
def Ww{sz:Nat}:∀{rows:List (List AV)},(∀r∈rows,r.length=sz)->rows.flatten.length=rows.length*sz
 |[],_=>by simp
 |a::r,h=>by
  have:=Ww (rows:=r) fun x hx=>h x (by simp[hx]);rw[zzci,zzai,this,h a (by simp),zzbd,zzhm];omega
def Jk{sz:Nat}:∀{rows:List (List AV)},(∀r∈rows,r.length=sz)->aV sz rows.length rows.flatten=rows
 |[],_=>rfl
 |a::r,h=>by
  have ha:=h a (by simp);have ih:=Jk (rows:=r) fun x hx=>h x (by simp[hx]);rw[zzbd,wg,zzci,List.take_append_of_le_length (by omega),zzdm (by omega),zzam (by omega),List.drop_of_length_le (by omega),zzah,ih]
def Bg{sz:Nat}:∀{rows:List (List AV)}{i:Nat}{row:List AV},(∀r∈rows,r.length=sz)->rows[i]?=some row->∃pre r,rows.flatten=pre++(row++r)/\pre.length=i*sz
 |[],i,row,_,h=>by simp at h
 |a::r,0,row,h,hi=>by simp at hi;subst hi;exact⟨[],r.flatten,by simp,by simp⟩
 |a::r,i+1,row,h,hi=>by
  obtain⟨p,q,h1,h2⟩:=Bg (rows:=r) (fun x hx=>h x (by simp[hx])) (by simpa using hi);have ha:=h a (by simp);exact⟨a++p,q,by rw[zzci,h1,zzba],by rw[zzai,h2,ha,zzhm];omega⟩
def kZ{sz:Nat}{rows:List (List AV)}{i:Nat}{row:List AV}(h:∀r∈rows,r.length=sz)(hi:rows[i]?=some row):(∃r,rows.flatten.drop (i*sz)=row++r)/\setA rows.flatten (i*sz) row=rows.flatten:=by
 obtain⟨p,q,h1,h2⟩:=Bg h hi;refine⟨⟨q,by rw[h1,<- h2,zzff]⟩,?_⟩;rw[h1,<- h2];exact GF p row q row rfl
def fh{α:Type}{f:α->List AV}(h:∀a,Zg (f a)=true)(l:List α):Zg (l.map f).flatten=true:=by
 induction l with
 |nil=>rfl
 |cons a r ih=>rw[zzay,zzci];exact Rm (h a) ih
def Qar{α:Type}{f:α->List AV}{sz:Nat}(h:∀a,(f a).length=sz)(l:List α):∀r∈l.map f,r.length=sz:=by
 intro r hr;simp only[zzaw]at hr;obtain⟨a,_,rfl⟩:=hr;exact h a
def pN(l:List Sp)(h:l.length<=8796093022208):Pure Tryz.prog aq 124 [.sl .ro (l.map Qe)] (.sl .ro (l.map Qe)):=by
 refine Qn acK (fun _ _ _=>.junk) (by simp) ?_;simp[ahM,ahN];exact⟨by rintro row a b _ rfl;rfl,by omega⟩
def pO(l:List It)(h:l.length<=1000000000):Pure Tryz.prog aq 125 [.sl .ro (l.map Qm)] (.sl .ro (l.map Qm)):=by
 refine Qn acL (fun _ _ _=>.junk) (by simp) ?_;simp[ahO,ahP];exact⟨fun _ _=>rfl,by omega⟩
def pP(l:List Bk)(h:l.length<=1000000000):Pure Tryz.prog aq 128 [.sl .ro (l.map Xa)] (.sl .ro (l.map Xa)):=by
 refine Qn acN (fun _ _ _=>.junk) (by simp) ?_;simp[ahS,ahT];exact⟨fun _ _=>rfl,by omega⟩
def Di(l:List Cl)(h:l.length<=1000000000):Pure Tryz.prog aq 129 [.sl .ro (l.map Qg)] (.sl .ro (l.map Qg)):=by
 refine Qn M6 (fun _ _ _=>.junk) (by simp) ?_;simp[T6,T7];exact⟨fun _ _=>rfl,by omega⟩
def OL(l:List Sp)(h:l.length<=8796093022208):Pure Tryz.prog aq 152 [.sl .ro (l.map Qe)] (.sl .ro (l.map Qe)):=by
 refine Qn ac4 (fun _ _ _=>.junk) (by simp) ?_;simp[aih,aii];exact⟨by rintro row a b _ rfl;rfl,by omega⟩
def af5(l:List Cue)(h:l.length<=1000000000):Pure Tryz.prog aq 153 [.sl .ro (l.map Qj)] (.sl .ro (l.map Qj)):=by
 refine Qn ac5 (fun _ _ _=>.junk) (by simp) ?_;simp[aij,aik];exact⟨fun _ _=>rfl,by omega⟩
def af6(l:List Int)(h:l.length<=1000000000):Pure Tryz.prog aq 154 [.sl .ro (l.map Qy)] (.sl .ro (l.map Qy)):=by
 refine Qn ac6 (fun _ _ _=>.junk) (by simp) ?_;simp[ail,aim];exact⟨fun _ _=>rfl,by omega⟩
def Wj(e:En)(h:e.al.length<=8796093022208):Pure Tryz.prog aq 127 [.agg (Qd e)] (.agg (Qd e)):=by
 have k:=OL e.al h;refine Qn acM (fun _ _ l=>l.headD .junk) (by simp) ?_;simp[ahQ,ahR,Qd];exact k
def af7:Nat->FuncId->List AV->AV:=fun _ f _=>if f=999999 then .aK 0 []else .junk
def xM(Y:YT)(rows:List (List AV))(h:∀r∈rows,r.length=7)(hl:rows.length<=1000000000)(aJ:rows≠[])(m:AM)(K:AV->AM->Prop)(hK:K (.bs m.boxes.length 0 rows.length 7) {m with boxes:=m.boxes++[rows.flatten]}):
  an Tryz.prog aq Y 126 [.sl .ro rows] m K:=by
 refine Xe BR af7 (by simp) ?_;simp[M4,M5,af7,aJ];exact⟨⟨by omega,h⟩,hK⟩
def Z5(Y:YT)(rows:List (List AV))(h:∀r∈rows,r.length=7)(hl:rows.length<=1000000000)(aJ:rows≠[])(m:AM)(K:AV->AM->Prop)(hK:K (.bs m.boxes.length 0 rows.length 7) {m with boxes:=m.boxes++[rows.flatten]}):
  an Tryz.prog aq Y 151 [.sl .ro rows] m K:=by
 refine Xe Nf af7 (by simp) ?_;simp[UL,UM,af7,aJ];exact⟨⟨by omega,h⟩,hK⟩
def GG:Pure Tryz.prog aq 126 [.sl .ro []] (.sl .ro []):=by
 refine Qn BR (fun _ _ _=>.junk) (by simp) ?_;simp[M4,M5]
def Z6:Pure Tryz.prog aq 151 [.sl .ro []] (.sl .ro []):=by
 refine Qn Nf (fun _ _ _=>.junk) (by simp) ?_;simp[UL,UM]
open Go Go.Abs
def Kc(p:Pl):Nat->FuncId->List AV->AV:=fun _ f l=>if f=126 then(if p.ens=[]then .sl .ro []else .gd false .junk)else l.headD .junk
def Bh(p:Pl):Prop:=p.sh.length<=1000000/\p.aL.length<=1000000/\p.ens.length<=1000000/\p.bks.length<=1000000/\p.cls.length<=1000000/\∀e∈p.ens,e.al.length<=8796093022208
def atD(p:Pl)(m0:List AV)(f:Nat->AV)(m:AM):Prop:=∃(i:Nat)(bx:List (List AV)),f 22=I i/\i<=p.ens.length/\m=⟨[I p.ch,I p.nu,I p.de,I p.of,.sl .ro (p.sh.map Qe),I p.ep,I p.rg,I p.ln,I p.fi,.sl .ro (p.aL.map Qm),.bs 2 0 p.ens.length 7,.sl .ro (p.bks.map Xa),.sl .ro (p.cls.map Qg)]::m0::(p.ens.map Qd).flatten::bx,[],fun _=>.gone,0⟩
def pQ(p:Pl)(h:Bh p):Pure Tryz.prog aq 61 [.agg (Qc p)] (.agg (Qc p)):=by
 obtain⟨h1,h2,h3,h4,h5,h6⟩:=h;have k1:=pN p.sh (by omega);have k2:=pO p.aL (by omega);have k4:=pP p.bks (by omega);have k5:=Di p.cls (by omega);have hsz:=Qar (f:=Qd) (sz:=7) (fun _=>rfl) p.ens;refine Qn uQ (Kc p) (by simp) ?_;by_cases hn:p.ens=[]
 ·have k3:=GG;simp[IQ,Qc,Kc,hn];refine⟨k1,k2,k3,?_⟩;refine Qi eE (fun f m=>f 22=I 0/\m=⟨[I p.ch,I p.nu,I p.de,I p.of,.sl .ro (p.sh.map Qe),I p.ep,I p.rg,I p.ln,I p.fi,.sl .ro (p.aL.map Qm),.sl .ro [],.sl .ro (p.bks.map Xa),.sl .ro (p.cls.map Qg)]::[[I 0,I 0,I 0,I 0,.sl .nil [],I 0,I 0,I 0,I 0,.sl .nil [],.sl .nil [],.sl .nil [],.sl .nil []]],[],fun _=>.gone,0⟩) (fun f _=>0) ?_ ?_
  ·exact⟨by simp,by simp⟩
  rintro f m ⟨f22,rfl⟩;simp[f22,eE,IS,Kc];exact⟨k4,k5⟩
 have aJ:p.ens.map Qd≠[]:=by simpa using hn
 simp[IQ,Qc,Kc,hn];refine⟨k1,k2,xM _ _ hsz (by simpa using by omega) aJ _ _ ?_⟩;simp;obtain⟨F,hF⟩:∃F,(p.ens.map Qd).flatten=F:=⟨_,rfl⟩;have IJ:F.length=p.ens.length*7:=by rw[<- hF,Ww hsz];simp
 have bT:Zg F=true:=by rw[<- hF];exact fh (fun _=>rfl) _
 have jg:aV 7 p.ens.length F=p.ens.map Qd:=by have:=Jk hsz;rw[hF]at this;simpa using this
 have zK:∀m,F.map (bF m 4)=F:=fun m=>Zk m 3 bT;rw[hF];refine Qi eE (atD p [I 0,I 0,I 0,I 0,.sl .nil [],I 0,I 0,I 0,I 0,.sl .nil [],.sl .nil [],.sl .nil [],.sl .nil []]) (fun f _=>p.ens.length-(numOf (f 22)).toNat) ?_ ?_
 ·exact⟨0,[],by simp,by omega,by rw[hF]⟩
 rintro f m ⟨i,bx,f22,hi,rfl⟩;rw[hF];rcases zzaa i p.ens.length with ai|bw
 ·obtain⟨e,he⟩:=aP ai;have ah:(i:Int)<(p.ens.length:Int):=by omega
  have hw:=bH i (by omega);obtain⟨⟨r,hd⟩,cc⟩:=kZ hsz (i:=i) (row:=Qd e) (by simp[he]);rw[hF]at hd cc;simp only[Qd,zzae,zzah]at hd cc;have GH:=Wj e (h6 e (zzac he));simp only[Qd]at GH;simp[-setA,jN,jO,f22,eE,ah,hd,cc,IJ,hw,Kc];refine⟨GH,by omega,aN,⟨i+1,bx++[[I e.id,I e.it,I e.fr,I e.ea,I e.la,I e.bo,.sl .ro (e.al.map Qe)]],by simp,by omega,by rw[hF]⟩,by omega⟩
 obtain rfl:i=p.ens.length:=by omega
 simp[f22,eE,IS,Kc,IJ,zK,jg];exact⟨k4,k5⟩
def PgC(g:Pg):Prop:=Bh g.p/\g.ev.length<=1000000/\g.cu.length<=1000000/\g.dr.length<=1000000/\∀e∈g.ev,e.al.length<=8796093022208
def Bi(g:Pg):Nat->FuncId->List AV->AV:=fun _ f l=>if f=151 then(if g.ev=[]then .sl .ro []else .gd false .junk)else l.headD .junk
def k6(g:Pg)(V:AV):List AV:=[I g.p.ch,I g.p.nu,I g.p.de,I g.p.of,.sl .ro (g.p.sh.map Qe),I g.p.ep,I g.p.rg,I g.p.ln,I g.p.fi,.sl .ro (g.p.aL.map Qm),.sl .ro (g.p.ens.map Qd),.sl .ro (g.p.bks.map Xa),.sl .ro (g.p.cls.map Qg),V,.sl .ro (g.cu.map Qj),I g.ed,.sl .ro (g.dr.map Qy),I g.ve]
def atE(g:Pg)(m0:List AV)(f:Nat->AV)(m:AM):Prop:=∃(i:Nat)(bx:List (List AV)),f 16=I i/\i<=g.ev.length/\m=⟨k6 g (.bs 2 0 g.ev.length 7)::m0::(g.ev.map Qf).flatten::bx,[],fun _=>.gone,0⟩
def eP:List AV:=[I 0,I 0,I 0,I 0,.sl .nil [],I 0,I 0,I 0,I 0,.sl .nil [],.sl .nil [],.sl .nil [],.sl .nil [],.sl .nil [],.sl .nil [],I 0,.sl .nil [],I 0]
def Z7(g:Pg)(h:PgC g):Pure Tryz.prog aq 76 [.agg (Qo g)] (.agg (Qo g)):=by
 obtain⟨h0,h1,h2,h3,h4⟩:=h;have k1:=pQ g.p h0;have k3:=af5 g.cu (by omega);have k4:=af6 g.dr (by omega);have hsz:=Qar (f:=Qf) (sz:=7) (fun _=>rfl) g.ev;simp only[Qc]at k1;refine Qn al8 (Bi g) (by simp) ?_;by_cases hn:g.ev=[]
 ·have k2:=Z6;simp[ab7,Qo,Qc,Bi,hn];refine⟨k1,k2,?_⟩;refine Qi Eo (fun f m=>f 16=I 0/\m=⟨k6 g (.sl .ro [])::[eP],[],fun _=>.gone,0⟩) (fun f _=>0) ?_ ?_
  ·exact⟨by simp,by simp[k6,eP]⟩
  rintro f m ⟨f16,rfl⟩;simp[f16,Eo,al7,k6,eP,Bi];exact⟨k3,k4⟩
 have aJ:g.ev.map Qf≠[]:=by simpa using hn
 simp[ab7,Qo,Qc,Bi,hn];refine⟨k1,Z5 _ _ hsz (by simpa using by omega) aJ _ _ ?_⟩;simp;obtain⟨F,hF⟩:∃F,(g.ev.map Qf).flatten=F:=⟨_,rfl⟩;have IJ:F.length=g.ev.length*7:=by rw[<- hF,Ww hsz];simp
 have bT:Zg F=true:=by rw[<- hF];exact fh (fun _=>rfl) _
 have jg:aV 7 g.ev.length F=g.ev.map Qf:=by have:=Jk hsz;rw[hF]at this;simpa using this
 have zK:∀m,F.map (bF m 4)=F:=fun m=>Zk m 3 bT;rw[hF];refine Qi Eo (atE g eP) (fun f _=>g.ev.length-(numOf (f 16)).toNat) ?_ ?_
 ·exact⟨0,[],by simp,by omega,by rw[hF];rfl⟩
 rintro f m ⟨i,bx,f16,hi,rfl⟩;rw[hF];rcases zzaa i g.ev.length with ai|bw
 ·obtain⟨e,he⟩:=aP ai;have ah:(i:Int)<(g.ev.length:Int):=by omega
  have hw:=bH i (by omega);obtain⟨⟨r,hd⟩,cc⟩:=kZ hsz (i:=i) (row:=Qf e) (by simp[he]);rw[hF]at hd cc
  have hs6:F.set (i*7+6) (.sl .ro (e.al.map Qe))=F:=by
   have h7:F[i*7+6]?=some (.sl .ro (e.al.map Qe)):=by
    have:=congrArg (fun l=>l[6]?) hd;simpa[Qf]using this
   apply zzcj;intro j;by_cases hj:i*7+6=j
   ·subst hj;rw[h7,zzaz (zza.1 h7).1]
   rw[zzbe hj]
  simp only[Qf,zzae,zzah]at hd;have ax7:=OL e.al (h4 e (zzac he));simp[f16,Eo,k6,ah,hd,hs6,IJ,hw,Bi];refine⟨ax7,by omega,aN,⟨i+1,bx++[[I e.id,I e.it,I e.st,I e.fr,I e.i,I e.re,.sl .ro (e.al.map Qe)]],by simp,by omega,by rw[hF];rfl⟩,by omega⟩
 obtain rfl:i=g.ev.length:=by omega
 simp[f16,Eo,al7,k6,eP,Bi,IJ,zK,jg];exact⟨k3,k4⟩
open Go Go.Abs
def eL(n:Int):Bool:=decide (1<=n)&&decide (n<=1000000)
def Kv(n:Int):Pure Tryz.prog aq 80 [I n] (.bool (eL n)):=by
 refine Qn amc (fun _ _ _=>.junk) (by simp) ?_;by_cases h:1<=n
 ·simp[ama,amb,h,eL]
 simp[ama,amb,h,eL]
def eB:ByteArray:=⟨#[]⟩
def jP(tx:ByteArray):tx.toList=[]<->tx=eB:=by
 obtain⟨⟨l⟩⟩:=tx;rw[ByteArray.toList_eq];simp[eB]
def Jm(o:Od):Bool:=decide (o.en=0/\o.n=0/\o.cl=⟨0,0,0,0,0,0,0,0⟩/\(o.cu.id=0/\o.cu.fr=0/\o.cu.to=0/\o.cu.pr=0/\o.cu.tx=eB)/\o.nw.id=0/\o.nw.it=0/\o.nw.fr=0/\o.nw.ea=0/\o.nw.la=0/\o.nw.bo=0/\o.nw.al=[])
def LA(o:Od):Pure Tryz.prog aq 81 [.agg (Qp o)] (.bool (Jm o)):=by
 refine Qn amd (fun _ _ _=>.junk) (by simp) ?_;obtain⟨sq,ch,fr,ki,en,n,⟨a1,a2,a3,a4,a5,a6,al⟩,⟨c1,c2,c3,c4,c5,c6,c7,c8⟩,⟨d1,d2,d3,d4,tx⟩⟩:=o;simp[aqc,aqd,Qp,Qd,Qg,Qj];rw[zzbh];simp[Jm,jP,and_assoc]
def xN(r:Int):List Sp->Bool
 |[]=>true
 |a::l=>if r<a.1/\a.1<=7/\eL a.2=true then xN a.1 l else false
def yX(e:En):Bool:=eL e.id&&eL e.it&&decide (1<=e.fr/\e.fr<=100000000)&&decide (0<=e.ea/\e.ea<=e.la/\e.la<=100000000)&&(decide (e.bo=0)||eL e.bo)&&xN 0 e.al
def akF(e:En)(f:Nat->AV)(m:AM):Prop:=∃(i:Nat)(r:Int)(bx:List (List AV)),f 53=I i/\i<=e.al.length/\f 3=I r/\xN 0 e.al=xN r (e.al.drop i)/\m=⟨Qd e::bx,[],fun _=>.gone,0⟩
def Vf:Nat->FuncId->List AV->AV:=fun _ f l=>match l with|[.int _ n]=>.bool (eL n)|_=>.junk
def tV(e:En)(hl:e.al.length<=8796093022208):Pure Tryz.prog aq 82 [.agg (Qd e)] (.bool (yX e)):=by
 have q1:=Kv e.id;have q2:=Kv e.it;have q3:=Kv e.bo;refine Qn ame Vf (by simp) ?_;cases h1:eL e.id with
 |false=>rw[h1]at q1;simp[tD,iJ,Qd,Vf,h1,yX];exact q1
 |true=>
  rw[h1]at q1;cases h2:eL e.it with
  |false=>rw[h2]at q2;simp[tD,iJ,Qd,Vf,h1,h2,yX];exact⟨q1,q2⟩
  |true=>
   rw[h2]at q2;by_cases h3:e.fr<1
   ·have:¬1<=e.fr:=by omega
    simp[tD,iJ,Qd,Vf,h1,h2,h3,yX,this];exact⟨q1,q2⟩
   by_cases h4:100000000<e.fr
   ·have:¬e.fr<=100000000:=by omega
    simp[tD,iJ,Qd,Vf,h1,h2,h3,h4,yX,this];exact⟨q1,q2⟩
   have e34:1<=e.fr/\e.fr<=100000000:=by omega
   by_cases h5:e.ea<0
   ·have:¬0<=e.ea:=by omega
    simp[tD,iJ,Qd,Vf,h1,h2,h3,h4,h5,yX,this];exact⟨q1,q2⟩
   by_cases h6:e.la<e.ea
   ·have:¬e.ea<=e.la:=by omega
    simp[tD,iJ,Qd,Vf,h1,h2,h3,h4,h5,h6,yX,this];exact⟨q1,q2⟩
   by_cases h7:100000000<e.la
   ·have:¬e.la<=100000000:=by omega
    simp[tD,iJ,Qd,Vf,h1,h2,h3,h4,h5,h6,h7,yX,this];exact⟨q1,q2⟩
   have ax8:0<=e.ea/\e.ea<=e.la/\e.la<=100000000:=by omega
   by_cases h8:e.bo≠0/\eL e.bo=false
   ·obtain⟨h8,h9⟩:=h8;rw[h9]at q3;have h8':(e.bo !=0)=true:=by simpa using h8
    simp[tD,iJ,Qd,Vf,h1,h2,h3,h4,h5,h6,h7,h8,h8',h9,yX];exact⟨q1,q2,q3⟩
   have hb:(decide (e.bo=0)||eL e.bo)=true:=by
    by_cases hb:e.bo=0
    ·simp[hb]
    cases h9:eL e.bo with
    |true=>simp
    |false=>exact absurd ⟨hb,h9⟩ h8
   have hv:yX e=xN 0 e.al:=by simp only[yX,h1,h2,e34,ax8,hb,zzdz,and_self,decide_true]
   rw[hv]
   have hbo:(e.bo=0)\/(e.bo≠0/\eL e.bo=true):=by
    by_cases dQ:e.bo=0
    ·exact .inl dQ
    exact .inr ⟨dQ,by simpa[dQ]using hb⟩
   obtain dQ|⟨dQ,mw⟩:=hbo
   ·simp[tD,Qd,Vf,h1,h2,h3,h4,h5,h6,h7,dQ];refine⟨q1,q2,?_⟩;clear q1 q2 q3;refine Qi gJ (akF e) (fun f _=>e.al.length-(numOf (f 53)).toNat) ?_ ?_
    ·exact⟨0,0,[],by simp,by omega,by simp,by simp,by simp[Qd,dQ]⟩
    rintro f m ⟨i,r,bx,f53,hi,f3,hr,rfl⟩;rcases zzaa i e.al.length with ai|bw
    ·obtain⟨a,ha⟩:=aP ai;have aa:=Zd ha;have ah:(i:Int)<(e.al.length:Int):=by omega
     have hw:=bH i (by omega);have hd:e.al.drop i=a::e.al.drop (i+1):=by rw[zzaf ai,(zza.1 ha).2]
     rw[hd,xN]at hr;have qa:=Kv a.2;by_cases d1:a.1<=r
     ·rw[if_neg (by omega)]at hr;simp[f53,f3,gJ,iJ,Qd,ah,aa,d1,hr,Vf]
     by_cases d2:7<a.1
     ·rw[if_neg (by omega)]at hr;simp[f53,f3,gJ,iJ,Qd,ah,aa,d1,d2,hr,Vf]
     cases d3:eL a.2 with
     |false=>
      rw[d3]at qa;rw[if_neg (by simp[d3])]at hr;simp[f53,f3,gJ,iJ,Qd,ah,aa,d1,d2,d3,hr,Vf];exact qa
     |true=>
      rw[d3]at qa;rw[if_pos ⟨by omega,by omega,d3⟩]at hr;simp[f53,f3,gJ,Qd,ah,aa,d1,d2,d3,hw,Vf];refine⟨qa,aN,⟨i+1,a.1,bx++[[I a.1,I a.2]],by simp,by omega,by simp,hr,by simp[Qd]⟩,by omega⟩
    obtain rfl:i=e.al.length:=by omega
    simp[f53,f3,gJ,iJ,hr,xN]
   rw[mw]at q3;have afq:(e.bo !=0)=true:=by simpa using dQ
   simp[tD,Qd,Vf,h1,h2,h3,h4,h5,h6,h7,afq,mw];refine⟨q1,q2,q3,?_⟩;clear q1 q2 q3;refine Qi gJ (akF e) (fun f _=>e.al.length-(numOf (f 53)).toNat) ?_ ?_
   ·exact⟨0,0,[],by simp,by omega,by simp,by simp,by simp[Qd]⟩
   rintro f m ⟨i,r,bx,f53,hi,f3,hr,rfl⟩;rcases zzaa i e.al.length with ai|bw
   ·obtain⟨a,ha⟩:=aP ai;have aa:=Zd ha;have ah:(i:Int)<(e.al.length:Int):=by omega
    have hw:=bH i (by omega);have hd:e.al.drop i=a::e.al.drop (i+1):=by rw[zzaf ai,(zza.1 ha).2]
    rw[hd,xN]at hr;have qa:=Kv a.2;by_cases d1:a.1<=r
    ·rw[if_neg (by omega)]at hr;simp[f53,f3,gJ,iJ,Qd,ah,aa,d1,hr,Vf]
    by_cases d2:7<a.1
    ·rw[if_neg (by omega)]at hr;simp[f53,f3,gJ,iJ,Qd,ah,aa,d1,d2,hr,Vf]
    cases d3:eL a.2 with
    |false=>
     rw[d3]at qa;rw[if_neg (by simp[d3])]at hr;simp[f53,f3,gJ,iJ,Qd,ah,aa,d1,d2,d3,hr,Vf];exact qa
    |true=>
     rw[d3]at qa;rw[if_pos ⟨by omega,by omega,d3⟩]at hr;simp[f53,f3,gJ,Qd,ah,aa,d1,d2,d3,hw,Vf];refine⟨qa,aN,⟨i+1,a.1,bx++[[I a.1,I a.2]],by simp,by omega,by simp,hr,by simp[Qd]⟩,by omega⟩
   obtain rfl:i=e.al.length:=by omega
   simp[f53,f3,gJ,iJ,hr,xN]
open Go Go.Abs
def tW(s:ByteArray)(i:Nat):Nat:=(s.data.toList.getD i 0).toNat
def rC(s:ByteArray)(i:Nat)(h:i<s.size):(s.data[i]'h).toNat=tW s i:=by
 have h':i<s.data.size:=h;simp only[tW,zzas,zzcb,zzaj h',zzgq]
def GI(s:ByteArray)(n i:Nat):Bool:=match n with
 |0=>true
 |n+1=>if tW s i<32\/126<tW s i then false else GI s n (i+1)
def RL(s:ByteArray):Bool:=GI s s.size 0
def atF(s:ByteArray)(f:Nat->AV)(m:AM):Prop:=∃i:Nat,f 3=I i/\i<=s.size/\RL s=GI s (s.size-i) i/\m=⟨[],[],fun _=>.gone,0⟩
def xO(s:ByteArray)(h:s.size<=1000000):Pure Tryz.prog aq 245 [.str s] (.bool (RL s)):=by
 refine Qn ad2 (fun _ _ _=>.junk) (by simp) ?_;simp[VD];refine Qi vm (atF s) (fun f _=>s.size-(numOf (f 3)).toNat) ?_ ?_
 ·exact⟨0,by simp,by omega,rfl,rfl⟩
 rintro f m ⟨i,f3,hi,hr,rfl⟩;rcases zzaa i s.size with ai|bw
 ·have ah:(i:Int)<(s.size:Int):=by omega
  have hw:=bH i (by omega);obtain⟨n,hn⟩:∃n,s.size-i=n+1:=⟨s.size-i-1,by omega⟩;have hb:=rC s i ai;rw[hn,GI]at hr;by_cases h1:tW s i<32
  ·rw[if_pos (.inl h1)]at hr;have qG:((tW s i:Nat):Int)<32:=by omega
   simp[f3,vm,NA,ai,ah,hr,hb,qG]
  have qG:¬((tW s i:Nat):Int)<32:=by omega
  by_cases h2:126<tW s i
  ·rw[if_pos (.inr h2)]at hr;have D4:(126:Int)<((tW s i:Nat):Int):=by omega
   simp[f3,vm,NA,ai,ah,hr,hb,qG,D4]
  rw[if_neg (by omega)]at hr;have D4:¬(126:Int)<((tW s i:Nat):Int):=by omega
  simp[f3,vm,ai,ah,hw,hb,qG,D4];refine⟨aN,⟨i+1,by simp,by omega,by rw[hr];congr 1;omega,rfl⟩,by omega⟩
 obtain rfl:i=s.size:=by omega
 rw[zzdl,GI]at hr;simp[f3,vm,NA,hr]
def gV(s:ByteArray)(i:Nat):Option Nat->List ByteArray
 |none=>[]
 |some f=>[s.extract f i]
def Z8(s:ByteArray):Nat->Nat->Option Nat->List ByteArray
 |0,i,first=>gV s i first
 |n+1,i,first=>if tW s i≠32 then Z8 s n (i+1) (some (first.getD i))else gV s i first++Z8 s n (i+1) none
def Ui(s:ByteArray):List ByteArray:=Z8 s s.size 0 none
def Dj(s:ByteArray)(i:Nat)(first:Option Nat):List ByteArray:=if i<=s.size then Z8 s (s.size-i) i first else[]
def GJ{s:ByteArray}{i:Nat}(first:Option Nat)(h:i<s.size)(hb:tW s i≠32):Dj s i first=Dj s (i+1) (some (first.getD i)):=by
 obtain⟨n,hn⟩:∃n,s.size-i=n+1:=⟨s.size-i-1,by omega⟩;rw[Dj,if_pos (by omega),Dj,if_pos (by omega),hn,Z8,if_pos hb,show s.size-(i+1)=n by omega]
def Dk{s:ByteArray}{i:Nat}(first:Option Nat)(h:i<=s.size)(hb:i<s.size->tW s i=32):Dj s i first=gV s i first++Dj s (i+1) none:=by
 by_cases hi:i=s.size
 ·subst hi;have:Dj s (s.size+1) none=[]:=by rw[Dj,if_neg (by omega)]
  rw[this,Dj,if_pos (by omega),zzdl,Z8,zzat]
 obtain⟨n,hn⟩:∃n,s.size-i=n+1:=⟨s.size-i-1,by omega⟩;have:Dj s (i+1) none=Z8 s n (i+1) none:=by rw[Dj,if_pos (by omega),show s.size-(i+1)=n by omega]
 rw[this,Dj,if_pos h,hn,Z8,if_neg (by simp[hb (by omega)])]
def OM:Option Nat->Int
 |none=> -1
 |some k=>k
def LB(s:ByteArray):Pure Tryz.prog aq 246 [.str s] (.fn 303 [] [.ep [.str s] 0]):=by
 refine Qn ad3 (fun _ _ _=>.junk) (by simp) ?_;simp[ai1,ai2]
def atG(Y:YT)(lp:Nat)(K:AM->Prop)(s:ByteArray)(f:Nat->AV)(m:AM):Prop:=∃(i:Nat)(first:Option Nat),f 4=I i/\i<=s.size+1/\f 3=I (OM first)/\(∀k,first=some k->k<=i/\i<=s.size)/\wj (Y lp) K ((Dj s i first).map fun w=>[.str w]) m
def LC(s:ByteArray)(h:s.size<=1000000):Iter Tryz.prog aq 303 [] [.ep [.str s] 0] ((Ui s).map fun w=>[.str w]):=by
 intro Y lp m K hF;refine Xe aew (fun _ _ _=>.junk) (by simp) ?_;simp[VR,ajt];refine Qi iR (atG Y lp K s) (fun f _=>s.size+1-(numOf (f 4)).toNat) ?_ ?_
 ·exact⟨0,none,by simp,by omega,by simp[OM],⟨fun k(hk:none=some k)=>(by cases hk),by simpa[Dj,Ui]using hF⟩⟩
 rintro f m ⟨i,first,f4,hi,f3,P9,hr⟩;rcases zzaa s.size i with sj|bX
 ·have bJ:¬(i:Int)<=(s.size:Int):=by omega
  rw[Dj,if_neg (by omega)]at hr;simp[f4,iR,bJ];exact hr m (fF.refl m)
 have af8:(i:Int)<=(s.size:Int):=by omega
 have hw:=bH i (by omega);by_cases hb:i<s.size/\tW s i≠32
 ·obtain⟨ai,hb⟩:=hb;have ah:(i:Int)<(s.size:Int):=by omega
  have D6:=rC s i ai;have hbI:¬((tW s i:Nat):Int)=32:=by omega
  rw[GJ first ai hb]at hr;cases first with
  |none=>
   simp[f4,f3,OM,iR,af8,ai,ah,D6,hbI,hw];refine⟨aN,⟨i+1,some i,by simp,by omega,by simp[OM],⟨fun k(hk:some i=some k)=>(by cases hk;omega),hr⟩⟩,by omega⟩
  |some k=>
   have WY:¬(k:Int)<0:=by omega
   obtain⟨cZ,dw⟩:=P9 k rfl;simp[f4,f3,OM,iR,af8,ai,ah,D6,hbI,hw,WY];refine⟨aN,⟨i+1,some k,by simp,by omega,by simp[OM],⟨fun k'(hk:some k=some k')=>(by cases hk;omega),hr⟩⟩,by omega⟩
 have cK:i<s.size->tW s i=32:=fun h=>Classical.byContradiction fun h2=>hb ⟨h,h2⟩;rw[Dk first bX cK]at hr;cases first with
 |none=>
  simp only[gV,zzah]at hr;rcases zzaa i s.size with ai|bw
  ·have ah:(i:Int)<(s.size:Int):=by omega
   have D6:=rC s i ai;have GK:=cK ai;simp[f4,f3,OM,iR,af8,ai,ah,D6,GK,hw];refine⟨aN,⟨i+1,none,by simp,by omega,by simp[OM],⟨fun k(hk:none=some k)=>(by cases hk),hr⟩⟩,by omega⟩
  obtain rfl:i=s.size:=by omega
  simp[f4,f3,OM,iR,hw];refine⟨aN,⟨s.size+1,none,by simp,by omega,by simp[OM],⟨fun k(hk:none=some k)=>(by cases hk),hr⟩⟩⟩
 |some k=>
  obtain⟨cZ,dw⟩:=P9 k rfl;have WY:(0:Int)<=(k:Int):=by omega
  simp only[gV,zzae,zzah,zzay]at hr;rcases zzaa i s.size with ai|bw
  ·have ah:(i:Int)<(s.size:Int):=by omega
   have D6:=rC s i ai;have GK:=cK ai;simp[f4,f3,OM,iR,af8,ai,ah,D6,GK,hw,WY,cZ];refine hr m (fF.refl m) _ (fun m2 h2=>?_) (fun m2 h2=>?_)
   ·simp;refine⟨aN,⟨i+1,none,by simp,by omega,by simp[OM],⟨fun k(hk:none=some k)=>(by cases hk),h2⟩⟩,by omega⟩
   simp;exact h2 m2 (fF.refl m2)
  obtain rfl:i=s.size:=by omega
  simp[f4,f3,OM,iR,hw,WY,cZ];refine hr m (fF.refl m) _ (fun m2 h2=>?_) (fun m2 h2=>?_)
  ·simp;refine⟨aN,⟨s.size+1,none,by simp,by omega,by simp[OM],⟨fun k(hk:none=some k)=>(by cases hk),h2⟩⟩⟩
  simp;exact h2 m2 (fF.refl m2)
open Go Go.Abs
def Za(n:Int):Prop:= -9223372036854775808<=n/\n<=9223372036854775807
def OKP(p:Pl):Prop:=∀e∈p.ens,e.al.length<=8796093022208
open Go Go.Abs
def Z9(p:Pl)(e:bD):Int->List Sp->Bool
 |_,[]=>true
 |last,a::r=>match Xg a.2 p.aL with
  |none=>false
  |some y=>if a.1<=last\/p.rg<=a.1\/y.fr<IntKind.i64.wrap (e.i+e.fr)then false else if Xv p a.2 a.1 e.st e.fr=false then false else Z9 p e a.1 r
def atH(p:Pl)(e:bD):Int:=Un (fun i=>Xv p e.it i e.st e.fr) (min p.rg 8).toNat
def GL(a:Int):Int:=IntKind.i64.wrap (((a%2 ^ IntKind.i64.bits).toNat&&& ((1:Int)%2 ^ IntKind.i64.bits).toNat:Nat):Int)
def af9(a b:Int):Int:=IntKind.i64.wrap (((a%2 ^ IntKind.i64.bits).toNat&&& (2 ^ IntKind.i64.bits-1-(b%2 ^ IntKind.i64.bits).toNat):Nat):Int)
def aaa(p:Pl)(e:bD):Bool:=match Xg e.it p.aL with
 |none=>false
 |some x=>if e.fr<1\/e.i<0\/x.fr<e.fr\/IntKind.i64.wrap (x.fr-e.fr)<e.i then false else
  if GL e.re=0\/af9 e.re (atH p e)≠0 then false else Z9 p e 0 e.al&&(decide (e.id≠0)||(decide (e.it=p.fi)&&decide (e.al=[])))
open Go Go.Abs
def aga(x r n:Nat)(h:r<n):((x+2 ^ n)/2 ^ r)%2=(x/2 ^ r)%2:=by
 obtain⟨k,rfl⟩:∃k,n=r+(k+1):=⟨n-r-1,by omega⟩;have e:2 ^ (r+(k+1))=2 ^ r*(2*2 ^ k):=by rw[Nat.pow_add,zzhp,zzec (2 ^ k) 2]
 rw[e,Nat.add_mul_div_left _ _ (Nat.two_pow_pos r),Nat.add_mul_mod_self_left]
def xP(b:Nat->Bool):Nat->Nat
 |0=>0
 |n+1=>xP b n+if b n then 2 ^ n else 0
def Dl(b:Nat->Bool):∀n,xP b n<2 ^ n
 |0=>by simp[xP]
 |n+1=>by
  have:=Dl b n;rw[xP,zzhp];split<;>omega
def LD(b:Nat->Bool):∀n,Un b n=(xP b n:Int)
 |0=>rfl
 |n+1=>by
  rw[Un,xP,LD b n];split
  ·push_cast;rfl
  simp
def GM(b:Nat->Bool)(r:Nat):∀n,(xP b n).testBit r=(decide (r<n)&&b r)
 |0=>by simp[xP]
 |n+1=>by
  have ih:=GM b r n;have ai:=Dl b n;rw[xP];by_cases hb:b n=true
  ·rw[if_pos hb];rcases zzfh r n with h|h|h
   ·rw[zzee,aga _ _ _ h,<- zzee,ih];simp[h,Nat.lt_succ_of_lt h]
   ·subst h
    have:(xP b r+2 ^ r)/2 ^ r=1:=by
     rw[Nat.add_div_right _ (Nat.two_pow_pos r),zzgk ai]
    rw[zzee,this];simp[hb]
   have:xP b n+2 ^ n<2 ^ r:=by
    have:2 ^ (n+1)<=2 ^ r:=Nat.pow_le_pow_right (by omega) h;rw[zzhp]at this;omega
   rw[Nat.testBit_lt_two_pow this];simp;intro h2;omega
  rw[if_neg hb,zzcn,ih];by_cases h:r=n
  ·subst h;simp[hb]
  have:decide (r<n)=decide (r<n+1):=decide_eq_decide.2 (by omega);rw[this]
def anV(x:Int)(r:Nat):Bool:=x.toNat.testBit r
def aab(b:Nat->Bool)(n r:Nat):anV (Un b n) r=(decide (r<n)&&b r):=by
 unfold anV;rw[LD,zzgg,GM]
def GN(b:Nat->Bool)(n:Nat)(hn:n<=8):0<=Un b n/\Un b n<256:=by
 have:=Dl b n;rw[LD];have h2:2 ^ n<=2 ^ 8:=Nat.pow_le_pow_right (by omega) hn;omega
def atI(x:Int)(h:0<=x/\x<256):(x%2 ^ IntKind.i64.bits).toNat=x.toNat:=by
 have:(2:Int) ^ IntKind.i64.bits=18446744073709551616:=by decide
 rw[this,Int.emod_eq_of_lt h.1 (by omega)]
def aac(x:Int)(h:0<=x/\x<256):GL x=x%2:=by
 unfold GL;rw[atI x h,atI 1 (by omega)];have:x.toNat&&& (1:Int).toNat=x.toNat%2:=Nat.and_one_is_mod _;rw[this,Qk]<;>omega
open Go Go.Abs
def RM{x:Int}(h:0<=x/\x<256):af9 x x=0:=by
 have key:∀n:Nat,n<256->af9 (n:Int) (n:Int)=0:=by decide+kernel
 have:=key x.toNat (by omega);rwa [Int.toNat_of_nonneg h.1]at this
def xQ{b c:Nat->Bool}:∀(n:Nat),(∀i,i<n->b i=c i)->Un b n=Un c n
 |0,_=>rfl
 |n+1,h=>by rw[Un,Un,xQ n (fun i hi=>h i (by omega)),h n (by omega)]
def aad{b:Nat->Bool}{n:Nat}(hn:1<=n/\n<=8)(h0:b 0=true):GL (Un b n)=1:=by
 have hb:=GN b n hn.2;rw[aac _ hb];have h1:=aab b n 0;rw[h0]at h1;have h2:decide (0<n)=true:=by simp;omega
 rw[h2]at h1;simp only[anV,Nat.testBit_zero,zzgc,decide_eq_true_eq]at h1;omega
structure VP (p:Pl):Prop where
 rg:1<=p.rg/\p.rg<=8
 ln:1<=p.ln/\p.ln<=100000000
 fill:∃y,Xg p.fi p.aL=some y/\y.ki=5/\1<=y.fr/\y.fr<=100000000
 aL:∀y∈p.aL,Tn y=true
 ens:∀e∈p.ens,1<=e.id/\jK p e=true/\mG p e=true
def GO{p:Pl}:∀{l:List En}{seen:List Int},Gn p seen l=true->∀e∈l,1<=e.id/\jK p e=true/\mG p e=true
 |x::r,seen,h,e,he=>by
  rw[Gn,zzak]at h;rcases zzau.1 he with rfl|he
  ·have h1:=h.1;simp only[zF,zzak,wi,decide_eq_true_eq]at h1;exact⟨h1.1.1,h1.2.2.1,h1.2.2.2.1⟩
  exact GO h.2 e he
def LF{p:Pl}(h:qp p=true):VP p:=by
 simp only[qp,zzak]at h;obtain⟨h1,h2,h3,h4,h5⟩:=h;simp only[Uv,zzak,wi,decide_eq_true_eq]at h1;simp only[Tp,zzak,decide_eq_true_eq]at h2;simp only[xz,zzak,decide_eq_true_eq]at h4;refine⟨h1.2.2.2.2.1,h1.2.2.2.2.2,?_,pJ h2.2.2.1,GO h4.2⟩;have hf:=h2.2.2.2;unfold wz at hf;cases hx:Xg p.fi p.aL with
 |none=>rw[hx]at hf;cases hf
 |some y=>
  rw[hx]at hf;have hb:=ZB (pJ h2.2.2.1 y (xw hx).1);exact⟨y,rfl,by simpa using hf,by omega,by omega⟩
def LG{p:Pl}(h:VP p)(r f n:Int)(hr:0<=r/\r<8)(hn:1<=n/\n<=1000000)(hf:0<=f/\f+n-1<=100000000):Xv p p.fi r f n=true:=by
 obtain⟨y,hy,hk,_⟩:=h.fill;exact(LH _ _ _ _ _).2 ⟨⟨by omega,by omega,by omega,by omega⟩,fun x h1 h2=>⟨y,hy,hr,by omega,.inl hk⟩⟩
def Qbf{p:Pl}(h:VP p)(hl:p.ln<=1000000)(x:Int×Int)(hx:0<=x.1/\1<=x.2/\x.2<=Yb p/\x.1+x.2<=p.ln):aaa p (Vg p x)=true:=by
 obtain⟨y,hy,hk,hy1,hy2⟩:=h.fill;have hff:Yb p=y.fr:=by simp only[Yb,hy]
 rw[hff]at hx;have hre:(Vg p x).re=F4 p:=rfl
 have hm:atH p (Vg p x)=F4 p:=by
  refine xQ _ fun i hi=>?_;exact LG h i x.1 x.2 (by omega) (by omega) (by omega)
 have Ou:=h.rg;have h1:GL (F4 p)=1:=aad (n:=(min p.rg 8).toNat) (by omega) rfl;have h2:af9 (F4 p) (F4 p)=0:=RM (GN _ _ (by omega));have hw:IntKind.i64.wrap (y.fr-x.2)=y.fr-x.2:=by rw[Qk]<;>omega
 have cH:(Vg p x).it=p.fi:=rfl;have sE:(Vg p x).fr=x.2:=rfl;have hi0:(Vg p x).i=0:=rfl;have ei:(Vg p x).al=[]:=rfl;rw[aaa,cH,hy];simp only;rw[hm,hre,sE,hi0,ei,hw,h1,h2,if_neg (by omega),if_neg (by omega)];simp[Z9]
def aae{lo up:Int}{ks:List Int}(h:Kl lo up none ks=true):ks.Pairwise (·<·)/\∀k∈ks,lo<=k/\k<=up:=by
 obtain⟨h1,h2⟩:=kX h;exact⟨h1,fun k hk=>⟨(h2 k hk).1,(h2 k hk).2.1⟩⟩
end Go.Proofs.YtnopaopphmjnmaaGreatDoor
