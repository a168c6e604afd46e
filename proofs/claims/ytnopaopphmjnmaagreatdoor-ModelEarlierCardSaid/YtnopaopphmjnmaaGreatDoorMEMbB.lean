import Derived.Test.YtnopaopphmjnmaaGreatDoorMEMN
import Derived.Test.YtnopaopphmjnmaaGreatDoorMEMT
set_option linter.all false
set_option maxRecDepth 100000
set_option maxHeartbeats 64000000
namespace Go.Proofs.YtnopaopphmjnmaaGreatDoor
open Go Go.Abs
def sV(f:Int)(e:bE):Bool:=decide (e.st<=f/\f<e.st+e.fr)
def Ul(e:bE):Prop:=(0<=e.st/\e.st<=1000000)/\(0<=e.fr/\e.fr<=1000000)/\(0<=e.i/\e.i<=1000000)/\e.al.length<=8796093022208
def ic(f:Int):List bE->Nat->Int
 |[],_=> -1
 |e::r,i=>if sV f e=true then i else ic f r (i+1)
def zV(f:Int):List bE->Option bE
 |[]=>none
 |e::r=>if sV f e=true then some e else zV f r
def x9{f:Int}:∀{L:List bE}{i:Nat},zV f L=none->ic f L i= -1
 |[],_,_=>rfl
 |a::r,i,h=>by
  simp only[zV]at h;split at h
  ·cases h
  rename_i hn;simp only[ic,if_neg hn];exact x9 h
def ya{f:Int}{a:bE}:∀{L:List bE}{i:Nat},zV f L=some a->∃k:Nat,ic f L i=((i+k:Nat):Int)/\L[k]?=some a/\sV f a=true
 |[],_,h=>by cases h
 |b::r,i,h=>by
  simp only[zV]at h;split at h
  ·rename_i hb;cases h;exact⟨0,by simp[ic,hb],rfl,hb⟩
  rename_i hn;obtain⟨k,h1,h2,h3⟩:=ya (i:=i+1) h;exact⟨k+1,by simp only[ic,if_neg hn,h1];omega,by simpa using h2,h3⟩
def LB(f:Int):Nat->FuncId->List AV->AV:=fun _ _ l=>match l with
 |[.agg [_,_,.int _ st,.int _ fr,_,_,_],_]=>.bool (decide (st<=f/\f<st+fr))
 |_=>.junk
def Tt(f:Int):Option bE->AV
 |none=>ZM
 |some e=>.aW [.agg (Qf e),I (e.i+f-e.st),.bool true]
open Go Go.Abs
structure Cue where
 id:Int
 fr:Int
 to:Int
 pr:Int
 tx:ByteArray
def Qi(c:Cue):List AV:=[I c.id,I c.fr,I c.to,I c.pr,.str c.tx]
structure Pg where
 p:Pl
 ev:List bE
 cu:List Cue
 ed:Int
 dr:List Int
 ve:Int
def Qo(g:Pg):List AV:=Qc g.p++[.sl .ro (g.ev.map Qf),.sl .ro (g.cu.map Qi),I g.ed,.sl .ro (g.dr.map Qy),I g.ve]
structure Od where
 sq:Int
 ch:Int
 fr:Int
 ki:Int
 en:Int
 n:Int
 nw:En
 cl:Cl
 cu:Cue
def Qq(o:Od):List AV:=[I o.sq,I o.ch,I o.fr,I o.ki,I o.en,I o.n]++(Qd o.nw++(Qg o.cl++Qi o.cu))
def GM(pre a r bs:List AV)(h:bs.length=a.length):setA (pre++(a++r)) pre.length bs=pre++(bs++r):=by
 induction bs generalizing pre a with
 |nil=>cases a with
  |nil=>rfl
  |cons _ _=>simp at h
 |cons x bs ih=>cases a with
  |nil=>simp at h
  |cons y a=>
   rw[setA];have e:(pre++(y::a++r)).set pre.length x=(pre++[x])++(a++r):=by simp
   rw[e];have:=ih (pre++[x]) a (by simpa using h);rw[show(pre++[x]).length=pre.length+1 by simp]at this;rw[this];simp
theorem jY(l:List AV)(o:Nat):setA l o []=l:=rfl
def yb(y:AV):∀(xs l:List AV)(n:Nat),setA (y::l) (n+1) xs=y::setA l n xs
 |[],_,_=>rfl
 |x::xs,l,n=>by
  rw[setA,setA,zzdy];exact yb y xs _ _
def jZ(y x:AV)(xs l:List AV):setA (y::l) 0 (x::xs)=x::setA l 0 xs:=by
 rw[setA,List.set_cons_zero,yb]
def Qad{sz:Nat}:∀{rows:List (List AV)},(∀r∈rows,r.length=sz)->rows.flatten.length=rows.length*sz
 |[],_=>by simp
 |a::r,h=>by
  have:=Qad (rows:=r) fun x hx=>h x (by simp[hx]);rw[zzcj,zzah,this,h a (by simp),zzba,zzhn];omega
def Ju{sz:Nat}:∀{rows:List (List AV)},(∀r∈rows,r.length=sz)->aV sz rows.length rows.flatten=rows
 |[],_=>rfl
 |a::r,h=>by
  have ha:=h a (by simp);have ih:=Ju (rows:=r) fun x hx=>h x (by simp[hx]);rw[zzba,wO,zzcj,List.take_append_of_le_length (by omega),zzdr (by omega),zzap (by omega),List.drop_of_length_le (by omega),zzaj,ih]
def Bm{sz:Nat}:∀{rows:List (List AV)}{i:Nat}{row:List AV},(∀r∈rows,r.length=sz)->rows[i]?=some row->∃pre r,rows.flatten=pre++(row++r)/\pre.length=i*sz
 |[],i,row,_,h=>by simp at h
 |a::r,0,row,h,hi=>by simp at hi;subst hi;exact⟨[],r.flatten,by simp,by simp⟩
 |a::r,i+1,row,h,hi=>by
  obtain⟨p,q,h1,h2⟩:=Bm (rows:=r) (fun x hx=>h x (by simp[hx])) (by simpa using hi);have ha:=h a (by simp);exact⟨a++p,q,by rw[zzcj,h1,zzax],by rw[zzah,h2,ha,zzhn];omega⟩
def lF{sz:Nat}{rows:List (List AV)}{i:Nat}{row:List AV}(h:∀r∈rows,r.length=sz)(hi:rows[i]?=some row):(∃r,rows.flatten.drop (i*sz)=row++r)/\setA rows.flatten (i*sz) row=rows.flatten:=by
 obtain⟨p,q,h1,h2⟩:=Bm h hi;refine⟨⟨q,by rw[h1,<- h2,zzfk]⟩,?_⟩;rw[h1,<- h2];exact GM p row q row rfl
def fu{α:Type}{f:α->List AV}(h:∀a,Zg (f a)=true)(l:List α):Zg (l.map f).flatten=true:=by
 induction l with
 |nil=>rfl
 |cons a r ih=>rw[zzay,zzcj];exact Rq (h a) ih
def Qbb{α:Type}{f:α->List AV}{sz:Nat}(h:∀a,(f a).length=sz)(l:List α):∀r∈l.map f,r.length=sz:=by
 intro r hr;simp only[zzbc]at hr;obtain⟨a,_,rfl⟩:=hr;exact h a
def pX(l:List Sp)(h:l.length<=8796093022208):Pure Tryz.prog az 124 [.sl .ro (l.map Qe)] (.sl .ro (l.map Qe)):=by
 refine Qn acA (fun _ _ _=>.junk) (by simp) ?_;simp[ahq,ahr];exact⟨by rintro row a b _ rfl;rfl,by omega⟩
def pY(l:List It)(h:l.length<=1000000000):Pure Tryz.prog az 125 [.sl .ro (l.map Qm)] (.sl .ro (l.map Qm)):=by
 refine Qn acB (fun _ _ _=>.junk) (by simp) ?_;simp[ahs,aht];exact⟨fun _ _=>rfl,by omega⟩
def pZ(l:List Bk)(h:l.length<=1000000000):Pure Tryz.prog az 128 [.sl .ro (l.map Xh)] (.sl .ro (l.map Xh)):=by
 refine Qn acD (fun _ _ _=>.junk) (by simp) ?_;simp[ahw,ahx];exact⟨fun _ _=>rfl,by omega⟩
def Ds(l:List Cl)(h:l.length<=1000000000):Pure Tryz.prog az 129 [.sl .ro (l.map Qg)] (.sl .ro (l.map Qg)):=by
 refine Qn Nd (fun _ _ _=>.junk) (by simp) ?_;simp[TW,TX];exact⟨fun _ _=>rfl,by omega⟩
def OS(l:List Sp)(h:l.length<=8796093022208):Pure Tryz.prog az 152 [.sl .ro (l.map Qe)] (.sl .ro (l.map Qe)):=by
 refine Qn acM (fun _ _ _=>.junk) (by simp) ?_;simp[ahG,ahH];exact⟨by rintro row a b _ rfl;rfl,by omega⟩
def afI(l:List Cue)(h:l.length<=1000000000):Pure Tryz.prog az 153 [.sl .ro (l.map Qi)] (.sl .ro (l.map Qi)):=by
 refine Qn acN (fun _ _ _=>.junk) (by simp) ?_;simp[ahI,ahJ];exact⟨fun _ _=>rfl,by omega⟩
def afJ(l:List Int)(h:l.length<=1000000000):Pure Tryz.prog az 154 [.sl .ro (l.map Qy)] (.sl .ro (l.map Qy)):=by
 refine Qn acO (fun _ _ _=>.junk) (by simp) ?_;simp[ahK,ahL];exact⟨fun _ _=>rfl,by omega⟩
def Wq(e:En)(h:e.al.length<=8796093022208):Pure Tryz.prog az 127 [.agg (Qd e)] (.agg (Qd e)):=by
 have k:=OS e.al h;refine Qn acC (fun _ _ l=>l.headD .junk) (by simp) ?_;simp[ahu,ahv,Qd];exact k
def afK:Nat->FuncId->List AV->AV:=fun _ f _=>if f=999999 then .aJ 0 []else .junk
def yc(Y:YT)(rows:List (List AV))(h:∀r∈rows,r.length=7)(hl:rows.length<=1000000000)(aK:rows≠[])(m:AM)(K:AV->AM->Prop)(hK:K (.bs m.boxes.length 0 rows.length 7) {m with boxes:=m.boxes++[rows.flatten]}):
  an Tryz.prog az Y 126 [.sl .ro rows] m K:=by
 refine Xe BV afK (by simp) ?_;simp[Nb,Nc,afK,aK];exact⟨⟨by omega,h⟩,hK⟩
def ZN(Y:YT)(rows:List (List AV))(h:∀r∈rows,r.length=7)(hl:rows.length<=1000000000)(aK:rows≠[])(m:AM)(K:AV->AM->Prop)(hK:K (.bs m.boxes.length 0 rows.length 7) {m with boxes:=m.boxes++[rows.flatten]}):
  an Tryz.prog az Y 151 [.sl .ro rows] m K:=by
 refine Xe Nn afK (by simp) ?_;simp[UB,UC,afK,aK];exact⟨⟨by omega,h⟩,hK⟩
def GN:Pure Tryz.prog az 126 [.sl .ro []] (.sl .ro []):=by
 refine Qn BV (fun _ _ _=>.junk) (by simp) ?_;simp[Nb,Nc]
def ZO:Pure Tryz.prog az 151 [.sl .ro []] (.sl .ro []):=by
 refine Qn Nn (fun _ _ _=>.junk) (by simp) ?_;simp[UB,UC]
open Go Go.Abs
def Kl(p:Pl):Nat->FuncId->List AV->AV:=fun _ f l=>if f=126 then(if p.ens=[]then .sl .ro []else .gd false .junk)else l.headD .junk
def Bn(p:Pl):Prop:=p.sh.length<=1000000/\p.aM.length<=1000000/\p.ens.length<=1000000/\p.bks.length<=1000000/\p.cls.length<=1000000/\∀e∈p.ens,e.al.length<=8796093022208
def asN(p:Pl)(m0:List AV)(f:Nat->AV)(m:AM):Prop:=∃(i:Nat)(bx:List (List AV)),f 22=I i/\i<=p.ens.length/\m=⟨[I p.ch,I p.nu,I p.de,I p.of,.sl .ro (p.sh.map Qe),I p.ep,I p.rg,I p.ln,I p.fi,.sl .ro (p.aM.map Qm),.bs 2 0 p.ens.length 7,.sl .ro (p.bks.map Xh),.sl .ro (p.cls.map Qg)]::m0::(p.ens.map Qd).flatten::bx,[],fun _=>.gone,0⟩
def p5(p:Pl)(h:Bn p):Pure Tryz.prog az 61 [.agg (Qc p)] (.agg (Qc p)):=by
 obtain⟨h1,h2,h3,h4,h5,h6⟩:=h;have k1:=pX p.sh (by omega);have k2:=pY p.aM (by omega);have k4:=pZ p.bks (by omega);have k5:=Ds p.cls (by omega);have hsz:=Qbb (f:=Qd) (sz:=7) (fun _=>rfl) p.ens;refine Qn vf (Kl p) (by simp) ?_;by_cases hn:p.ens=[]
 ·have k3:=GN;simp[I7,Qc,Kl,hn];refine⟨k1,k2,k3,?_⟩;refine Qj eH (fun f m=>f 22=I 0/\m=⟨[I p.ch,I p.nu,I p.de,I p.of,.sl .ro (p.sh.map Qe),I p.ep,I p.rg,I p.ln,I p.fi,.sl .ro (p.aM.map Qm),.sl .ro [],.sl .ro (p.bks.map Xh),.sl .ro (p.cls.map Qg)]::[[I 0,I 0,I 0,I 0,.sl .nil [],I 0,I 0,I 0,I 0,.sl .nil [],.sl .nil [],.sl .nil [],.sl .nil []]],[],fun _=>.gone,0⟩) (fun f _=>0) ?_ ?_
  ·exact⟨by simp,by simp⟩
  rintro f m ⟨f22,rfl⟩;simp[f22,eH,I8,Kl];exact⟨k4,k5⟩
 have aK:p.ens.map Qd≠[]:=by simpa using hn
 simp[I7,Qc,Kl,hn];refine⟨k1,k2,yc _ _ hsz (by simpa using by omega) aK _ _ ?_⟩;simp;obtain⟨F,hF⟩:∃F,(p.ens.map Qd).flatten=F:=⟨_,rfl⟩;have I1:F.length=p.ens.length*7:=by rw[<- hF,Qad hsz];simp
 have bV:Zg F=true:=by rw[<- hF];exact fu (fun _=>rfl) _
 have lX:aV 7 p.ens.length F=p.ens.map Qd:=by have:=Ju hsz;rw[hF]at this;simpa using this
 have zW:∀m,F.map (bF m 4)=F:=fun m=>Zm m 3 bV;rw[hF];refine Qj eH (asN p [I 0,I 0,I 0,I 0,.sl .nil [],I 0,I 0,I 0,I 0,.sl .nil [],.sl .nil [],.sl .nil [],.sl .nil []]) (fun f _=>p.ens.length-(numOf (f 22)).toNat) ?_ ?_
 ·exact⟨0,[],by simp,by omega,by rw[hF]⟩
 rintro f m ⟨i,bx,f22,hi,rfl⟩;rw[hF];rcases zzaa i p.ens.length with ai|bu
 ·obtain⟨e,he⟩:=aR ai;have aa:(i:Int)<(p.ens.length:Int):=by omega
  have hw:=bK i (by omega);obtain⟨⟨r,hd⟩,cm⟩:=lF hsz (i:=i) (row:=Qd e) (by simp[he]);rw[hF]at hd cm;simp only[Qd,zzae,zzaj]at hd cm;have GO:=Wq e (h6 e (zzac he));simp only[Qd]at GO;simp[-setA,jY,jZ,f22,eH,aa,hd,cm,I1,hw,Kl];refine⟨GO,by omega,aO,⟨i+1,bx++[[I e.id,I e.it,I e.fr,I e.ea,I e.la,I e.bo,.sl .ro (e.al.map Qe)]],by simp,by omega,by rw[hF]⟩,by omega⟩
 obtain rfl:i=p.ens.length:=by omega
 simp[f22,eH,I8,Kl,I1,zW,lX];exact⟨k4,k5⟩
def PgC(g:Pg):Prop:=Bn g.p/\g.ev.length<=1000000/\g.cu.length<=1000000/\g.dr.length<=1000000/\∀e∈g.ev,e.al.length<=8796093022208
def Bo(g:Pg):Nat->FuncId->List AV->AV:=fun _ f l=>if f=151 then(if g.ev=[]then .sl .ro []else .gd false .junk)else l.headD .junk
def lG(g:Pg)(V:AV):List AV:=[I g.p.ch,I g.p.nu,I g.p.de,I g.p.of,.sl .ro (g.p.sh.map Qe),I g.p.ep,I g.p.rg,I g.p.ln,I g.p.fi,.sl .ro (g.p.aM.map Qm),.sl .ro (g.p.ens.map Qd),.sl .ro (g.p.bks.map Xh),.sl .ro (g.p.cls.map Qg),V,.sl .ro (g.cu.map Qi),I g.ed,.sl .ro (g.dr.map Qy),I g.ve]
def asO(g:Pg)(m0:List AV)(f:Nat->AV)(m:AM):Prop:=∃(i:Nat)(bx:List (List AV)),f 16=I i/\i<=g.ev.length/\m=⟨lG g (.bs 2 0 g.ev.length 7)::m0::(g.ev.map Qf).flatten::bx,[],fun _=>.gone,0⟩
def iH:List AV:=[I 0,I 0,I 0,I 0,.sl .nil [],I 0,I 0,I 0,I 0,.sl .nil [],.sl .nil [],.sl .nil [],.sl .nil [],.sl .nil [],.sl .nil [],I 0,.sl .nil [],I 0]
def ZP(g:Pg)(h:PgC g):Pure Tryz.prog az 76 [.agg (Qo g)] (.agg (Qo g)):=by
 obtain⟨h0,h1,h2,h3,h4⟩:=h;have k1:=p5 g.p h0;have k3:=afI g.cu (by omega);have k4:=afJ g.dr (by omega);have hsz:=Qbb (f:=Qf) (sz:=7) (fun _=>rfl) g.ev;simp only[Qc]at k1;refine Qn alm (Bo g) (by simp) ?_;by_cases hn:g.ev=[]
 ·have k2:=ZO;simp[abX,Qo,Qc,Bo,hn];refine⟨k1,k2,?_⟩;refine Qj Es (fun f m=>f 16=I 0/\m=⟨lG g (.sl .ro [])::[iH],[],fun _=>.gone,0⟩) (fun f _=>0) ?_ ?_
  ·exact⟨by simp,by simp[lG,iH]⟩
  rintro f m ⟨f16,rfl⟩;simp[f16,Es,alk,lG,iH,Bo];exact⟨k3,k4⟩
 have aK:g.ev.map Qf≠[]:=by simpa using hn
 simp[abX,Qo,Qc,Bo,hn];refine⟨k1,ZN _ _ hsz (by simpa using by omega) aK _ _ ?_⟩;simp;obtain⟨F,hF⟩:∃F,(g.ev.map Qf).flatten=F:=⟨_,rfl⟩;have I1:F.length=g.ev.length*7:=by rw[<- hF,Qad hsz];simp
 have bV:Zg F=true:=by rw[<- hF];exact fu (fun _=>rfl) _
 have lX:aV 7 g.ev.length F=g.ev.map Qf:=by have:=Ju hsz;rw[hF]at this;simpa using this
 have zW:∀m,F.map (bF m 4)=F:=fun m=>Zm m 3 bV;rw[hF];refine Qj Es (asO g iH) (fun f _=>g.ev.length-(numOf (f 16)).toNat) ?_ ?_
 ·exact⟨0,[],by simp,by omega,by rw[hF];rfl⟩
 rintro f m ⟨i,bx,f16,hi,rfl⟩;rw[hF];rcases zzaa i g.ev.length with ai|bu
 ·obtain⟨e,he⟩:=aR ai;have aa:(i:Int)<(g.ev.length:Int):=by omega
  have hw:=bK i (by omega);obtain⟨⟨r,hd⟩,cm⟩:=lF hsz (i:=i) (row:=Qf e) (by simp[he]);rw[hF]at hd cm
  have hs6:F.set (i*7+6) (.sl .ro (e.al.map Qe))=F:=by
   have h7:F[i*7+6]?=some (.sl .ro (e.al.map Qe)):=by
    have:=congrArg (fun l=>l[6]?) hd;simpa[Qf]using this
   apply zzck;intro j;by_cases hj:i*7+6=j
   ·subst hj;rw[h7,zzaz (zza.1 h7).1]
   rw[zzbe hj]
  simp only[Qf,zzae,zzaj]at hd;have aw9:=OS e.al (h4 e (zzac he));simp[f16,Es,lG,aa,hd,hs6,I1,hw,Bo];refine⟨aw9,by omega,aO,⟨i+1,bx++[[I e.id,I e.it,I e.st,I e.fr,I e.i,I e.re,.sl .ro (e.al.map Qe)]],by simp,by omega,by rw[hF];rfl⟩,by omega⟩
 obtain rfl:i=g.ev.length:=by omega
 simp[f16,Es,alk,lG,iH,Bo,I1,zW,lX];exact⟨k3,k4⟩
open Go Go.Abs
def eS(n:Int):Bool:=decide (1<=n)&&decide (n<=1000000)
def Wh(n:Int):Pure Tryz.prog az 80 [I n] (.bool (eS n)):=by
 refine Qn alq (fun _ _ _=>.junk) (by simp) ?_;by_cases h:1<=n
 ·simp[alo,alp,h,eS]
 simp[alo,alp,h,eS]
def eB:ByteArray:=⟨#[]⟩
def j4(tx:ByteArray):tx.toList=[]<->tx=eB:=by
 obtain⟨⟨l⟩⟩:=tx;rw[ByteArray.toList_eq];simp[eB]
def Jv(o:Od):Bool:=decide (o.en=0/\o.n=0/\o.cl=⟨0,0,0,0,0,0,0,0⟩/\(o.cu.id=0/\o.cu.fr=0/\o.cu.to=0/\o.cu.pr=0/\o.cu.tx=eB)/\o.nw.id=0/\o.nw.it=0/\o.nw.fr=0/\o.nw.ea=0/\o.nw.la=0/\o.nw.bo=0/\o.nw.al=[])
def LC(o:Od):Pure Tryz.prog az 81 [.agg (Qq o)] (.bool (Jv o)):=by
 refine Qn alr (fun _ _ _=>.junk) (by simp) ?_;obtain⟨sq,ch,fr,ki,en,n,⟨a1,a2,a3,a4,a5,a6,al⟩,⟨c1,c2,c3,c4,c5,c6,c7,c8⟩,⟨d1,d2,d3,d4,tx⟩⟩:=o;simp[aph,api,Qq,Qd,Qg,Qi];rw[zzbt];simp[Jv,j4,and_assoc]
def yd(r:Int):List Sp->Bool
 |[]=>true
 |a::l=>if r<a.1/\a.1<=7/\eS a.2=true then yd a.1 l else false
def zg(e:En):Bool:=eS e.id&&eS e.it&&decide (1<=e.fr/\e.fr<=100000000)&&decide (0<=e.ea/\e.ea<=e.la/\e.la<=100000000)&&(decide (e.bo=0)||eS e.bo)&&yd 0 e.al
def aj0(e:En)(f:Nat->AV)(m:AM):Prop:=∃(i:Nat)(r:Int)(bx:List (List AV)),f 53=I i/\i<=e.al.length/\f 3=I r/\yd 0 e.al=yd r (e.al.drop i)/\m=⟨Qd e::bx,[],fun _=>.gone,0⟩
def Vh:Nat->FuncId->List AV->AV:=fun _ f l=>match l with|[.int _ n]=>.bool (eS n)|_=>.junk
def uj(e:En)(hl:e.al.length<=8796093022208):Pure Tryz.prog az 82 [.agg (Qd e)] (.bool (zg e)):=by
 have q1:=Wh e.id;have q2:=Wh e.it;have q3:=Wh e.bo;refine Qn alu Vh (by simp) ?_;cases h1:eS e.id with
 |false=>rw[h1]at q1;simp[tK,iQ,Qd,Vh,h1,zg];exact q1
 |true=>
  rw[h1]at q1;cases h2:eS e.it with
  |false=>rw[h2]at q2;simp[tK,iQ,Qd,Vh,h1,h2,zg];exact⟨q1,q2⟩
  |true=>
   rw[h2]at q2;by_cases h3:e.fr<1
   ·have:¬1<=e.fr:=by omega
    simp[tK,iQ,Qd,Vh,h1,h2,h3,zg,this];exact⟨q1,q2⟩
   by_cases h4:100000000<e.fr
   ·have:¬e.fr<=100000000:=by omega
    simp[tK,iQ,Qd,Vh,h1,h2,h3,h4,zg,this];exact⟨q1,q2⟩
   have e34:1<=e.fr/\e.fr<=100000000:=by omega
   by_cases h5:e.ea<0
   ·have:¬0<=e.ea:=by omega
    simp[tK,iQ,Qd,Vh,h1,h2,h3,h4,h5,zg,this];exact⟨q1,q2⟩
   by_cases h6:e.la<e.ea
   ·have:¬e.ea<=e.la:=by omega
    simp[tK,iQ,Qd,Vh,h1,h2,h3,h4,h5,h6,zg,this];exact⟨q1,q2⟩
   by_cases h7:100000000<e.la
   ·have:¬e.la<=100000000:=by omega
    simp[tK,iQ,Qd,Vh,h1,h2,h3,h4,h5,h6,h7,zg,this];exact⟨q1,q2⟩
   have axa:0<=e.ea/\e.ea<=e.la/\e.la<=100000000:=by omega
   by_cases h8:e.bo≠0/\eS e.bo=false
   ·obtain⟨h8,h9⟩:=h8;rw[h9]at q3;have h8':(e.bo !=0)=true:=by simpa using h8
    simp[tK,iQ,Qd,Vh,h1,h2,h3,h4,h5,h6,h7,h8,h8',h9,zg];exact⟨q1,q2,q3⟩
   have hb:(decide (e.bo=0)||eS e.bo)=true:=by
    by_cases hb:e.bo=0
    ·simp[hb]
    cases h9:eS e.bo with
    |true=>simp
    |false=>exact absurd ⟨hb,h9⟩ h8
   have hv:zg e=yd 0 e.al:=by simp only[zg,h1,h2,e34,axa,hb,zzdq,and_self,decide_true]
   rw[hv]
   have hbo:(e.bo=0)\/(e.bo≠0/\eS e.bo=true):=by
    by_cases dV:e.bo=0
    ·exact .inl dV
    exact .inr ⟨dV,by simpa[dV]using hb⟩
   obtain dV|⟨dV,mJ⟩:=hbo
   ·simp[tK,Qd,Vh,h1,h2,h3,h4,h5,h6,h7,dV];refine⟨q1,q2,?_⟩;clear q1 q2 q3;refine Qj gR (aj0 e) (fun f _=>e.al.length-(numOf (f 53)).toNat) ?_ ?_
    ·exact⟨0,0,[],by simp,by omega,by simp,by simp,by simp[Qd,dV]⟩
    rintro f m ⟨i,r,bx,f53,hi,f3,hr,rfl⟩;rcases zzaa i e.al.length with ai|bu
    ·obtain⟨a,ha⟩:=aR ai;have ah:=Zc ha;have aa:(i:Int)<(e.al.length:Int):=by omega
     have hw:=bK i (by omega);have hd:e.al.drop i=a::e.al.drop (i+1):=by rw[zzaf ai,(zza.1 ha).2]
     rw[hd,yd]at hr;have qa:=Wh a.2;by_cases d1:a.1<=r
     ·rw[if_neg (by omega)]at hr;simp[f53,f3,gR,iQ,Qd,aa,ah,d1,hr,Vh]
     by_cases d2:7<a.1
     ·rw[if_neg (by omega)]at hr;simp[f53,f3,gR,iQ,Qd,aa,ah,d1,d2,hr,Vh]
     cases d3:eS a.2 with
     |false=>
      rw[d3]at qa;rw[if_neg (by simp[d3])]at hr;simp[f53,f3,gR,iQ,Qd,aa,ah,d1,d2,d3,hr,Vh];exact qa
     |true=>
      rw[d3]at qa;rw[if_pos ⟨by omega,by omega,d3⟩]at hr;simp[f53,f3,gR,Qd,aa,ah,d1,d2,d3,hw,Vh];refine⟨qa,aO,⟨i+1,a.1,bx++[[I a.1,I a.2]],by simp,by omega,by simp,hr,by simp[Qd]⟩,by omega⟩
    obtain rfl:i=e.al.length:=by omega
    simp[f53,f3,gR,iQ,hr,yd]
   rw[mJ]at q3;have ae5:(e.bo !=0)=true:=by simpa using dV
   simp[tK,Qd,Vh,h1,h2,h3,h4,h5,h6,h7,ae5,mJ];refine⟨q1,q2,q3,?_⟩;clear q1 q2 q3;refine Qj gR (aj0 e) (fun f _=>e.al.length-(numOf (f 53)).toNat) ?_ ?_
   ·exact⟨0,0,[],by simp,by omega,by simp,by simp,by simp[Qd]⟩
   rintro f m ⟨i,r,bx,f53,hi,f3,hr,rfl⟩;rcases zzaa i e.al.length with ai|bu
   ·obtain⟨a,ha⟩:=aR ai;have ah:=Zc ha;have aa:(i:Int)<(e.al.length:Int):=by omega
    have hw:=bK i (by omega);have hd:e.al.drop i=a::e.al.drop (i+1):=by rw[zzaf ai,(zza.1 ha).2]
    rw[hd,yd]at hr;have qa:=Wh a.2;by_cases d1:a.1<=r
    ·rw[if_neg (by omega)]at hr;simp[f53,f3,gR,iQ,Qd,aa,ah,d1,hr,Vh]
    by_cases d2:7<a.1
    ·rw[if_neg (by omega)]at hr;simp[f53,f3,gR,iQ,Qd,aa,ah,d1,d2,hr,Vh]
    cases d3:eS a.2 with
    |false=>
     rw[d3]at qa;rw[if_neg (by simp[d3])]at hr;simp[f53,f3,gR,iQ,Qd,aa,ah,d1,d2,d3,hr,Vh];exact qa
    |true=>
     rw[d3]at qa;rw[if_pos ⟨by omega,by omega,d3⟩]at hr;simp[f53,f3,gR,Qd,aa,ah,d1,d2,d3,hw,Vh];refine⟨qa,aO,⟨i+1,a.1,bx++[[I a.1,I a.2]],by simp,by omega,by simp,hr,by simp[Qd]⟩,by omega⟩
   obtain rfl:i=e.al.length:=by omega
   simp[f53,f3,gR,iQ,hr,yd]
open Go Go.Abs
def uk(s:ByteArray)(i:Nat):Nat:=(s.data.toList.getD i 0).toNat
def rI(s:ByteArray)(i:Nat)(h:i<s.size):(s.data[i]'h).toNat=uk s i:=by
 have h':i<s.data.size:=h;simp only[uk,zzar,zzce,zzai h',zzgt]
def GP(s:ByteArray)(n i:Nat):Bool:=match n with
 |0=>true
 |n+1=>if uk s i<32\/126<uk s i then false else GP s n (i+1)
def RP(s:ByteArray):Bool:=GP s s.size 0
def asP(s:ByteArray)(f:Nat->AV)(m:AM):Prop:=∃i:Nat,f 3=I i/\i<=s.size/\RP s=GP s (s.size-i) i/\m=⟨[],[],fun _=>.gone,0⟩
def yf(s:ByteArray)(h:s.size<=1000000):Pure Tryz.prog az 245 [.str s] (.bool (RP s)):=by
 refine Qn adJ (fun _ _ _=>.junk) (by simp) ?_;simp[U3];refine Qj vE (asP s) (fun f _=>s.size-(numOf (f 3)).toNat) ?_ ?_
 ·exact⟨0,by simp,by omega,rfl,rfl⟩
 rintro f m ⟨i,f3,hi,hr,rfl⟩;rcases zzaa i s.size with ai|bu
 ·have aa:(i:Int)<(s.size:Int):=by omega
  have hw:=bK i (by omega);obtain⟨n,hn⟩:∃n,s.size-i=n+1:=⟨s.size-i-1,by omega⟩;have hb:=rI s i ai;rw[hn,GP]at hr;by_cases h1:uk s i<32
  ·rw[if_pos (.inl h1)]at hr;have oP:((uk s i:Nat):Int)<32:=by omega
   simp[f3,vE,NI,ai,aa,hr,hb,oP]
  have oP:¬((uk s i:Nat):Int)<32:=by omega
  by_cases h2:126<uk s i
  ·rw[if_pos (.inr h2)]at hr;have Ea:(126:Int)<((uk s i:Nat):Int):=by omega
   simp[f3,vE,NI,ai,aa,hr,hb,oP,Ea]
  rw[if_neg (by omega)]at hr;have Ea:¬(126:Int)<((uk s i:Nat):Int):=by omega
  simp[f3,vE,ai,aa,hw,hb,oP,Ea];refine⟨aO,⟨i+1,by simp,by omega,by rw[hr];congr 1;omega,rfl⟩,by omega⟩
 obtain rfl:i=s.size:=by omega
 rw[zzev,GP]at hr;simp[f3,vE,NI,hr]
def ig(s:ByteArray)(i:Nat):Option Nat->List ByteArray
 |none=>[]
 |some f=>[s.extract f i]
def ZQ(s:ByteArray):Nat->Nat->Option Nat->List ByteArray
 |0,i,first=>ig s i first
 |n+1,i,first=>if uk s i≠32 then ZQ s n (i+1) (some (first.getD i))else ig s i first++ZQ s n (i+1) none
def Ur(s:ByteArray):List ByteArray:=ZQ s s.size 0 none
def Dt(s:ByteArray)(i:Nat)(first:Option Nat):List ByteArray:=if i<=s.size then ZQ s (s.size-i) i first else[]
def GQ{s:ByteArray}{i:Nat}(first:Option Nat)(h:i<s.size)(hb:uk s i≠32):Dt s i first=Dt s (i+1) (some (first.getD i)):=by
 obtain⟨n,hn⟩:∃n,s.size-i=n+1:=⟨s.size-i-1,by omega⟩;rw[Dt,if_pos (by omega),Dt,if_pos (by omega),hn,ZQ,if_pos hb,show s.size-(i+1)=n by omega]
def Du{s:ByteArray}{i:Nat}(first:Option Nat)(h:i<=s.size)(hb:i<s.size->uk s i=32):Dt s i first=ig s i first++Dt s (i+1) none:=by
 by_cases hi:i=s.size
 ·subst hi;have:Dt s (s.size+1) none=[]:=by rw[Dt,if_neg (by omega)]
  rw[this,Dt,if_pos (by omega),zzev,ZQ,zzat]
 obtain⟨n,hn⟩:∃n,s.size-i=n+1:=⟨s.size-i-1,by omega⟩;have:Dt s (i+1) none=ZQ s n (i+1) none:=by rw[Dt,if_pos (by omega),show s.size-(i+1)=n by omega]
 rw[this,Dt,if_pos h,hn,ZQ,if_neg (by simp[hb (by omega)])]
def OT:Option Nat->Int
 |none=> -1
 |some k=>k
def LD(s:ByteArray):Pure Tryz.prog az 246 [.str s] (.fn 303 [] [.ep [.str s] 0]):=by
 refine Qn adK (fun _ _ _=>.junk) (by simp) ?_;simp[aip,aiq]
def asQ(Y:YT)(lp:Nat)(K:AM->Prop)(s:ByteArray)(f:Nat->AV)(m:AM):Prop:=∃(i:Nat)(first:Option Nat),f 4=I i/\i<=s.size+1/\f 3=I (OT first)/\(∀k,first=some k->k<=i/\i<=s.size)/\wP (Y lp) K ((Dt s i first).map fun w=>[.str w]) m
def LF(s:ByteArray)(h:s.size<=1000000):Iter Tryz.prog az 303 [] [.ep [.str s] 0] ((Ur s).map fun w=>[.str w]):=by
 intro Y lp m K hF;refine Xe aed (fun _ _ _=>.junk) (by simp) ?_;simp[VF,aiR];refine Qj iZ (asQ Y lp K s) (fun f _=>s.size+1-(numOf (f 4)).toNat) ?_ ?_
 ·exact⟨0,none,by simp,by omega,by simp[OT],⟨fun k(hk:none=some k)=>(by cases hk),by simpa[Dt,Ur]using hF⟩⟩
 rintro f m ⟨i,first,f4,hi,f3,IC,hr⟩;rcases zzaa s.size i with tQ|bZ
 ·have bJ:¬(i:Int)<=(s.size:Int):=by omega
  rw[Dt,if_neg (by omega)]at hr;simp[f4,iZ,bJ];exact hr m (fM.refl m)
 have afL:(i:Int)<=(s.size:Int):=by omega
 have hw:=bK i (by omega);by_cases hb:i<s.size/\uk s i≠32
 ·obtain⟨ai,hb⟩:=hb;have aa:(i:Int)<(s.size:Int):=by omega
  have Ec:=rI s i ai;have hbI:¬((uk s i:Nat):Int)=32:=by omega
  rw[GQ first ai hb]at hr;cases first with
  |none=>
   simp[f4,f3,OT,iZ,afL,ai,aa,Ec,hbI,hw];refine⟨aO,⟨i+1,some i,by simp,by omega,by simp[OT],⟨fun k(hk:some i=some k)=>(by cases hk;omega),hr⟩⟩,by omega⟩
  |some k=>
   have QZ:¬(k:Int)<0:=by omega
   obtain⟨cQ,cV⟩:=IC k rfl;simp[f4,f3,OT,iZ,afL,ai,aa,Ec,hbI,hw,QZ];refine⟨aO,⟨i+1,some k,by simp,by omega,by simp[OT],⟨fun k'(hk:some k=some k')=>(by cases hk;omega),hr⟩⟩,by omega⟩
 have cL:i<s.size->uk s i=32:=fun h=>Classical.byContradiction fun h2=>hb ⟨h,h2⟩;rw[Du first bZ cL]at hr;cases first with
 |none=>
  simp only[ig,zzaj]at hr;rcases zzaa i s.size with ai|bu
  ·have aa:(i:Int)<(s.size:Int):=by omega
   have Ec:=rI s i ai;have GR:=cL ai;simp[f4,f3,OT,iZ,afL,ai,aa,Ec,GR,hw];refine⟨aO,⟨i+1,none,by simp,by omega,by simp[OT],⟨fun k(hk:none=some k)=>(by cases hk),hr⟩⟩,by omega⟩
  obtain rfl:i=s.size:=by omega
  simp[f4,f3,OT,iZ,hw];refine⟨aO,⟨s.size+1,none,by simp,by omega,by simp[OT],⟨fun k(hk:none=some k)=>(by cases hk),hr⟩⟩⟩
 |some k=>
  obtain⟨cQ,cV⟩:=IC k rfl;have QZ:(0:Int)<=(k:Int):=by omega
  simp only[ig,zzae,zzaj,zzay]at hr;rcases zzaa i s.size with ai|bu
  ·have aa:(i:Int)<(s.size:Int):=by omega
   have Ec:=rI s i ai;have GR:=cL ai;simp[f4,f3,OT,iZ,afL,ai,aa,Ec,GR,hw,QZ,cQ];refine hr m (fM.refl m) _ (fun m2 h2=>?_) (fun m2 h2=>?_)
   ·simp;refine⟨aO,⟨i+1,none,by simp,by omega,by simp[OT],⟨fun k(hk:none=some k)=>(by cases hk),h2⟩⟩,by omega⟩
   simp;exact h2 m2 (fM.refl m2)
  obtain rfl:i=s.size:=by omega
  simp[f4,f3,OT,iZ,hw,QZ,cQ];refine hr m (fM.refl m) _ (fun m2 h2=>?_) (fun m2 h2=>?_)
  ·simp;refine⟨aO,⟨s.size+1,none,by simp,by omega,by simp[OT],⟨fun k(hk:none=some k)=>(by cases hk),h2⟩⟩⟩
  simp;exact h2 m2 (fM.refl m2)
open Go Go.Abs
def Xv(n:Int):Prop:= -9223372036854775808<=n/\n<=9223372036854775807
def OKP(p:Pl):Prop:=∀e∈p.ens,e.al.length<=8796093022208
open Go Go.Abs
def ZR(p:Pl)(e:bE):Int->List Sp->Bool
 |_,[]=>true
 |last,a::r=>match Xj a.2 p.aM with
  |none=>false
  |some y=>if a.1<=last\/p.rg<=a.1\/y.fr<IntKind.i64.wrap (e.i+e.fr)then false else if Xz p a.2 a.1 e.st e.fr=false then false else ZR p e a.1 r
def asR(p:Pl)(e:bE):Int:=Uw (fun i=>Xz p e.it i e.st e.fr) (min p.rg 8).toNat
def GU(a:Int):Int:=IntKind.i64.wrap (((a%2 ^ IntKind.i64.bits).toNat&&& ((1:Int)%2 ^ IntKind.i64.bits).toNat:Nat):Int)
def afM(a b:Int):Int:=IntKind.i64.wrap (((a%2 ^ IntKind.i64.bits).toNat&&& (2 ^ IntKind.i64.bits-1-(b%2 ^ IntKind.i64.bits).toNat):Nat):Int)
def ZS(p:Pl)(e:bE):Bool:=match Xj e.it p.aM with
 |none=>false
 |some x=>if e.fr<1\/e.i<0\/x.fr<e.fr\/IntKind.i64.wrap (x.fr-e.fr)<e.i then false else
  if GU e.re=0\/afM e.re (asR p e)≠0 then false else ZR p e 0 e.al&&(decide (e.id≠0)||(decide (e.it=p.fi)&&decide (e.al=[])))
open Go Go.Abs
def afN(x r n:Nat)(h:r<n):((x+2 ^ n)/2 ^ r)%2=(x/2 ^ r)%2:=by
 obtain⟨k,rfl⟩:∃k,n=r+(k+1):=⟨n-r-1,by omega⟩;have e:2 ^ (r+(k+1))=2 ^ r*(2*2 ^ k):=by rw[Nat.pow_add,zzhq,zzed (2 ^ k) 2]
 rw[e,Nat.add_mul_div_left _ _ (Nat.two_pow_pos r),Nat.add_mul_mod_self_left]
def yg(b:Nat->Bool):Nat->Nat
 |0=>0
 |n+1=>yg b n+if b n then 2 ^ n else 0
def Dv(b:Nat->Bool):∀n,yg b n<2 ^ n
 |0=>by simp[yg]
 |n+1=>by
  have:=Dv b n;rw[yg,zzhq];split<;>omega
def LG(b:Nat->Bool):∀n,Uw b n=(yg b n:Int)
 |0=>rfl
 |n+1=>by
  rw[Uw,yg,LG b n];split
  ·push_cast;rfl
  simp
def GV(b:Nat->Bool)(r:Nat):∀n,(yg b n).testBit r=(decide (r<n)&&b r)
 |0=>by simp[yg]
 |n+1=>by
  have ih:=GV b r n;have ai:=Dv b n;rw[yg];by_cases hb:b n=true
  ·rw[if_pos hb];rcases zzeo r n with h|h|h
   ·rw[zzeg,afN _ _ _ h,<- zzeg,ih];simp[h,Nat.lt_succ_of_lt h]
   ·subst h
    have:(yg b r+2 ^ r)/2 ^ r=1:=by
     rw[Nat.add_div_right _ (Nat.two_pow_pos r),zzgo ai]
    rw[zzeg,this];simp[hb]
   have:yg b n+2 ^ n<2 ^ r:=by
    have:2 ^ (n+1)<=2 ^ r:=Nat.pow_le_pow_right (by omega) h;rw[zzhq]at this;omega
   rw[Nat.testBit_lt_two_pow this];simp;intro h2;omega
  rw[if_neg hb,zzco,ih];by_cases h:r=n
  ·subst h;simp[hb]
  have:decide (r<n)=decide (r<n+1):=decide_eq_decide.2 (by omega);rw[this]
def am9(x:Int)(r:Nat):Bool:=x.toNat.testBit r
def ZT(b:Nat->Bool)(n r:Nat):am9 (Uw b n) r=(decide (r<n)&&b r):=by
 unfold am9;rw[LG,Int.toNat_natCast,GV]
def GW(b:Nat->Bool)(n:Nat)(hn:n<=8):0<=Uw b n/\Uw b n<256:=by
 have:=Dv b n;rw[LG];have h2:2 ^ n<=2 ^ 8:=Nat.pow_le_pow_right (by omega) hn;omega
def asS(x:Int)(h:0<=x/\x<256):(x%2 ^ IntKind.i64.bits).toNat=x.toNat:=by
 have:(2:Int) ^ IntKind.i64.bits=18446744073709551616:=by decide
 rw[this,Int.emod_eq_of_lt h.1 (by omega)]
def ZU(x:Int)(h:0<=x/\x<256):GU x=x%2:=by
 unfold GU;rw[asS x h,asS 1 (by omega)];have:x.toNat&&& (1:Int).toNat=x.toNat%2:=Nat.and_one_is_mod _;rw[this,Qk]<;>omega
open Go Go.Abs
def RQ{x:Int}(h:0<=x/\x<256):afM x x=0:=by
 have key:∀n:Nat,n<256->afM (n:Int) (n:Int)=0:=by decide+kernel
 have:=key x.toNat (by omega);rwa [Int.toNat_of_nonneg h.1]at this
def yh{b c:Nat->Bool}:∀(n:Nat),(∀i,i<n->b i=c i)->Uw b n=Uw c n
 |0,_=>rfl
 |n+1,h=>by rw[Uw,Uw,yh n (fun i hi=>h i (by omega)),h n (by omega)]
def ZV{b:Nat->Bool}{n:Nat}(hn:1<=n/\n<=8)(h0:b 0=true):GU (Uw b n)=1:=by
 have hb:=GW b n hn.2;rw[ZU _ hb];have h1:=ZT b n 0;rw[h0]at h1;have h2:decide (0<n)=true:=by simp;omega
 rw[h2]at h1;simp only[am9,Nat.testBit_zero,zzgg,decide_eq_true_eq]at h1;omega
structure VP (p:Pl):Prop where
 rg:1<=p.rg/\p.rg<=8
 ln:1<=p.ln/\p.ln<=100000000
 fill:∃y,Xj p.fi p.aM=some y/\y.ki=5/\1<=y.fr/\y.fr<=100000000
 aM:∀y∈p.aM,Tn y=true
 ens:∀e∈p.ens,1<=e.id/\jV p e=true/\mU p e=true
def GX{p:Pl}:∀{l:List En}{seen:List Int},Gv p seen l=true->∀e∈l,1<=e.id/\jV p e=true/\mU p e=true
 |x::r,seen,h,e,he=>by
  rw[Gv,zzak]at h;rcases zzaw.1 he with rfl|he
  ·have h1:=h.1;simp only[zQ,zzak,wi,decide_eq_true_eq]at h1;exact⟨h1.1.1,h1.2.2.1,h1.2.2.2.1⟩
  exact GX h.2 e he
def LH{p:Pl}(h:sR p=true):VP p:=by
 simp only[sR,zzak]at h;obtain⟨h1,h2,h3,h4,h5⟩:=h;simp only[Jq,zzak,wi,decide_eq_true_eq]at h1;simp only[Tp,zzak,decide_eq_true_eq]at h2;simp only[xP,zzak,decide_eq_true_eq]at h4;refine⟨h1.2.2.2.2.1,h1.2.2.2.2.2,?_,pR h2.2.2.1,GX h4.2⟩;have hf:=h2.2.2.2;unfold wR at hf;cases hx:Xj p.fi p.aM with
 |none=>rw[hx]at hf;cases hf
 |some y=>
  rw[hx]at hf;have hb:=YV (pR h2.2.2.1 y (xM hx).1);exact⟨y,rfl,by simpa using hf,by omega,by omega⟩
def LI{p:Pl}(h:VP p)(r f n:Int)(hr:0<=r/\r<8)(hn:1<=n/\n<=1000000)(hf:0<=f/\f+n-1<=100000000):Xz p p.fi r f n=true:=by
 obtain⟨y,hy,hk,_⟩:=h.fill;exact(LJ _ _ _ _ _).2 ⟨⟨by omega,by omega,by omega,by omega⟩,fun x h1 h2=>⟨y,hy,hr,by omega,.inl hk⟩⟩
def Qbv{p:Pl}(h:VP p)(hl:p.ln<=1000000)(x:Int×Int)(hx:0<=x.1/\1<=x.2/\x.2<=Yj p/\x.1+x.2<=p.ln):ZS p (Vi p x)=true:=by
 obtain⟨y,hy,hk,hy1,hy2⟩:=h.fill;have hff:Yj p=y.fr:=by simp only[Yj,hy]
 rw[hff]at hx;have hre:(Vi p x).re=Ga p:=rfl
 have hm:asR p (Vi p x)=Ga p:=by
  refine yh _ fun i hi=>?_;exact LI h i x.1 x.2 (by omega) (by omega) (by omega)
 have OB:=h.rg;have h1:GU (Ga p)=1:=ZV (n:=(min p.rg 8).toNat) (by omega) rfl;have h2:afM (Ga p) (Ga p)=0:=RQ (GW _ _ (by omega));have hw:IntKind.i64.wrap (y.fr-x.2)=y.fr-x.2:=by rw[Qk]<;>omega
 have cI:(Vi p x).it=p.fi:=rfl;have uD:(Vi p x).fr=x.2:=rfl;have hi0:(Vi p x).i=0:=rfl;have eP:(Vi p x).al=[]:=rfl;rw[ZS,cI,hy];simp only;rw[hm,hre,uD,hi0,eP,hw,h1,h2,if_neg (by omega),if_neg (by omega)];simp[ZR]
def ZW{lo up:Int}{ks:List Int}(h:Kt lo up none ks=true):ks.Pairwise (·<·)/\∀k∈ks,lo<=k/\k<=up:=by
 obtain⟨h1,h2⟩:=lD h;exact⟨h1,fun k hk=>⟨(h2 k hk).1,(h2 k hk).2.1⟩⟩
end Go.Proofs.YtnopaopphmjnmaaGreatDoor
