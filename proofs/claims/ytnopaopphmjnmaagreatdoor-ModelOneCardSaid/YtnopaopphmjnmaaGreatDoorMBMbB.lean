import Derived.Test.YtnopaopphmjnmaaGreatDoorMBMN
import Derived.Test.YtnopaopphmjnmaaGreatDoorMBMT
set_option linter.all false
set_option maxRecDepth 100000
set_option maxHeartbeats 64000000
namespace Go.Proofs.YtnopaopphmjnmaaGreatDoor
open Go Go.Abs
def Ws(f:Int)(e:bE):Bool:=decide (e.st<=f/\f<e.st+e.fr)
def Ue(e:bE):Prop:=(0<=e.st/\e.st<=1000000)/\(0<=e.fr/\e.fr<=1000000)/\(0<=e.i/\e.i<=1000000)/\e.al.length<=8796093022208
def gP(f:Int):List bE->Nat->Int
 |[],_=> -1
 |e::r,i=>if Ws f e=true then i else gP f r (i+1)
def xw(f:Int):List bE->Option bE
 |[]=>none
 |e::r=>if Ws f e=true then some e else xw f r
def xx{f:Int}:∀{L:List bE}{i:Nat},xw f L=none->gP f L i= -1
 |[],_,_=>rfl
 |a::r,i,h=>by
  simp only[xw]at h;split at h
  ·cases h
  rename_i hn;simp only[gP,if_neg hn];exact xx h
def xy{f:Int}{a:bE}:∀{L:List bE}{i:Nat},xw f L=some a->∃k:Nat,gP f L i=((i+k:Nat):Int)/\L[k]?=some a/\Ws f a=true
 |[],_,h=>by cases h
 |b::r,i,h=>by
  simp only[xw]at h;split at h
  ·rename_i hb;cases h;exact⟨0,by simp[gP,hb],rfl,hb⟩
  rename_i hn;obtain⟨k,h1,h2,h3⟩:=xy (i:=i+1) h;exact⟨k+1,by simp only[gP,if_neg hn,h1];omega,by simpa using h2,h3⟩
def La(f:Int):Nat->FuncId->List AV->AV:=fun _ _ l=>match l with
 |[.agg [_,_,.int _ st,.int _ fr,_,_,_],_]=>.bool (decide (st<=f/\f<st+fr))
 |_=>.junk
def S6(f:Int):Option bE->AV
 |none=>Y3
 |some e=>.aV [.agg (Qf e),I (e.i+f-e.st),.bool true]
open Go Go.Abs
structure Cue where
 id:Int
 fr:Int
 to:Int
 pr:Int
 tx:ByteArray
def Qk(c:Cue):List AV:=[I c.id,I c.fr,I c.to,I c.pr,.str c.tx]
structure Pg where
 p:Pl
 ev:List bE
 cu:List Cue
 ed:Int
 dr:List Int
 ve:Int
def Qo(g:Pg):List AV:=Qc g.p++[.sl .ro (g.ev.map Qf),.sl .ro (g.cu.map Qk),I g.ed,.sl .ro (g.dr.map Xa),I g.ve]
structure Od where
 sq:Int
 ch:Int
 fr:Int
 ki:Int
 en:Int
 n:Int
 nw:En
 cl:Cl
 cu:Cue
def Qq(o:Od):List AV:=[I o.sq,I o.ch,I o.fr,I o.ki,I o.en,I o.n]++(Qd o.nw++(Qg o.cl++Qk o.cu))
def Gs(pre a r bs:List AV)(h:bs.length=a.length):setA (pre++(a++r)) pre.length bs=pre++(bs++r):=by
 induction bs generalizing pre a with
 |nil=>cases a with
  |nil=>rfl
  |cons _ _=>simp at h
 |cons x bs ih=>cases a with
  |nil=>simp at h
  |cons y a=>
   rw[setA];have e:(pre++(y::a++r)).set pre.length x=(pre++[x])++(a++r):=by simp
   rw[e];have:=ih (pre++[x]) a (by simpa using h);rw[show(pre++[x]).length=pre.length+1 by simp]at this;rw[this];simp
theorem jJ(l:List AV)(o:Nat):setA l o []=l:=rfl
def xz(y:AV):∀(xs l:List AV)(n:Nat),setA (y::l) (n+1) xs=y::setA l n xs
 |[],_,_=>rfl
 |x::xs,l,n=>by
  rw[setA,setA,zzdt];exact xz y xs _ _
def jK(y x:AV)(xs l:List AV):setA (y::l) 0 (x::xs)=x::setA l 0 xs:=by
 rw[setA,List.set_cons_zero,xz]
def Wv{sz:Nat}:∀{rows:List (List AV)},(∀r∈rows,r.length=sz)->rows.flatten.length=rows.length*sz
 |[],_=>by simp
 |a::r,h=>by
  have:=Wv (rows:=r) fun x hx=>h x (by simp[hx]);rw[zzch,zzag,this,h a (by simp),zzba,zzhl];omega
def Jl{sz:Nat}:∀{rows:List (List AV)},(∀r∈rows,r.length=sz)->aU sz rows.length rows.flatten=rows
 |[],_=>rfl
 |a::r,h=>by
  have ha:=h a (by simp);have ih:=Jl (rows:=r) fun x hx=>h x (by simp[hx]);rw[zzba,vS,zzch,List.take_append_of_le_length (by omega),zzdl (by omega),zzam (by omega),List.drop_of_length_le (by omega),zzai,ih]
def A2{sz:Nat}:∀{rows:List (List AV)}{i:Nat}{row:List AV},(∀r∈rows,r.length=sz)->rows[i]?=some row->∃pre r,rows.flatten=pre++(row++r)/\pre.length=i*sz
 |[],i,row,_,h=>by simp at h
 |a::r,0,row,h,hi=>by simp at hi;subst hi;exact⟨[],r.flatten,by simp,by simp⟩
 |a::r,i+1,row,h,hi=>by
  obtain⟨p,q,h1,h2⟩:=A2 (rows:=r) (fun x hx=>h x (by simp[hx])) (by simpa using hi);have ha:=h a (by simp);exact⟨a++p,q,by rw[zzch,h1,zzbc],by rw[zzag,h2,ha,zzhl];omega⟩
def kT{sz:Nat}{rows:List (List AV)}{i:Nat}{row:List AV}(h:∀r∈rows,r.length=sz)(hi:rows[i]?=some row):(∃r,rows.flatten.drop (i*sz)=row++r)/\setA rows.flatten (i*sz) row=rows.flatten:=by
 obtain⟨p,q,h1,h2⟩:=A2 h hi;refine⟨⟨q,by rw[h1,<- h2,zzfg]⟩,?_⟩;rw[h1,<- h2];exact Gs p row q row rfl
def eV{α:Type}{f:α->List AV}(h:∀a,Zg (f a)=true)(l:List α):Zg (l.map f).flatten=true:=by
 induction l with
 |nil=>rfl
 |cons a r ih=>rw[zzaw,zzch];exact QV (h a) ih
def Qap{α:Type}{f:α->List AV}{sz:Nat}(h:∀a,(f a).length=sz)(l:List α):∀r∈l.map f,r.length=sz:=by
 intro r hr;simp only[zzay]at hr;obtain⟨a,_,rfl⟩:=hr;exact h a
def pE(l:List Sp)(h:l.length<=8796093022208):Pure Tryz.prog az 124 [.sl .ro (l.map Qe)] (.sl .ro (l.map Qe)):=by
 refine Qn ab6 (fun _ _ _=>.junk) (by simp) ?_;simp[ag1,ag2];exact⟨by rintro row a b _ rfl;rfl,by omega⟩
def pF(l:List It)(h:l.length<=1000000000):Pure Tryz.prog az 125 [.sl .ro (l.map Qm)] (.sl .ro (l.map Qm)):=by
 refine Qn ab7 (fun _ _ _=>.junk) (by simp) ?_;simp[ag3,ag4];exact⟨fun _ _=>rfl,by omega⟩
def pG(l:List Bk)(h:l.length<=1000000000):Pure Tryz.prog az 128 [.sl .ro (l.map Xf)] (.sl .ro (l.map Xf)):=by
 refine Qn ab9 (fun _ _ _=>.junk) (by simp) ?_;simp[ag7,ag8];exact⟨fun _ _=>rfl,by omega⟩
def C1(l:List Cl)(h:l.length<=1000000000):Pure Tryz.prog az 129 [.sl .ro (l.map Qg)] (.sl .ro (l.map Qg)):=by
 refine Qn MI (fun _ _ _=>.junk) (by simp) ?_;simp[Tz,TA];exact⟨fun _ _=>rfl,by omega⟩
def Oj(l:List Sp)(h:l.length<=8796093022208):Pure Tryz.prog az 152 [.sl .ro (l.map Qe)] (.sl .ro (l.map Qe)):=by
 refine Qn acm (fun _ _ _=>.junk) (by simp) ?_;simp[ahh,ahi];exact⟨by rintro row a b _ rfl;rfl,by omega⟩
def afl(l:List Cue)(h:l.length<=1000000000):Pure Tryz.prog az 153 [.sl .ro (l.map Qk)] (.sl .ro (l.map Qk)):=by
 refine Qn acn (fun _ _ _=>.junk) (by simp) ?_;simp[ahj,ahk];exact⟨fun _ _=>rfl,by omega⟩
def afm(l:List Int)(h:l.length<=1000000000):Pure Tryz.prog az 154 [.sl .ro (l.map Xa)] (.sl .ro (l.map Xa)):=by
 refine Qn aco (fun _ _ _=>.junk) (by simp) ?_;simp[ahl,ahm];exact⟨fun _ _=>rfl,by omega⟩
def Wi(e:En)(h:e.al.length<=8796093022208):Pure Tryz.prog az 127 [.agg (Qd e)] (.agg (Qd e)):=by
 have k:=Oj e.al h;refine Qn ab8 (fun _ _ l=>l.headD .junk) (by simp) ?_;simp[ag5,ag6,Qd];exact k
def afn:Nat->FuncId->List AV->AV:=fun _ f _=>if f=999999 then .aK 0 []else .junk
def xA(Y:YT)(rows:List (List AV))(h:∀r∈rows,r.length=7)(hl:rows.length<=1000000000)(aJ:rows≠[])(m:AM)(K:AV->AM->Prop)(hK:K (.bs m.boxes.length 0 rows.length 7) {m with boxes:=m.boxes++[rows.flatten]}):
  an Tryz.prog az Y 126 [.sl .ro rows] m K:=by
 refine Xd BA afn (by simp) ?_;simp[MG,MH,afn,aJ];exact⟨⟨by omega,h⟩,hK⟩
def Y4(Y:YT)(rows:List (List AV))(h:∀r∈rows,r.length=7)(hl:rows.length<=1000000000)(aJ:rows≠[])(m:AM)(K:AV->AM->Prop)(hK:K (.bs m.boxes.length 0 rows.length 7) {m with boxes:=m.boxes++[rows.flatten]}):
  an Tryz.prog az Y 151 [.sl .ro rows] m K:=by
 refine Xd MQ afn (by simp) ?_;simp[TN,TO,afn,aJ];exact⟨⟨by omega,h⟩,hK⟩
def Gt:Pure Tryz.prog az 126 [.sl .ro []] (.sl .ro []):=by
 refine Qn BA (fun _ _ _=>.junk) (by simp) ?_;simp[MG,MH]
def Y5:Pure Tryz.prog az 151 [.sl .ro []] (.sl .ro []):=by
 refine Qn MQ (fun _ _ _=>.junk) (by simp) ?_;simp[TN,TO]
open Go Go.Abs
def Kc(p:Pl):Nat->FuncId->List AV->AV:=fun _ f l=>if f=126 then(if p.ens=[]then .sl .ro []else .gd false .junk)else l.headD .junk
def A3(p:Pl):Prop:=p.sh.length<=1000000/\p.aM.length<=1000000/\p.ens.length<=1000000/\p.bks.length<=1000000/\p.cls.length<=1000000/\∀e∈p.ens,e.al.length<=8796093022208
def ar6(p:Pl)(m0:List AV)(f:Nat->AV)(m:AM):Prop:=∃(i:Nat)(bx:List (List AV)),f 22=I i/\i<=p.ens.length/\m=⟨[I p.ch,I p.nu,I p.de,I p.of,.sl .ro (p.sh.map Qe),I p.ep,I p.rg,I p.ln,I p.fi,.sl .ro (p.aM.map Qm),.bs 2 0 p.ens.length 7,.sl .ro (p.bks.map Xf),.sl .ro (p.cls.map Qg)]::m0::(p.ens.map Qd).flatten::bx,[],fun _=>.gone,0⟩
def pH(p:Pl)(h:A3 p):Pure Tryz.prog az 61 [.agg (Qc p)] (.agg (Qc p)):=by
 obtain⟨h1,h2,h3,h4,h5,h6⟩:=h;have k1:=pE p.sh (by omega);have k2:=pF p.aM (by omega);have k4:=pG p.bks (by omega);have k5:=C1 p.cls (by omega);have hsz:=Qap (f:=Qd) (sz:=7) (fun _=>rfl) p.ens;refine Qn uC (Kc p) (by simp) ?_;by_cases hn:p.ens=[]
 ·have k3:=Gt;simp[IF,Qc,Kc,hn];refine⟨k1,k2,k3,?_⟩;refine Qj ez (fun f m=>f 22=I 0/\m=⟨[I p.ch,I p.nu,I p.de,I p.of,.sl .ro (p.sh.map Qe),I p.ep,I p.rg,I p.ln,I p.fi,.sl .ro (p.aM.map Qm),.sl .ro [],.sl .ro (p.bks.map Xf),.sl .ro (p.cls.map Qg)]::[[I 0,I 0,I 0,I 0,.sl .nil [],I 0,I 0,I 0,I 0,.sl .nil [],.sl .nil [],.sl .nil [],.sl .nil []]],[],fun _=>.gone,0⟩) (fun f _=>0) ?_ ?_
  ·exact⟨by simp,by simp⟩
  rintro f m ⟨f22,rfl⟩;simp[f22,ez,IG,Kc];exact⟨k4,k5⟩
 have aJ:p.ens.map Qd≠[]:=by simpa using hn
 simp[IF,Qc,Kc,hn];refine⟨k1,k2,xA _ _ hsz (by simpa using by omega) aJ _ _ ?_⟩;simp;obtain⟨F,hF⟩:∃F,(p.ens.map Qd).flatten=F:=⟨_,rfl⟩;have Iz:F.length=p.ens.length*7:=by rw[<- hF,Wv hsz];simp
 have bT:Zg F=true:=by rw[<- hF];exact eV (fun _=>rfl) _
 have lF:aU 7 p.ens.length F=p.ens.map Qd:=by have:=Jl hsz;rw[hF]at this;simpa using this
 have zu:∀m,F.map (bF m 4)=F:=fun m=>Zl m 3 bT;rw[hF];refine Qj ez (ar6 p [I 0,I 0,I 0,I 0,.sl .nil [],I 0,I 0,I 0,I 0,.sl .nil [],.sl .nil [],.sl .nil [],.sl .nil []]) (fun f _=>p.ens.length-(numOf (f 22)).toNat) ?_ ?_
 ·exact⟨0,[],by simp,by omega,by rw[hF]⟩
 rintro f m ⟨i,bx,f22,hi,rfl⟩;rw[hF];rcases zzaa i p.ens.length with ai|bB
 ·obtain⟨e,he⟩:=aR ai;have ah:(i:Int)<(p.ens.length:Int):=by omega
  have hw:=bJ i (by omega);obtain⟨⟨r,hd⟩,bU⟩:=kT hsz (i:=i) (row:=Qd e) (by simp[he]);rw[hF]at hd bU;simp only[Qd,zzae,zzai]at hd bU;have Gu:=Wi e (h6 e (zzac he));simp only[Qd]at Gu;simp[-setA,jJ,jK,f22,ez,ah,hd,bU,Iz,hw,Kc];refine⟨Gu,by omega,aN,⟨i+1,bx++[[I e.id,I e.it,I e.fr,I e.ea,I e.la,I e.bo,.sl .ro (e.al.map Qe)]],by simp,by omega,by rw[hF]⟩,by omega⟩
 obtain rfl:i=p.ens.length:=by omega
 simp[f22,ez,IG,Kc,Iz,zu,lF];exact⟨k4,k5⟩
def PgC(g:Pg):Prop:=A3 g.p/\g.ev.length<=1000000/\g.cu.length<=1000000/\g.dr.length<=1000000/\∀e∈g.ev,e.al.length<=8796093022208
def A4(g:Pg):Nat->FuncId->List AV->AV:=fun _ f l=>if f=151 then(if g.ev=[]then .sl .ro []else .gd false .junk)else l.headD .junk
def kU(g:Pg)(V:AV):List AV:=[I g.p.ch,I g.p.nu,I g.p.de,I g.p.of,.sl .ro (g.p.sh.map Qe),I g.p.ep,I g.p.rg,I g.p.ln,I g.p.fi,.sl .ro (g.p.aM.map Qm),.sl .ro (g.p.ens.map Qd),.sl .ro (g.p.bks.map Xf),.sl .ro (g.p.cls.map Qg),V,.sl .ro (g.cu.map Qk),I g.ed,.sl .ro (g.dr.map Xa),I g.ve]
def ar7(g:Pg)(m0:List AV)(f:Nat->AV)(m:AM):Prop:=∃(i:Nat)(bx:List (List AV)),f 16=I i/\i<=g.ev.length/\m=⟨kU g (.bs 2 0 g.ev.length 7)::m0::(g.ev.map Qf).flatten::bx,[],fun _=>.gone,0⟩
def iu:List AV:=[I 0,I 0,I 0,I 0,.sl .nil [],I 0,I 0,I 0,I 0,.sl .nil [],.sl .nil [],.sl .nil [],.sl .nil [],.sl .nil [],.sl .nil [],I 0,.sl .nil [],I 0]
def Y6(g:Pg)(h:PgC g):Pure Tryz.prog az 76 [.agg (Qo g)] (.agg (Qo g)):=by
 obtain⟨h0,h1,h2,h3,h4⟩:=h;have k1:=pH g.p h0;have k3:=afl g.cu (by omega);have k4:=afm g.dr (by omega);have hsz:=Qap (f:=Qf) (sz:=7) (fun _=>rfl) g.ev;simp only[Qc]at k1;refine Qn akV (A4 g) (by simp) ?_;by_cases hn:g.ev=[]
 ·have k2:=Y5;simp[abz,Qo,Qc,A4,hn];refine⟨k1,k2,?_⟩;refine Qj D8 (fun f m=>f 16=I 0/\m=⟨kU g (.sl .ro [])::[iu],[],fun _=>.gone,0⟩) (fun f _=>0) ?_ ?_
  ·exact⟨by simp,by simp[kU,iu]⟩
  rintro f m ⟨f16,rfl⟩;simp[f16,D8,akU,kU,iu,A4];exact⟨k3,k4⟩
 have aJ:g.ev.map Qf≠[]:=by simpa using hn
 simp[abz,Qo,Qc,A4,hn];refine⟨k1,Y4 _ _ hsz (by simpa using by omega) aJ _ _ ?_⟩;simp;obtain⟨F,hF⟩:∃F,(g.ev.map Qf).flatten=F:=⟨_,rfl⟩;have Iz:F.length=g.ev.length*7:=by rw[<- hF,Wv hsz];simp
 have bT:Zg F=true:=by rw[<- hF];exact eV (fun _=>rfl) _
 have lF:aU 7 g.ev.length F=g.ev.map Qf:=by have:=Jl hsz;rw[hF]at this;simpa using this
 have zu:∀m,F.map (bF m 4)=F:=fun m=>Zl m 3 bT;rw[hF];refine Qj D8 (ar7 g iu) (fun f _=>g.ev.length-(numOf (f 16)).toNat) ?_ ?_
 ·exact⟨0,[],by simp,by omega,by rw[hF];rfl⟩
 rintro f m ⟨i,bx,f16,hi,rfl⟩;rw[hF];rcases zzaa i g.ev.length with ai|bB
 ·obtain⟨e,he⟩:=aR ai;have ah:(i:Int)<(g.ev.length:Int):=by omega
  have hw:=bJ i (by omega);obtain⟨⟨r,hd⟩,bU⟩:=kT hsz (i:=i) (row:=Qf e) (by simp[he]);rw[hF]at hd bU
  have hs6:F.set (i*7+6) (.sl .ro (e.al.map Qe))=F:=by
   have h7:F[i*7+6]?=some (.sl .ro (e.al.map Qe)):=by
    have:=congrArg (fun l=>l[6]?) hd;simpa[Qf]using this
   apply zzci;intro j;by_cases hj:i*7+6=j
   ·subst hj;rw[h7,zzaz (zza.1 h7).1]
   rw[zzbd hj]
  simp only[Qf,zzae,zzai]at hd;have awp:=Oj e.al (h4 e (zzac he));simp[f16,D8,kU,ah,hd,hs6,Iz,hw,A4];refine⟨awp,by omega,aN,⟨i+1,bx++[[I e.id,I e.it,I e.st,I e.fr,I e.i,I e.re,.sl .ro (e.al.map Qe)]],by simp,by omega,by rw[hF];rfl⟩,by omega⟩
 obtain rfl:i=g.ev.length:=by omega
 simp[f16,D8,akU,kU,iu,A4,Iz,zu,lF];exact⟨k3,k4⟩
open Go Go.Abs
def eF(n:Int):Bool:=decide (1<=n)&&decide (n<=1000000)
def Ku(n:Int):Pure Tryz.prog az 80 [I n] (.bool (eF n)):=by
 refine Qn akZ (fun _ _ _=>.junk) (by simp) ?_;by_cases h:1<=n
 ·simp[akX,akY,h,eF]
 simp[akX,akY,h,eF]
def eB:ByteArray:=⟨#[]⟩
def jL(tx:ByteArray):tx.toList=[]<->tx=eB:=by
 obtain⟨⟨l⟩⟩:=tx;rw[ByteArray.toList_eq];simp[eB]
def Jn(o:Od):Bool:=decide (o.en=0/\o.n=0/\o.cl=⟨0,0,0,0,0,0,0,0⟩/\(o.cu.id=0/\o.cu.fr=0/\o.cu.to=0/\o.cu.pr=0/\o.cu.tx=eB)/\o.nw.id=0/\o.nw.it=0/\o.nw.fr=0/\o.nw.ea=0/\o.nw.la=0/\o.nw.bo=0/\o.nw.al=[])
def Lb(o:Od):Pure Tryz.prog az 81 [.agg (Qq o)] (.bool (Jn o)):=by
 refine Qn ak0 (fun _ _ _=>.junk) (by simp) ?_;obtain⟨sq,ch,fr,ki,en,n,⟨a1,a2,a3,a4,a5,a6,al⟩,⟨c1,c2,c3,c4,c5,c6,c7,c8⟩,⟨d1,d2,d3,d4,tx⟩⟩:=o;simp[aoJ,aoK,Qq,Qd,Qg,Qk];rw[zzbl];simp[Jn,jL,and_assoc]
def xB(r:Int):List Sp->Bool
 |[]=>true
 |a::l=>if r<a.1/\a.1<=7/\eF a.2=true then xB a.1 l else false
def yO(e:En):Bool:=eF e.id&&eF e.it&&decide (1<=e.fr/\e.fr<=100000000)&&decide (0<=e.ea/\e.ea<=e.la/\e.la<=100000000)&&(decide (e.bo=0)||eF e.bo)&&xB 0 e.al
def ajB(e:En)(f:Nat->AV)(m:AM):Prop:=∃(i:Nat)(r:Int)(bx:List (List AV)),f 53=I i/\i<=e.al.length/\f 3=I r/\xB 0 e.al=xB r (e.al.drop i)/\m=⟨Qd e::bx,[],fun _=>.gone,0⟩
def Vg:Nat->FuncId->List AV->AV:=fun _ f l=>match l with|[.int _ n]=>.bool (eF n)|_=>.junk
def tH(e:En)(hl:e.al.length<=8796093022208):Pure Tryz.prog az 82 [.agg (Qd e)] (.bool (yO e)):=by
 have q1:=Ku e.id;have q2:=Ku e.it;have q3:=Ku e.bo;refine Qn ak1 Vg (by simp) ?_;cases h1:eF e.id with
 |false=>rw[h1]at q1;simp[sW,iE,Qd,Vg,h1,yO];exact q1
 |true=>
  rw[h1]at q1;cases h2:eF e.it with
  |false=>rw[h2]at q2;simp[sW,iE,Qd,Vg,h1,h2,yO];exact⟨q1,q2⟩
  |true=>
   rw[h2]at q2;by_cases h3:e.fr<1
   ·have:¬1<=e.fr:=by omega
    simp[sW,iE,Qd,Vg,h1,h2,h3,yO,this];exact⟨q1,q2⟩
   by_cases h4:100000000<e.fr
   ·have:¬e.fr<=100000000:=by omega
    simp[sW,iE,Qd,Vg,h1,h2,h3,h4,yO,this];exact⟨q1,q2⟩
   have e34:1<=e.fr/\e.fr<=100000000:=by omega
   by_cases h5:e.ea<0
   ·have:¬0<=e.ea:=by omega
    simp[sW,iE,Qd,Vg,h1,h2,h3,h4,h5,yO,this];exact⟨q1,q2⟩
   by_cases h6:e.la<e.ea
   ·have:¬e.ea<=e.la:=by omega
    simp[sW,iE,Qd,Vg,h1,h2,h3,h4,h5,h6,yO,this];exact⟨q1,q2⟩
   by_cases h7:100000000<e.la
   ·have:¬e.la<=100000000:=by omega
    simp[sW,iE,Qd,Vg,h1,h2,h3,h4,h5,h6,h7,yO,this];exact⟨q1,q2⟩
   have awq:0<=e.ea/\e.ea<=e.la/\e.la<=100000000:=by omega
   by_cases h8:e.bo≠0/\eF e.bo=false
   ·obtain⟨h8,h9⟩:=h8;rw[h9]at q3;have h8':(e.bo !=0)=true:=by simpa using h8
    simp[sW,iE,Qd,Vg,h1,h2,h3,h4,h5,h6,h7,h8,h8',h9,yO];exact⟨q1,q2,q3⟩
   have hb:(decide (e.bo=0)||eF e.bo)=true:=by
    by_cases hb:e.bo=0
    ·simp[hb]
    cases h9:eF e.bo with
    |true=>simp
    |false=>exact absurd ⟨hb,h9⟩ h8
   have hv:yO e=xB 0 e.al:=by simp only[yO,h1,h2,e34,awq,hb,zzdw,and_self,decide_true]
   rw[hv]
   have hbo:(e.bo=0)\/(e.bo≠0/\eF e.bo=true):=by
    by_cases dO:e.bo=0
    ·exact .inl dO
    exact .inr ⟨dO,by simpa[dO]using hb⟩
   obtain dO|⟨dO,jb⟩:=hbo
   ·simp[sW,Qd,Vg,h1,h2,h3,h4,h5,h6,h7,dO];refine⟨q1,q2,?_⟩;clear q1 q2 q3;refine Qj gF (ajB e) (fun f _=>e.al.length-(numOf (f 53)).toNat) ?_ ?_
    ·exact⟨0,0,[],by simp,by omega,by simp,by simp,by simp[Qd,dO]⟩
    rintro f m ⟨i,r,bx,f53,hi,f3,hr,rfl⟩;rcases zzaa i e.al.length with ai|bB
    ·obtain⟨a,ha⟩:=aR ai;have aa:=Zd ha;have ah:(i:Int)<(e.al.length:Int):=by omega
     have hw:=bJ i (by omega);have hd:e.al.drop i=a::e.al.drop (i+1):=by rw[zzaf ai,(zza.1 ha).2]
     rw[hd,xB]at hr;have qa:=Ku a.2;by_cases d1:a.1<=r
     ·rw[if_neg (by omega)]at hr;simp[f53,f3,gF,iE,Qd,ah,aa,d1,hr,Vg]
     by_cases d2:7<a.1
     ·rw[if_neg (by omega)]at hr;simp[f53,f3,gF,iE,Qd,ah,aa,d1,d2,hr,Vg]
     cases d3:eF a.2 with
     |false=>
      rw[d3]at qa;rw[if_neg (by simp[d3])]at hr;simp[f53,f3,gF,iE,Qd,ah,aa,d1,d2,d3,hr,Vg];exact qa
     |true=>
      rw[d3]at qa;rw[if_pos ⟨by omega,by omega,d3⟩]at hr;simp[f53,f3,gF,Qd,ah,aa,d1,d2,d3,hw,Vg];refine⟨qa,aN,⟨i+1,a.1,bx++[[I a.1,I a.2]],by simp,by omega,by simp,hr,by simp[Qd]⟩,by omega⟩
    obtain rfl:i=e.al.length:=by omega
    simp[f53,f3,gF,iE,hr,xB]
   rw[jb]at q3;have aeJ:(e.bo !=0)=true:=by simpa using dO
   simp[sW,Qd,Vg,h1,h2,h3,h4,h5,h6,h7,aeJ,jb];refine⟨q1,q2,q3,?_⟩;clear q1 q2 q3;refine Qj gF (ajB e) (fun f _=>e.al.length-(numOf (f 53)).toNat) ?_ ?_
   ·exact⟨0,0,[],by simp,by omega,by simp,by simp,by simp[Qd]⟩
   rintro f m ⟨i,r,bx,f53,hi,f3,hr,rfl⟩;rcases zzaa i e.al.length with ai|bB
   ·obtain⟨a,ha⟩:=aR ai;have aa:=Zd ha;have ah:(i:Int)<(e.al.length:Int):=by omega
    have hw:=bJ i (by omega);have hd:e.al.drop i=a::e.al.drop (i+1):=by rw[zzaf ai,(zza.1 ha).2]
    rw[hd,xB]at hr;have qa:=Ku a.2;by_cases d1:a.1<=r
    ·rw[if_neg (by omega)]at hr;simp[f53,f3,gF,iE,Qd,ah,aa,d1,hr,Vg]
    by_cases d2:7<a.1
    ·rw[if_neg (by omega)]at hr;simp[f53,f3,gF,iE,Qd,ah,aa,d1,d2,hr,Vg]
    cases d3:eF a.2 with
    |false=>
     rw[d3]at qa;rw[if_neg (by simp[d3])]at hr;simp[f53,f3,gF,iE,Qd,ah,aa,d1,d2,d3,hr,Vg];exact qa
    |true=>
     rw[d3]at qa;rw[if_pos ⟨by omega,by omega,d3⟩]at hr;simp[f53,f3,gF,Qd,ah,aa,d1,d2,d3,hw,Vg];refine⟨qa,aN,⟨i+1,a.1,bx++[[I a.1,I a.2]],by simp,by omega,by simp,hr,by simp[Qd]⟩,by omega⟩
   obtain rfl:i=e.al.length:=by omega
   simp[f53,f3,gF,iE,hr,xB]
open Go Go.Abs
def tI(s:ByteArray)(i:Nat):Nat:=(s.data.toList.getD i 0).toNat
def qY(s:ByteArray)(i:Nat)(h:i<s.size):(s.data[i]'h).toNat=tI s i:=by
 have h':i<s.data.size:=h;simp only[tI,zzas,zzcb,zzaj h',zzgs]
def Gv(s:ByteArray)(n i:Nat):Bool:=match n with
 |0=>true
 |n+1=>if tI s i<32\/126<tI s i then false else Gv s n (i+1)
def Rl(s:ByteArray):Bool:=Gv s s.size 0
def ar8(s:ByteArray)(f:Nat->AV)(m:AM):Prop:=∃i:Nat,f 3=I i/\i<=s.size/\Rl s=Gv s (s.size-i) i/\m=⟨[],[],fun _=>.gone,0⟩
def xC(s:ByteArray)(h:s.size<=1000000):Pure Tryz.prog az 245 [.str s] (.bool (Rl s)):=by
 refine Qn adj (fun _ _ _=>.junk) (by simp) ?_;simp[UG];refine Qj uY (ar8 s) (fun f _=>s.size-(numOf (f 3)).toNat) ?_ ?_
 ·exact⟨0,by simp,by omega,rfl,rfl⟩
 rintro f m ⟨i,f3,hi,hr,rfl⟩;rcases zzaa i s.size with ai|bB
 ·have ah:(i:Int)<(s.size:Int):=by omega
  have hw:=bJ i (by omega);obtain⟨n,hn⟩:∃n,s.size-i=n+1:=⟨s.size-i-1,by omega⟩;have hb:=qY s i ai;rw[hn,Gv]at hr;by_cases h1:tI s i<32
  ·rw[if_pos (.inl h1)]at hr;have qv:((tI s i:Nat):Int)<32:=by omega
   simp[f3,uY,Nb,ai,ah,hr,hb,qv]
  have qv:¬((tI s i:Nat):Int)<32:=by omega
  by_cases h2:126<tI s i
  ·rw[if_pos (.inr h2)]at hr;have DN:(126:Int)<((tI s i:Nat):Int):=by omega
   simp[f3,uY,Nb,ai,ah,hr,hb,qv,DN]
  rw[if_neg (by omega)]at hr;have DN:¬(126:Int)<((tI s i:Nat):Int):=by omega
  simp[f3,uY,ai,ah,hw,hb,qv,DN];refine⟨aN,⟨i+1,by simp,by omega,by rw[hr];congr 1;omega,rfl⟩,by omega⟩
 obtain rfl:i=s.size:=by omega
 rw[zzep,Gv]at hr;simp[f3,uY,Nb,hr]
def gQ(s:ByteArray)(i:Nat):Option Nat->List ByteArray
 |none=>[]
 |some f=>[s.extract f i]
def Y7(s:ByteArray):Nat->Nat->Option Nat->List ByteArray
 |0,i,first=>gQ s i first
 |n+1,i,first=>if tI s i≠32 then Y7 s n (i+1) (some (first.getD i))else gQ s i first++Y7 s n (i+1) none
def Uj(s:ByteArray):List ByteArray:=Y7 s s.size 0 none
def C2(s:ByteArray)(i:Nat)(first:Option Nat):List ByteArray:=if i<=s.size then Y7 s (s.size-i) i first else[]
def Gw{s:ByteArray}{i:Nat}(first:Option Nat)(h:i<s.size)(hb:tI s i≠32):C2 s i first=C2 s (i+1) (some (first.getD i)):=by
 obtain⟨n,hn⟩:∃n,s.size-i=n+1:=⟨s.size-i-1,by omega⟩;rw[C2,if_pos (by omega),C2,if_pos (by omega),hn,Y7,if_pos hb,show s.size-(i+1)=n by omega]
def C3{s:ByteArray}{i:Nat}(first:Option Nat)(h:i<=s.size)(hb:i<s.size->tI s i=32):C2 s i first=gQ s i first++C2 s (i+1) none:=by
 by_cases hi:i=s.size
 ·subst hi;have:C2 s (s.size+1) none=[]:=by rw[C2,if_neg (by omega)]
  rw[this,C2,if_pos (by omega),zzep,Y7,zzat]
 obtain⟨n,hn⟩:∃n,s.size-i=n+1:=⟨s.size-i-1,by omega⟩;have:C2 s (i+1) none=Y7 s n (i+1) none:=by rw[C2,if_pos (by omega),show s.size-(i+1)=n by omega]
 rw[this,C2,if_pos h,hn,Y7,if_neg (by simp[hb (by omega)])]
def Ol:Option Nat->Int
 |none=> -1
 |some k=>k
def Lc(s:ByteArray):Pure Tryz.prog az 246 [.str s] (.fn 303 [] [.ep [.str s] 0]):=by
 refine Qn adk (fun _ _ _=>.junk) (by simp) ?_;simp[ahZ,ah0]
def ar9(Y:YT)(lp:Nat)(K:AM->Prop)(s:ByteArray)(f:Nat->AV)(m:AM):Prop:=∃(i:Nat)(first:Option Nat),f 4=I i/\i<=s.size+1/\f 3=I (Ol first)/\(∀k,first=some k->k<=i/\i<=s.size)/\vT (Y lp) K ((C2 s i first).map fun w=>[.str w]) m
def Ld(s:ByteArray)(h:s.size<=1000000):Iter Tryz.prog az 303 [] [.ep [.str s] 0] ((Uj s).map fun w=>[.str w]):=by
 intro Y lp m K hF;refine Xd adP (fun _ _ _=>.junk) (by simp) ?_;simp[UT,ais];refine Qj iM (ar9 Y lp K s) (fun f _=>s.size+1-(numOf (f 4)).toNat) ?_ ?_
 ·exact⟨0,none,by simp,by omega,by simp[Ol],⟨fun k(hk:none=some k)=>(by cases hk),by simpa[C2,Uj]using hF⟩⟩
 rintro f m ⟨i,first,f4,hi,f3,PG,hr⟩;rcases zzaa s.size i with tc|cc
 ·have bI:¬(i:Int)<=(s.size:Int):=by omega
  rw[C2,if_neg (by omega)]at hr;simp[f4,iM,bI];exact hr m (fk.refl m)
 have afo:(i:Int)<=(s.size:Int):=by omega
 have hw:=bJ i (by omega);by_cases hb:i<s.size/\tI s i≠32
 ·obtain⟨ai,hb⟩:=hb;have ah:(i:Int)<(s.size:Int):=by omega
  have DP:=qY s i ai;have hbI:¬((tI s i:Nat):Int)=32:=by omega
  rw[Gw first ai hb]at hr;cases first with
  |none=>
   simp[f4,f3,Ol,iM,afo,ai,ah,DP,hbI,hw];refine⟨aN,⟨i+1,some i,by simp,by omega,by simp[Ol],⟨fun k(hk:some i=some k)=>(by cases hk;omega),hr⟩⟩,by omega⟩
  |some k=>
   have V4:¬(k:Int)<0:=by omega
   obtain⟨cV,di⟩:=PG k rfl;simp[f4,f3,Ol,iM,afo,ai,ah,DP,hbI,hw,V4];refine⟨aN,⟨i+1,some k,by simp,by omega,by simp[Ol],⟨fun k'(hk:some k=some k')=>(by cases hk;omega),hr⟩⟩,by omega⟩
 have cK:i<s.size->tI s i=32:=fun h=>Classical.byContradiction fun h2=>hb ⟨h,h2⟩;rw[C3 first cc cK]at hr;cases first with
 |none=>
  simp only[gQ,zzai]at hr;rcases zzaa i s.size with ai|bB
  ·have ah:(i:Int)<(s.size:Int):=by omega
   have DP:=qY s i ai;have Gx:=cK ai;simp[f4,f3,Ol,iM,afo,ai,ah,DP,Gx,hw];refine⟨aN,⟨i+1,none,by simp,by omega,by simp[Ol],⟨fun k(hk:none=some k)=>(by cases hk),hr⟩⟩,by omega⟩
  obtain rfl:i=s.size:=by omega
  simp[f4,f3,Ol,iM,hw];refine⟨aN,⟨s.size+1,none,by simp,by omega,by simp[Ol],⟨fun k(hk:none=some k)=>(by cases hk),hr⟩⟩⟩
 |some k=>
  obtain⟨cV,di⟩:=PG k rfl;have V4:(0:Int)<=(k:Int):=by omega
  simp only[gQ,zzae,zzai,zzaw]at hr;rcases zzaa i s.size with ai|bB
  ·have ah:(i:Int)<(s.size:Int):=by omega
   have DP:=qY s i ai;have Gx:=cK ai;simp[f4,f3,Ol,iM,afo,ai,ah,DP,Gx,hw,V4,cV];refine hr m (fk.refl m) _ (fun m2 h2=>?_) (fun m2 h2=>?_)
   ·simp;refine⟨aN,⟨i+1,none,by simp,by omega,by simp[Ol],⟨fun k(hk:none=some k)=>(by cases hk),h2⟩⟩,by omega⟩
   simp;exact h2 m2 (fk.refl m2)
  obtain rfl:i=s.size:=by omega
  simp[f4,f3,Ol,iM,hw,V4,cV];refine hr m (fk.refl m) _ (fun m2 h2=>?_) (fun m2 h2=>?_)
  ·simp;refine⟨aN,⟨s.size+1,none,by simp,by omega,by simp[Ol],⟨fun k(hk:none=some k)=>(by cases hk),h2⟩⟩⟩
  simp;exact h2 m2 (fk.refl m2)
open Go Go.Abs
def Zc(n:Int):Prop:= -9223372036854775808<=n/\n<=9223372036854775807
def OKP(p:Pl):Prop:=∀e∈p.ens,e.al.length<=8796093022208
open Go Go.Abs
def Y8(p:Pl)(e:bE):Int->List Sp->Bool
 |_,[]=>true
 |last,a::r=>match Xh a.2 p.aM with
  |none=>false
  |some y=>if a.1<=last\/p.rg<=a.1\/y.fr<IntKind.i64.wrap (e.i+e.fr)then false else if Xw p a.2 a.1 e.st e.fr=false then false else Y8 p e a.1 r
def asa(p:Pl)(e:bE):Int:=Uo (fun i=>Xw p e.it i e.st e.fr) (min p.rg 8).toNat
def Gy(a:Int):Int:=IntKind.i64.wrap (((a%2 ^ IntKind.i64.bits).toNat&&& ((1:Int)%2 ^ IntKind.i64.bits).toNat:Nat):Int)
def afp(a b:Int):Int:=IntKind.i64.wrap (((a%2 ^ IntKind.i64.bits).toNat&&& (2 ^ IntKind.i64.bits-1-(b%2 ^ IntKind.i64.bits).toNat):Nat):Int)
def Y9(p:Pl)(e:bE):Bool:=match Xh e.it p.aM with
 |none=>false
 |some x=>if e.fr<1\/e.i<0\/x.fr<e.fr\/IntKind.i64.wrap (x.fr-e.fr)<e.i then false else
  if Gy e.re=0\/afp e.re (asa p e)≠0 then false else Y8 p e 0 e.al&&(decide (e.id≠0)||(decide (e.it=p.fi)&&decide (e.al=[])))
open Go Go.Abs
def afq(x r n:Nat)(h:r<n):((x+2 ^ n)/2 ^ r)%2=(x/2 ^ r)%2:=by
 obtain⟨k,rfl⟩:∃k,n=r+(k+1):=⟨n-r-1,by omega⟩;have e:2 ^ (r+(k+1))=2 ^ r*(2*2 ^ k):=by rw[Nat.pow_add,zzho,zze (2 ^ k) 2]
 rw[e,Nat.add_mul_div_left _ _ (Nat.two_pow_pos r),Nat.add_mul_mod_self_left]
def xD(b:Nat->Bool):Nat->Nat
 |0=>0
 |n+1=>xD b n+if b n then 2 ^ n else 0
def C4(b:Nat->Bool):∀n,xD b n<2 ^ n
 |0=>by simp[xD]
 |n+1=>by
  have:=C4 b n;rw[xD,zzho];split<;>omega
def Le(b:Nat->Bool):∀n,Uo b n=(xD b n:Int)
 |0=>rfl
 |n+1=>by
  rw[Uo,xD,Le b n];split
  ·push_cast;rfl
  simp
def Gz(b:Nat->Bool)(r:Nat):∀n,(xD b n).testBit r=(decide (r<n)&&b r)
 |0=>by simp[xD]
 |n+1=>by
  have ih:=Gz b r n;have ai:=C4 b n;rw[xD];by_cases hb:b n=true
  ·rw[if_pos hb];rcases zzfj r n with h|h|h
   ·rw[zzeb,afq _ _ _ h,<- zzeb,ih];simp[h,Nat.lt_succ_of_lt h]
   ·subst h
    have:(xD b r+2 ^ r)/2 ^ r=1:=by
     rw[Nat.add_div_right _ (Nat.two_pow_pos r),zzgm ai]
    rw[zzeb,this];simp[hb]
   have:xD b n+2 ^ n<2 ^ r:=by
    have:2 ^ (n+1)<=2 ^ r:=Nat.pow_le_pow_right (by omega) h;rw[zzho]at this;omega
   rw[Nat.testBit_lt_two_pow this];simp;intro h2;omega
  rw[if_neg hb,zzcm,ih];by_cases h:r=n
  ·subst h;simp[hb]
  have:decide (r<n)=decide (r<n+1):=decide_eq_decide.2 (by omega);rw[this]
def amG(x:Int)(r:Nat):Bool:=x.toNat.testBit r
def Zs(b:Nat->Bool)(n r:Nat):amG (Uo b n) r=(decide (r<n)&&b r):=by
 unfold amG;rw[Le,Int.toNat_natCast,Gz]
def GA(b:Nat->Bool)(n:Nat)(hn:n<=8):0<=Uo b n/\Uo b n<256:=by
 have:=C4 b n;rw[Le];have h2:2 ^ n<=2 ^ 8:=Nat.pow_le_pow_right (by omega) hn;omega
def asb(x:Int)(h:0<=x/\x<256):(x%2 ^ IntKind.i64.bits).toNat=x.toNat:=by
 have:(2:Int) ^ IntKind.i64.bits=18446744073709551616:=by decide
 rw[this,Int.emod_eq_of_lt h.1 (by omega)]
def ZA(x:Int)(h:0<=x/\x<256):Gy x=x%2:=by
 unfold Gy;rw[asb x h,asb 1 (by omega)];have:x.toNat&&& (1:Int).toNat=x.toNat%2:=Nat.and_one_is_mod _;rw[this,Qi]<;>omega
open Go Go.Abs
def Rm{x:Int}(h:0<=x/\x<256):afp x x=0:=by
 have key:∀n:Nat,n<256->afp (n:Int) (n:Int)=0:=by decide+kernel
 have:=key x.toNat (by omega);rwa [Int.toNat_of_nonneg h.1]at this
def xE{b c:Nat->Bool}:∀(n:Nat),(∀i,i<n->b i=c i)->Uo b n=Uo c n
 |0,_=>rfl
 |n+1,h=>by rw[Uo,Uo,xE n (fun i hi=>h i (by omega)),h n (by omega)]
def ZB{b:Nat->Bool}{n:Nat}(hn:1<=n/\n<=8)(h0:b 0=true):Gy (Uo b n)=1:=by
 have hb:=GA b n hn.2;rw[ZA _ hb];have h1:=Zs b n 0;rw[h0]at h1;have h2:decide (0<n)=true:=by simp;omega
 rw[h2]at h1;simp only[amG,Nat.testBit_zero,zzge,decide_eq_true_eq]at h1;omega
structure VP (p:Pl):Prop where
 rg:1<=p.rg/\p.rg<=8
 ln:1<=p.ln/\p.ln<=100000000
 fill:∃y,Xh p.fi p.aM=some y/\y.ki=5/\1<=y.fr/\y.fr<=100000000
 aM:∀y∈p.aM,S1 y=true
 ens:∀e∈p.ens,1<=e.id/\jy p e=true/\mA p e=true
def GB{p:Pl}:∀{l:List En}{seen:List Int},Ga p seen l=true->∀e∈l,1<=e.id/\jy p e=true/\mA p e=true
 |x::r,seen,h,e,he=>by
  rw[Ga,zzak]at h;rcases zzau.1 he with rfl|he
  ·have h1:=h.1;simp only[zm,zzak,wi,decide_eq_true_eq]at h1;exact⟨h1.1.1,h1.2.2.1,h1.2.2.2.1⟩
  exact GB h.2 e he
def Lg{p:Pl}(h:sy p=true):VP p:=by
 simp only[sy,zzak]at h;obtain⟨h1,h2,h3,h4,h5⟩:=h;simp only[Ji,zzak,wi,decide_eq_true_eq]at h1;simp only[S2,zzak,decide_eq_true_eq]at h2;simp only[w9,zzak,decide_eq_true_eq]at h4;refine⟨h1.2.2.2.2.1,h1.2.2.2.2.2,?_,pe h2.2.2.1,GB h4.2⟩;have hf:=h2.2.2.2;unfold vW at hf;cases hx:Xh p.fi p.aM with
 |none=>rw[hx]at hf;cases hf
 |some y=>
  rw[hx]at hf;have hb:=X8 (pe h2.2.2.1 y (wY hx).1);exact⟨y,rfl,by simpa using hf,by omega,by omega⟩
def Lh{p:Pl}(h:VP p)(r f n:Int)(hr:0<=r/\r<8)(hn:1<=n/\n<=1000000)(hf:0<=f/\f+n-1<=100000000):Xw p p.fi r f n=true:=by
 obtain⟨y,hy,hk,_⟩:=h.fill;exact(Li _ _ _ _ _).2 ⟨⟨by omega,by omega,by omega,by omega⟩,fun x h1 h2=>⟨y,hy,hr,by omega,.inl hk⟩⟩
def Qbg{p:Pl}(h:VP p)(hl:p.ln<=1000000)(x:Int×Int)(hx:0<=x.1/\1<=x.2/\x.2<=Yb p/\x.1+x.2<=p.ln):Y9 p (Vh p x)=true:=by
 obtain⟨y,hy,hk,hy1,hy2⟩:=h.fill;have hff:Yb p=y.fr:=by simp only[Yb,hy]
 rw[hff]at hx;have hre:(Vh p x).re=FR p:=rfl
 have hm:asa p (Vh p x)=FR p:=by
  refine xE _ fun i hi=>?_;exact Lh h i x.1 x.2 (by omega) (by omega) (by omega)
 have K0:=h.rg;have h1:Gy (FR p)=1:=ZB (n:=(min p.rg 8).toNat) (by omega) rfl;have h2:afp (FR p) (FR p)=0:=Rm (GA _ _ (by omega));have hw:IntKind.i64.wrap (y.fr-x.2)=y.fr-x.2:=by rw[Qi]<;>omega
 have cH:(Vh p x).it=p.fi:=rfl;have wD:(Vh p x).fr=x.2:=rfl;have hi0:(Vh p x).i=0:=rfl;have ey:(Vh p x).al=[]:=rfl;rw[Y9,cH,hy];simp only;rw[hm,hre,wD,hi0,ey,hw,h1,h2,if_neg (by omega),if_neg (by omega)];simp[Y8]
def ZC{lo up:Int}{ks:List Int}(h:Kl lo up none ks=true):ks.Pairwise (·<·)/\∀k∈ks,lo<=k/\k<=up:=by
 obtain⟨h1,h2⟩:=kR h;exact⟨h1,fun k hk=>⟨(h2 k hk).1,(h2 k hk).2.1⟩⟩
end Go.Proofs.YtnopaopphmjnmaaGreatDoor
