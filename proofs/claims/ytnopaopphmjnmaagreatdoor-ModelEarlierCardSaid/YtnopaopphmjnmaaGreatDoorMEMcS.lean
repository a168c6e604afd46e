import Derived.Test.YtnopaopphmjnmaaGreatDoorMEMcO
set_option linter.all false
set_option maxRecDepth 100000
set_option maxHeartbeats 64000000
namespace Go.Abs
open Go Go.RowKit
def aka(P:Program)(gl:Nat->AV)(f:FuncId)(first cap:List AV)(xs:List (List AV))(O0:Nat->Prop)(pre:AM->Prop):Prop:=
 ∀(Y:YT)(l:Nat)(m:AM)(K:AM->Prop),pre m->jN (Y l) K xs O0 m->an P gl Y f (first++[.yld l]++cap) m fun _ m'=>K m'
def SA{P:Program}{gl:Nat->AV}{orc:Nat->FuncId->List AV->AV}{Y:YT}{s:AS}{Q:Exit->AS->Prop}{g:bL}{ps:List Nat}{lY body:SC}{f:FuncId}{first cap:List AV}{xs:List (List AV)}
  (hg:ev gl s.T g=.fn f first cap){O0:Nat->Prop}{pre:AM->Prop}(cI:aka P gl f first cap xs O0 pre)(axA:pre s.m.aY)(aH:∀x∈xs,x.length=ps.length)(I:(Nat->Prop)->Nat->AM->Prop)(X:(Nat->Prop)->Exit->AM->Prop)
  (h0:I O0 0 s.m)
  (hI:∀O i m m',I O i m->bO O m m'->I (OU O m.boxes.length m'.boxes.length) i m')(hX:∀O ex m m',X O ex m->bO O m m'->X O ex m')
  (
   hb:∀(O:Nat->Prop)(l i:Nat)(m:AM)(x:List AV),(∀j,O j->O0 j\/(s.m.boxes.length<=j/\j<m.boxes.length))->s.m.boxes.length<=m.boxes.length->s.m.st l=.gone->m.st l=.ready->I O i (m.at_ l .gone)->xs[i]?=some x->∀K':Exit->AS->Prop,
   (∀s',A4 O m s'.m->I O (i+1) (s'.m.at_ l .gone)->K' .normal s')->(∀s',m.boxes.length<=s'.m.boxes.length->X O .ret (s'.m.at_ l .gone)->K' .ret s')->(∀id s',m.boxes.length<=s'.m.boxes.length->X O (.exit id) (s'.m.at_ l .gone)->K' (.exit id) s')->
   vc P gl orc Y lY ⟨Qar s.T ps x,m⟩ (Fw l fun s'=>vc P gl orc Y body s' K'))
  (KP:∀O m,I O xs.length m->Q .normal ⟨s.T,m⟩)(hex:∀O ex m,X O ex m->Q ex ⟨s.T,m⟩):vc P gl orc Y (.rfunc g ps lY body) s Q:=by
 simp only[vc,hg];intro hl;generalize cS:s.m.ln=l at hl;refine cI _ l s.m.aY (fun m'=>zC l s.T m' Q (m'.st l)) axA ?_;have fI:∀{O:Nat->Prop}{m m':AM},m.st l=.ready->bO O m m'->m'.st l=.ready:=fun h e=>by rw[e.2.2.2 l (by rw[h];simp),h]
 have key:∀(n i:Nat)(O:Nat->Prop)(m:AM),i+n=xs.length->I O i (m.at_ l .gone)->(∀j,O j->O0 j\/(s.m.boxes.length<=j/\j<m.boxes.length))->s.m.boxes.length<=m.boxes.length->m.st l=.ready->
   jN (Yin Y l ps.length (fun args m K=>vc P gl orc Y lY ⟨Qar s.T ps args,m⟩ (Fw l fun s'=>vc P gl orc Y body s' (KN l K))) l) (fun m'=>zC l s.T m' Q (m'.st l)) (xs.drop i) O m:=by
  intro n;induction n with
  |zero=>
   intro i O m hi XJ tY k8 hm;rw[zzal (by omega)];intro m' e;simp only[fI hm e,zC];obtain rfl:i=xs.length:=by omega
   exact KP _ _ (hI _ _ _ _ XJ (e.gone l))
  |succ n ih=>
   intro i O m hi XJ tY k8 hm;have ai:i<xs.length:=by omega
   rw[zzaf ai];intro m' e K' hT hF;have YQ:s.m.boxes.length<=m'.boxes.length:=zzbn k8 e.1
   have Ru:∀j,OU O m.boxes.length m'.boxes.length j->O0 j\/(s.m.boxes.length<=j/\j<m'.boxes.length):=by
    rintro j (h|h)
    ·exact(tY j h).imp id fun h=>⟨h.1,zzbb h.2 e.1⟩
    exact .inr ⟨by omega,h.2⟩
   have zy:=hI _ _ _ _ XJ (e.gone l);simp only[Ui]at zy;simp only[Yin,if_true];refine⟨fI hm e,aH _ (zzdj ai),?_⟩;refine hb (OU O m.boxes.length m'.boxes.length) l i m' xs[i] Ru YQ hl (fI hm e) zy (zzad ai) (KN l K') (fun s' hS' zy=>?_) (fun s' bZ hQ=>?_) fun id s' bZ hQ=>?_
   ·refine hT _ (by simpa[A4]using hS') (ih (i+1) _ _ (by omega) ?_ (fun j hj=>(Ru j hj).imp id fun h=>⟨h.1,by simpa using zzbb h.2 hS'.1⟩) (by simpa using zzbn YQ hS'.1) (by simp));simpa using zy
   ·refine hF _ fun m3 e3=>?_;have h3:m3.st l=.done .ret:=by have:=e3.2.2.2 l (by simp);simpa using this
    simp only[h3];exact hex _ _ _ (hX _ _ _ _ hQ (by have:=e3.gone l;simpa using this))
   refine hF _ fun m3 e3=>?_;have h3:m3.st l=.done (.exit id):=by have:=e3.2.2.2 l (by simp);simpa using this
   simp only[h3];exact hex _ _ _ (hX _ _ _ _ hQ (by have:=e3.gone l;simpa using this))
 have hI0:I O0 0 (s.m.aY.at_ l .gone):=by
  have:=hI O0 0 s.m (s.m.aY.at_ l .gone) h0 ⟨by simp[AM.aY],fun j _ _=>by simp[AM.aY],⟨[],by simp[AM.aY]⟩,fun l' eF=>by
   have aK:l'≠l:=by rintro rfl;exact eF hl
   simp[AM.aY,cS,qw,aK]⟩
  have e:OU O0 s.m.boxes.length (s.m.aY.at_ l .gone).boxes.length=O0:=by
   funext j;apply propext;simp[OU,AM.aY];omega
  rw[e]at this;exact this
 have:=key xs.length 0 O0 s.m.aY (by simp) hI0 (fun _ h=>.inl h) (by simp[AM.aY]) (by simp[AM.aY,cS]);simpa using this
end Go.Abs
namespace Go.Proofs.YtnopaopphmjnmaaGreatDoor
noncomputable section
open Go Go.Abs
def Vv(lo hi:Int):List Int:=if lo<=hi then lo::Vv (lo+1) hi else[]
termination_by(hi+1-lo).toNat
def Mq(v:Int):List AV:=[I v]
def att(a b:Nat)(lo hi:Int)(m:AM):Prop:=a<m.boxes.length/\b<m.boxes.length/\Qh m.boxes a=[I lo]/\Qh m.boxes b=[I hi]
def SB(a b:Nat)(lo hi:Int)(h0:0<=lo)(h1:hi<=1000000000):aka Tryz.prog az 104 [] [.ptr a 0,.ptr b 0] ((Vv lo hi).map Mq) (fun j=>j=a\/j=b) (att a b lo hi):=by
 rintro Y l ⟨mb,ml,ms,mn⟩ K ⟨p1,p2,p3,p4⟩ hF;simp only at p1 p2 p3 p4;refine Xe ach (fun _ _ _=>.gd false .junk) (by simp) ?_;simp[ahd,p3];refine Qj JL (fun g mm=>∃(v:Int)(O:Nat->Prop),g 4=I v/\0<=v/\b<mm.boxes.length/\Qh mm.boxes b=[I hi]/\O b/\jN (Y l) K ((Vv v hi).map Mq) O mm) (fun g _=>(hi+1-numOf (g 4)).toNat) ?_ ?_
 ·exact⟨lo,_,by simp,h0,by simpa using p2,by simpa using p4,.inr rfl,hF⟩
 rintro g mm ⟨v,O,h4,hv,hb,nP,hO,hFo⟩;by_cases ai:v<=hi
 ·rw[Vv,if_pos ai]at hFo;simp only[zzay,Mq]at hFo;have hw:IntKind.i64.wrap (v+1)=v+1:=by rw[Qk]<;>omega
  simp[h4,JL,ai,nP];refine hFo _ (bO.refl _ _) _ (fun m2 xb qx=>?_) (fun m2 hK=>?_)
  ·have q1:Qh m2.boxes b=[I hi]:=by rw[xb.2 b (.inl hO)];exact nP
   have AW:=xb.1;simp[hw];refine⟨aO,⟨by omega,by omega,q1,_,.inl hO,qx⟩,by omega⟩
  simp[TN];exact hK _ (bO.refl _ _)
 rw[Vv,if_neg ai]at hFo;simp[h4,JL,ai,nP,TN];exact hFo _ (bO.refl _ _)
def atu(Y:YT)(m:AM)(md:Nat)(M:Md)(pid aQ:Nat)(bn:List Rt)(bQ:Rt)(z:List AV)(f:Int)(h:gA m.boxes md M pid aQ bn bQ z)(hf:∀o∈M.os,0<=o.2/\o.2<=1000000000000)(K:AV->AM->Prop)
  (hK:K (.fn 104 [] [.ptr m.boxes.length 0,.ptr (m.boxes.length+1) 0]) {m with boxes:=m.boxes++[[I (fA f M.os)],[I (Vw f M.os)]]}):an Tryz.prog az Y 47 [.ptr md 0,I f] m K:=by
 obtain⟨mb,ml,ms,mn⟩:=m;have ka:=fun K hK=>Kw Y ⟨mb,ml,ms,mn⟩ md M pid aQ bn bQ z f h hf K hK;refine Xe akV (fun _ _ _=>.gd false .junk) (by simp) ?_;simp[ao5];refine ka _ ?_;simp[ao6];simpa using hK
open Go Go.Abs
def wu6(n:Int)(h:0<=n)(h':n<=9223372036854775807):IntKind.u64.wrap n=n:=by
 simp[IntKind.wrap,IntKind.bits,IntKind.signed];omega
def SD(e:bE)(f:Int)(h:Ul e)(hf:f<=9223372036854775807):Pure Tryz.prog az 105 [.agg (Qf e),.ep [I f] 0] (.bool (sV f e)):=by
 refine Qn aci (fun _ _ _=>.junk) (by simp) ?_;obtain⟨⟨a1,a2⟩,⟨a3,a4⟩,_⟩:=h;by_cases h1:e.st<=f
 ·have w1:=wu6 e.st (by omega) (by omega);have w2:=wu6 f (by omega) (by omega);have w3:=wu6 (f-e.st) (by omega) (by omega);have w4:=wu6 e.fr (by omega) (by omega);by_cases h2:0<e.fr
  ·have:(f-e.st<e.fr)=(f<e.st+e.fr):=by apply propext;omega
   simp[M4,M5,Qf,h1,h2,sV,w1,w2,w3,w4,this]
  have:¬f<e.st+e.fr:=by omega
  simp[M4,M5,Qf,h1,h2,sV,this]
 simp[M4,M5,Qf,h1,sV]
def HI(L:List bE)(f:Int)(hL:L.length<=1000000000)(hs:∀e∈L,Ul e)(hf:f<=9223372036854775807):Pure Tryz.prog az 106 [.sl .ro (L.map Qf),.fn 105 [] [.ep [I f] 0]] (I (ic f L 0)):=by
 refine Qn M7 (LB f) (by simp) ?_;simp[TO,M6];refine Qj iR (fun s m=>∃i:Nat,s 8=I i/\i<=L.length/\ic f (L.drop i) i=ic f L 0/\m=⟨[],[],fun _=>.gone,0⟩) (fun s m=>L.length-(numOf (s 8)).toNat) ?_ ?_
 ·exact⟨0,by simp,by omega,by simp,rfl⟩
 rintro s m ⟨i,hi,bZ,hr,rfl⟩;rcases zzaa i L.length with ai|bu
 ·obtain⟨a,ha⟩:∃a,L[i]?=some a:=⟨L[i],zzad ai⟩;have ah:Qh (L.map Qf) i=Qf a:=Qs (by simp[ha]);have hw:=bK i (by omega);rw[Zb ha]at hr;have hp:Pure Tryz.prog az 105 [.agg (Qf a),.ep [I f] 0] (.bool (sV f a)):=SD a f (hs a (zzac ha)) hf;have ho:decide (a.st<=f/\f<a.st+a.fr)=sV f a:=rfl;by_cases h:sV f a=true
  ·simp[ic,h]at hr;rw[h]at hp ho;simp at ho;simp[hi,ah,ai,Qf,LB,iR,ho];exact⟨hp,hr⟩
  simp at h;simp[ic,h]at hr;rw[h]at hp ho
  have dz:decide (a.st<=f)=false\/decide (f<a.st+a.fr)=false:=by
   by_cases q:a.st<=f
   ·right;simp at ho |-;omega
   left;simp[q]
  simp only[decide_eq_false_iff_not]at ho;simp[hi,ah,ai,Qf,LB,iR,ho,hw];refine⟨hp,aO,⟨i+1,by simp,by omega,hr⟩,by omega⟩
 rw[zzal bu]at hr;simp[hi,zzbl.2 bu,iR];exact hr
def aau(L:List bE)(f:Int)(hL:L.length<=1000000000)(hs:∀e∈L,Ul e)(hf:f<=9223372036854775807):Pure Tryz.prog az 48 [.sl .ro (L.map Qf),I f] (Tt f (zV f L)):=by
 have LR:=HI L f hL hs hf;refine Qn akY (fun _ g l=>if g=106 then I (ic f L 0)else l.headD .junk) (by simp) ?_;cases I3:zV f L with
 |none=>
  rw[x9 I3]at LR |-
  simp[akW,akX,Tt,ZM];exact LR
 |some a=>
  obtain⟨k,h1,h2,h3⟩:=ya (i:=0) I3;rw[h1]at LR |-
  have ai:k<L.length:=(zza.1 h2).1;have ah:Qh (L.map Qf) k=Qf a:=Qs (by simp[h2]);obtain⟨⟨a1,a2⟩,⟨a3,a4⟩,⟨a7,a8⟩,a9⟩:=hs a (zzac h2);have hon:a.st<=f/\f<a.st+a.fr:=by simpa[sV]using h3
  have w1:IntKind.i64.wrap (a.i+f)=a.i+f:=by rw[Qk]<;>omega
  have w2:IntKind.i64.wrap (a.i+f-a.st)=a.i+f-a.st:=by rw[Qk]<;>omega
  rw[zzbu]at LR;have hcn:=Ja a.al a9;simp[akW,akX,Tt,ai,ah,Qf];refine⟨LR,hcn,Qbn [(.junk,⟨[[I f],[I a.id,I a.it,I a.st,I a.fr,I a.i,I a.re,.sl .ro (a.al.map Qe)],[I a.id,I a.it,I a.st,I a.fr,I a.i,I a.re,.sl .ro (a.al.map Qe)]],[],fun _=>.gone,0⟩)] ?_⟩;simp[w1,w2]
open Go Go.Abs
abbrev Sh:=Int×Int×Int
def Zk(s:Sh):List AV:=[I s.1,I s.2.1,I s.2.2]
def ant(re r:Int):Bool:=decide (re.fdiv (2 ^ (min r.toNat 64))%2=1)
def By(r f v:Int)(e:bE)(al:List Sp):List Sh:=(al.filter fun a=>decide (a.1=r)).map fun a=>(a.2,f-(e.st-e.i),v)
def Mr(r f v:Int)(e:bE):List Sh:=(if ant e.re r=true then[(e.it,e.i+f-e.st,v)]else[])++By r f v e e.al
def iK(r f:Int)(l:List Pg)(v:Int):List Sh:=match l[v.toNat]? with
 |none=>[]
 |some g=>match zV f g.ev with
  |none=>[]
  |some e=>Mr r f v e
def sh0:Sh:=(0,0,0)
def Xt(M:Md)(c r f:Int):List Sh:=match O8 M c with
 |none=>[]
 |some l=>match l with
  |[]=>[]
  |g::_=>if r<0\/g.p.rg<=r then[]else sh0::(Vv (fA f M.os) (Vw f M.os)).flatMap (iK r f l)
def SE(r f v:Int)(e:bE)(al:List Sp)(a:Sp):By r f v e (al++[a])=By r f v e al++if a.1=r then[(a.2,f-(e.st-e.i),v)]else[]:=by
 unfold By;rw[zzcr,zzby];by_cases h:a.1=r<;>simp[h]
def aav:SC:=(⟨_,by cbv⟩:tW [1,0,1,1,1,1,0,1,0,1,0,1,1,1] PN).1
def Bz:SC:=(⟨_,fun _=>by cbv⟩:uE [1,1,1] (tV [1,0,1,1,1,1,0,1,0,1,0] PN)).1 aav
def HJ(ml ls:List Nat)(rt:Rt)(n:Nat):Prop:=(∃lx,ls=ml++lx)/\(rt=.full\/∃k,rt=.own k 3/\ml.length<=k/\ls[k]?=some n)
def HJ.full{ml ls:List Nat}{n n':Nat}(h:HJ ml ls .full n):HJ ml (ls++[n']) (.own ls.length 3) n':=by
 obtain⟨⟨lx,rfl⟩,_⟩:=h;exact⟨⟨lx++[n'],by simp⟩,.inr ⟨_,rfl,by simp,by simp⟩⟩
def HJ.own{ml ls:List Nat}{k n n':Nat}(h:HJ ml ls (.own k 3) n):HJ ml (ls.set k n') (.own k 3) n':=by
 obtain⟨⟨lx,rfl⟩,h⟩:=h;obtain h|⟨k',h1,h2,h3⟩:=h
 ·cases h
 cases h1;refine⟨⟨lx.set (k-ml.length) n',by rw[zzct _ _ h2]⟩,.inr ⟨k,rfl,h2,?_⟩⟩;rw[zzaz (zza.1 h3).1]
def fP(mb:List (List AV))(r f:Int)(ng:Rt)(l:List Pg)(rt:Rt)(ps:List Sh)(bx:List (List AV)):List (List AV):=mb++([I r]::[I f]::[.sl ng (l.map Qo)]::[.sl rt (ps.map Zk)]::bx)
def atv(mb:List (List AV))(ml:List Nat)(ms:Nat->LS)(mn:Nat)(r f v:Int)(ng:Rt)(l:List Pg)(ps:List Sh)(cx:List (List AV))(e:bE)(g:Nat->AV)(m:AM):Prop:=
 ∃(i:Nat)(ls:List Nat)(rt:Rt)(b2:List (List AV)),g 72=I i/\i<=e.al.length/\HJ ml ls rt (ps++By r f v e (e.al.take i)).length/\m=⟨fP mb r f ng l rt (ps++By r f v e (e.al.take i)) (cx++b2),ls,ms,mn⟩
def yI(Y:YT)(orc:Nat->FuncId->List AV->AV)(ho:∀d l,orc d 999999 l=.junk)(E:List (Nat×AV))(mb:List (List AV))(ml ls:List Nat)(ms:Nat->LS)(mn:Nat)(r f v:Int)(ng:Rt)(l:List Pg)(rt:Rt)(ps:List Sh)(cx:List (List AV))(n:Nat)(e:bE)(Q:Exit->AS->Prop)
  (e6:Abs.look E 6=.ptr mb.length 0)(e7:Abs.look E 7=.ptr (mb.length+1) 0)(e10:Abs.look E 10=.ptr (mb.length+3) 0)(e11:Abs.look E 11=I v)(e12:Abs.look E 12=.ptr (mb.length+(n+4)) 0)(hn:n<cx.length)(hcx:Qh cx n=Qf e)
  (hr:HJ ml ls rt ps.length)(hs:Ul e)(eP:e.al.length<=1000000)(hf:0<=f/\f<=2000000)(hps:ps.length+e.al.length<=1000000000)
  (hQ:∀E' bX fk DQ,HJ ml bX fk (ps++By r f v e e.al).length->Q .normal ⟨Ze 96 E',⟨fP mb r f ng l fk (ps++By r f v e e.al) (cx++DQ),bX,ms,mn⟩⟩):
  vc Tryz.prog az orc Y aav ⟨Ze 96 E,⟨fP mb r f ng l rt ps cx,ls,ms,mn⟩⟩ Q:=by
 obtain⟨⟨a1,a2⟩,⟨a3,a4⟩,⟨a5,a6⟩,a7⟩:=hs;have eX:IntKind.i64.wrap (e.st-e.i)=e.st-e.i:=by rw[Qk]<;>omega
 have dG:IntKind.i64.wrap (f-(e.st-e.i))=f-(e.st-e.i):=by rw[Qk]<;>omega
 simp only[Qf]at hcx;simp[aav,fP,e12,hcx];refine Qj Eh (atv mb ml ms mn r f v ng l ps cx e) (fun g _=>e.al.length-(numOf (g 72)).toNat) ?_ ?_
 ·exact⟨0,ls,rt,[],by simp,by omega,by simpa[By]using hr,by simp[By,fP]⟩
 rintro g m ⟨i,ls,rt,b2,h72,hi,hr,rfl⟩;have WG:∀y,Qh ((cx++b2)++y) n=Qf e:=fun y=>by rw[Ql (by simp;omega),Ql hn];exact hcx
 have axB:Qh (cx++b2) n=Qf e:=by rw[Ql hn];exact hcx
 have hny:n<(cx++b2).length:=by simp;omega
 have ayt:n<(cx++b2).length+1:=by omega
 have Ec:∀b3,(cx++b2)++b3=cx++(b2++b3):=fun _=>zzax _ _ _;generalize hCY:cx++b2=cy at*
 simp only[Qf]at WG axB;rcases zzaa i e.al.length with ai|bu
 ·obtain⟨a,ha⟩:=aR ai;have ah:Qh (e.al.map Qe) i=Qe a:=Qs (by simp[ha]);have aa:(i:Int)<(e.al.length:Int):=by omega
  have hw:=bK i (by omega);have bB:e.al.take (i+1)=e.al.take i++[a]:=by rw[zzas,ha];rfl
  have gK:(ps++By r f v e (e.al.take i)).length<=ps.length+i:=by
   have h1:=zzbr (fun a:Sp=>decide (a.1=r)) (e.al.take i);have h2:=List.length_take_le i e.al;simp only[By,zzah,zzbf];omega
  have mQ:=SE r f v e (e.al.take i) a;rw[<- bB]at mQ;generalize hPS:ps++By r f v e (e.al.take i)=PS at*
  have tu:ps++By r f v e (e.al.take (i+1))=PS++if a.1=r then[(a.2,f-(e.st-e.i),v)]else[]:=by rw[mQ,<- zzax,hPS]
  by_cases hc:a.1=r
  ·rw[if_pos hc]at tu;have Ol:∀row∈PS.map Zk,row.length=3:=by rintro row h;obtain⟨x,_,rfl⟩:=zzbc.1 h;rfl
   rcases hr.2 with rfl|⟨k,rfl,cQ,cV⟩
   ·simp[h72,aa,ah,Qe,Eh,hw,hc,fP,e6,e7,e10,e11,e12,ho,eX,dG,WG,zzam];refine⟨⟨?_,by omega⟩,aO,⟨i+1,_,_,b2++[[I r,I a.2]],by simp,by omega,by rw[tu,zzah];exact hr.full,by rw[tu,<- Ec];simp[fP,Zk]⟩,by omega⟩
    ·rintro row (⟨x,y,z,_,rfl⟩|rfl)<;>rfl
   simp[h72,aa,ah,Qe,Eh,hw,hc,fP,e6,e7,e10,e11,e12,ho,eX,dG,WG,zzam,cV];refine⟨⟨?_,by omega⟩,aO,⟨i+1,_,_,b2++[[I r,I a.2]],by simp,by omega,by rw[tu,zzah];exact hr.own,by rw[tu,<- Ec];simp[fP,Zk]⟩,by omega⟩
   ·rintro row (⟨x,y,z,_,rfl⟩|rfl)<;>rfl
  rw[if_neg hc,zzat]at tu;simp[h72,aa,ah,Qe,Eh,hw,hc,fP,e6,zzam];refine⟨aO,⟨i+1,_,_,b2++[[I a.1,I a.2]],by simp,by omega,by rw[tu];exact hr,by rw[tu,<- Ec];simp[fP]⟩,by omega⟩
 have hte:e.al.take i=e.al:=zzap bu;have bJ:¬(i:Int)<(e.al.length:Int):=by omega
 rw[hte]at hr |-
 simp[h72,bJ,Eh];rw[<- hCY];exact hQ _ _ _ _ hr
def DR{f:Int}{e:bE}:∀{L:List bE},zV f L=some e->e∈L/\e.st<=f/\f<e.st+e.fr
 |[],h=>by cases h
 |a::r,h=>by
  simp only[zV]at h;split at h
  ·rename_i ho;cases h;exact⟨by simp,by simpa[sV]using ho⟩
  have:=DR h;exact⟨by simp[this.1],this.2⟩
def Pf(r f v:Int)(e:bE):(By r f v e e.al).length<=e.al.length:=by
 unfold By;rw[zzbf];exact zzbr _ _
def akb{c a b:Prop}{i:Decidable c}(h:c)(ha:a):@ite Prop c i a b:=by rw[if_pos h];exact ha
def atw{c a b:Prop}{i:Decidable c}(h:¬c)(hb:b):@ite Prop c i a b:=by rw[if_neg h];exact hb
def aaw(Y:YT)(orc:Nat->FuncId->List AV->AV)(ho:∀d l,orc d 999999 l=.junk)(E:List (Nat×AV))(mb:List (List AV))(ml ls:List Nat)(ms:Nat->LS)(mn:Nat)(r f:Int)(v:Nat)(ng:Rt)(l:List Pg)(rt:Rt)(ps:List Sh)(bx:List (List AV))(g:Pg)(Q:Exit->AS->Prop)
  (anu:∀d(L:List bE),orc d 48 [.sl .ro (L.map Qf),I f]=Tt f (zV f L))
  (e6:Abs.look E 6=.ptr mb.length 0)(e7:Abs.look E 7=.ptr (mb.length+1) 0)(e9:Abs.look E 9=.ptr (mb.length+2) 0)(e10:Abs.look E 10=.ptr (mb.length+3) 0)(e11:Abs.look E 11=I (v:Int))(hg:l[v]?=some g)
  (hr:HJ ml ls rt ps.length)(cw:g.ev.length<=1000000000)(hs:∀e∈g.ev,Ul e/\e.al.length<=1000000)(hf:f<=9223372036854775807)(tO:0<=r)(hps:ps.length<=100000000)
  (hQ:∀x E' bX fk DQ,(x=.normal\/x=.exit 1)->HJ ml bX fk (ps++iK r f l v).length->Q x ⟨Ze 96 E',⟨fP mb r f ng l fk (ps++iK r f l v) (bx++DQ),bX,ms,mn⟩⟩):
  vc Tryz.prog az orc Y Bz ⟨Ze 96 E,⟨fP mb r f ng l rt ps bx,ls,ms,mn⟩⟩ Q:=by
 have k48:=aau g.ev f cw (fun e he=>(hs e he).1) hf;have Pe:=fun d=>anu d g.ev;have ai:v<l.length:=(zza.1 hg).1;have ah:Qh (l.map Qo) v=Qo g:=Qs (by simp[hg]);have Ol:∀row∈ps.map Zk,row.length=3:=by rintro row h;obtain⟨x,_,rfl⟩:=zzbc.1 h;rfl
 cases I3:zV f g.ev with
 |none=>
  have j9:iK r f l (v:Int)=[]:=by simp[iK,hg,I3]
  rw[j9,zzat]at hQ;rw[I3]at k48 Pe;simp only[Tt,ZM]at k48 Pe;simp[Bz];refine Xy ?_;simp[fP,e7,e9,e11,ai,ah,Qo,Qc,Pe];exact⟨k48,hQ (.exit 1) _ _ _ [[I 0,I 0,I 0,I 0,I 0,I 0,.sl .nil []]] (.inr rfl) hr⟩
 |some e=>
  obtain⟨he,ho1,ho2⟩:=DR I3;obtain⟨hs1,KO⟩:=hs e he;have agn:=hs1;obtain⟨⟨a1,a2⟩,⟨a3,a4⟩,⟨a5,a6⟩,a7⟩:=hs1;have j9:iK r f l (v:Int)=Mr r f v e:=by simp[iK,hg,I3]
  rw[j9]at hQ;rw[I3]at k48 Pe;simp only[Tt,Qf]at k48 Pe;have jd:=Pf r f v e;by_cases hb:e.re.fdiv (2 ^ (min r.toNat 64))%2=1
  ·have hpe:Mr r f v e=(e.it,e.i+f-e.st,(v:Int))::By r f v e e.al:=by simp[Mr,ant,hb]
   rw[hpe]at hQ;have hQ':∀(x:Exit)(E':List (Nat×AV))(bX:List Nat)(fk:Rt)(DQ:List (List AV)),(x=.normal\/x=.exit 1)->HJ ml bX fk ((ps++[(e.it,e.i+f-e.st,(v:Int))])++By r f v e e.al).length->Q x ⟨Ze 96 E',⟨fP mb r f ng l fk ((ps++[(e.it,e.i+f-e.st,(v:Int))])++By r f v e e.al) (bx++DQ),bX,ms,mn⟩⟩:=fun x E' bX fk DQ hx=>by rw[zzax];exact hQ x E' bX fk DQ hx
   rcases hr.2 with rfl|⟨k,rfl,cQ,cV⟩
   ·simp[Bz];refine Xy ?_;simp[fP,e6,e7,e9,e10,e11,ai,ah,Qo,Qc,Pe,tO,IntKind.bits,ho];refine⟨k48,?_⟩;refine akb ((aax _).trans hb) ⟨⟨?_,by omega⟩,?_⟩
    ·rintro row (⟨x,y,z,_,rfl⟩|rfl)<;>rfl
    refine yI Y orc ho _ mb ml _ ms mn r f v ng l _ (ps++[(e.it,e.i+f-e.st,(v:Int))]) (bx++[Qf e]) bx.length e Q (by simp[e6]) (by simp[e7]) (by simp[e10]) (by simp[e11]) (by simp) (by simp) (by simp) (by rw[zzah];exact hr.full) agn KO (by omega) (by simp;omega) ?_ |> fun h=>(by simpa[fP,Zk,Qf]using h);intro E' bX fk DQ hp;have:=hQ' .normal E' bX fk (Qf e::DQ) (.inl rfl) hp;simpa using this
   simp[Bz];refine Xy ?_;simp[fP,e6,e7,e9,e10,e11,ai,ah,Qo,Qc,Pe,tO,IntKind.bits,ho,cV];refine⟨k48,?_⟩;refine akb ((aax _).trans hb) ⟨⟨?_,by omega⟩,?_⟩
   ·rintro row (⟨x,y,z,_,rfl⟩|rfl)<;>rfl
   refine yI Y orc ho _ mb ml _ ms mn r f v ng l _ (ps++[(e.it,e.i+f-e.st,(v:Int))]) (bx++[Qf e]) bx.length e Q (by simp[e6]) (by simp[e7]) (by simp[e10]) (by simp[e11]) (by simp) (by simp) (by simp) (by rw[zzah];exact hr.own) agn KO (by omega) (by simp;omega) ?_ |> fun h=>(by simpa[fP,Zk,Qf]using h);intro E' bX fk DQ hp;have:=hQ' .normal E' bX fk (Qf e::DQ) (.inl rfl) hp;simpa using this
  have hpe:Mr r f v e=By r f v e e.al:=by simp[Mr,ant,hb]
  rw[hpe]at hQ;simp[Bz];refine Xy ?_;simp[fP,e6,e7,e9,e10,e11,ai,ah,Qo,Qc,Pe,tO,IntKind.bits,ho];refine⟨k48,?_⟩;refine atw (fun h=>hb ((aax _).symm.trans h)) ?_;refine yI Y orc ho _ mb ml _ ms mn r f v ng l _ ps (bx++[Qf e]) bx.length e Q (by simp[e6]) (by simp[e7]) (by simp[e10]) (by simp[e11]) (by simp) (by simp) (by simp) hr agn KO (by omega) (by omega) ?_;intro E' bX fk DQ hp;have:=hQ .normal E' bX fk (Qf e::DQ) (.inl rfl) hp;simpa using this
open Go Go.Abs
def an.wk{P:Program}{gl:Nat->AV}{Y:YT}{f:FuncId}{xs:List AV}{m:AM}{K:AV->AM->Prop}(h:an P gl Y f xs m fun r m'=>∃r',Wk r r'/\K r' m'):an P gl Y f xs m K:=by
 refine⟨h.1,fun N w0 aq γ w vs hm hl hg hy hr=>CallsIn.mono (h.2 N w0 aq γ w vs hm hl hg hy hr) ?_⟩;rintro en w' ⟨v,γ',r,m',g0,g1,g2,g3,g4,r',g5,g6⟩;exact⟨v,γ',r',m',g0,g1,g2,g3,g5 _ _ _ g4,g6⟩
def SF{B B':List (List AV)}(h:B.length<=B'.length)(h2:∀j,j<B.length->Qh B' j=Qh B j):∃bx,B'=B++bx:=by
 refine⟨B'.drop B.length,?_⟩;rw[<- zzdd B.length B'];congr 1
 ·apply zzee
  ·rw[zzaq];omega
  intro j h3 h4;have:=h2 j h4;unfold Qh at this;rw[zzar,zzar,zzad h4,zzad (by omega)]at this;simpa using this
 rw[zzdd]
def HK{x hi:Int}:∀(n:Nat)(a:Int),(hi+1-a).toNat<=n->x∈Vv a hi->a<=x/\x<=hi
 |0,a,hn,h=>by rw[Vv,if_neg (by omega)]at h;cases h
 |n+1,a,hn,h=>by
  rw[Vv]at h;split at h
  ·rcases zzaw.1 h with rfl|h
   ·omega
   have:=HK n (a+1) (by omega) h;omega
  cases h
def yJ{hi:Int}:∀(n:Nat)(a:Int),(hi+1-a).toNat<=n->(Vv a hi).length<=n
 |0,a,hn=>by rw[Vv,if_neg (by omega)];exact zzab _
 |n+1,a,hn=>by
  rw[Vv];split
  ·have:=yJ (hi:=hi) n (a+1) (by omega);simp only[zzba];omega
  exact zzbz _
def ago{mb:List (List AV)}{r f:Int}{ng:Rt}{l:List Pg}{rt fk:Rt}{ps ps':List Sh}{bx DQ:List (List AV)}{j:Nat}(h1:mb.length+4<=j)(h2:j<mb.length+4+bx.length):
  Qh (fP mb r f ng l fk ps' (bx++DQ)) j=Qh (fP mb r f ng l rt ps bx) j:=by
 obtain⟨k,rfl⟩:∃k,j=mb.length+4+k:=⟨j-(mb.length+4),by omega⟩
 have e:∀(a b c d:List AV)(y:List (List AV)),Qh (mb++(a::b::c::d::y)) (mb.length+4+k)=Qh y k:=fun a b c d y=>by
  unfold Qh;rw[zzar,zzar,zzan (by omega)];rw[show mb.length+4+k-mb.length=k+4 by omega];simp
 rw[fP,fP,e,e,Ql (by omega)]
def atx(mb:List (List AV))(ml:List Nat)(r f:Int)(ng:Rt)(l:List Pg)(ps:Nat->List Sh)(O:Nat->Prop)(i:Nat)(mm:AM):Prop:=
 (∀j,O j->mb.length+4<=j)/\∃rt bx,HJ ml mm.lens rt (ps i).length/\mm.boxes=fP mb r f ng l rt (ps i) bx
def HJ.ext{ml ls:List Nat}{rt:Rt}{n:Nat}(h:HJ ml ls rt n)(lx:List Nat):HJ ml (ls++lx) rt n:=by
 obtain⟨⟨l2,rfl⟩,h⟩:=h;refine⟨⟨l2++lx,by simp⟩,h.imp id ?_⟩;rintro⟨k,h1,h2,h3⟩;exact⟨k,h1,h2,by rw[zzag (zza.1 h3).1];exact h3⟩
def Ms(r f:Int)(l:List Pg)(vs:List Int)(i:Nat):List Sh:=sh0::(vs.take i).flatMap (iK r f l)
def agp(r f:Int)(l:List Pg)(hl:∀g∈l,∀e∈g.ev,e.al.length<=1000)(v:Int):(iK r f l v).length<=1001:=by
 unfold iK;cases hg:l[v.toNat]? with
 |none=>simp
 |some g=>
  cases he:zV f g.ev with
  |none=>simp[he]
  |some e=>
   have h1:=hl g (zzac hg) e (DR he).1;have h2:=Pf r f v e;simp only[he,Mr,zzah];split<;>simp<;>omega
def aay(r f:Int)(l:List Pg)(hl:∀g∈l,∀e∈g.ev,e.al.length<=1000)(vs:List Int)(i:Nat):(Ms r f l vs i).length<=1+i*1001:=by
 unfold Ms
 have h:∀l2:List Int,(l2.flatMap (iK r f l)).length<=l2.length*1001:=fun l2=>by
  induction l2 with
  |nil=>simp
  |cons a t ih=>
   have:=agp r f l hl a;rw[zzcy,zzah,zzba,zzbp];omega
 have h1:=h (vs.take i);have h2:=List.length_take_le i vs;have h3:(vs.take i).length*1001<=i*1001:=zzb _ h2;simp only[zzba];omega
def agq:SC:=.rfunc (.tmp 40) [41] (.ops [⟨(some 11),(.mv (.tmp 41)),none,[]⟩]) (.block 1 Bz)
def agr(Y:YT)(orc:Nat->FuncId->List AV->AV)(ho:∀d l,orc d 999999 l=.junk)(E:List (Nat×AV))(mb:List (List AV))(ml:List Nat)(ms:Nat->LS)(mn:Nat)(r f lo hi:Int)(ng:Rt)(l:List Pg)(Q:Exit->AS->Prop)
  (anu:∀d(L:List bE),orc d 48 [.sl .ro (L.map Qf),I f]=Tt f (zV f L))
  (e6:Abs.look E 6=.ptr mb.length 0)(e7:Abs.look E 7=.ptr (mb.length+1) 0)(e9:Abs.look E 9=.ptr (mb.length+2) 0)(e10:Abs.look E 10=.ptr (mb.length+3) 0)(e40:Abs.look E 40=.fn 104 [] [.ptr (mb.length+4) 0,.ptr (mb.length+5) 0])
  (Oa:0<=lo)(hhi:hi<l.length)(zF:l.length<=1000)(cw:∀g∈l,g.ev.length<=1000000000/\∀e∈g.ev,Ul e/\e.al.length<=1000)(hf:f<=9223372036854775807)(tO:0<=r)
  (hQ:∀rt bx bX kK kL,HJ ml bX rt (sh0::(Vv lo hi).flatMap (iK r f l)).length->Q .normal ⟨Ze 96 E,⟨fP mb r f ng l rt (sh0::(Vv lo hi).flatMap (iK r f l)) bx,bX,kK,kL⟩⟩):
  vc Tryz.prog az orc Y agq ⟨Ze 96 E,⟨fP mb r f ng l .full [sh0] [[I lo],[I hi]],ml,ms,mn⟩⟩ Q:=by
 have cI:=SB (mb.length+4) (mb.length+5) lo hi Oa (by omega);have gY:∀rt ps bx,(fP mb r f ng l rt ps bx).length=mb.length+4+bx.length:=fun rt ps bx=>by simp[fP];omega
 have hvl:(Vv lo hi).length<=1000:=yJ 1000 lo (by omega);have axC:=aay r f l (fun g hg e he=>((cw g hg).2 e he).2) (Vv lo hi);unfold agq;refine SA (xs:=(Vv lo hi).map Mq) (by simp[e40];try exact⟨rfl,rfl⟩) cI ?_ (by intro x hx;simp at hx;obtain⟨u,_,rfl⟩:=hx;rfl) (atx mb ml r f ng l (Ms r f l (Vv lo hi))) (fun _ _ _=>False) ?_ ?_ (fun _ _ _ _ h=>h.elim) ?_ ?_ (fun _ _ _ h=>h.elim)
 ·simp[att,AM.aY,fP]
 ·exact⟨by rintro j (rfl|rfl)<;>omega,.full,_,⟨⟨[],by simp⟩,.inl rfl⟩,by simp[Ms];rfl⟩
 ·rintro O i m1 m2 ⟨h1,rt,bx,h2,h3⟩ ⟨q1,q2,⟨lx,q3⟩,q4⟩;refine⟨?_,rt,?_⟩
  ·rintro j (h|h)
   ·exact h1 j h
   rw[h3,gY]at h;omega
  have:∃b2,m2.boxes=fP mb r f ng l rt (Ms r f l (Vv lo hi) i) []++b2:=by
   refine SF (by rw[h3,gY]at q1;rw[gY];simp;omega) fun j hj=>?_;rw[gY]at hj;rw[q2 j (by rw[h3,gY];simp at hj;omega) (fun ho=>by have:=h1 j ho;simp at hj;omega),h3];have:fP mb r f ng l rt (Ms r f l (Vv lo hi) i) bx=fP mb r f ng l rt (Ms r f l (Vv lo hi) i) []++bx:=by simp[fP]
   rw[this,Ql (by rw[gY];exact hj)]
  obtain⟨b2,mP⟩:=this;exact⟨b2,by rw[q3];exact h2.ext lx,by rw[mP];simp[fP]⟩
 ·rintro O lp i mm x tY bZ hg0 fI ⟨h1,rt,bx,h2,h3⟩ hx K' k1 k2 k3
  obtain⟨v,hv,rfl⟩:∃v,(Vv lo hi)[i]?=some v/\Mq v=x:=by
   rw[zzbm]at hx;cases hq:(Vv lo hi)[i]? with
   |none=>rw[hq]at hx;cases hx
   |some y=>rw[hq]at hx;exact⟨y,rfl,Option.some.inj hx⟩
  have gr:=(zza.1 hv).1;obtain⟨v1,v2⟩:=HK 1000 lo (by omega) (zzac hv);obtain⟨w,rfl⟩:=zzgw (show 0<=v by omega);obtain⟨g,hg⟩:∃g,l[w]?=some g:=⟨_,zzad (by omega)⟩;have hgm:=zzac hg
  have hps:Ms r f l (Vv lo hi) (i+1)=Ms r f l (Vv lo hi) i++iK r f l w:=by
   unfold Ms;rw[zzas,hv,zzgc,List.flatMap_append,zzcy,zzdx,zzat];rfl
  simp only[Ui,CS]at h2 h3;obtain⟨mb2,ml2,ms2,mn2⟩:=mm;simp only at h2 h3 fI bZ tY;subst h3;simp[fI,Zl,Mq];show vc _ _ _ _ _ ⟨_,⟨fP mb r f ng l rt (Ms r f l (Vv lo hi) i) bx,ml2,qw ms2 lp .busy,mn2⟩⟩ _;refine aaw Y orc ho _ mb ml ml2 (qw ms2 lp .busy) mn2 r f w ng l rt _ bx g _ anu (by simp[e6]) (by simp[e7]) (by simp[e9]) (by simp[e10]) (by simp) hg h2 (cw g hgm).1 (fun e he=>⟨((cw g hgm).2 e he).1,by have:=((cw g hgm).2 e he).2;omega⟩) hf tO (by have:=axC i;omega) ?_;intro x E' bX fk DQ hx hp
  have xe:∀T,K' .normal ⟨T,⟨fP mb r f ng l fk (Ms r f l (Vv lo hi) i++iK r f l w) (bx++DQ),bX,qw ms2 lp .busy,mn2⟩⟩:=fun T=>by
   refine k1 _ ⟨?_,fun j hj=>?_⟩ ⟨h1,fk,bx++DQ,by rw[hps];exact hp,by rw[hps];rfl⟩
   ·show(fP mb r f ng l rt _ bx).length<=(fP mb r f ng l fk _ (bx++DQ)).length;rw[gY,gY,zzah];omega
   have hj4:=h1 j hj;have hj5:=tY j hj;rw[gY]at hj5 bZ;rw[gY]at bZ;simp only[zzba,zzch]at bZ;refine ago hj4 ?_;obtain(rfl|rfl)|hj5:=hj5
   ·omega
   ·omega
   rw[gY]at hj5;omega
  obtain rfl|rfl:=hx
  ·simp;exact xe _
  simp;exact xe _
 rintro O mm ⟨h1,rt,bx,h2,h3⟩
 have ht:Ms r f l (Vv lo hi) ((Vv lo hi).map Mq).length=sh0::(Vv lo hi).flatMap (iK r f l):=by
  unfold Ms;rw[zzbf,zzbs]
 rw[ht]at h2 h3;obtain⟨mb2,ml2,ms2,mn2⟩:=mm;simp only at h2 h3;subst h3;exact hQ rt bx ml2 ms2 mn2 h2
end
end Go.Proofs.YtnopaopphmjnmaaGreatDoor
