import Derived.Test.YtnopaopphmjnmaaGreatDoorMQMcO
set_option linter.all false
set_option maxRecDepth 100000
set_option maxHeartbeats 64000000
namespace Go.Abs
open Go Go.RowKit
def akV(P:Program)(gl:Nat->AV)(f:FuncId)(first cap:List AV)(xs:List (List AV))(O0:Nat->Prop)(pre:AM->Prop):Prop:=
 ∀(Y:YT)(l:Nat)(m:AM)(K:AM->Prop),pre m->jQ (Y l) K xs O0 m->an P gl Y f (first++[.yld l]++cap) m fun _ m'=>K m'
def Ti{P:Program}{gl:Nat->AV}{orc:Nat->FuncId->List AV->AV}{Y:YT}{s:AS}{Q:Exit->AS->Prop}{g:bN}{ps:List Nat}{lV body:SC}{f:FuncId}{first cap:List AV}{xs:List (List AV)}
  (hg:ev gl s.T g=.fn f first cap){O0:Nat->Prop}{pre:AM->Prop}(cp:akV P gl f first cap xs O0 pre)(ayQ:pre s.m.bu)(aH:∀x∈xs,x.length=ps.length)(I:(Nat->Prop)->Nat->AM->Prop)(X:(Nat->Prop)->Exit->AM->Prop)
  (h0:I O0 0 s.m)
  (hI:∀O i m m',I O i m->bQ O m m'->I (OU O m.boxes.length m'.boxes.length) i m')(hX:∀O ex m m',X O ex m->bQ O m m'->X O ex m')
  (
   hb:∀(O:Nat->Prop)(l i:Nat)(m:AM)(x:List AV),(∀j,O j->O0 j\/(s.m.boxes.length<=j/\j<m.boxes.length))->s.m.boxes.length<=m.boxes.length->s.m.st l=.gone->m.st l=.ready->I O i (m.at_ l .gone)->xs[i]?=some x->∀K':Exit->AS->Prop,
   (∀s',Bq O m s'.m->I O (i+1) (s'.m.at_ l .gone)->K' .normal s')->(∀s',m.boxes.length<=s'.m.boxes.length->X O .ret (s'.m.at_ l .gone)->K' .ret s')->(∀id s',m.boxes.length<=s'.m.boxes.length->X O (.exit id) (s'.m.at_ l .gone)->K' (.exit id) s')->
   vc P gl orc Y lV ⟨Qas s.T ps x,m⟩ (F5 l fun s'=>vc P gl orc Y body s' K'))
  (Lo:∀O m,I O xs.length m->Q .normal ⟨s.T,m⟩)(hex:∀O ex m,X O ex m->Q ex ⟨s.T,m⟩):vc P gl orc Y (.rfunc g ps lV body) s Q:=by
 simp only[vc,hg];intro hl;generalize dy:s.m.ln=l at hl;refine cp _ l s.m.bu (fun m'=>zS l s.T m' Q (m'.st l)) ayQ ?_;have fL:∀{O:Nat->Prop}{m m':AM},m.st l=.ready->bQ O m m'->m'.st l=.ready:=fun h e=>by rw[e.2.2.2 l (by rw[h];simp),h]
 have key:∀(n i:Nat)(O:Nat->Prop)(m:AM),i+n=xs.length->I O i (m.at_ l .gone)->(∀j,O j->O0 j\/(s.m.boxes.length<=j/\j<m.boxes.length))->s.m.boxes.length<=m.boxes.length->m.st l=.ready->
   jQ (Yin Y l ps.length (fun args m K=>vc P gl orc Y lV ⟨Qas s.T ps args,m⟩ (F5 l fun s'=>vc P gl orc Y body s' (Ll l K))) l) (fun m'=>zS l s.T m' Q (m'.st l)) (xs.drop i) O m:=by
  intro n;induction n with
  |zero=>
   intro i O m hi YV um gm hm;rw[zzan zE];intro m' e;simp only[fL hm e,zS];obtain rfl:i=xs.length:=zE
   exact Lo _ _ (hI _ _ _ _ YV (e.gone l))
  |succ n ih=>
   intro i O m hi YV um gm hm;have ai:i<xs.length:=zE
   rw[zzaf ai];intro m' e K' hT hF;have Z0:s.m.boxes.length<=m'.boxes.length:=zzbg gm e.1
   have Sa:∀j,OU O m.boxes.length m'.boxes.length j->O0 j\/(s.m.boxes.length<=j/\j<m'.boxes.length):=by
    rintro j (h|h)
    ·exact(um j h).imp id fun h=>⟨h.1,zzaz h.2 e.1⟩
    exact .inr ⟨zE,h.2⟩
   have gX:=hI _ _ _ _ YV (e.gone l);simp only[Ui]at gX;simp only[Yin,if_true];refine⟨fL hm e,aH _ (zzdk ai),?_⟩;refine hb (OU O m.boxes.length m'.boxes.length) l i m' xs[i] Sa Z0 hl (fL hm e) gX (zzae ai) (Ll l K') (fun s' hS' gX=>?_) (fun s' cw hQ=>?_) fun id s' cw hQ=>?_
   ·refine hT _ (by simpa[Bq]using hS') (ih (i+1) _ _ zE ?_ (fun j hj=>(Sa j hj).imp id fun h=>⟨h.1,by simpa using zzaz h.2 hS'.1⟩) (by simpa using zzbg Z0 hS'.1) zd);simpa using gX
   ·refine hF _ fun m3 e3=>?_;have h3:m3.st l=.done .ret:=by have:=e3.2.2.2 l zd;simpa using this
    simp only[h3];exact hex _ _ _ (hX _ _ _ _ hQ (by have:=e3.gone l;simpa using this))
   refine hF _ fun m3 e3=>?_;have h3:m3.st l=.done (.exit id):=by have:=e3.2.2.2 l zd;simpa using this
   simp only[h3];exact hex _ _ _ (hX _ _ _ _ hQ (by have:=e3.gone l;simpa using this))
 have hI0:I O0 0 (s.m.bu.at_ l .gone):=by
  have:=hI O0 0 s.m (s.m.bu.at_ l .gone) h0 ⟨by simp[AM.bu],fun j _ _=>by simp[AM.bu],⟨[],by simp[AM.bu]⟩,fun l' eM=>by
   have aM:l'≠l:=by rintro rfl;exact eM hl
   simp[AM.bu,dy,qE,aM]⟩
  have e:OU O0 s.m.boxes.length (s.m.bu.at_ l .gone).boxes.length=O0:=by
   funext j;apply propext;simp[OU,AM.bu];omega
  rw[e]at this;exact this
 have:=key xs.length 0 O0 s.m.bu zd hI0 (fun _ h=>.inl h) (by simp[AM.bu]) (by simp[AM.bu,dy]);simpa using this
end Go.Abs
namespace Go.Proofs.YtnopaopphmjnmaaGreatDoor
noncomputable section
open Go Go.Abs
def Yg(lo hi:Int):List Int:=if lo<=hi then lo::Yg (lo+1) hi else[]
termination_by(hi+1-lo).toNat
def MS(v:Int):List AV:=[I v]
def auz(a b:Nat)(lo hi:Int)(m:AM):Prop:=a<m.boxes.length/\b<m.boxes.length/\Qh m.boxes a=[I lo]/\Qh m.boxes b=[I hi]
def Tj(a b:Nat)(lo hi:Int)(h0:0<=lo)(h1:hi<=1000000000):akV Tryz.prog aA 104 [] [.ptr a 0,.ptr b 0] ((Yg lo hi).map MS) (fun j=>j=a\/j=b) (auz a b lo hi):=by
 rintro Y l ⟨mb,ml,ms,mn⟩ K ⟨p1,p2,p3,p4⟩ hF;simp only at p1 p2 p3 p4;refine Xd acV (fun _ _ _=>.gd false .junk) zd ?_;simp[ahU,p3];refine Qk KK (fun g mm=>∃(v:Int)(O:Nat->Prop),g 4=I v/\0<=v/\b<mm.boxes.length/\Qh mm.boxes b=[I hi]/\O b/\jQ (Y l) K ((Yg v hi).map MS) O mm) (fun g _=>(hi+1-numOf (g 4)).toNat) ?_ ?_
 ·exact⟨lo,_,zd,h0,by simpa using p2,by simpa using p4,.inr rfl,hF⟩
 rintro g mm ⟨v,O,h4,hv,hb,uQ,hO,hFo⟩;by_cases ai:v<=hi
 ·rw[Yg,if_pos ai]at hFo;simp only[zzay,MS]at hFo;have hw:IntKind.i64.wrap (v+1)=v+1:=by rw[Qj]<;>omega
  simp[h4,KK,ai,uQ];refine hFo _ (bQ.refl _ _) _ (fun m2 xA qF=>?_) (fun m2 hK=>?_)
  ·have q1:Qh m2.boxes b=[I hi]:=by rw[xA.2 b (.inl hO)];exact uQ
   have Bg:=xA.1;simp[hw];refine⟨aP,⟨zE,zE,q1,_,.inl hO,qF⟩,zE⟩
  simp[UZ];exact hK _ (bQ.refl _ _)
 rw[Yg,if_neg ai]at hFo;simp[h4,KK,ai,uQ,UZ];exact hFo _ (bQ.refl _ _)
def auA(Y:YT)(m:AM)(md:Nat)(M:Md)(pid aQ:Nat)(aV:List Rt)(bI:Rt)(z:List AV)(f:Int)(h:gD m.boxes md M pid aQ aV bI z)(hf:∀o∈M.os,0<=o.2/\o.2<=1000000000000)(K:AV->AM->Prop)
  (hK:K (.fn 104 [] [.ptr m.boxes.length 0,.ptr (m.boxes.length+1) 0]) {m with boxes:=m.boxes++[[I (uE f M.os)],[I (Wo f M.os)]]}):an Tryz.prog aA Y 47 [.ptr md 0,I f] m K:=by
 obtain⟨mb,ml,ms,mn⟩:=m;have ka:=fun K hK=>sg Y ⟨mb,ml,ms,mn⟩ md M pid aQ aV bI z f h hf K hK;refine Xd alO (fun _ _ _=>.gd false .junk) zd ?_;simp[apY];refine ka _ ?_;simp[apZ];simpa using hK
open Go Go.Abs
def wu6(n:Int)(h:0<=n)(h':n<=9223372036854775807):IntKind.u64.wrap n=n:=by
 simp[IntKind.wrap,IntKind.bits,IntKind.signed];omega
def Tk(e:bE)(f:Int)(h:Ul e)(hf:f<=9223372036854775807):Pure Tryz.prog aA 105 [.agg (Qe e),.ep [I f] 0] (.bool (th f e)):=by
 refine Qo acW (fun _ _ _=>.junk) zd ?_;obtain⟨⟨a1,a2⟩,⟨a3,a4⟩,_⟩:=h;by_cases h1:e.st<=f
 ·have w1:=wu6 e.st zE zE;have w2:=wu6 f zE zE;have w3:=wu6 (f-e.st) zE zE;have w4:=wu6 e.fr zE zE;by_cases h2:0<e.fr
  ·have:(f-e.st<e.fr)=(f<e.st+e.fr):=by apply propext;omega
   simp[NA,NB,Qe,h1,h2,th,w1,w2,w3,w4,this]
  have:¬f<e.st+e.fr:=zE
  simp[NA,NB,Qe,h1,h2,th,this]
 simp[NA,NB,Qe,h1,th]
def Im(L:List bE)(f:Int)(hL:L.length<=1000000000)(hs:∀e∈L,Ul e)(hf:f<=9223372036854775807):Pure Tryz.prog aA 106 [.sl .ro (L.map Qe),.fn 105 [] [.ep [I f] 0]] (I (ig f L 0)):=by
 refine Qo ND (Mi f) zd ?_;simp[U0,NC];refine Qk iW (fun s m=>∃i:Nat,s 8=I i/\i<=L.length/\ig f (L.drop i) i=ig f L 0/\m=⟨[],[],fun _=>.gone,0⟩) (fun s m=>L.length-(numOf (s 8)).toNat) ?_ ?_
 ·exact⟨0,zd,zE,zd,rfl⟩
 rintro s m ⟨i,hi,cw,hr,rfl⟩;rcases zzaa i L.length with ai|bz
 ·obtain⟨a,ha⟩:∃a,L[i]?=some a:=⟨L[i],zzae ai⟩;have ah:Qh (L.map Qe) i=Qe a:=Qt (by simp[ha]);have hw:=bM i zE;rw[Zd ha]at hr;have hp:Pure Tryz.prog aA 105 [.agg (Qe a),.ep [I f] 0] (.bool (th f a)):=Tk a f (hs a (zzac ha)) hf;have ho:decide (a.st<=f/\f<a.st+a.fr)=th f a:=rfl;by_cases h:th f a=true
  ·simp[ig,h]at hr;rw[h]at hp ho;simp at ho;simp[hi,ah,ai,Qe,Mi,iW,ho];exact⟨hp,hr⟩
  simp at h;simp[ig,h]at hr;rw[h]at hp ho
  have cW:decide (a.st<=f)=false\/decide (f<a.st+a.fr)=false:=by
   by_cases q:a.st<=f
   ·right;simp at ho |-;omega
   left;simp[q]
  simp only[decide_eq_false_iff_not]at ho;simp[hi,ah,ai,Qe,Mi,iW,ho,hw];refine⟨hp,aP,⟨i+1,zd,zE,hr⟩,zE⟩
 rw[zzan bz]at hr;simp[hi,zzbo.2 bz,iW];exact hr
def abe(L:List bE)(f:Int)(hL:L.length<=1000000000)(hs:∀e∈L,Ul e)(hf:f<=9223372036854775807):Pure Tryz.prog aA 48 [.sl .ro (L.map Qe),I f] (UE f (zy f L)):=by
 have Ms:=Im L f hL hs hf;refine Qo alR (fun _ g l=>if g=106 then I (ig f L 0)else l.headD .junk) zd ?_;cases J3:zy f L with
 |none=>
  rw[yp J3]at Ms |-
  simp[alP,alQ,UE,aas];exact Ms
 |some a=>
  obtain⟨k,h1,h2,h3⟩:=yq (i:=0) J3;rw[h1]at Ms |-
  have ai:k<L.length:=(zza.1 h2).1;have ah:Qh (L.map Qe) k=Qe a:=Qt (by simp[h2]);obtain⟨⟨a1,a2⟩,⟨a3,a4⟩,⟨a7,a8⟩,a9⟩:=hs a (zzac h2);have hon:a.st<=f/\f<a.st+a.fr:=by simpa[th]using h3
  have w1:IntKind.i64.wrap (a.i+f)=a.i+f:=by rw[Qj]<;>omega
  have w2:IntKind.i64.wrap (a.i+f-a.st)=a.i+f-a.st:=by rw[Qj]<;>omega
  rw[zzbw]at Ms;have hcn:=Uz a.al a9;simp[alP,alQ,UE,ai,ah,Qe];refine⟨Ms,hcn,Qbj [(.junk,⟨[[I f],[I a.id,I a.it,I a.st,I a.fr,I a.i,I a.re,.sl .ro (a.al.map Qf)],[I a.id,I a.it,I a.st,I a.fr,I a.i,I a.re,.sl .ro (a.al.map Qf)]],[],fun _=>.gone,0⟩)] ?_⟩;simp[w1,w2]
open Go Go.Abs
abbrev Sh:=Int×Int×Int
def Vj(s:Sh):List AV:=[I s.1,I s.2.1,I s.2.2]
def Tl(re r:Int):Bool:=decide (re.fdiv (2 ^ (min r.toNat 64))%2=1)
def Ap(r f v:Int)(e:bE)(al:List Sp):List Sh:=(al.filter fun a=>decide (a.1=r)).map fun a=>(a.2,f-(e.st-e.i),v)
def Io(r f v:Int)(e:bE):List Sh:=(if Tl e.re r=true then[(e.it,e.i+f-e.st,v)]else[])++Ap r f v e e.al
def iO(r f:Int)(l:List Pg)(v:Int):List Sh:=match l[v.toNat]? with
 |none=>[]
 |some g=>match zy f g.ev with
  |none=>[]
  |some e=>Io r f v e
def sh0:Sh:=(0,0,0)
def Zi(M:Md)(c r f:Int):List Sh:=match Yx M c with
 |none=>[]
 |some l=>match l with
  |[]=>[]
  |g::_=>if r<0\/g.p.rg<=r then[]else sh0::(Yg (uE f M.os) (Wo f M.os)).flatMap (iO r f l)
def Tm(r f v:Int)(e:bE)(al:List Sp)(a:Sp):Ap r f v e (al++[a])=Ap r f v e al++if a.1=r then[(a.2,f-(e.st-e.i),v)]else[]:=by
 unfold Ap;rw[zzct,zzca];by_cases h:a.1=r<;>simp[h]
def abf:SC:=(⟨_,by cbv⟩:uf [1,0,1,1,1,1,0,1,0,1,0,1,1,1] QS).1
def BV:SC:=(⟨_,fun _=>by cbv⟩:Kq [1,1,1] (Kj [1,0,1,1,1,1,0,1,0,1,0] QS)).1 abf
def Ip(ml ls:List Nat)(rt:Rt)(n:Nat):Prop:=(∃lx,ls=ml++lx)/\(rt=.full\/∃k,rt=.own k 3/\ml.length<=k/\ls[k]?=some n)
def Ip.full{ml ls:List Nat}{n n':Nat}(h:Ip ml ls .full n):Ip ml (ls++[n']) (.own ls.length 3) n':=by
 obtain⟨⟨lx,rfl⟩,_⟩:=h;exact⟨⟨lx++[n'],zd⟩,.inr ⟨_,rfl,zd,zd⟩⟩
def Ip.own{ml ls:List Nat}{k n n':Nat}(h:Ip ml ls (.own k 3) n):Ip ml (ls.set k n') (.own k 3) n':=by
 obtain⟨⟨lx,rfl⟩,h⟩:=h;obtain h|⟨k',h1,h2,h3⟩:=h
 ·cases h
 cases h1;refine⟨⟨lx.set (k-ml.length) n',by rw[zzcu _ _ h2]⟩,.inr ⟨k,rfl,h2,?_⟩⟩;rw[zzba (zza.1 h3).1]
def fT(mb:List (List AV))(r f:Int)(nj:Rt)(l:List Pg)(rt:Rt)(ps:List Sh)(bx:List (List AV)):List (List AV):=mb++([I r]::[I f]::[.sl nj (l.map Qm)]::[.sl rt (ps.map Vj)]::bx)
def auB(mb:List (List AV))(ml:List Nat)(ms:Nat->LS)(mn:Nat)(r f v:Int)(nj:Rt)(l:List Pg)(ps:List Sh)(cx:List (List AV))(e:bE)(g:Nat->AV)(m:AM):Prop:=
 ∃(i:Nat)(ls:List Nat)(rt:Rt)(b2:List (List AV)),g 72=I i/\i<=e.al.length/\Ip ml ls rt (ps++Ap r f v e (e.al.take i)).length/\m=⟨fT mb r f nj l rt (ps++Ap r f v e (e.al.take i)) (cx++b2),ls,ms,mn⟩
def yV(Y:YT)(orc:Nat->FuncId->List AV->AV)(ho:∀d l,orc d 999999 l=.junk)(E:List (Nat×AV))(mb:List (List AV))(ml ls:List Nat)(ms:Nat->LS)(mn:Nat)(r f v:Int)(nj:Rt)(l:List Pg)(rt:Rt)(ps:List Sh)(cx:List (List AV))(n:Nat)(e:bE)(Q:Exit->AS->Prop)
  (e6:Abs.look E 6=.ptr mb.length 0)(e7:Abs.look E 7=.ptr (mb.length+1) 0)(e10:Abs.look E 10=.ptr (mb.length+3) 0)(yW:Abs.look E 11=I v)(Ei:Abs.look E 12=.ptr (mb.length+(n+4)) 0)(hn:n<cx.length)(hcx:Qh cx n=Qe e)
  (hr:Ip ml ls rt ps.length)(hs:Ul e)(eD:e.al.length<=1000000)(hf:0<=f/\f<=2000000)(hps:ps.length+e.al.length<=1000000000)
  (hQ:∀E' cM fB Ej,Ip ml cM fB (ps++Ap r f v e e.al).length->Q .normal ⟨Xv 96 E',⟨fT mb r f nj l fB (ps++Ap r f v e e.al) (cx++Ej),cM,ms,mn⟩⟩):
  vc Tryz.prog aA orc Y abf ⟨Xv 96 E,⟨fT mb r f nj l rt ps cx,ls,ms,mn⟩⟩ Q:=by
 obtain⟨⟨a1,a2⟩,⟨a3,a4⟩,⟨a5,a6⟩,a7⟩:=hs;have eT:IntKind.i64.wrap (e.st-e.i)=e.st-e.i:=by rw[Qj]<;>omega
 have dP:IntKind.i64.wrap (f-(e.st-e.i))=f-(e.st-e.i):=by rw[Qj]<;>omega
 simp only[Qe]at hcx;simp[abf,fT,Ei,hcx];refine Qk ER (auB mb ml ms mn r f v nj l ps cx e) (fun g _=>e.al.length-(numOf (g 72)).toNat) ?_ ?_
 ·exact⟨0,ls,rt,[],zd,zE,by simpa[Ap]using hr,by simp[Ap,fT]⟩
 rintro g m ⟨i,ls,rt,b2,h72,hi,hr,rfl⟩;have XR:∀y,Qh ((cx++b2)++y) n=Qe e:=fun y=>by rw[Ql (by simp;omega),Ql hn];exact hcx
 have ayR:Qh (cx++b2) n=Qe e:=by rw[Ql hn];exact hcx
 have hny:n<(cx++b2).length:=by simp;omega
 have azK:n<(cx++b2).length+1:=zE
 have EJ:∀b3,(cx++b2)++b3=cx++(b2++b3):=fun _=>zzb _ _ _;generalize hCY:cx++b2=cy at*
 simp only[Qe]at XR ayR;rcases zzaa i e.al.length with ai|bz
 ·obtain⟨a,ha⟩:=aU ai;have ah:Qh (e.al.map Qf) i=Qf a:=Qt (by simp[ha]);have aa:(i:Int)<(e.al.length:Int):=zE
  have hw:=bM i zE;have bC:e.al.take (i+1)=e.al.take i++[a]:=by rw[zzas,ha];rfl
  have gM:(ps++Ap r f v e (e.al.take i)).length<=ps.length+i:=by
   have h1:=zzbs (fun a:Sp=>decide (a.1=r)) (e.al.take i);have h2:=List.length_take_le i e.al;simp only[Ap,zzai,zzbj];omega
  have mR:=Tm r f v e (e.al.take i) a;rw[<- bC]at mR;generalize hPS:ps++Ap r f v e (e.al.take i)=PS at*
  have tK:ps++Ap r f v e (e.al.take (i+1))=PS++if a.1=r then[(a.2,f-(e.st-e.i),v)]else[]:=by rw[mR,<- zzb,hPS]
  by_cases hc:a.1=r
  ·rw[if_pos hc]at tK;have OW:∀row∈PS.map Vj,row.length=3:=by rintro row h;obtain⟨x,_,rfl⟩:=zzax.1 h;rfl
   rcases hr.2 with rfl|⟨k,rfl,dw,dD⟩
   ·simp[h72,aa,ah,Qf,ER,hw,hc,fT,e6,e7,e10,yW,Ei,ho,eT,dP,XR,zzao];refine⟨⟨?_,zE⟩,aP,⟨i+1,_,_,b2++[[I r,I a.2]],zd,zE,by rw[tK,zzai];exact hr.full,by rw[tK,<- EJ];simp[fT,Vj]⟩,zE⟩
    ·rintro row (⟨x,y,z,_,rfl⟩|rfl)<;>rfl
   simp[h72,aa,ah,Qf,ER,hw,hc,fT,e6,e7,e10,yW,Ei,ho,eT,dP,XR,zzao,dD];refine⟨⟨?_,zE⟩,aP,⟨i+1,_,_,b2++[[I r,I a.2]],zd,zE,by rw[tK,zzai];exact hr.own,by rw[tK,<- EJ];simp[fT,Vj]⟩,zE⟩
   ·rintro row (⟨x,y,z,_,rfl⟩|rfl)<;>rfl
  rw[if_neg hc,zzau]at tK;simp[h72,aa,ah,Qf,ER,hw,hc,fT,e6,zzao];refine⟨aP,⟨i+1,_,_,b2++[[I a.1,I a.2]],zd,zE,by rw[tK];exact hr,by rw[tK,<- EJ];simp[fT]⟩,zE⟩
 have hte:e.al.take i=e.al:=zzap bz;have bL:¬(i:Int)<(e.al.length:Int):=zE
 rw[hte]at hr |-
 simp[h72,bL,ER];rw[<- hCY];exact hQ _ _ _ _ hr
def vm{f:Int}{e:bE}:∀{L:List bE},zy f L=some e->e∈L/\e.st<=f/\f<e.st+e.fr
 |[],h=>by cases h
 |a::r,h=>by
  simp only[zy]at h;split at h
  ·rename_i ho;cases h;exact⟨zd,by simpa[th]using ho⟩
  have:=vm h;exact⟨by simp[this.1],this.2⟩
def PN(r f v:Int)(e:bE):(Ap r f v e e.al).length<=e.al.length:=by
 unfold Ap;rw[zzbj];exact zzbs _ _
def akW{c a b:Prop}{i:Decidable c}(h:c)(ha:a):@ite Prop c i a b:=by rw[if_pos h];exact ha
def auC{c a b:Prop}{i:Decidable c}(h:¬c)(hb:b):@ite Prop c i a b:=by rw[if_neg h];exact hb
def abg(Y:YT)(orc:Nat->FuncId->List AV->AV)(ho:∀d l,orc d 999999 l=.junk)(E:List (Nat×AV))(mb:List (List AV))(ml ls:List Nat)(ms:Nat->LS)(mn:Nat)(r f:Int)(v:Nat)(nj:Rt)(l:List Pg)(rt:Rt)(ps:List Sh)(bx:List (List AV))(g:Pg)(Q:Exit->AS->Prop)
  (aom:∀d(L:List bE),orc d 48 [.sl .ro (L.map Qe),I f]=UE f (zy f L))
  (e6:Abs.look E 6=.ptr mb.length 0)(e7:Abs.look E 7=.ptr (mb.length+1) 0)(e9:Abs.look E 9=.ptr (mb.length+2) 0)(e10:Abs.look E 10=.ptr (mb.length+3) 0)(yW:Abs.look E 11=I (v:Int))(hg:l[v]?=some g)
  (hr:Ip ml ls rt ps.length)(bT:g.ev.length<=1000000000)(hs:∀e∈g.ev,Ul e/\e.al.length<=1000000)(hf:f<=9223372036854775807)(ud:0<=r)(hps:ps.length<=100000000)
  (hQ:∀x E' cM fB Ej,(x=.normal\/x=.exit 1)->Ip ml cM fB (ps++iO r f l v).length->Q x ⟨Xv 96 E',⟨fT mb r f nj l fB (ps++iO r f l v) (bx++Ej),cM,ms,mn⟩⟩):
  vc Tryz.prog aA orc Y BV ⟨Xv 96 E,⟨fT mb r f nj l rt ps bx,ls,ms,mn⟩⟩ Q:=by
 have k48:=abe g.ev f bT (fun e he=>(hs e he).1) hf;have PM:=fun d=>aom d g.ev;have ai:v<l.length:=(zza.1 hg).1;have ah:Qh (l.map Qm) v=Qm g:=Qt (by simp[hg]);have OW:∀row∈ps.map Vj,row.length=3:=by rintro row h;obtain⟨x,_,rfl⟩:=zzax.1 h;rfl
 cases J3:zy f g.ev with
 |none=>
  have ko:iO r f l (v:Int)=[]:=by simp[iO,hg,J3]
  rw[ko,zzau]at hQ;rw[J3]at k48 PM;simp only[UE,aas]at k48 PM;simp[BV];refine Ze ?_;simp[fT,e7,e9,yW,ai,ah,Qm,Qa,PM];exact⟨k48,hQ (.exit 1) _ _ _ [[I 0,I 0,I 0,I 0,I 0,I 0,.sl .nil []]] (.inr rfl) hr⟩
 |some e=>
  obtain⟨he,ho1,ho2⟩:=vm J3;obtain⟨hs1,Ln⟩:=hs e he;have ag0:=hs1;obtain⟨⟨a1,a2⟩,⟨a3,a4⟩,⟨a5,a6⟩,a7⟩:=hs1;have ko:iO r f l (v:Int)=Io r f v e:=by simp[iO,hg,J3]
  rw[ko]at hQ;rw[J3]at k48 PM;simp only[UE,Qe]at k48 PM;have jh:=PN r f v e;by_cases hb:e.re.fdiv (2 ^ (min r.toNat 64))%2=1
  ·have hpe:Io r f v e=(e.it,e.i+f-e.st,(v:Int))::Ap r f v e e.al:=by simp[Io,Tl,hb]
   rw[hpe]at hQ;have hQ':∀(x:Exit)(E':List (Nat×AV))(cM:List Nat)(fB:Rt)(Ej:List (List AV)),(x=.normal\/x=.exit 1)->Ip ml cM fB ((ps++[(e.it,e.i+f-e.st,(v:Int))])++Ap r f v e e.al).length->Q x ⟨Xv 96 E',⟨fT mb r f nj l fB ((ps++[(e.it,e.i+f-e.st,(v:Int))])++Ap r f v e e.al) (bx++Ej),cM,ms,mn⟩⟩:=fun x E' cM fB Ej hx=>by rw[zzb];exact hQ x E' cM fB Ej hx
   rcases hr.2 with rfl|⟨k,rfl,dw,dD⟩
   ·simp[BV];refine Ze ?_;simp[fT,e6,e7,e9,e10,yW,ai,ah,Qm,Qa,PM,ud,IntKind.bits,ho];refine⟨k48,?_⟩;refine akW ((abh _).trans hb) ⟨⟨?_,zE⟩,?_⟩
    ·rintro row (⟨x,y,z,_,rfl⟩|rfl)<;>rfl
    refine yV Y orc ho _ mb ml _ ms mn r f v nj l _ (ps++[(e.it,e.i+f-e.st,(v:Int))]) (bx++[Qe e]) bx.length e Q (by simp[e6]) (by simp[e7]) (by simp[e10]) (by simp[yW]) zd zd zd (by rw[zzai];exact hr.full) ag0 Ln zE (by simp;omega) ?_ |> fun h=>(by simpa[fT,Vj,Qe]using h);intro E' cM fB Ej hp;have:=hQ' .normal E' cM fB (Qe e::Ej) (.inl rfl) hp;simpa using this
   simp[BV];refine Ze ?_;simp[fT,e6,e7,e9,e10,yW,ai,ah,Qm,Qa,PM,ud,IntKind.bits,ho,dD];refine⟨k48,?_⟩;refine akW ((abh _).trans hb) ⟨⟨?_,zE⟩,?_⟩
   ·rintro row (⟨x,y,z,_,rfl⟩|rfl)<;>rfl
   refine yV Y orc ho _ mb ml _ ms mn r f v nj l _ (ps++[(e.it,e.i+f-e.st,(v:Int))]) (bx++[Qe e]) bx.length e Q (by simp[e6]) (by simp[e7]) (by simp[e10]) (by simp[yW]) zd zd zd (by rw[zzai];exact hr.own) ag0 Ln zE (by simp;omega) ?_ |> fun h=>(by simpa[fT,Vj,Qe]using h);intro E' cM fB Ej hp;have:=hQ' .normal E' cM fB (Qe e::Ej) (.inl rfl) hp;simpa using this
  have hpe:Io r f v e=Ap r f v e e.al:=by simp[Io,Tl,hb]
  rw[hpe]at hQ;simp[BV];refine Ze ?_;simp[fT,e6,e7,e9,e10,yW,ai,ah,Qm,Qa,PM,ud,IntKind.bits,ho];refine⟨k48,?_⟩;refine auC (fun h=>hb ((abh _).symm.trans h)) ?_;refine yV Y orc ho _ mb ml _ ms mn r f v nj l _ ps (bx++[Qe e]) bx.length e Q (by simp[e6]) (by simp[e7]) (by simp[e10]) (by simp[yW]) zd zd zd hr ag0 Ln zE zE ?_;intro E' cM fB Ej hp;have:=hQ .normal E' cM fB (Qe e::Ej) (.inl rfl) hp;simpa using this
open Go Go.Abs
def an.wk{P:Program}{gl:Nat->AV}{Y:YT}{f:FuncId}{xs:List AV}{m:AM}{K:AV->AM->Prop}(h:an P gl Y f xs m fun r m'=>∃r',Wk r r'/\K r' m'):an P gl Y f xs m K:=by
 refine⟨h.1,fun N w0 aq γ w vs hm hl hg hy hr=>CallsIn.mono (h.2 N w0 aq γ w vs hm hl hg hy hr) ?_⟩;rintro en w' ⟨v,γ',r,m',g0,g1,g2,g3,g4,r',g5,g6⟩;exact⟨v,γ',r',m',g0,g1,g2,g3,g5 _ _ _ g4,g6⟩
def Tn{B B':List (List AV)}(h:B.length<=B'.length)(h2:∀j,j<B.length->Qh B' j=Qh B j):∃bx,B'=B++bx:=by
 refine⟨B'.drop B.length,?_⟩;rw[<- zzdd B.length B'];congr 1
 ·apply zzeh
  ·rw[zzaq];omega
  intro j h3 h4;have:=h2 j h4;unfold Qh at this;rw[zzar,zzar,zzae h4,zzae zE]at this;simpa using this
 rw[zzdd]
def Iq{x hi:Int}:∀(n:Nat)(a:Int),(hi+1-a).toNat<=n->x∈Yg a hi->a<=x/\x<=hi
 |0,a,hn,h=>by rw[Yg,if_neg zE]at h;cases h
 |n+1,a,hn,h=>by
  rw[Yg]at h;split at h
  ·rcases zzat.1 h with rfl|h
   ·omega
   have:=Iq n (a+1) zE h;omega
  cases h
def yX{hi:Int}:∀(n:Nat)(a:Int),(hi+1-a).toNat<=n->(Yg a hi).length<=n
 |0,a,hn=>by rw[Yg,if_neg zE];exact zzab _
 |n+1,a,hn=>by
  rw[Yg];split
  ·have:=yX (hi:=hi) n (a+1) zE;simp only[zzbe];omega
  exact zzbt _
def ag1{mb:List (List AV)}{r f:Int}{nj:Rt}{l:List Pg}{rt fB:Rt}{ps ps':List Sh}{bx Ej:List (List AV)}{j:Nat}(h1:mb.length+4<=j)(h2:j<mb.length+4+bx.length):
  Qh (fT mb r f nj l fB ps' (bx++Ej)) j=Qh (fT mb r f nj l rt ps bx) j:=by
 obtain⟨k,rfl⟩:∃k,j=mb.length+4+k:=⟨j-(mb.length+4),zE⟩
 have e:∀(a b c d:List AV)(y:List (List AV)),Qh (mb++(a::b::c::d::y)) (mb.length+4+k)=Qh y k:=fun a b c d y=>by
  unfold Qh;rw[zzar,zzar,zzal zE];rw[show mb.length+4+k-mb.length=k+4 by omega];simp
 rw[fT,fT,e,e,Ql zE]
def auD(mb:List (List AV))(ml:List Nat)(r f:Int)(nj:Rt)(l:List Pg)(ps:Nat->List Sh)(O:Nat->Prop)(i:Nat)(mm:AM):Prop:=
 (∀j,O j->mb.length+4<=j)/\∃rt bx,Ip ml mm.lens rt (ps i).length/\mm.boxes=fT mb r f nj l rt (ps i) bx
def Ip.ext{ml ls:List Nat}{rt:Rt}{n:Nat}(h:Ip ml ls rt n)(lx:List Nat):Ip ml (ls++lx) rt n:=by
 obtain⟨⟨l2,rfl⟩,h⟩:=h;refine⟨⟨l2++lx,zd⟩,h.imp id ?_⟩;rintro⟨k,h1,h2,h3⟩;exact⟨k,h1,h2,by rw[zzag (zza.1 h3).1];exact h3⟩
def MT(r f:Int)(l:List Pg)(vs:List Int)(i:Nat):List Sh:=sh0::(vs.take i).flatMap (iO r f l)
def ag2(r f:Int)(l:List Pg)(hl:∀g∈l,∀e∈g.ev,e.al.length<=1000)(v:Int):(iO r f l v).length<=1001:=by
 unfold iO;cases hg:l[v.toNat]? with
 |none=>simp
 |some g=>
  cases he:zy f g.ev with
  |none=>simp[he]
  |some e=>
   have h1:=hl g (zzac hg) e (vm he).1;have h2:=PN r f v e;simp only[he,Io,zzai];split<;>simp<;>omega
def abi(r f:Int)(l:List Pg)(hl:∀g∈l,∀e∈g.ev,e.al.length<=1000)(vs:List Int)(i:Nat):(MT r f l vs i).length<=1+i*1001:=by
 unfold MT
 have h:∀l2:List Int,(l2.flatMap (iO r f l)).length<=l2.length*1001:=fun l2=>by
  induction l2 with
  |nil=>simp
  |cons a t ih=>
   have:=ag2 r f l hl a;rw[zzdb,zzai,zzbe,zzbr];omega
 have h1:=h (vs.take i);have h2:=List.length_take_le i vs;have h3:(vs.take i).length*1001<=i*1001:=zzbc _ h2;simp only[zzbe];omega
def ag3:SC:=.rfunc (.tmp 40) [41] (.ops [⟨(some 11),(.mv (.tmp 41)),none,[]⟩]) (.block 1 BV)
def ag4(Y:YT)(orc:Nat->FuncId->List AV->AV)(ho:∀d l,orc d 999999 l=.junk)(E:List (Nat×AV))(mb:List (List AV))(ml:List Nat)(ms:Nat->LS)(mn:Nat)(r f lo hi:Int)(nj:Rt)(l:List Pg)(Q:Exit->AS->Prop)
  (aom:∀d(L:List bE),orc d 48 [.sl .ro (L.map Qe),I f]=UE f (zy f L))
  (e6:Abs.look E 6=.ptr mb.length 0)(e7:Abs.look E 7=.ptr (mb.length+1) 0)(e9:Abs.look E 9=.ptr (mb.length+2) 0)(e10:Abs.look E 10=.ptr (mb.length+3) 0)(e40:Abs.look E 40=.fn 104 [] [.ptr (mb.length+4) 0,.ptr (mb.length+5) 0])
  (JJ:0<=lo)(hhi:hi<l.length)(w8:l.length<=1000)(bT:∀g∈l,g.ev.length<=1000000000/\∀e∈g.ev,Ul e/\e.al.length<=1000)(hf:f<=9223372036854775807)(ud:0<=r)
  (hQ:∀rt bx cM Aq Ar,Ip ml cM rt (sh0::(Yg lo hi).flatMap (iO r f l)).length->Q .normal ⟨Xv 96 E,⟨fT mb r f nj l rt (sh0::(Yg lo hi).flatMap (iO r f l)) bx,cM,Aq,Ar⟩⟩):
  vc Tryz.prog aA orc Y ag3 ⟨Xv 96 E,⟨fT mb r f nj l .full [sh0] [[I lo],[I hi]],ml,ms,mn⟩⟩ Q:=by
 have cp:=Tj (mb.length+4) (mb.length+5) lo hi JJ zE;have gZ:∀rt ps bx,(fT mb r f nj l rt ps bx).length=mb.length+4+bx.length:=fun rt ps bx=>by simp[fT];omega
 have hvl:(Yg lo hi).length<=1000:=yX 1000 lo zE;have ayS:=abi r f l (fun g hg e he=>((bT g hg).2 e he).2) (Yg lo hi);unfold ag3;refine Ti (xs:=(Yg lo hi).map MS) (by simp[e40];try exact⟨rfl,rfl⟩) cp ?_ (by intro x hx;simp at hx;obtain⟨u,_,rfl⟩:=hx;rfl) (auD mb ml r f nj l (MT r f l (Yg lo hi))) (fun _ _ _=>False) ?_ ?_ (fun _ _ _ _ h=>h.elim) ?_ ?_ (fun _ _ _ h=>h.elim)
 ·simp[auz,AM.bu,fT]
 ·exact⟨by rintro j (rfl|rfl)<;>omega,.full,_,⟨⟨[],zd⟩,.inl rfl⟩,by simp[MT];rfl⟩
 ·rintro O i m1 m2 ⟨h1,rt,bx,h2,h3⟩ ⟨q1,q2,⟨lx,q3⟩,q4⟩;refine⟨?_,rt,?_⟩
  ·rintro j (h|h)
   ·exact h1 j h
   rw[h3,gZ]at h;omega
  have:∃b2,m2.boxes=fT mb r f nj l rt (MT r f l (Yg lo hi) i) []++b2:=by
   refine Tn (by rw[h3,gZ]at q1;rw[gZ];simp;omega) fun j hj=>?_;rw[gZ]at hj;rw[q2 j (by rw[h3,gZ];simp at hj;omega) (fun ho=>by have:=h1 j ho;simp at hj;omega),h3];have:fT mb r f nj l rt (MT r f l (Yg lo hi) i) bx=fT mb r f nj l rt (MT r f l (Yg lo hi) i) []++bx:=by simp[fT]
   rw[this,Ql (by rw[gZ];exact hj)]
  obtain⟨b2,mQ⟩:=this;exact⟨b2,by rw[q3];exact h2.ext lx,by rw[mQ];simp[fT]⟩
 ·rintro O lp i mm x um cw hg0 fL ⟨h1,rt,bx,h2,h3⟩ hx K' k1 k2 k3
  obtain⟨v,hv,rfl⟩:∃v,(Yg lo hi)[i]?=some v/\MS v=x:=by
   rw[zzbi]at hx;cases hq:(Yg lo hi)[i]? with
   |none=>rw[hq]at hx;cases hx
   |some y=>rw[hq]at hx;exact⟨y,rfl,Option.some.inj hx⟩
  have fO:=(zza.1 hv).1;obtain⟨v1,v2⟩:=Iq 1000 lo zE (zzac hv);obtain⟨w,rfl⟩:=zzhd (show 0<=v by omega);obtain⟨g,hg⟩:∃g,l[w]?=some g:=⟨_,zzae zE⟩;have hgm:=zzac hg
  have hps:MT r f l (Yg lo hi) (i+1)=MT r f l (Yg lo hi) i++iO r f l w:=by
   unfold MT;rw[zzas,hv,zzgi,List.flatMap_append,zzdb,zzdn,zzau];rfl
  simp only[Ui,Dk]at h2 h3;obtain⟨mb2,ml2,ms2,mn2⟩:=mm;simp only at h2 h3 fL cw um;subst h3;simp[fL,Zn,MS];show vc _ _ _ _ _ ⟨_,⟨fT mb r f nj l rt (MT r f l (Yg lo hi) i) bx,ml2,qE ms2 lp .busy,mn2⟩⟩ _;refine abg Y orc ho _ mb ml ml2 (qE ms2 lp .busy) mn2 r f w nj l rt _ bx g _ aom (by simp[e6]) (by simp[e7]) (by simp[e9]) (by simp[e10]) zd hg h2 (bT g hgm).1 (fun e he=>⟨((bT g hgm).2 e he).1,by have:=((bT g hgm).2 e he).2;omega⟩) hf ud (by have:=ayS i;omega) ?_;intro x E' cM fB Ej hx hp
  have nR:∀T,K' .normal ⟨T,⟨fT mb r f nj l fB (MT r f l (Yg lo hi) i++iO r f l w) (bx++Ej),cM,qE ms2 lp .busy,mn2⟩⟩:=fun T=>by
   refine k1 _ ⟨?_,fun j hj=>?_⟩ ⟨h1,fB,bx++Ej,by rw[hps];exact hp,by rw[hps];rfl⟩
   ·show(fT mb r f nj l rt _ bx).length<=(fT mb r f nj l fB _ (bx++Ej)).length;rw[gZ,gZ,zzai];omega
   have hj4:=h1 j hj;have hj5:=um j hj;rw[gZ]at hj5 cw;rw[gZ]at cw;simp only[zzbe,zzcf]at cw;refine ag1 hj4 ?_;obtain(rfl|rfl)|hj5:=hj5
   ·omega
   ·omega
   rw[gZ]at hj5;omega
  obtain rfl|rfl:=hx
  ·simp;exact nR _
  simp;exact nR _
 rintro O mm ⟨h1,rt,bx,h2,h3⟩
 have ht:MT r f l (Yg lo hi) ((Yg lo hi).map MS).length=sh0::(Yg lo hi).flatMap (iO r f l):=by
  unfold MT;rw[zzbj,zzbu]
 rw[ht]at h2 h3;obtain⟨mb2,ml2,ms2,mn2⟩:=mm;simp only at h2 h3;subst h3;exact hQ rt bx ml2 ms2 mn2 h2
end
