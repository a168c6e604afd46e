import Derived.Test.YtnopaopphmjnmaaGreatDoorMBMcO
set_option linter.all false
set_option maxRecDepth 100000
set_option maxHeartbeats 64000000
namespace Go.Abs
open Go Go.RowKit
def ajL(P:Program)(gl:Nat->AV)(f:FuncId)(first cap:List AV)(xs:List (List AV))(O0:Nat->Prop)(pre:AM->Prop):Prop:=
 ∀(Y:YT)(l:Nat)(m:AM)(K:AM->Prop),pre m->jj (Y l) K xs O0 m->an P gl Y f (first++[.yld l]++cap) m fun _ m'=>K m'
def R8{P:Program}{gl:Nat->AV}{orc:Nat->FuncId->List AV->AV}{Y:YT}{s:AS}{Q:Exit->AS->Prop}{g:bN}{ps:List Nat}{lH body:SC}{f:FuncId}{first cap:List AV}{xs:List (List AV)}
  (hg:ev gl s.T g=.fn f first cap){O0:Nat->Prop}{pre:AM->Prop}(cH:ajL P gl f first cap xs O0 pre)(awT:pre s.m.aX)(aH:∀x∈xs,x.length=ps.length)(I:(Nat->Prop)->Nat->AM->Prop)(X:(Nat->Prop)->Exit->AM->Prop)
  (h0:I O0 0 s.m)
  (hI:∀O i m m',I O i m->bM O m m'->I (OU O m.boxes.length m'.boxes.length) i m')(hX:∀O ex m m',X O ex m->bM O m m'->X O ex m')
  (
   hb:∀(O:Nat->Prop)(l i:Nat)(m:AM)(x:List AV),(∀j,O j->O0 j\/(s.m.boxes.length<=j/\j<m.boxes.length))->s.m.boxes.length<=m.boxes.length->s.m.st l=.gone->m.st l=.ready->I O i (m.at_ l .gone)->xs[i]?=some x->∀K':Exit->AS->Prop,
   (∀s',AI O m s'.m->I O (i+1) (s'.m.at_ l .gone)->K' .normal s')->(∀s',m.boxes.length<=s'.m.boxes.length->X O .ret (s'.m.at_ l .gone)->K' .ret s')->(∀id s',m.boxes.length<=s'.m.boxes.length->X O (.exit id) (s'.m.at_ l .gone)->K' (.exit id) s')->
   vc P gl orc Y lH ⟨Qaj s.T ps x,m⟩ (Fa l fun s'=>vc P gl orc Y body s' K'))
  (J5:∀O m,I O xs.length m->Q .normal ⟨s.T,m⟩)(hex:∀O ex m,X O ex m->Q ex ⟨s.T,m⟩):vc P gl orc Y (.rfunc g ps lH body) s Q:=by
 simp only[vc,hg];intro hl;generalize dm:s.m.ln=l at hl;refine cH _ l s.m.aX (fun m'=>y7 l s.T m' Q (m'.st l)) awT ?_;have gC:∀{O:Nat->Prop}{m m':AM},m.st l=.ready->bM O m m'->m'.st l=.ready:=fun h e=>by rw[e.2.2.2 l (by rw[h];simp),h]
 have key:∀(n i:Nat)(O:Nat->Prop)(m:AM),i+n=xs.length->I O i (m.at_ l .gone)->(∀j,O j->O0 j\/(s.m.boxes.length<=j/\j<m.boxes.length))->s.m.boxes.length<=m.boxes.length->m.st l=.ready->
   jj (Yin Y l ps.length (fun args m K=>vc P gl orc Y lH ⟨Qaj s.T ps args,m⟩ (Fa l fun s'=>vc P gl orc Y body s' (J3 l K))) l) (fun m'=>y7 l s.T m' Q (m'.st l)) (xs.drop i) O m:=by
  intro n;induction n with
  |zero=>
   intro i O m hi WW tj me hm;rw[zzan (by omega)];intro m' e;simp only[gC hm e,y7];obtain rfl:i=xs.length:=by omega
   exact J5 _ _ (hI _ _ _ _ WW (e.gone l))
  |succ n ih=>
   intro i O m hi WW tj me hm;have ai:i<xs.length:=by omega
   rw[zzaf ai];intro m' e K' hT hF;have X4:s.m.boxes.length<=m'.boxes.length:=zzbq me e.1
   have QX:∀j,OU O m.boxes.length m'.boxes.length j->O0 j\/(s.m.boxes.length<=j/\j<m'.boxes.length):=by
    rintro j (h|h)
    ·exact(tj j h).imp id fun h=>⟨h.1,zzbb h.2 e.1⟩
    exact .inr ⟨by omega,h.2⟩
   have yZ:=hI _ _ _ _ WW (e.gone l);simp only[Ub]at yZ;simp only[Yin,if_true];refine⟨gC hm e,aH _ (zzdc ai),?_⟩;refine hb (OU O m.boxes.length m'.boxes.length) l i m' xs[i] QX X4 hl (gC hm e) yZ (zzad ai) (J3 l K') (fun s' hS' yZ=>?_) (fun s' cc hQ=>?_) fun id s' cc hQ=>?_
   ·refine hT _ (by simpa[AI]using hS') (ih (i+1) _ _ (by omega) ?_ (fun j hj=>(QX j hj).imp id fun h=>⟨h.1,by simpa using zzbb h.2 hS'.1⟩) (by simpa using zzbq X4 hS'.1) (by simp));simpa using yZ
   ·refine hF _ fun m3 e3=>?_;have h3:m3.st l=.done .ret:=by have:=e3.2.2.2 l (by simp);simpa using this
    simp only[h3];exact hex _ _ _ (hX _ _ _ _ hQ (by have:=e3.gone l;simpa using this))
   refine hF _ fun m3 e3=>?_;have h3:m3.st l=.done (.exit id):=by have:=e3.2.2.2 l (by simp);simpa using this
   simp only[h3];exact hex _ _ _ (hX _ _ _ _ hQ (by have:=e3.gone l;simpa using this))
 have hI0:I O0 0 (s.m.aX.at_ l .gone):=by
  have:=hI O0 0 s.m (s.m.aX.at_ l .gone) h0 ⟨by simp[AM.aX],fun j _ _=>by simp[AM.aX],⟨[],by simp[AM.aX]⟩,fun l' ew=>by
   have aJ:l'≠l:=by rintro rfl;exact ew hl
   simp[AM.aX,dm,p8,aJ]⟩
  have e:OU O0 s.m.boxes.length (s.m.aX.at_ l .gone).boxes.length=O0:=by
   funext j;apply propext;simp[OU,AM.aX];omega
  rw[e]at this;exact this
 have:=key xs.length 0 O0 s.m.aX (by simp) hI0 (fun _ h=>.inl h) (by simp[AM.aX]) (by simp[AM.aX,dm]);simpa using this
end Go.Abs
namespace Go.Proofs.YtnopaopphmjnmaaGreatDoor
noncomputable section
open Go Go.Abs
def Vj(lo hi:Int):List Int:=if lo<=hi then lo::Vj (lo+1) hi else[]
termination_by(hi+1-lo).toNat
def LW(v:Int):List AV:=[I v]
def asR(a b:Nat)(lo hi:Int)(m:AM):Prop:=a<m.boxes.length/\b<m.boxes.length/\Qh m.boxes a=[I lo]/\Qh m.boxes b=[I hi]
def R9(a b:Nat)(lo hi:Int)(h0:0<=lo)(h1:hi<=1000000000):ajL Tryz.prog az 104 [] [.ptr a 0,.ptr b 0] ((Vj lo hi).map LW) (fun j=>j=a\/j=b) (asR a b lo hi):=by
 rintro Y l ⟨mb,ml,ms,mn⟩ K ⟨p1,p2,p3,p4⟩ hF;simp only at p1 p2 p3 p4;refine Xd abQ (fun _ _ _=>.gd false .junk) (by simp) ?_;simp[agO,p3];refine Qj IX (fun g mm=>∃(v:Int)(O:Nat->Prop),g 4=I v/\0<=v/\b<mm.boxes.length/\Qh mm.boxes b=[I hi]/\O b/\jj (Y l) K ((Vj v hi).map LW) O mm) (fun g _=>(hi+1-numOf (g 4)).toNat) ?_ ?_
 ·exact⟨lo,_,by simp,h0,by simpa using p2,by simpa using p4,.inr rfl,hF⟩
 rintro g mm ⟨v,O,h4,hv,hb,tV,hO,hFo⟩;by_cases ai:v<=hi
 ·rw[Vj,if_pos ai]at hFo;simp only[zzaw,LW]at hFo;have hw:IntKind.i64.wrap (v+1)=v+1:=by rw[Qi]<;>omega
  simp[h4,IX,ai,tV];refine hFo _ (bM.refl _ _) _ (fun m2 wj p9=>?_) (fun m2 hK=>?_)
  ·have q1:Qh m2.boxes b=[I hi]:=by rw[wj.2 b (.inl hO)];exact tV
   have Az:=wj.1;simp[hw];refine⟨aN,⟨by omega,by omega,q1,_,.inl hO,p9⟩,by omega⟩
  simp[Tq];exact hK _ (bM.refl _ _)
 rw[Vj,if_neg ai]at hFo;simp[h4,IX,ai,tV,Tq];exact hFo _ (bM.refl _ _)
def asS(Y:YT)(m:AM)(md:Nat)(M:Md)(pid aQ:Nat)(bn:List Rt)(bO:Rt)(z:List AV)(f:Int)(h:iy m.boxes md M pid aQ bn bO z)(hf:∀o∈M.os,0<=o.2/\o.2<=1000000000000)(K:AV->AM->Prop)
  (hK:K (.fn 104 [] [.ptr m.boxes.length 0,.ptr (m.boxes.length+1) 0]) {m with boxes:=m.boxes++[[I (nU f M.os)],[I (Jb f M.os)]]}):an Tryz.prog az Y 47 [.ptr md 0,I f] m K:=by
 obtain⟨mb,ml,ms,mn⟩:=m;have ka:=fun K hK=>lq Y ⟨mb,ml,ms,mn⟩ md M pid aQ bn bO z f h hf K hK;refine Xd akv (fun _ _ _=>.gd false .junk) (by simp) ?_;simp[aox];refine ka _ ?_;simp[aoy];simpa using hK
open Go Go.Abs
def wu6(n:Int)(h:0<=n)(h':n<=9223372036854775807):IntKind.u64.wrap n=n:=by
 simp[IntKind.wrap,IntKind.bits,IntKind.signed];omega
def Sa(e:bE)(f:Int)(h:Ue e)(hf:f<=9223372036854775807):Pure Tryz.prog az 105 [.agg (Qf e),.ep [I f] 0] (.bool (Ws f e)):=by
 refine Qn abR (fun _ _ _=>.junk) (by simp) ?_;obtain⟨⟨a1,a2⟩,⟨a3,a4⟩,_⟩:=h;by_cases h1:e.st<=f
 ·have w1:=wu6 e.st (by omega) (by omega);have w2:=wu6 f (by omega) (by omega);have w3:=wu6 (f-e.st) (by omega) (by omega);have w4:=wu6 e.fr (by omega) (by omega);by_cases h2:0<e.fr
  ·have:(f-e.st<e.fr)=(f<e.st+e.fr):=by apply propext;omega
   simp[My,Mz,Qf,h1,h2,Ws,w1,w2,w3,w4,this]
  have:¬f<e.st+e.fr:=by omega
  simp[My,Mz,Qf,h1,h2,Ws,this]
 simp[My,Mz,Qf,h1,Ws]
def Hq(L:List bE)(f:Int)(hL:L.length<=1000000000)(hs:∀e∈L,Ue e)(hf:f<=9223372036854775807):Pure Tryz.prog az 106 [.sl .ro (L.map Qf),.fn 105 [] [.ep [I f] 0]] (I (gP f L 0)):=by
 refine Qn MB (La f) (by simp) ?_;simp[Tr,MA];refine Qj iF (fun s m=>∃i:Nat,s 8=I i/\i<=L.length/\gP f (L.drop i) i=gP f L 0/\m=⟨[],[],fun _=>.gone,0⟩) (fun s m=>L.length-(numOf (s 8)).toNat) ?_ ?_
 ·exact⟨0,by simp,by omega,by simp,rfl⟩
 rintro s m ⟨i,hi,cc,hr,rfl⟩;rcases zzaa i L.length with ai|bB
 ·obtain⟨a,ha⟩:∃a,L[i]?=some a:=⟨L[i],zzad ai⟩;have aa:Qh (L.map Qf) i=Qf a:=Qs (by simp[ha]);have hw:=bJ i (by omega);rw[Xz ha]at hr;have hp:Pure Tryz.prog az 105 [.agg (Qf a),.ep [I f] 0] (.bool (Ws f a)):=Sa a f (hs a (zzac ha)) hf;have ho:decide (a.st<=f/\f<a.st+a.fr)=Ws f a:=rfl;by_cases h:Ws f a=true
  ·simp[gP,h]at hr;rw[h]at hp ho;simp at ho;simp[hi,aa,ai,Qf,La,iF,ho];exact⟨hp,hr⟩
  simp at h;simp[gP,h]at hr;rw[h]at hp ho
  have cB:decide (a.st<=f)=false\/decide (f<a.st+a.fr)=false:=by
   by_cases q:a.st<=f
   ·right;simp at ho |-;omega
   left;simp[q]
  simp only[decide_eq_false_iff_not]at ho;simp[hi,aa,ai,Qf,La,iF,ho,hw];refine⟨hp,aN,⟨i+1,by simp,by omega,hr⟩,by omega⟩
 rw[zzan bB]at hr;simp[hi,zzds.2 bB,iF];exact hr
def aah(L:List bE)(f:Int)(hL:L.length<=1000000000)(hs:∀e∈L,Ue e)(hf:f<=9223372036854775807):Pure Tryz.prog az 48 [.sl .ro (L.map Qf),I f] (S6 f (xw f L)):=by
 have Lr:=Hq L f hL hs hf;refine Qn aky (fun _ g l=>if g=106 then I (gP f L 0)else l.headD .junk) (by simp) ?_;cases DT:xw f L with
 |none=>
  rw[xx DT]at Lr |-
  simp[akw,akx,S6,Y3];exact Lr
 |some a=>
  obtain⟨k,h1,h2,h3⟩:=xy (i:=0) DT;rw[h1]at Lr |-
  have ai:k<L.length:=(zza.1 h2).1;have aa:Qh (L.map Qf) k=Qf a:=Qs (by simp[h2]);obtain⟨⟨a1,a2⟩,⟨a3,a4⟩,⟨a7,a8⟩,a9⟩:=hs a (zzac h2);have hon:a.st<=f/\f<a.st+a.fr:=by simpa[Ws]using h3
  have w1:IntKind.i64.wrap (a.i+f)=a.i+f:=by rw[Qi]<;>omega
  have w2:IntKind.i64.wrap (a.i+f-a.st)=a.i+f-a.st:=by rw[Qi]<;>omega
  rw[zzbt]at Lr;have hcn:=Us a.al a9;simp[akw,akx,S6,ai,aa,Qf];refine⟨Lr,hcn,Qax [(.junk,⟨[[I f],[I a.id,I a.it,I a.st,I a.fr,I a.i,I a.re,.sl .ro (a.al.map Qe)],[I a.id,I a.it,I a.st,I a.fr,I a.i,I a.re,.sl .ro (a.al.map Qe)]],[],fun _=>.gone,0⟩)] ?_⟩;simp[w1,w2]
open Go Go.Abs
abbrev Sh:=Int×Int×Int
def Xg(s:Sh):List AV:=[I s.1,I s.2.1,I s.2.2]
def am5(re r:Int):Bool:=decide (re.fdiv (2 ^ (min r.toNat 64))%2=1)
def uw(r f v:Int)(e:bE)(al:List Sp):List Sh:=(al.filter fun a=>decide (a.1=r)).map fun a=>(a.2,f-(e.st-e.i),v)
def Dn(r f v:Int)(e:bE):List Sh:=(if am5 e.re r=true then[(e.it,e.i+f-e.st,v)]else[])++uw r f v e e.al
def tL(r f:Int)(l:List Pg)(v:Int):List Sh:=match l[v.toNat]? with
 |none=>[]
 |some g=>match xw f g.ev with
  |none=>[]
  |some e=>Dn r f v e
def sh0:Sh:=(0,0,0)
def Xv(M:Md)(c r f:Int):List Sh:=match gW M c with
 |none=>[]
 |some l=>match l with
  |[]=>[]
  |g::_=>if r<0\/g.p.rg<=r then[]else sh0::(Vj (nU f M.os) (Jb f M.os)).flatMap (tL r f l)
def Sb(r f v:Int)(e:bE)(al:List Sp)(a:Sp):uw r f v e (al++[a])=uw r f v e al++if a.1=r then[(a.2,f-(e.st-e.i),v)]else[]:=by
 unfold uw;rw[zzcp,zzc];by_cases h:a.1=r<;>simp[h]
def aai:SC:=(⟨_,by cbv⟩:vO [1,0,1,1,1,1,0,1,0,1,0,1,1,1] Pf).1
def Bg:SC:=(⟨_,fun _=>by cbv⟩:vP [1,1,1] (tf [1,0,1,1,1,1,0,1,0,1,0] Pf)).1 aai
def Hr(ml ls:List Nat)(rt:Rt)(n:Nat):Prop:=(∃lx,ls=ml++lx)/\(rt=.full\/∃k,rt=.own k 3/\ml.length<=k/\ls[k]?=some n)
def Hr.full{ml ls:List Nat}{n n':Nat}(h:Hr ml ls .full n):Hr ml (ls++[n']) (.own ls.length 3) n':=by
 obtain⟨⟨lx,rfl⟩,_⟩:=h;exact⟨⟨lx++[n'],by simp⟩,.inr ⟨_,rfl,by simp,by simp⟩⟩
def Hr.own{ml ls:List Nat}{k n n':Nat}(h:Hr ml ls (.own k 3) n):Hr ml (ls.set k n') (.own k 3) n':=by
 obtain⟨⟨lx,rfl⟩,h⟩:=h;obtain h|⟨k',h1,h2,h3⟩:=h
 ·cases h
 cases h1;refine⟨⟨lx.set (k-ml.length) n',by rw[zzcq _ _ h2]⟩,.inr ⟨k,rfl,h2,?_⟩⟩;rw[zzaz (zza.1 h3).1]
def fA(mb:List (List AV))(r f:Int)(mG:Rt)(l:List Pg)(rt:Rt)(ps:List Sh)(bx:List (List AV)):List (List AV):=mb++([I r]::[I f]::[.sl mG (l.map Qo)]::[.sl rt (ps.map Xg)]::bx)
def asT(mb:List (List AV))(ml:List Nat)(ms:Nat->LS)(mn:Nat)(r f v:Int)(mG:Rt)(l:List Pg)(ps:List Sh)(cx:List (List AV))(e:bE)(g:Nat->AV)(m:AM):Prop:=
 ∃(i:Nat)(ls:List Nat)(rt:Rt)(b2:List (List AV)),g 72=I i/\i<=e.al.length/\Hr ml ls rt (ps++uw r f v e (e.al.take i)).length/\m=⟨fA mb r f mG l rt (ps++uw r f v e (e.al.take i)) (cx++b2),ls,ms,mn⟩
def yg(Y:YT)(orc:Nat->FuncId->List AV->AV)(ho:∀d l,orc d 999999 l=.junk)(E:List (Nat×AV))(mb:List (List AV))(ml ls:List Nat)(ms:Nat->LS)(mn:Nat)(r f v:Int)(mG:Rt)(l:List Pg)(rt:Rt)(ps:List Sh)(cx:List (List AV))(n:Nat)(e:bE)(Q:Exit->AS->Prop)
  (e6:Abs.look E 6=.ptr mb.length 0)(e7:Abs.look E 7=.ptr (mb.length+1) 0)(e10:Abs.look E 10=.ptr (mb.length+3) 0)(e11:Abs.look E 11=I v)(e12:Abs.look E 12=.ptr (mb.length+(n+4)) 0)(hn:n<cx.length)(hcx:Qh cx n=Qf e)
  (hr:Hr ml ls rt ps.length)(hs:Ue e)(ey:e.al.length<=1000000)(hf:0<=f/\f<=2000000)(hps:ps.length+e.al.length<=1000000000)
  (hQ:∀E' dn eT Dp,Hr ml dn eT (ps++uw r f v e e.al).length->Q .normal ⟨Zi 96 E',⟨fA mb r f mG l eT (ps++uw r f v e e.al) (cx++Dp),dn,ms,mn⟩⟩):
  vc Tryz.prog az orc Y aai ⟨Zi 96 E,⟨fA mb r f mG l rt ps cx,ls,ms,mn⟩⟩ Q:=by
 obtain⟨⟨a1,a2⟩,⟨a3,a4⟩,⟨a5,a6⟩,a7⟩:=hs;have eU:IntKind.i64.wrap (e.st-e.i)=e.st-e.i:=by rw[Qi]<;>omega
 have ee:IntKind.i64.wrap (f-(e.st-e.i))=f-(e.st-e.i):=by rw[Qi]<;>omega
 simp only[Qf]at hcx;simp[aai,fA,e12,hcx];refine Qj DZ (asT mb ml ms mn r f v mG l ps cx e) (fun g _=>e.al.length-(numOf (g 72)).toNat) ?_ ?_
 ·exact⟨0,ls,rt,[],by simp,by omega,by simpa[uw]using hr,by simp[uw,fA]⟩
 rintro g m ⟨i,ls,rt,b2,h72,hi,hr,rfl⟩;have VY:∀y,Qh ((cx++b2)++y) n=Qf e:=fun y=>by rw[Ql (by simp;omega),Ql hn];exact hcx
 have awU:Qh (cx++b2) n=Qf e:=by rw[Ql hn];exact hcx
 have hny:n<(cx++b2).length:=by simp;omega
 have axN:n<(cx++b2).length+1:=by omega
 have DP:∀b3,(cx++b2)++b3=cx++(b2++b3):=fun _=>zzbc _ _ _;generalize hCY:cx++b2=cy at*
 simp only[Qf]at VY awU;rcases zzaa i e.al.length with ai|bB
 ·obtain⟨a,ha⟩:=aR ai;have aa:Qh (e.al.map Qe) i=Qe a:=Qs (by simp[ha]);have ah:(i:Int)<(e.al.length:Int):=by omega
  have hw:=bJ i (by omega);have bz:e.al.take (i+1)=e.al.take i++[a]:=by rw[zzar,ha];rfl
  have gq:(ps++uw r f v e (e.al.take i)).length<=ps.length+i:=by
   have h1:=zzbn (fun a:Sp=>decide (a.1=r)) (e.al.take i);have h2:=List.length_take_le i e.al;simp only[uw,zzag,zzbe];omega
  have mq:=Sb r f v e (e.al.take i) a;rw[<- bz]at mq;generalize hPS:ps++uw r f v e (e.al.take i)=PS at*
  have sL:ps++uw r f v e (e.al.take (i+1))=PS++if a.1=r then[(a.2,f-(e.st-e.i),v)]else[]:=by rw[mq,<- zzbc,hPS]
  by_cases hc:a.1=r
  ·rw[if_pos hc]at sL;have NQ:∀row∈PS.map Xg,row.length=3:=by rintro row h;obtain⟨x,_,rfl⟩:=zzay.1 h;rfl
   rcases hr.2 with rfl|⟨k,rfl,cV,di⟩
   ·simp[h72,ah,aa,Qe,DZ,hw,hc,fA,e6,e7,e10,e11,e12,ho,eU,ee,VY,zzao];refine⟨⟨?_,by omega⟩,aN,⟨i+1,_,_,b2++[[I r,I a.2]],by simp,by omega,by rw[sL,zzag];exact hr.full,by rw[sL,<- DP];simp[fA,Xg]⟩,by omega⟩
    ·rintro row (⟨x,y,z,_,rfl⟩|rfl)<;>rfl
   simp[h72,ah,aa,Qe,DZ,hw,hc,fA,e6,e7,e10,e11,e12,ho,eU,ee,VY,zzao,di];refine⟨⟨?_,by omega⟩,aN,⟨i+1,_,_,b2++[[I r,I a.2]],by simp,by omega,by rw[sL,zzag];exact hr.own,by rw[sL,<- DP];simp[fA,Xg]⟩,by omega⟩
   ·rintro row (⟨x,y,z,_,rfl⟩|rfl)<;>rfl
  rw[if_neg hc,zzat]at sL;simp[h72,ah,aa,Qe,DZ,hw,hc,fA,e6,zzao];refine⟨aN,⟨i+1,_,_,b2++[[I a.1,I a.2]],by simp,by omega,by rw[sL];exact hr,by rw[sL,<- DP];simp[fA]⟩,by omega⟩
 have hte:e.al.take i=e.al:=zzam bB;have bI:¬(i:Int)<(e.al.length:Int):=by omega
 rw[hte]at hr |-
 simp[h72,bI,DZ];rw[<- hCY];exact hQ _ _ _ _ hr
def ux{f:Int}{e:bE}:∀{L:List bE},xw f L=some e->e∈L/\e.st<=f/\f<e.st+e.fr
 |[],h=>by cases h
 |a::r,h=>by
  simp only[xw]at h;split at h
  ·rename_i ho;cases h;exact⟨by simp,by simpa[Ws]using ho⟩
  have:=ux h;exact⟨by simp[this.1],this.2⟩
def OH(r f v:Int)(e:bE):(uw r f v e e.al).length<=e.al.length:=by
 unfold uw;rw[zzbe];exact zzbn _ _
def ajM{c a b:Prop}{i:Decidable c}(h:c)(ha:a):@ite Prop c i a b:=by rw[if_pos h];exact ha
def asU{c a b:Prop}{i:Decidable c}(h:¬c)(hb:b):@ite Prop c i a b:=by rw[if_neg h];exact hb
def aaj(Y:YT)(orc:Nat->FuncId->List AV->AV)(ho:∀d l,orc d 999999 l=.junk)(E:List (Nat×AV))(mb:List (List AV))(ml ls:List Nat)(ms:Nat->LS)(mn:Nat)(r f:Int)(v:Nat)(mG:Rt)(l:List Pg)(rt:Rt)(ps:List Sh)(bx:List (List AV))(g:Pg)(Q:Exit->AS->Prop)
  (am6:∀d(L:List bE),orc d 48 [.sl .ro (L.map Qf),I f]=S6 f (xw f L))
  (e6:Abs.look E 6=.ptr mb.length 0)(e7:Abs.look E 7=.ptr (mb.length+1) 0)(e9:Abs.look E 9=.ptr (mb.length+2) 0)(e10:Abs.look E 10=.ptr (mb.length+3) 0)(e11:Abs.look E 11=I (v:Int))(hg:l[v]?=some g)
  (hr:Hr ml ls rt ps.length)(cr:g.ev.length<=1000000000)(hs:∀e∈g.ev,Ue e/\e.al.length<=1000000)(hf:f<=9223372036854775807)(s5:0<=r)(hps:ps.length<=100000000)
  (hQ:∀x E' dn eT Dp,(x=.normal\/x=.exit 1)->Hr ml dn eT (ps++tL r f l v).length->Q x ⟨Zi 96 E',⟨fA mb r f mG l eT (ps++tL r f l v) (bx++Dp),dn,ms,mn⟩⟩):
  vc Tryz.prog az orc Y Bg ⟨Zi 96 E,⟨fA mb r f mG l rt ps bx,ls,ms,mn⟩⟩ Q:=by
 have k48:=aah g.ev f cr (fun e he=>(hs e he).1) hf;have OG:=fun d=>am6 d g.ev;have ai:v<l.length:=(zza.1 hg).1;have aa:Qh (l.map Qo) v=Qo g:=Qs (by simp[hg]);have NQ:∀row∈ps.map Xg,row.length=3:=by rintro row h;obtain⟨x,_,rfl⟩:=zzay.1 h;rfl
 cases DT:xw f g.ev with
 |none=>
  have jQ:tL r f l (v:Int)=[]:=by simp[tL,hg,DT]
  rw[jQ,zzat]at hQ;rw[DT]at k48 OG;simp only[S6,Y3]at k48 OG;simp[Bg];refine Za ?_;simp[fA,e7,e9,e11,ai,aa,Qo,Qc,OG];exact⟨k48,hQ (.exit 1) _ _ _ [[I 0,I 0,I 0,I 0,I 0,I 0,.sl .nil []]] (.inr rfl) hr⟩
 |some e=>
  obtain⟨he,ho1,ho2⟩:=ux DT;obtain⟨hs1,J4⟩:=hs e he;have am7:=hs1;obtain⟨⟨a1,a2⟩,⟨a3,a4⟩,⟨a5,a6⟩,a7⟩:=hs1;have jQ:tL r f l (v:Int)=Dn r f v e:=by simp[tL,hg,DT]
  rw[jQ]at hQ;rw[DT]at k48 OG;simp only[S6,Qf]at k48 OG;have iP:=OH r f v e;by_cases hb:e.re.fdiv (2 ^ (min r.toNat 64))%2=1
  ·have hpe:Dn r f v e=(e.it,e.i+f-e.st,(v:Int))::uw r f v e e.al:=by simp[Dn,am5,hb]
   rw[hpe]at hQ;have hQ':∀(x:Exit)(E':List (Nat×AV))(dn:List Nat)(eT:Rt)(Dp:List (List AV)),(x=.normal\/x=.exit 1)->Hr ml dn eT ((ps++[(e.it,e.i+f-e.st,(v:Int))])++uw r f v e e.al).length->Q x ⟨Zi 96 E',⟨fA mb r f mG l eT ((ps++[(e.it,e.i+f-e.st,(v:Int))])++uw r f v e e.al) (bx++Dp),dn,ms,mn⟩⟩:=fun x E' dn eT Dp hx=>by rw[zzbc];exact hQ x E' dn eT Dp hx
   rcases hr.2 with rfl|⟨k,rfl,cV,di⟩
   ·simp[Bg];refine Za ?_;simp[fA,e6,e7,e9,e10,e11,ai,aa,Qo,Qc,OG,s5,IntKind.bits,ho];refine⟨k48,?_⟩;refine ajM ((aak _).trans hb) ⟨⟨?_,by omega⟩,?_⟩
    ·rintro row (⟨x,y,z,_,rfl⟩|rfl)<;>rfl
    refine yg Y orc ho _ mb ml _ ms mn r f v mG l _ (ps++[(e.it,e.i+f-e.st,(v:Int))]) (bx++[Qf e]) bx.length e Q (by simp[e6]) (by simp[e7]) (by simp[e10]) (by simp[e11]) (by simp) (by simp) (by simp) (by rw[zzag];exact hr.full) am7 J4 (by omega) (by simp;omega) ?_ |> fun h=>(by simpa[fA,Xg,Qf]using h);intro E' dn eT Dp hp;have:=hQ' .normal E' dn eT (Qf e::Dp) (.inl rfl) hp;simpa using this
   simp[Bg];refine Za ?_;simp[fA,e6,e7,e9,e10,e11,ai,aa,Qo,Qc,OG,s5,IntKind.bits,ho,di];refine⟨k48,?_⟩;refine ajM ((aak _).trans hb) ⟨⟨?_,by omega⟩,?_⟩
   ·rintro row (⟨x,y,z,_,rfl⟩|rfl)<;>rfl
   refine yg Y orc ho _ mb ml _ ms mn r f v mG l _ (ps++[(e.it,e.i+f-e.st,(v:Int))]) (bx++[Qf e]) bx.length e Q (by simp[e6]) (by simp[e7]) (by simp[e10]) (by simp[e11]) (by simp) (by simp) (by simp) (by rw[zzag];exact hr.own) am7 J4 (by omega) (by simp;omega) ?_ |> fun h=>(by simpa[fA,Xg,Qf]using h);intro E' dn eT Dp hp;have:=hQ' .normal E' dn eT (Qf e::Dp) (.inl rfl) hp;simpa using this
  have hpe:Dn r f v e=uw r f v e e.al:=by simp[Dn,am5,hb]
  rw[hpe]at hQ;simp[Bg];refine Za ?_;simp[fA,e6,e7,e9,e10,e11,ai,aa,Qo,Qc,OG,s5,IntKind.bits,ho];refine⟨k48,?_⟩;refine asU (fun h=>hb ((aak _).symm.trans h)) ?_;refine yg Y orc ho _ mb ml _ ms mn r f v mG l _ ps (bx++[Qf e]) bx.length e Q (by simp[e6]) (by simp[e7]) (by simp[e10]) (by simp[e11]) (by simp) (by simp) (by simp) hr am7 J4 (by omega) (by omega) ?_;intro E' dn eT Dp hp;have:=hQ .normal E' dn eT (Qf e::Dp) (.inl rfl) hp;simpa using this
open Go Go.Abs
def an.wk{P:Program}{gl:Nat->AV}{Y:YT}{f:FuncId}{xs:List AV}{m:AM}{K:AV->AM->Prop}(h:an P gl Y f xs m fun r m'=>∃r',Wk r r'/\K r' m'):an P gl Y f xs m K:=by
 refine⟨h.1,fun N w0 aq γ w vs hm hl hg hy hr=>CallsIn.mono (h.2 N w0 aq γ w vs hm hl hg hy hr) ?_⟩;rintro en w' ⟨v,γ',r,m',g0,g1,g2,g3,g4,r',g5,g6⟩;exact⟨v,γ',r',m',g0,g1,g2,g3,g5 _ _ _ g4,g6⟩
def Sc{B B':List (List AV)}(h:B.length<=B'.length)(h2:∀j,j<B.length->Qh B' j=Qh B j):∃bx,B'=B++bx:=by
 refine⟨B'.drop B.length,?_⟩;rw[<- zzdb B.length B'];congr 1
 ·apply zzea
  ·rw[zzaq];omega
  intro j h3 h4;have:=h2 j h4;unfold Qh at this;rw[zzas,zzas,zzad h4,zzad (by omega)]at this;simpa using this
 rw[zzdb]
def Hs{x hi:Int}:∀(n:Nat)(a:Int),(hi+1-a).toNat<=n->x∈Vj a hi->a<=x/\x<=hi
 |0,a,hn,h=>by rw[Vj,if_neg (by omega)]at h;cases h
 |n+1,a,hn,h=>by
  rw[Vj]at h;split at h
  ·rcases zzau.1 h with rfl|h
   ·omega
   have:=Hs n (a+1) (by omega) h;omega
  cases h
def yh{hi:Int}:∀(n:Nat)(a:Int),(hi+1-a).toNat<=n->(Vj a hi).length<=n
 |0,a,hn=>by rw[Vj,if_neg (by omega)];exact zzab _
 |n+1,a,hn=>by
  rw[Vj];split
  ·have:=yh (hi:=hi) n (a+1) (by omega);simp only[zzba];omega
  exact zzcc _
def af2{mb:List (List AV)}{r f:Int}{mG:Rt}{l:List Pg}{rt eT:Rt}{ps ps':List Sh}{bx Dp:List (List AV)}{j:Nat}(h1:mb.length+4<=j)(h2:j<mb.length+4+bx.length):
  Qh (fA mb r f mG l eT ps' (bx++Dp)) j=Qh (fA mb r f mG l rt ps bx) j:=by
 obtain⟨k,rfl⟩:∃k,j=mb.length+4+k:=⟨j-(mb.length+4),by omega⟩
 have e:∀(a b c d:List AV)(y:List (List AV)),Qh (mb++(a::b::c::d::y)) (mb.length+4+k)=Qh y k:=fun a b c d y=>by
  unfold Qh;rw[zzas,zzas,zzap (by omega)];rw[show mb.length+4+k-mb.length=k+4 by omega];simp
 rw[fA,fA,e,e,Ql (by omega)]
def asV(mb:List (List AV))(ml:List Nat)(r f:Int)(mG:Rt)(l:List Pg)(ps:Nat->List Sh)(O:Nat->Prop)(i:Nat)(mm:AM):Prop:=
 (∀j,O j->mb.length+4<=j)/\∃rt bx,Hr ml mm.lens rt (ps i).length/\mm.boxes=fA mb r f mG l rt (ps i) bx
def Hr.ext{ml ls:List Nat}{rt:Rt}{n:Nat}(h:Hr ml ls rt n)(lx:List Nat):Hr ml (ls++lx) rt n:=by
 obtain⟨⟨l2,rfl⟩,h⟩:=h;refine⟨⟨l2++lx,by simp⟩,h.imp id ?_⟩;rintro⟨k,h1,h2,h3⟩;exact⟨k,h1,h2,by rw[zzah (zza.1 h3).1];exact h3⟩
def LX(r f:Int)(l:List Pg)(vs:List Int)(i:Nat):List Sh:=sh0::(vs.take i).flatMap (tL r f l)
def af3(r f:Int)(l:List Pg)(hl:∀g∈l,∀e∈g.ev,e.al.length<=1000)(v:Int):(tL r f l v).length<=1001:=by
 unfold tL;cases hg:l[v.toNat]? with
 |none=>simp
 |some g=>
  cases he:xw f g.ev with
  |none=>simp[he]
  |some e=>
   have h1:=hl g (zzac hg) e (ux he).1;have h2:=OH r f v e;simp only[he,Dn,zzag];split<;>simp<;>omega
def aal(r f:Int)(l:List Pg)(hl:∀g∈l,∀e∈g.ev,e.al.length<=1000)(vs:List Int)(i:Nat):(LX r f l vs i).length<=1+i*1001:=by
 unfold LX
 have h:∀l2:List Int,(l2.flatMap (tL r f l)).length<=l2.length*1001:=fun l2=>by
  induction l2 with
  |nil=>simp
  |cons a t ih=>
   have:=af3 r f l hl a;rw[zzda,zzag,zzba,zzbo];omega
 have h1:=h (vs.take i);have h2:=List.length_take_le i vs;have h3:(vs.take i).length*1001<=i*1001:=zzb _ h2;simp only[zzba];omega
def af4:SC:=.rfunc (.tmp 40) [41] (.ops [⟨(some 11),(.mv (.tmp 41)),none,[]⟩]) (.block 1 Bg)
def af5(Y:YT)(orc:Nat->FuncId->List AV->AV)(ho:∀d l,orc d 999999 l=.junk)(E:List (Nat×AV))(mb:List (List AV))(ml:List Nat)(ms:Nat->LS)(mn:Nat)(r f lo hi:Int)(mG:Rt)(l:List Pg)(Q:Exit->AS->Prop)
  (am6:∀d(L:List bE),orc d 48 [.sl .ro (L.map Qf),I f]=S6 f (xw f L))
  (e6:Abs.look E 6=.ptr mb.length 0)(e7:Abs.look E 7=.ptr (mb.length+1) 0)(e9:Abs.look E 9=.ptr (mb.length+2) 0)(e10:Abs.look E 10=.ptr (mb.length+3) 0)(e40:Abs.look E 40=.fn 104 [] [.ptr (mb.length+4) 0,.ptr (mb.length+5) 0])
  (NH:0<=lo)(hhi:hi<l.length)(y9:l.length<=1000)(cr:∀g∈l,g.ev.length<=1000000000/\∀e∈g.ev,Ue e/\e.al.length<=1000)(hf:f<=9223372036854775807)(s5:0<=r)
  (hQ:∀rt bx dn Sd Se,Hr ml dn rt (sh0::(Vj lo hi).flatMap (tL r f l)).length->Q .normal ⟨Zi 96 E,⟨fA mb r f mG l rt (sh0::(Vj lo hi).flatMap (tL r f l)) bx,dn,Sd,Se⟩⟩):
  vc Tryz.prog az orc Y af4 ⟨Zi 96 E,⟨fA mb r f mG l .full [sh0] [[I lo],[I hi]],ml,ms,mn⟩⟩ Q:=by
 have cH:=R9 (mb.length+4) (mb.length+5) lo hi NH (by omega);have gN:∀rt ps bx,(fA mb r f mG l rt ps bx).length=mb.length+4+bx.length:=fun rt ps bx=>by simp[fA];omega
 have hvl:(Vj lo hi).length<=1000:=yh 1000 lo (by omega);have awV:=aal r f l (fun g hg e he=>((cr g hg).2 e he).2) (Vj lo hi);unfold af4;refine R8 (xs:=(Vj lo hi).map LW) (by simp[e40];try exact⟨rfl,rfl⟩) cH ?_ (by intro x hx;simp at hx;obtain⟨u,_,rfl⟩:=hx;rfl) (asV mb ml r f mG l (LX r f l (Vj lo hi))) (fun _ _ _=>False) ?_ ?_ (fun _ _ _ _ h=>h.elim) ?_ ?_ (fun _ _ _ h=>h.elim)
 ·simp[asR,AM.aX,fA]
 ·exact⟨by rintro j (rfl|rfl)<;>omega,.full,_,⟨⟨[],by simp⟩,.inl rfl⟩,by simp[LX];rfl⟩
 ·rintro O i m1 m2 ⟨h1,rt,bx,h2,h3⟩ ⟨q1,q2,⟨lx,q3⟩,q4⟩;refine⟨?_,rt,?_⟩
  ·rintro j (h|h)
   ·exact h1 j h
   rw[h3,gN]at h;omega
  have:∃b2,m2.boxes=fA mb r f mG l rt (LX r f l (Vj lo hi) i) []++b2:=by
   refine Sc (by rw[h3,gN]at q1;rw[gN];simp;omega) fun j hj=>?_;rw[gN]at hj;rw[q2 j (by rw[h3,gN];simp at hj;omega) (fun ho=>by have:=h1 j ho;simp at hj;omega),h3];have:fA mb r f mG l rt (LX r f l (Vj lo hi) i) bx=fA mb r f mG l rt (LX r f l (Vj lo hi) i) []++bx:=by simp[fA]
   rw[this,Ql (by rw[gN];exact hj)]
  obtain⟨b2,lK⟩:=this;exact⟨b2,by rw[q3];exact h2.ext lx,by rw[lK];simp[fA]⟩
 ·rintro O lp i mm x tj cc hg0 gC ⟨h1,rt,bx,h2,h3⟩ hx K' k1 k2 k3
  obtain⟨v,hv,rfl⟩:∃v,(Vj lo hi)[i]?=some v/\LW v=x:=by
   rw[zzbp]at hx;cases hq:(Vj lo hi)[i]? with
   |none=>rw[hq]at hx;cases hx
   |some y=>rw[hq]at hx;exact⟨y,rfl,Option.some.inj hx⟩
  have fR:=(zza.1 hv).1;obtain⟨v1,v2⟩:=Hs 1000 lo (by omega) (zzac hv);obtain⟨w,rfl⟩:=zzgv (show 0<=v by omega);obtain⟨g,hg⟩:∃g,l[w]?=some g:=⟨_,zzad (by omega)⟩;have hgm:=zzac hg
  have hps:LX r f l (Vj lo hi) (i+1)=LX r f l (Vj lo hi) i++tL r f l w:=by
   unfold LX;rw[zzar,hv,zzfe,List.flatMap_append,zzda,zzdr,zzat];rfl
  simp only[Ub,Cs]at h2 h3;obtain⟨mb2,ml2,ms2,mn2⟩:=mm;simp only at h2 h3 gC cc tj;subst h3;simp[gC,Zj,LW];show vc _ _ _ _ _ ⟨_,⟨fA mb r f mG l rt (LX r f l (Vj lo hi) i) bx,ml2,p8 ms2 lp .busy,mn2⟩⟩ _;refine aaj Y orc ho _ mb ml ml2 (p8 ms2 lp .busy) mn2 r f w mG l rt _ bx g _ am6 (by simp[e6]) (by simp[e7]) (by simp[e9]) (by simp[e10]) (by simp) hg h2 (cr g hgm).1 (fun e he=>⟨((cr g hgm).2 e he).1,by have:=((cr g hgm).2 e he).2;omega⟩) hf s5 (by have:=awV i;omega) ?_;intro x E' dn eT Dp hx hp
  have wm:∀T,K' .normal ⟨T,⟨fA mb r f mG l eT (LX r f l (Vj lo hi) i++tL r f l w) (bx++Dp),dn,p8 ms2 lp .busy,mn2⟩⟩:=fun T=>by
   refine k1 _ ⟨?_,fun j hj=>?_⟩ ⟨h1,eT,bx++Dp,by rw[hps];exact hp,by rw[hps];rfl⟩
   ·show(fA mb r f mG l rt _ bx).length<=(fA mb r f mG l eT _ (bx++Dp)).length;rw[gN,gN,zzag];omega
   have hj4:=h1 j hj;have hj5:=tj j hj;rw[gN]at hj5 cc;rw[gN]at cc;simp only[zzba,zzcf]at cc;refine af2 hj4 ?_;obtain(rfl|rfl)|hj5:=hj5
   ·omega
   ·omega
   rw[gN]at hj5;omega
  obtain rfl|rfl:=hx
  ·simp;exact wm _
  simp;exact wm _
 rintro O mm ⟨h1,rt,bx,h2,h3⟩
 have ht:LX r f l (Vj lo hi) ((Vj lo hi).map LW).length=sh0::(Vj lo hi).flatMap (tL r f l):=by
  unfold LX;rw[zzbe,zzbm]
 rw[ht]at h2 h3;obtain⟨mb2,ml2,ms2,mn2⟩:=mm;simp only at h2 h3;subst h3;exact hQ rt bx ml2 ms2 mn2 h2
end
end Go.Proofs.YtnopaopphmjnmaaGreatDoor
