import Derived.Test.YtnopaopphmjnmaaGreatDoorMLMeB
set_option linter.all false
set_option maxRecDepth 100000
set_option maxHeartbeats 64000000
namespace Go.Abs
open Go Go.RowKit
def akc(P:Program)(gl:Nat->AV)(f:FuncId)(first cap:List AV)(xs:List (List AV))(O0:Nat->Prop)(pre:AM->Prop):Prop:=
 ∀(Y:YT)(l:Nat)(m:AM)(K:AM->Prop),pre m->jx (Y l) K xs O0 m->an P gl Y f (first++[.yld l]++cap) m fun _ m'=>K m'
def St{P:Program}{gl:Nat->AV}{orc:Nat->FuncId->List AV->AV}{Y:YT}{s:AS}{Q:Exit->AS->Prop}{g:bK}{ps:List Nat}{lT body:SC}{f:FuncId}{first cap:List AV}{xs:List (List AV)}
  (hg:ev gl s.T g=.fn f first cap){O0:Nat->Prop}{pre:AM->Prop}(cm:akc P gl f first cap xs O0 pre)(axt:pre s.m.aY)(aH:∀x∈xs,x.length=ps.length)(I:(Nat->Prop)->Nat->AM->Prop)(X:(Nat->Prop)->Exit->AM->Prop)
  (h0:I O0 0 s.m)
  (hI:∀O i m m',I O i m->bN O m m'->I (OU O m.boxes.length m'.boxes.length) i m')(hX:∀O ex m m',X O ex m->bN O m m'->X O ex m')
  (
   hb:∀(O:Nat->Prop)(l i:Nat)(m:AM)(x:List AV),(∀j,O j->O0 j\/(s.m.boxes.length<=j/\j<m.boxes.length))->s.m.boxes.length<=m.boxes.length->s.m.st l=.gone->m.st l=.ready->I O i (m.at_ l .gone)->xs[i]?=some x->∀K':Exit->AS->Prop,
   (∀s',A2 O m s'.m->I O (i+1) (s'.m.at_ l .gone)->K' .normal s')->(∀s',m.boxes.length<=s'.m.boxes.length->X O .ret (s'.m.at_ l .gone)->K' .ret s')->(∀id s',m.boxes.length<=s'.m.boxes.length->X O (.exit id) (s'.m.at_ l .gone)->K' (.exit id) s')->
   vc P gl orc Y lT ⟨Qam s.T ps x,m⟩ (Fm l fun s'=>vc P gl orc Y body s' K'))
  (KC:∀O m,I O xs.length m->Q .normal ⟨s.T,m⟩)(hex:∀O ex m,X O ex m->Q ex ⟨s.T,m⟩):vc P gl orc Y (.rfunc g ps lT body) s Q:=by
 simp only[vc,hg];intro hl;generalize dg:s.m.ln=l at hl;refine cm _ l s.m.aY (fun m'=>zA l s.T m' Q (m'.st l)) axt ?_;have fB:∀{O:Nat->Prop}{m m':AM},m.st l=.ready->bN O m m'->m'.st l=.ready:=fun h e=>by rw[e.2.2.2 l (by rw[h];simp),h]
 have key:∀(n i:Nat)(O:Nat->Prop)(m:AM),i+n=xs.length->I O i (m.at_ l .gone)->(∀j,O j->O0 j\/(s.m.boxes.length<=j/\j<m.boxes.length))->s.m.boxes.length<=m.boxes.length->m.st l=.ready->
   jx (Yin Y l ps.length (fun args m K=>vc P gl orc Y lT ⟨Qam s.T ps args,m⟩ (Fm l fun s'=>vc P gl orc Y body s' (KA l K))) l) (fun m'=>zA l s.T m' Q (m'.st l)) (xs.drop i) O m:=by
  intro n;induction n with
  |zero=>
   intro i O m hi XL tO kU hm;rw[zzam (by omega)];intro m' e;simp only[fB hm e,zA];obtain rfl:i=xs.length:=by omega
   exact KC _ _ (hI _ _ _ _ XL (e.gone l))
  |succ n ih=>
   intro i O m hi XL tO kU hm;have ai:i<xs.length:=by omega
   rw[zzaf ai];intro m' e K' hT hF;have YX:s.m.boxes.length<=m'.boxes.length:=zzbn kU e.1
   have Rp:∀j,OU O m.boxes.length m'.boxes.length j->O0 j\/(s.m.boxes.length<=j/\j<m'.boxes.length):=by
    rintro j (h|h)
    ·exact(tO j h).imp id fun h=>⟨h.1,zzbc h.2 e.1⟩
    exact .inr ⟨by omega,h.2⟩
   have zw:=hI _ _ _ _ XL (e.gone l);simp only[Ue]at zw;simp only[Yin,if_true];refine⟨fB hm e,aH _ (zzdi ai),?_⟩;refine hb (OU O m.boxes.length m'.boxes.length) l i m' xs[i] Rp YX hl (fB hm e) zw (zzac ai) (KA l K') (fun s' hS' zw=>?_) (fun s' ck hQ=>?_) fun id s' ck hQ=>?_
   ·refine hT _ (by simpa[A2]using hS') (ih (i+1) _ _ (by omega) ?_ (fun j hj=>(Rp j hj).imp id fun h=>⟨h.1,by simpa using zzbc h.2 hS'.1⟩) (by simpa using zzbn YX hS'.1) (by simp));simpa using zw
   ·refine hF _ fun m3 e3=>?_;have h3:m3.st l=.done .ret:=by have:=e3.2.2.2 l (by simp);simpa using this
    simp only[h3];exact hex _ _ _ (hX _ _ _ _ hQ (by have:=e3.gone l;simpa using this))
   refine hF _ fun m3 e3=>?_;have h3:m3.st l=.done (.exit id):=by have:=e3.2.2.2 l (by simp);simpa using this
   simp only[h3];exact hex _ _ _ (hX _ _ _ _ hQ (by have:=e3.gone l;simpa using this))
 have hI0:I O0 0 (s.m.aY.at_ l .gone):=by
  have:=hI O0 0 s.m (s.m.aY.at_ l .gone) h0 ⟨by simp[AM.aY],fun j _ _=>by simp[AM.aY],⟨[],by simp[AM.aY]⟩,fun l' ey=>by
   have aK:l'≠l:=by rintro rfl;exact ey hl
   simp[AM.aY,dg,qq,aK]⟩
  have e:OU O0 s.m.boxes.length (s.m.aY.at_ l .gone).boxes.length=O0:=by
   funext j;apply propext;simp[OU,AM.aY];omega
  rw[e]at this;exact this
 have:=key xs.length 0 O0 s.m.aY (by simp) hI0 (fun _ h=>.inl h) (by simp[AM.aY]) (by simp[AM.aY,dg]);simpa using this
end Go.Abs
namespace Go.Proofs.YtnopaopphmjnmaaGreatDoor
noncomputable section
open Go Go.Abs
def Vs(lo hi:Int):List Int:=if lo<=hi then lo::Vs (lo+1) hi else[]
termination_by(hi+1-lo).toNat
def L9(v:Int):List AV:=[I v]
def atj(a b:Nat)(lo hi:Int)(m:AM):Prop:=a<m.boxes.length/\b<m.boxes.length/\Qh m.boxes a=[I lo]/\Qh m.boxes b=[I hi]
def Su(a b:Nat)(lo hi:Int)(h0:0<=lo)(h1:hi<=1000000000):akc Tryz.prog az 104 [] [.ptr a 0,.ptr b 0] ((Vs lo hi).map L9) (fun j=>j=a\/j=b) (atj a b lo hi):=by
 rintro Y l ⟨mb,ml,ms,mn⟩ K ⟨p1,p2,p3,p4⟩ hF;simp only at p1 p2 p3 p4;refine Xe acf (fun _ _ _=>.gd false .junk) (by simp) ?_;simp[ahf,p3];refine Qi JD (fun g mm=>∃(v:Int)(O:Nat->Prop),g 4=I v/\0<=v/\b<mm.boxes.length/\Qh mm.boxes b=[I hi]/\O b/\jx (Y l) K ((Vs v hi).map L9) O mm) (fun g _=>(hi+1-numOf (g 4)).toNat) ?_ ?_
 ·exact⟨lo,_,by simp,h0,by simpa using p2,by simpa using p4,.inr rfl,hF⟩
 rintro g mm ⟨v,O,h4,hv,hb,uy,hO,hFo⟩;by_cases ai:v<=hi
 ·rw[Vs,if_pos ai]at hFo;simp only[zzaz,L9]at hFo;have hw:IntKind.i64.wrap (v+1)=v+1:=by rw[Qk]<;>omega
  simp[h4,JD,ai,uy];refine hFo _ (bN.refl _ _) _ (fun m2 wY qs=>?_) (fun m2 hK=>?_)
  ·have q1:Qh m2.boxes b=[I hi]:=by rw[wY.2 b (.inl hO)];exact uy
   have AT:=wY.1;simp[hw];refine⟨aO,⟨by omega,by omega,q1,_,.inl hO,qs⟩,by omega⟩
  simp[TP];exact hK _ (bN.refl _ _)
 rw[Vs,if_neg ai]at hFo;simp[h4,JD,ai,uy,TP];exact hFo _ (bN.refl _ _)
def atk(Y:YT)(m:AM)(md:Nat)(M:Md)(pid aQ:Nat)(bh:List Rt)(bO:Rt)(z:List AV)(f:Int)(h:gm m.boxes md M pid aQ bh bO z)(hf:∀o∈M.os,0<=o.2/\o.2<=1000000000000)(K:AV->AM->Prop)
  (hK:K (.fn 104 [] [.ptr m.boxes.length 0,.ptr (m.boxes.length+1) 0]) {m with boxes:=m.boxes++[[I (qv f M.os)],[I (Je f M.os)]]}):an Tryz.prog az Y 47 [.ptr md 0,I f] m K:=by
 obtain⟨mb,ml,ms,mn⟩:=m;have ka:=fun K hK=>rP Y ⟨mb,ml,ms,mn⟩ md M pid aQ bh bO z f h hf K hK;refine Xe akV (fun _ _ _=>.gd false .junk) (by simp) ?_;simp[aoY];refine ka _ ?_;simp[aoZ];simpa using hK
open Go Go.Abs
def wu6(n:Int)(h:0<=n)(h':n<=9223372036854775807):IntKind.u64.wrap n=n:=by
 simp[IntKind.wrap,IntKind.bits,IntKind.signed];omega
def Sv(e:bD)(f:Int)(h:Uh e)(hf:f<=9223372036854775807):Pure Tryz.prog az 105 [.agg (Qf e),.ep [I f] 0] (.bool (Wv f e)):=by
 refine Qn acg (fun _ _ _=>.junk) (by simp) ?_;obtain⟨⟨a1,a2⟩,⟨a3,a4⟩,_⟩:=h;by_cases h1:e.st<=f
 ·have w1:=wu6 e.st (by omega) (by omega);have w2:=wu6 f (by omega) (by omega);have w3:=wu6 (f-e.st) (by omega) (by omega);have w4:=wu6 e.fr (by omega) (by omega);by_cases h2:0<e.fr
  ·have:(f-e.st<e.fr)=(f<e.st+e.fr):=by apply propext;omega
   simp[MP,MQ,Qf,h1,h2,Wv,w1,w2,w3,w4,this]
  have:¬f<e.st+e.fr:=by omega
  simp[MP,MQ,Qf,h1,h2,Wv,this]
 simp[MP,MQ,Qf,h1,Wv]
def Hv(L:List bD)(f:Int)(hL:L.length<=1000000000)(hs:∀e∈L,Uh e)(hf:f<=9223372036854775807):Pure Tryz.prog az 106 [.sl .ro (L.map Qf),.fn 105 [] [.ep [I f] 0]] (I (gW f L 0)):=by
 refine Qn MS (Lp f) (by simp) ?_;simp[TQ,MR];refine Qi iM (fun s m=>∃i:Nat,s 8=I i/\i<=L.length/\gW f (L.drop i) i=gW f L 0/\m=⟨[],[],fun _=>.gone,0⟩) (fun s m=>L.length-(numOf (s 8)).toNat) ?_ ?_
 ·exact⟨0,by simp,by omega,by simp,rfl⟩
 rintro s m ⟨i,hi,ck,hr,rfl⟩;rcases zzaa i L.length with ai|bu
 ·obtain⟨a,ha⟩:∃a,L[i]?=some a:=⟨L[i],zzac ai⟩;have ah:Qh (L.map Qf) i=Qf a:=Qs (by simp[ha]);have hw:=bJ i (by omega);rw[Zb ha]at hr;have hp:Pure Tryz.prog az 105 [.agg (Qf a),.ep [I f] 0] (.bool (Wv f a)):=Sv a f (hs a (zzad ha)) hf;have ho:decide (a.st<=f/\f<a.st+a.fr)=Wv f a:=rfl;by_cases h:Wv f a=true
  ·simp[gW,h]at hr;rw[h]at hp ho;simp at ho;simp[hi,ah,ai,Qf,Lp,iM,ho];exact⟨hp,hr⟩
  simp at h;simp[gW,h]at hr;rw[h]at hp ho
  have c9:decide (a.st<=f)=false\/decide (f<a.st+a.fr)=false:=by
   by_cases q:a.st<=f
   ·right;simp at ho |-;omega
   left;simp[q]
  simp only[decide_eq_false_iff_not]at ho;simp[hi,ah,ai,Qf,Lp,iM,ho,hw];refine⟨hp,aO,⟨i+1,by simp,by omega,hr⟩,by omega⟩
 rw[zzam bu]at hr;simp[hi,zzbm.2 bu,iM];exact hr
def aau(L:List bD)(f:Int)(hL:L.length<=1000000000)(hs:∀e∈L,Uh e)(hf:f<=9223372036854775807):Pure Tryz.prog az 48 [.sl .ro (L.map Qf),I f] (Tx f (y9 f L)):=by
 have LC:=Hv L f hL hs hf;refine Qn akY (fun _ g l=>if g=106 then I (gW f L 0)else l.headD .junk) (by simp) ?_;cases IE:y9 f L with
 |none=>
  rw[xW IE]at LC |-
  simp[akW,akX,Tx,ZS];exact LC
 |some a=>
  obtain⟨k,h1,h2,h3⟩:=xX (i:=0) IE;rw[h1]at LC |-
  have ai:k<L.length:=(zza.1 h2).1;have ah:Qh (L.map Qf) k=Qf a:=Qs (by simp[h2]);obtain⟨⟨a1,a2⟩,⟨a3,a4⟩,⟨a7,a8⟩,a9⟩:=hs a (zzad h2);have hon:a.st<=f/\f<a.st+a.fr:=by simpa[Wv]using h3
  have w1:IntKind.i64.wrap (a.i+f)=a.i+f:=by rw[Qk]<;>omega
  have w2:IntKind.i64.wrap (a.i+f-a.st)=a.i+f-a.st:=by rw[Qk]<;>omega
  rw[zzbv]at LC;have hcn:=Ut a.al a9;simp[akW,akX,Tx,ai,ah,Qf];refine⟨LC,hcn,Qbg [(.junk,⟨[[I f],[I a.id,I a.it,I a.st,I a.fr,I a.i,I a.re,.sl .ro (a.al.map Qe)],[I a.id,I a.it,I a.st,I a.fr,I a.i,I a.re,.sl .ro (a.al.map Qe)]],[],fun _=>.gone,0⟩)] ?_⟩;simp[w1,w2]
open Go Go.Abs
abbrev Sh:=Int×Int×Int
def Zo(s:Sh):List AV:=[I s.1,I s.2.1,I s.2.2]
def Sw(re r:Int):Bool:=decide (re.fdiv (2 ^ (min r.toNat 64))%2=1)
def zW(r f v:Int)(e:bD)(al:List Sp):List Sh:=(al.filter fun a=>decide (a.1=r)).map fun a=>(a.2,f-(e.st-e.i),v)
def Hw(r f v:Int)(e:bD):List Sh:=(if Sw e.re r=true then[(e.it,e.i+f-e.st,v)]else[])++zW r f v e e.al
def iG(r f:Int)(l:List Pg)(v:Int):List Sh:=match l[v.toNat]? with
 |none=>[]
 |some g=>match y9 f g.ev with
  |none=>[]
  |some e=>Hw r f v e
def sh0:Sh:=(0,0,0)
def Zp(M:Md)(c r f:Int):List Sh:=match Ka M c with
 |none=>[]
 |some l=>match l with
  |[]=>[]
  |g::_=>if r<0\/g.p.rg<=r then[]else sh0::(Vs (qv f M.os) (Je f M.os)).flatMap (iG r f l)
def Sx(r f v:Int)(e:bD)(al:List Sp)(a:Sp):zW r f v e (al++[a])=zW r f v e al++if a.1=r then[(a.2,f-(e.st-e.i),v)]else[]:=by
 unfold zW;rw[zzcu,zzc];by_cases h:a.1=r<;>simp[h]
def aav:SC:=(⟨_,by cbv⟩:tM [1,0,1,1,1,1,0,1,0,1,0,1,1,1] PA).1
def BA:SC:=(⟨_,fun _=>by cbv⟩:uw [1,1,1] (tL [1,0,1,1,1,1,0,1,0,1,0] PA)).1 aav
def Hy(ml ls:List Nat)(rt:Rt)(n:Nat):Prop:=(∃lx,ls=ml++lx)/\(rt=.full\/∃k,rt=.own k 3/\ml.length<=k/\ls[k]?=some n)
def Hy.full{ml ls:List Nat}{n n':Nat}(h:Hy ml ls .full n):Hy ml (ls++[n']) (.own ls.length 3) n':=by
 obtain⟨⟨lx,rfl⟩,_⟩:=h;exact⟨⟨lx++[n'],by simp⟩,.inr ⟨_,rfl,by simp,by simp⟩⟩
def Hy.own{ml ls:List Nat}{k n n':Nat}(h:Hy ml ls (.own k 3) n):Hy ml (ls.set k n') (.own k 3) n':=by
 obtain⟨⟨lx,rfl⟩,h⟩:=h;obtain h|⟨k',h1,h2,h3⟩:=h
 ·cases h
 cases h1;refine⟨⟨lx.set (k-ml.length) n',by rw[zzcs _ _ h2]⟩,.inr ⟨k,rfl,h2,?_⟩⟩;rw[zzb (zza.1 h3).1]
def fI(mb:List (List AV))(r f:Int)(mZ:Rt)(l:List Pg)(rt:Rt)(ps:List Sh)(bx:List (List AV)):List (List AV):=mb++([I r]::[I f]::[.sl mZ (l.map Qo)]::[.sl rt (ps.map Zo)]::bx)
def atl(mb:List (List AV))(ml:List Nat)(ms:Nat->LS)(mn:Nat)(r f v:Int)(mZ:Rt)(l:List Pg)(ps:List Sh)(cx:List (List AV))(e:bD)(g:Nat->AV)(m:AM):Prop:=
 ∃(i:Nat)(ls:List Nat)(rt:Rt)(b2:List (List AV)),g 72=I i/\i<=e.al.length/\Hy ml ls rt (ps++zW r f v e (e.al.take i)).length/\m=⟨fI mb r f mZ l rt (ps++zW r f v e (e.al.take i)) (cx++b2),ls,ms,mn⟩
def yF(Y:YT)(orc:Nat->FuncId->List AV->AV)(ho:∀d l,orc d 999999 l=.junk)(E:List (Nat×AV))(mb:List (List AV))(ml ls:List Nat)(ms:Nat->LS)(mn:Nat)(r f v:Int)(mZ:Rt)(l:List Pg)(rt:Rt)(ps:List Sh)(cx:List (List AV))(n:Nat)(e:bD)(Q:Exit->AS->Prop)
  (e6:Abs.look E 6=.ptr mb.length 0)(e7:Abs.look E 7=.ptr (mb.length+1) 0)(Mc:Abs.look E 10=.ptr (mb.length+3) 0)(Me:Abs.look E 11=I v)(e12:Abs.look E 12=.ptr (mb.length+(n+4)) 0)(hn:n<cx.length)(hcx:Qh cx n=Qf e)
  (hr:Hy ml ls rt ps.length)(hs:Uh e)(eu:e.al.length<=1000000)(hf:0<=f/\f<=2000000)(hps:ps.length+e.al.length<=1000000000)
  (hQ:∀E' dx eY DN,Hy ml dx eY (ps++zW r f v e e.al).length->Q .normal ⟨Zf 96 E',⟨fI mb r f mZ l eY (ps++zW r f v e e.al) (cx++DN),dx,ms,mn⟩⟩):
  vc Tryz.prog az orc Y aav ⟨Zf 96 E,⟨fI mb r f mZ l rt ps cx,ls,ms,mn⟩⟩ Q:=by
 obtain⟨⟨a1,a2⟩,⟨a3,a4⟩,⟨a5,a6⟩,a7⟩:=hs;have fC:IntKind.i64.wrap (e.st-e.i)=e.st-e.i:=by rw[Qk]<;>omega
 have ee:IntKind.i64.wrap (f-(e.st-e.i))=f-(e.st-e.i):=by rw[Qk]<;>omega
 simp only[Qf]at hcx;simp[aav,fI,e12,hcx];refine Qi Ec (atl mb ml ms mn r f v mZ l ps cx e) (fun g _=>e.al.length-(numOf (g 72)).toNat) ?_ ?_
 ·exact⟨0,ls,rt,[],by simp,by omega,by simpa[zW]using hr,by simp[zW,fI]⟩
 rintro g m ⟨i,ls,rt,b2,h72,hi,hr,rfl⟩;have WI:∀y,Qh ((cx++b2)++y) n=Qf e:=fun y=>by rw[Ql (by simp;omega),Ql hn];exact hcx
 have axu:Qh (cx++b2) n=Qf e:=by rw[Ql hn];exact hcx
 have hny:n<(cx++b2).length:=by simp;omega
 have ayr:n<(cx++b2).length+1:=by omega
 have D8:∀b3,(cx++b2)++b3=cx++(b2++b3):=fun _=>zzaw _ _ _;generalize hCY:cx++b2=cy at*
 simp only[Qf]at WI axu;rcases zzaa i e.al.length with ai|bu
 ·obtain⟨a,ha⟩:=aS ai;have ah:Qh (e.al.map Qe) i=Qe a:=Qs (by simp[ha]);have aa:(i:Int)<(e.al.length:Int):=by omega
  have hw:=bJ i (by omega);have bB:e.al.take (i+1)=e.al.take i++[a]:=by rw[zzas,ha];rfl
  have gG:(ps++zW r f v e (e.al.take i)).length<=ps.length+i:=by
   have h1:=zzbr (fun a:Sp=>decide (a.1=r)) (e.al.take i);have h2:=List.length_take_le i e.al;simp only[zW,zzah,zzbg];omega
  have mN:=Sx r f v e (e.al.take i) a;rw[<- bB]at mN;generalize hPS:ps++zW r f v e (e.al.take i)=PS at*
  have td:ps++zW r f v e (e.al.take (i+1))=PS++if a.1=r then[(a.2,f-(e.st-e.i),v)]else[]:=by rw[mN,<- zzaw,hPS]
  by_cases hc:a.1=r
  ·rw[if_pos hc]at td;have N8:∀row∈PS.map Zo,row.length=3:=by rintro row h;obtain⟨x,_,rfl⟩:=zzax.1 h;rfl
   rcases hr.2 with rfl|⟨k,rfl,cV,dw⟩
   ·simp[h72,aa,ah,Qe,Ec,hw,hc,fI,e6,e7,Mc,Me,e12,ho,fC,ee,WI,zzan];refine⟨⟨?_,by omega⟩,aO,⟨i+1,_,_,b2++[[I r,I a.2]],by simp,by omega,by rw[td,zzah];exact hr.full,by rw[td,<- D8];simp[fI,Zo]⟩,by omega⟩
    ·rintro row (⟨x,y,z,_,rfl⟩|rfl)<;>rfl
   simp[h72,aa,ah,Qe,Ec,hw,hc,fI,e6,e7,Mc,Me,e12,ho,fC,ee,WI,zzan,dw];refine⟨⟨?_,by omega⟩,aO,⟨i+1,_,_,b2++[[I r,I a.2]],by simp,by omega,by rw[td,zzah];exact hr.own,by rw[td,<- D8];simp[fI,Zo]⟩,by omega⟩
   ·rintro row (⟨x,y,z,_,rfl⟩|rfl)<;>rfl
  rw[if_neg hc,zzau]at td;simp[h72,aa,ah,Qe,Ec,hw,hc,fI,e6,zzan];refine⟨aO,⟨i+1,_,_,b2++[[I a.1,I a.2]],by simp,by omega,by rw[td];exact hr,by rw[td,<- D8];simp[fI]⟩,by omega⟩
 have hte:e.al.take i=e.al:=zzap bu;have bI:¬(i:Int)<(e.al.length:Int):=by omega
 rw[hte]at hr |-
 simp[h72,bI,Ec];rw[<- hCY];exact hQ _ _ _ _ hr
def uW{f:Int}{e:bD}:∀{L:List bD},y9 f L=some e->e∈L/\e.st<=f/\f<e.st+e.fr
 |[],h=>by cases h
 |a::r,h=>by
  simp only[y9]at h;split at h
  ·rename_i ho;cases h;exact⟨by simp,by simpa[Wv]using ho⟩
  have:=uW h;exact⟨by simp[this.1],this.2⟩
def OV(r f v:Int)(e:bD):(zW r f v e e.al).length<=e.al.length:=by
 unfold zW;rw[zzbg];exact zzbr _ _
def akd{c a b:Prop}{i:Decidable c}(h:c)(ha:a):@ite Prop c i a b:=by rw[if_pos h];exact ha
def atm{c a b:Prop}{i:Decidable c}(h:¬c)(hb:b):@ite Prop c i a b:=by rw[if_neg h];exact hb
def aaw(Y:YT)(orc:Nat->FuncId->List AV->AV)(ho:∀d l,orc d 999999 l=.junk)(E:List (Nat×AV))(mb:List (List AV))(ml ls:List Nat)(ms:Nat->LS)(mn:Nat)(r f:Int)(v:Nat)(mZ:Rt)(l:List Pg)(rt:Rt)(ps:List Sh)(bx:List (List AV))(g:Pg)(Q:Exit->AS->Prop)
  (anq:∀d(L:List bD),orc d 48 [.sl .ro (L.map Qf),I f]=Tx f (y9 f L))
  (e6:Abs.look E 6=.ptr mb.length 0)(e7:Abs.look E 7=.ptr (mb.length+1) 0)(e9:Abs.look E 9=.ptr (mb.length+2) 0)(Mc:Abs.look E 10=.ptr (mb.length+3) 0)(Me:Abs.look E 11=I (v:Int))(hg:l[v]?=some g)
  (hr:Hy ml ls rt ps.length)(cw:g.ev.length<=1000000000)(hs:∀e∈g.ev,Uh e/\e.al.length<=1000000)(hf:f<=9223372036854775807)(tI:0<=r)(hps:ps.length<=100000000)
  (hQ:∀x E' dx eY DN,(x=.normal\/x=.exit 1)->Hy ml dx eY (ps++iG r f l v).length->Q x ⟨Zf 96 E',⟨fI mb r f mZ l eY (ps++iG r f l v) (bx++DN),dx,ms,mn⟩⟩):
  vc Tryz.prog az orc Y BA ⟨Zf 96 E,⟨fI mb r f mZ l rt ps bx,ls,ms,mn⟩⟩ Q:=by
 have k48:=aau g.ev f cw (fun e he=>(hs e he).1) hf;have OW:=fun d=>anq d g.ev;have ai:v<l.length:=(zza.1 hg).1;have ah:Qh (l.map Qo) v=Qo g:=Qs (by simp[hg]);have N8:∀row∈ps.map Zo,row.length=3:=by rintro row h;obtain⟨x,_,rfl⟩:=zzax.1 h;rfl
 cases IE:y9 f g.ev with
 |none=>
  have jW:iG r f l (v:Int)=[]:=by simp[iG,hg,IE]
  rw[jW,zzau]at hQ;rw[IE]at k48 OW;simp only[Tx,ZS]at k48 OW;simp[BA];refine Xu ?_;simp[fI,e7,e9,Me,ai,ah,Qo,Qb,OW];exact⟨k48,hQ (.exit 1) _ _ _ [[I 0,I 0,I 0,I 0,I 0,I 0,.sl .nil []]] (.inr rfl) hr⟩
 |some e=>
  obtain⟨he,ho1,ho2⟩:=uW IE;obtain⟨hs1,KB⟩:=hs e he;have agl:=hs1;obtain⟨⟨a1,a2⟩,⟨a3,a4⟩,⟨a5,a6⟩,a7⟩:=hs1;have jW:iG r f l (v:Int)=Hw r f v e:=by simp[iG,hg,IE]
  rw[jW]at hQ;rw[IE]at k48 OW;simp only[Tx,Qf]at k48 OW;have iX:=OV r f v e;by_cases hb:e.re.fdiv (2 ^ (min r.toNat 64))%2=1
  ·have hpe:Hw r f v e=(e.it,e.i+f-e.st,(v:Int))::zW r f v e e.al:=by simp[Hw,Sw,hb]
   rw[hpe]at hQ;have hQ':∀(x:Exit)(E':List (Nat×AV))(dx:List Nat)(eY:Rt)(DN:List (List AV)),(x=.normal\/x=.exit 1)->Hy ml dx eY ((ps++[(e.it,e.i+f-e.st,(v:Int))])++zW r f v e e.al).length->Q x ⟨Zf 96 E',⟨fI mb r f mZ l eY ((ps++[(e.it,e.i+f-e.st,(v:Int))])++zW r f v e e.al) (bx++DN),dx,ms,mn⟩⟩:=fun x E' dx eY DN hx=>by rw[zzaw];exact hQ x E' dx eY DN hx
   rcases hr.2 with rfl|⟨k,rfl,cV,dw⟩
   ·simp[BA];refine Xu ?_;simp[fI,e6,e7,e9,Mc,Me,ai,ah,Qo,Qb,OW,tI,IntKind.bits,ho];refine⟨k48,?_⟩;refine akd ((aax _).trans hb) ⟨⟨?_,by omega⟩,?_⟩
    ·rintro row (⟨x,y,z,_,rfl⟩|rfl)<;>rfl
    refine yF Y orc ho _ mb ml _ ms mn r f v mZ l _ (ps++[(e.it,e.i+f-e.st,(v:Int))]) (bx++[Qf e]) bx.length e Q (by simp[e6]) (by simp[e7]) (by simp[Mc]) (by simp[Me]) (by simp) (by simp) (by simp) (by rw[zzah];exact hr.full) agl KB (by omega) (by simp;omega) ?_ |> fun h=>(by simpa[fI,Zo,Qf]using h);intro E' dx eY DN hp;have:=hQ' .normal E' dx eY (Qf e::DN) (.inl rfl) hp;simpa using this
   simp[BA];refine Xu ?_;simp[fI,e6,e7,e9,Mc,Me,ai,ah,Qo,Qb,OW,tI,IntKind.bits,ho,dw];refine⟨k48,?_⟩;refine akd ((aax _).trans hb) ⟨⟨?_,by omega⟩,?_⟩
   ·rintro row (⟨x,y,z,_,rfl⟩|rfl)<;>rfl
   refine yF Y orc ho _ mb ml _ ms mn r f v mZ l _ (ps++[(e.it,e.i+f-e.st,(v:Int))]) (bx++[Qf e]) bx.length e Q (by simp[e6]) (by simp[e7]) (by simp[Mc]) (by simp[Me]) (by simp) (by simp) (by simp) (by rw[zzah];exact hr.own) agl KB (by omega) (by simp;omega) ?_ |> fun h=>(by simpa[fI,Zo,Qf]using h);intro E' dx eY DN hp;have:=hQ' .normal E' dx eY (Qf e::DN) (.inl rfl) hp;simpa using this
  have hpe:Hw r f v e=zW r f v e e.al:=by simp[Hw,Sw,hb]
  rw[hpe]at hQ;simp[BA];refine Xu ?_;simp[fI,e6,e7,e9,Mc,Me,ai,ah,Qo,Qb,OW,tI,IntKind.bits,ho];refine⟨k48,?_⟩;refine atm (fun h=>hb ((aax _).symm.trans h)) ?_;refine yF Y orc ho _ mb ml _ ms mn r f v mZ l _ ps (bx++[Qf e]) bx.length e Q (by simp[e6]) (by simp[e7]) (by simp[Mc]) (by simp[Me]) (by simp) (by simp) (by simp) hr agl KB (by omega) (by omega) ?_;intro E' dx eY DN hp;have:=hQ .normal E' dx eY (Qf e::DN) (.inl rfl) hp;simpa using this
open Go Go.Abs
def an.wk{P:Program}{gl:Nat->AV}{Y:YT}{f:FuncId}{xs:List AV}{m:AM}{K:AV->AM->Prop}(h:an P gl Y f xs m fun r m'=>∃r',Wk r r'/\K r' m'):an P gl Y f xs m K:=by
 refine⟨h.1,fun N w0 aq γ w vs hm hl hg hy hr=>CallsIn.mono (h.2 N w0 aq γ w vs hm hl hg hy hr) ?_⟩;rintro en w' ⟨v,γ',r,m',g0,g1,g2,g3,g4,r',g5,g6⟩;exact⟨v,γ',r',m',g0,g1,g2,g3,g5 _ _ _ g4,g6⟩
def Sy{B B':List (List AV)}(h:B.length<=B'.length)(h2:∀j,j<B.length->Qh B' j=Qh B j):∃bx,B'=B++bx:=by
 refine⟨B'.drop B.length,?_⟩;rw[<- zzdb B.length B'];congr 1
 ·apply zzed
  ·rw[zzaq];omega
  intro j h3 h4;have:=h2 j h4;unfold Qh at this;rw[zzar,zzar,zzac h4,zzac (by omega)]at this;simpa using this
 rw[zzdb]
def Hz{x hi:Int}:∀(n:Nat)(a:Int),(hi+1-a).toNat<=n->x∈Vs a hi->a<=x/\x<=hi
 |0,a,hn,h=>by rw[Vs,if_neg (by omega)]at h;cases h
 |n+1,a,hn,h=>by
  rw[Vs]at h;split at h
  ·rcases zzat.1 h with rfl|h
   ·omega
   have:=Hz n (a+1) (by omega) h;omega
  cases h
def yG{hi:Int}:∀(n:Nat)(a:Int),(hi+1-a).toNat<=n->(Vs a hi).length<=n
 |0,a,hn=>by rw[Vs,if_neg (by omega)];exact zzab _
 |n+1,a,hn=>by
  rw[Vs];split
  ·have:=yG (hi:=hi) n (a+1) (by omega);simp only[zzbb];omega
  exact zzcc _
def agm{mb:List (List AV)}{r f:Int}{mZ:Rt}{l:List Pg}{rt eY:Rt}{ps ps':List Sh}{bx DN:List (List AV)}{j:Nat}(h1:mb.length+4<=j)(h2:j<mb.length+4+bx.length):
  Qh (fI mb r f mZ l eY ps' (bx++DN)) j=Qh (fI mb r f mZ l rt ps bx) j:=by
 obtain⟨k,rfl⟩:∃k,j=mb.length+4+k:=⟨j-(mb.length+4),by omega⟩
 have e:∀(a b c d:List AV)(y:List (List AV)),Qh (mb++(a::b::c::d::y)) (mb.length+4+k)=Qh y k:=fun a b c d y=>by
  unfold Qh;rw[zzar,zzar,zzal (by omega)];rw[show mb.length+4+k-mb.length=k+4 by omega];simp
 rw[fI,fI,e,e,Ql (by omega)]
def atn(mb:List (List AV))(ml:List Nat)(r f:Int)(mZ:Rt)(l:List Pg)(ps:Nat->List Sh)(O:Nat->Prop)(i:Nat)(mm:AM):Prop:=
 (∀j,O j->mb.length+4<=j)/\∃rt bx,Hy ml mm.lens rt (ps i).length/\mm.boxes=fI mb r f mZ l rt (ps i) bx
def Hy.ext{ml ls:List Nat}{rt:Rt}{n:Nat}(h:Hy ml ls rt n)(lx:List Nat):Hy ml (ls++lx) rt n:=by
 obtain⟨⟨l2,rfl⟩,h⟩:=h;refine⟨⟨l2++lx,by simp⟩,h.imp id ?_⟩;rintro⟨k,h1,h2,h3⟩;exact⟨k,h1,h2,by rw[zzag (zza.1 h3).1];exact h3⟩
def Mf(r f:Int)(l:List Pg)(vs:List Int)(i:Nat):List Sh:=sh0::(vs.take i).flatMap (iG r f l)
def agn(r f:Int)(l:List Pg)(hl:∀g∈l,∀e∈g.ev,e.al.length<=1000)(v:Int):(iG r f l v).length<=1001:=by
 unfold iG;cases hg:l[v.toNat]? with
 |none=>simp
 |some g=>
  cases he:y9 f g.ev with
  |none=>simp[he]
  |some e=>
   have h1:=hl g (zzad hg) e (uW he).1;have h2:=OV r f v e;simp only[he,Hw,zzah];split<;>simp<;>omega
def aay(r f:Int)(l:List Pg)(hl:∀g∈l,∀e∈g.ev,e.al.length<=1000)(vs:List Int)(i:Nat):(Mf r f l vs i).length<=1+i*1001:=by
 unfold Mf
 have h:∀l2:List Int,(l2.flatMap (iG r f l)).length<=l2.length*1001:=fun l2=>by
  induction l2 with
  |nil=>simp
  |cons a t ih=>
   have:=agn r f l hl a;rw[zzdf,zzah,zzbb,zzbp];omega
 have h1:=h (vs.take i);have h2:=List.length_take_le i vs;have h3:(vs.take i).length*1001<=i*1001:=zzba _ h2;simp only[zzbb];omega
def ago:SC:=.rfunc (.tmp 40) [41] (.ops [⟨(some 11),(.mv (.tmp 41)),none,[]⟩]) (.block 1 BA)
def agp(Y:YT)(orc:Nat->FuncId->List AV->AV)(ho:∀d l,orc d 999999 l=.junk)(E:List (Nat×AV))(mb:List (List AV))(ml:List Nat)(ms:Nat->LS)(mn:Nat)(r f lo hi:Int)(mZ:Rt)(l:List Pg)(Q:Exit->AS->Prop)
  (anq:∀d(L:List bD),orc d 48 [.sl .ro (L.map Qf),I f]=Tx f (y9 f L))
  (e6:Abs.look E 6=.ptr mb.length 0)(e7:Abs.look E 7=.ptr (mb.length+1) 0)(e9:Abs.look E 9=.ptr (mb.length+2) 0)(Mc:Abs.look E 10=.ptr (mb.length+3) 0)(e40:Abs.look E 40=.fn 104 [] [.ptr (mb.length+4) 0,.ptr (mb.length+5) 0])
  (NX:0<=lo)(hhi:hi<l.length)(wI:l.length<=1000)(cw:∀g∈l,g.ev.length<=1000000000/\∀e∈g.ev,Uh e/\e.al.length<=1000)(hf:f<=9223372036854775807)(tI:0<=r)
  (hQ:∀rt bx dx SA SB,Hy ml dx rt (sh0::(Vs lo hi).flatMap (iG r f l)).length->Q .normal ⟨Zf 96 E,⟨fI mb r f mZ l rt (sh0::(Vs lo hi).flatMap (iG r f l)) bx,dx,SA,SB⟩⟩):
  vc Tryz.prog az orc Y ago ⟨Zf 96 E,⟨fI mb r f mZ l .full [sh0] [[I lo],[I hi]],ml,ms,mn⟩⟩ Q:=by
 have cm:=Su (mb.length+4) (mb.length+5) lo hi NX (by omega);have gU:∀rt ps bx,(fI mb r f mZ l rt ps bx).length=mb.length+4+bx.length:=fun rt ps bx=>by simp[fI];omega
 have hvl:(Vs lo hi).length<=1000:=yG 1000 lo (by omega);have axv:=aay r f l (fun g hg e he=>((cw g hg).2 e he).2) (Vs lo hi);unfold ago;refine St (xs:=(Vs lo hi).map L9) (by simp[e40];try exact⟨rfl,rfl⟩) cm ?_ (by intro x hx;simp at hx;obtain⟨u,_,rfl⟩:=hx;rfl) (atn mb ml r f mZ l (Mf r f l (Vs lo hi))) (fun _ _ _=>False) ?_ ?_ (fun _ _ _ _ h=>h.elim) ?_ ?_ (fun _ _ _ h=>h.elim)
 ·simp[atj,AM.aY,fI]
 ·exact⟨by rintro j (rfl|rfl)<;>omega,.full,_,⟨⟨[],by simp⟩,.inl rfl⟩,by simp[Mf];rfl⟩
 ·rintro O i m1 m2 ⟨h1,rt,bx,h2,h3⟩ ⟨q1,q2,⟨lx,q3⟩,q4⟩;refine⟨?_,rt,?_⟩
  ·rintro j (h|h)
   ·exact h1 j h
   rw[h3,gU]at h;omega
  have:∃b2,m2.boxes=fI mb r f mZ l rt (Mf r f l (Vs lo hi) i) []++b2:=by
   refine Sy (by rw[h3,gU]at q1;rw[gU];simp;omega) fun j hj=>?_;rw[gU]at hj;rw[q2 j (by rw[h3,gU];simp at hj;omega) (fun ho=>by have:=h1 j ho;simp at hj;omega),h3];have:fI mb r f mZ l rt (Mf r f l (Vs lo hi) i) bx=fI mb r f mZ l rt (Mf r f l (Vs lo hi) i) []++bx:=by simp[fI]
   rw[this,Ql (by rw[gU];exact hj)]
  obtain⟨b2,mM⟩:=this;exact⟨b2,by rw[q3];exact h2.ext lx,by rw[mM];simp[fI]⟩
 ·rintro O lp i mm x tO ck hg0 fB ⟨h1,rt,bx,h2,h3⟩ hx K' k1 k2 k3
  obtain⟨v,hv,rfl⟩:∃v,(Vs lo hi)[i]?=some v/\L9 v=x:=by
   rw[zzbl]at hx;cases hq:(Vs lo hi)[i]? with
   |none=>rw[hq]at hx;cases hx
   |some y=>rw[hq]at hx;exact⟨y,rfl,Option.some.inj hx⟩
  have eS:=(zza.1 hv).1;obtain⟨v1,v2⟩:=Hz 1000 lo (by omega) (zzad hv);obtain⟨w,rfl⟩:=zzhc (show 0<=v by omega);obtain⟨g,hg⟩:∃g,l[w]?=some g:=⟨_,zzac (by omega)⟩;have hgm:=zzad hg
  have hps:Mf r f l (Vs lo hi) (i+1)=Mf r f l (Vs lo hi) i++iG r f l w:=by
   unfold Mf;rw[zzas,hv,zzgh,List.flatMap_append,zzdf,zzdv,zzau];rfl
  simp only[Ue,CQ]at h2 h3;obtain⟨mb2,ml2,ms2,mn2⟩:=mm;simp only at h2 h3 fB ck tO;subst h3;simp[fB,Zj,L9];show vc _ _ _ _ _ ⟨_,⟨fI mb r f mZ l rt (Mf r f l (Vs lo hi) i) bx,ml2,qq ms2 lp .busy,mn2⟩⟩ _;refine aaw Y orc ho _ mb ml ml2 (qq ms2 lp .busy) mn2 r f w mZ l rt _ bx g _ anq (by simp[e6]) (by simp[e7]) (by simp[e9]) (by simp[Mc]) (by simp) hg h2 (cw g hgm).1 (fun e he=>⟨((cw g hgm).2 e he).1,by have:=((cw g hgm).2 e he).2;omega⟩) hf tI (by have:=axv i;omega) ?_;intro x E' dx eY DN hx hp
  have w8:∀T,K' .normal ⟨T,⟨fI mb r f mZ l eY (Mf r f l (Vs lo hi) i++iG r f l w) (bx++DN),dx,qq ms2 lp .busy,mn2⟩⟩:=fun T=>by
   refine k1 _ ⟨?_,fun j hj=>?_⟩ ⟨h1,eY,bx++DN,by rw[hps];exact hp,by rw[hps];rfl⟩
   ·show(fI mb r f mZ l rt _ bx).length<=(fI mb r f mZ l eY _ (bx++DN)).length;rw[gU,gU,zzah];omega
   have hj4:=h1 j hj;have hj5:=tO j hj;rw[gU]at hj5 ck;rw[gU]at ck;simp only[zzbb,zzch]at ck;refine agm hj4 ?_;obtain(rfl|rfl)|hj5:=hj5
   ·omega
   ·omega
   rw[gU]at hj5;omega
  obtain rfl|rfl:=hx
  ·simp;exact w8 _
  simp;exact w8 _
 rintro O mm ⟨h1,rt,bx,h2,h3⟩
 have ht:Mf r f l (Vs lo hi) ((Vs lo hi).map L9).length=sh0::(Vs lo hi).flatMap (iG r f l):=by
  unfold Mf;rw[zzbg,zzbs]
 rw[ht]at h2 h3;obtain⟨mb2,ml2,ms2,mn2⟩:=mm;simp only at h2 h3;subst h3;exact hQ rt bx ml2 ms2 mn2 h2
end
end Go.Proofs.YtnopaopphmjnmaaGreatDoor
