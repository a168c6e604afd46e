import Derived.Test.YtnopaopphmjnmaaGreatDoorMDMcO
set_option linter.all false
set_option maxRecDepth 100000
set_option maxHeartbeats 64000000
namespace Go.Abs
open Go Go.RowKit
def akP(P:Program)(gl:Nat->AV)(f:FuncId)(first cap:List AV)(xs:List (List AV))(O0:Nat->Prop)(pre:AM->Prop):Prop:=
 ∀(Y:YT)(l:Nat)(m:AM)(K:AM->Prop),pre m->jr (Y l) K xs O0 m->an P gl Y f (first++[.yld l]++cap) m fun _ m'=>K m'
def Sv{P:Program}{gl:Nat->AV}{orc:Nat->FuncId->List AV->AV}{Y:YT}{s:AS}{Q:Exit->AS->Prop}{g:bN}{ps:List Nat}{lM body:SC}{f:FuncId}{first cap:List AV}{xs:List (List AV)}
  (hg:ev gl s.T g=.fn f first cap){O0:Nat->Prop}{pre:AM->Prop}(cH:akP P gl f first cap xs O0 pre)(ayz:pre s.m.aX)(aI:∀x∈xs,x.length=ps.length)(I:(Nat->Prop)->Nat->AM->Prop)(X:(Nat->Prop)->Exit->AM->Prop)
  (h0:I O0 0 s.m)
  (hI:∀O i m m',I O i m->bM O m m'->I (OU O m.boxes.length m'.boxes.length) i m')(hX:∀O ex m m',X O ex m->bM O m m'->X O ex m')
  (
   hb:∀(O:Nat->Prop)(l i:Nat)(m:AM)(x:List AV),(∀j,O j->O0 j\/(s.m.boxes.length<=j/\j<m.boxes.length))->s.m.boxes.length<=m.boxes.length->s.m.st l=.gone->m.st l=.ready->I O i (m.at_ l .gone)->xs[i]?=some x->∀K':Exit->AS->Prop,
   (∀s',AX O m s'.m->I O (i+1) (s'.m.at_ l .gone)->K' .normal s')->(∀s',m.boxes.length<=s'.m.boxes.length->X O .ret (s'.m.at_ l .gone)->K' .ret s')->(∀id s',m.boxes.length<=s'.m.boxes.length->X O (.exit id) (s'.m.at_ l .gone)->K' (.exit id) s')->
   vc P gl orc Y lM ⟨Qam s.T ps x,m⟩ (Fp l fun s'=>vc P gl orc Y body s' K'))
  (KJ:∀O m,I O xs.length m->Q .normal ⟨s.T,m⟩)(hex:∀O ex m,X O ex m->Q ex ⟨s.T,m⟩):vc P gl orc Y (.rfunc g ps lM body) s Q:=by
 simp only[vc,hg];intro hl;generalize dx:s.m.ln=l at hl;refine cH _ l s.m.aX (fun m'=>zl l s.T m' Q (m'.st l)) ayz ?_;have gG:∀{O:Nat->Prop}{m m':AM},m.st l=.ready->bM O m m'->m'.st l=.ready:=fun h e=>by rw[e.2.2.2 l (by rw[h];simp),h]
 have key:∀(n i:Nat)(O:Nat->Prop)(m:AM),i+n=xs.length->I O i (m.at_ l .gone)->(∀j,O j->O0 j\/(s.m.boxes.length<=j/\j<m.boxes.length))->s.m.boxes.length<=m.boxes.length->m.st l=.ready->
   jr (Yin Y l ps.length (fun args m K=>vc P gl orc Y lM ⟨Qam s.T ps args,m⟩ (Fp l fun s'=>vc P gl orc Y body s' (KH l K))) l) (fun m'=>zl l s.T m' Q (m'.st l)) (xs.drop i) O m:=by
  intro n;induction n with
  |zero=>
   intro i O m hi XV tL mz hm;rw[zzan (by omega)];intro m' e;simp only[gG hm e,zl];obtain rfl:i=xs.length:=by omega
   exact KJ _ _ (hI _ _ _ _ XV (e.gone l))
  |succ n ih=>
   intro i O m hi XV tL mz hm;have ai:i<xs.length:=by omega
   rw[zzaf ai];intro m' e K' hT hF;have Y8:s.m.boxes.length<=m'.boxes.length:=zzbm mz e.1
   have Ro:∀j,OU O m.boxes.length m'.boxes.length j->O0 j\/(s.m.boxes.length<=j/\j<m'.boxes.length):=by
    rintro j (h|h)
    ·exact(tL j h).imp id fun h=>⟨h.1,zzbb h.2 e.1⟩
    exact .inr ⟨by omega,h.2⟩
   have zg:=hI _ _ _ _ XV (e.gone l);simp only[Uc]at zg;simp only[Yin,if_true];refine⟨gG hm e,aI _ (zzdh ai),?_⟩;refine hb (OU O m.boxes.length m'.boxes.length) l i m' xs[i] Ro Y8 hl (gG hm e) zg (zzad ai) (KH l K') (fun s' hS' zg=>?_) (fun s' bX hQ=>?_) fun id s' bX hQ=>?_
   ·refine hT _ (by simpa[AX]using hS') (ih (i+1) _ _ (by omega) ?_ (fun j hj=>(Ro j hj).imp id fun h=>⟨h.1,by simpa using zzbb h.2 hS'.1⟩) (by simpa using zzbm Y8 hS'.1) (by simp));simpa using zg
   ·refine hF _ fun m3 e3=>?_;have h3:m3.st l=.done .ret:=by have:=e3.2.2.2 l (by simp);simpa using this
    simp only[h3];exact hex _ _ _ (hX _ _ _ _ hQ (by have:=e3.gone l;simpa using this))
   refine hF _ fun m3 e3=>?_;have h3:m3.st l=.done (.exit id):=by have:=e3.2.2.2 l (by simp);simpa using this
   simp only[h3];exact hex _ _ _ (hX _ _ _ _ hQ (by have:=e3.gone l;simpa using this))
 have hI0:I O0 0 (s.m.aX.at_ l .gone):=by
  have:=hI O0 0 s.m (s.m.aX.at_ l .gone) h0 ⟨by simp[AM.aX],fun j _ _=>by simp[AM.aX],⟨[],by simp[AM.aX]⟩,fun l' ez=>by
   have aJ:l'≠l:=by rintro rfl;exact ez hl
   simp[AM.aX,dx,ql,aJ]⟩
  have e:OU O0 s.m.boxes.length (s.m.aX.at_ l .gone).boxes.length=O0:=by
   funext j;apply propext;simp[OU,AM.aX];omega
  rw[e]at this;exact this
 have:=key xs.length 0 O0 s.m.aX (by simp) hI0 (fun _ h=>.inl h) (by simp[AM.aX]) (by simp[AM.aX,dx]);simpa using this
end Go.Abs
namespace Go.Proofs.YtnopaopphmjnmaaGreatDoor
noncomputable section
open Go Go.Abs
def Yi(lo hi:Int):List Int:=if lo<=hi then lo::Yi (lo+1) hi else[]
termination_by(hi+1-lo).toNat
def Ml(v:Int):List AV:=[I v]
def auo(a b:Nat)(lo hi:Int)(m:AM):Prop:=a<m.boxes.length/\b<m.boxes.length/\Qh m.boxes a=[I lo]/\Qh m.boxes b=[I hi]
def Sw(a b:Nat)(lo hi:Int)(h0:0<=lo)(h1:hi<=1000000000):akP Tryz.prog aq 104 [] [.ptr a 0,.ptr b 0] ((Yi lo hi).map Ml) (fun j=>j=a\/j=b) (auo a b lo hi):=by
 rintro Y l ⟨mb,ml,ms,mn⟩ K ⟨p1,p2,p3,p4⟩ hF;simp only at p1 p2 p3 p4;refine Xe acs (fun _ _ _=>.gd false .junk) (by simp) ?_;simp[ahz,p3];refine Qi I7 (fun g mm=>∃(v:Int)(O:Nat->Prop),g 4=I v/\0<=v/\b<mm.boxes.length/\Qh mm.boxes b=[I hi]/\O b/\jr (Y l) K ((Yi v hi).map Ml) O mm) (fun g _=>(hi+1-numOf (g 4)).toNat) ?_ ?_
 ·exact⟨lo,_,by simp,h0,by simpa using p2,by simpa using p4,.inr rfl,hF⟩
 rintro g mm ⟨v,O,h4,hv,hb,uq,hO,hFo⟩;by_cases ai:v<=hi
 ·rw[Yi,if_pos ai]at hFo;simp only[zzay,Ml]at hFo;have hw:IntKind.i64.wrap (v+1)=v+1:=by rw[Qk]<;>omega
  simp[h4,I7,ai,uq];refine hFo _ (bM.refl _ _) _ (fun m2 wI qm=>?_) (fun m2 hK=>?_)
  ·have q1:Qh m2.boxes b=[I hi]:=by rw[wI.2 b (.inl hO)];exact uq
   have AN:=wI.1;simp[hw];refine⟨aN,⟨by omega,by omega,q1,_,.inl hO,qm⟩,by omega⟩
  simp[TV];exact hK _ (bM.refl _ _)
 rw[Yi,if_neg ai]at hFo;simp[h4,I7,ai,uq,TV];exact hFo _ (bM.refl _ _)
def aup(Y:YT)(m:AM)(md:Nat)(M:Md)(pid aQ:Nat)(bh:List Rt)(bO:Rt)(z:List AV)(f:Int)(h:ic m.boxes md M pid aQ bh bO z)(hf:∀o∈M.os,0<=o.2/\o.2<=1000000000000)(K:AV->AM->Prop)
  (hK:K (.fn 104 [] [.ptr m.boxes.length 0,.ptr (m.boxes.length+1) 0]) {m with boxes:=m.boxes++[[I (yt f M.os)],[I (tZ f M.os)]]}):an Tryz.prog aq Y 47 [.ptr md 0,I f] m K:=by
 obtain⟨mb,ml,ms,mn⟩:=m;have ka:=fun K hK=>rM Y ⟨mb,ml,ms,mn⟩ md M pid aQ bh bO z f h hf K hK;refine Xe alD (fun _ _ _=>.gd false .junk) (by simp) ?_;simp[apS];refine ka _ ?_;simp[apT];simpa using hK
open Go Go.Abs
def wu6(n:Int)(h:0<=n)(h':n<=9223372036854775807):IntKind.u64.wrap n=n:=by
 simp[IntKind.wrap,IntKind.bits,IntKind.signed];omega
def Sx(e:bD)(f:Int)(h:Uf e)(hf:f<=9223372036854775807):Pure Tryz.prog aq 105 [.agg (Qf e),.ep [I f] 0] (.bool (Wt f e)):=by
 refine Qn acu (fun _ _ _=>.junk) (by simp) ?_;obtain⟨⟨a1,a2⟩,⟨a3,a4⟩,_⟩:=h;by_cases h1:e.st<=f
 ·have w1:=wu6 e.st (by omega) (by omega);have w2:=wu6 f (by omega) (by omega);have w3:=wu6 (f-e.st) (by omega) (by omega);have w4:=wu6 e.fr (by omega) (by omega);by_cases h2:0<e.fr
  ·have:(f-e.st<e.fr)=(f<e.st+e.fr):=by apply propext;omega
   simp[MU,MV,Qf,h1,h2,Wt,w1,w2,w3,w4,this]
  have:¬f<e.st+e.fr:=by omega
  simp[MU,MV,Qf,h1,h2,Wt,this]
 simp[MU,MV,Qf,h1,Wt]
def HB(L:List bD)(f:Int)(hL:L.length<=1000000000)(hs:∀e∈L,Uf e)(hf:f<=9223372036854775807):Pure Tryz.prog aq 106 [.sl .ro (L.map Qf),.fn 105 [] [.ep [I f] 0]] (I (gU f L 0)):=by
 refine Qn MX (Lx f) (by simp) ?_;simp[TW,MW];refine Qi iK (fun s m=>∃i:Nat,s 8=I i/\i<=L.length/\gU f (L.drop i) i=gU f L 0/\m=⟨[],[],fun _=>.gone,0⟩) (fun s m=>L.length-(numOf (s 8)).toNat) ?_ ?_
 ·exact⟨0,by simp,by omega,by simp,rfl⟩
 rintro s m ⟨i,hi,bX,hr,rfl⟩;rcases zzaa i L.length with ai|bw
 ·obtain⟨a,ha⟩:∃a,L[i]?=some a:=⟨L[i],zzad ai⟩;have aa:Qh (L.map Qf) i=Qf a:=Qr (by simp[ha]);have hw:=bH i (by omega);rw[Xy ha]at hr;have hp:Pure Tryz.prog aq 105 [.agg (Qf a),.ep [I f] 0] (.bool (Wt f a)):=Sx a f (hs a (zzac ha)) hf;have ho:decide (a.st<=f/\f<a.st+a.fr)=Wt f a:=rfl;by_cases h:Wt f a=true
  ·simp[gU,h]at hr;rw[h]at hp ho;simp at ho;simp[hi,aa,ai,Qf,Lx,iK,ho];exact⟨hp,hr⟩
  simp at h;simp[gU,h]at hr;rw[h]at hp ho
  have cB:decide (a.st<=f)=false\/decide (f<a.st+a.fr)=false:=by
   by_cases q:a.st<=f
   ·right;simp at ho |-;omega
   left;simp[q]
  simp only[decide_eq_false_iff_not]at ho;simp[hi,aa,ai,Qf,Lx,iK,ho,hw];refine⟨hp,aN,⟨i+1,by simp,by omega,hr⟩,by omega⟩
 rw[zzan bw]at hr;simp[hi,zzdt.2 bw,iK];exact hr
def aaL(L:List bD)(f:Int)(hL:L.length<=1000000000)(hs:∀e∈L,Uf e)(hf:f<=9223372036854775807):Pure Tryz.prog aq 48 [.sl .ro (L.map Qf),I f] (Tt f (zJ f L)):=by
 have LP:=HB L f hL hs hf;refine Qn alG (fun _ g l=>if g=106 then I (gU f L 0)else l.headD .junk) (by simp) ?_;cases D9:zJ f L with
 |none=>
  rw[xJ D9]at LP |-
  simp[alE,alF,Tt,Z4];exact LP
 |some a=>
  obtain⟨k,h1,h2,h3⟩:=xK (i:=0) D9;rw[h1]at LP |-
  have ai:k<L.length:=(zza.1 h2).1;have aa:Qh (L.map Qf) k=Qf a:=Qr (by simp[h2]);obtain⟨⟨a1,a2⟩,⟨a3,a4⟩,⟨a7,a8⟩,a9⟩:=hs a (zzac h2);have hon:a.st<=f/\f<a.st+a.fr:=by simpa[Wt]using h3
  have w1:IntKind.i64.wrap (a.i+f)=a.i+f:=by rw[Qk]<;>omega
  have w2:IntKind.i64.wrap (a.i+f-a.st)=a.i+f-a.st:=by rw[Qk]<;>omega
  rw[zzbt]at LP;have hcn:=Ur a.al a9;simp[alE,alF,Tt,ai,aa,Qf];refine⟨LP,hcn,Qay [(.junk,⟨[[I f],[I a.id,I a.it,I a.st,I a.fr,I a.i,I a.re,.sl .ro (a.al.map Qe)],[I a.id,I a.it,I a.st,I a.fr,I a.i,I a.re,.sl .ro (a.al.map Qe)]],[],fun _=>.gone,0⟩)] ?_⟩;simp[w1,w2]
open Go Go.Abs
abbrev Sh:=Int×Int×Int
def Vs(s:Sh):List AV:=[I s.1,I s.2.1,I s.2.2]
def aoi(re r:Int):Bool:=decide (re.fdiv (2 ^ (min r.toNat 64))%2=1)
def Bv(r f v:Int)(e:bD)(al:List Sp):List Sh:=(al.filter fun a=>decide (a.1=r)).map fun a=>(a.2,f-(e.st-e.i),v)
def Mm(r f v:Int)(e:bD):List Sh:=(if aoi e.re r=true then[(e.it,e.i+f-e.st,v)]else[])++Bv r f v e e.al
def j6(r f:Int)(l:List Pg)(v:Int):List Sh:=match l[v.toNat]? with
 |none=>[]
 |some g=>match zJ f g.ev with
  |none=>[]
  |some e=>Mm r f v e
def sh0:Sh:=(0,0,0)
def Ve(M:Md)(c r f:Int):List Sh:=match Hw M c with
 |none=>[]
 |some l=>match l with
  |[]=>[]
  |g::_=>if r<0\/g.p.rg<=r then[]else sh0::(Yi (yt f M.os) (tZ f M.os)).flatMap (j6 r f l)
def Sy(r f v:Int)(e:bD)(al:List Sp)(a:Sp):Bv r f v e (al++[a])=Bv r f v e al++if a.1=r then[(a.2,f-(e.st-e.i),v)]else[]:=by
 unfold Bv;rw[zzcr,zzbw];by_cases h:a.1=r<;>simp[h]
def aaM:SC:=(⟨_,by cbv⟩:tJ [1,0,1,1,1,1,0,1,0,1,0,1,1,1] IM).1
def Bw:SC:=(⟨_,fun _=>by cbv⟩:Kt [1,1,1] (Kj [1,0,1,1,1,1,0,1,0,1,0] IM)).1 aaM
def HC(ml ls:List Nat)(rt:Rt)(n:Nat):Prop:=(∃lx,ls=ml++lx)/\(rt=.full\/∃k,rt=.own k 3/\ml.length<=k/\ls[k]?=some n)
def HC.full{ml ls:List Nat}{n n':Nat}(h:HC ml ls .full n):HC ml (ls++[n']) (.own ls.length 3) n':=by
 obtain⟨⟨lx,rfl⟩,_⟩:=h;exact⟨⟨lx++[n'],by simp⟩,.inr ⟨_,rfl,by simp,by simp⟩⟩
def HC.own{ml ls:List Nat}{k n n':Nat}(h:HC ml ls (.own k 3) n):HC ml (ls.set k n') (.own k 3) n':=by
 obtain⟨⟨lx,rfl⟩,h⟩:=h;obtain h|⟨k',h1,h2,h3⟩:=h
 ·cases h
 cases h1;refine⟨⟨lx.set (k-ml.length) n',by rw[zzcq _ _ h2]⟩,.inr ⟨k,rfl,h2,?_⟩⟩;rw[zzaz (zza.1 h3).1]
def fH(mb:List (List AV))(r f:Int)(mP:Rt)(l:List Pg)(rt:Rt)(ps:List Sh)(bx:List (List AV)):List (List AV):=mb++([I r]::[I f]::[.sl mP (l.map Qo)]::[.sl rt (ps.map Vs)]::bx)
def auq(mb:List (List AV))(ml:List Nat)(ms:Nat->LS)(mn:Nat)(r f v:Int)(mP:Rt)(l:List Pg)(ps:List Sh)(cx:List (List AV))(e:bD)(g:Nat->AV)(m:AM):Prop:=
 ∃(i:Nat)(ls:List Nat)(rt:Rt)(b2:List (List AV)),g 72=I i/\i<=e.al.length/\HC ml ls rt (ps++Bv r f v e (e.al.take i)).length/\m=⟨fH mb r f mP l rt (ps++Bv r f v e (e.al.take i)) (cx++b2),ls,ms,mn⟩
def yu(Y:YT)(orc:Nat->FuncId->List AV->AV)(ho:∀d l,orc d 999999 l=.junk)(E:List (Nat×AV))(mb:List (List AV))(ml ls:List Nat)(ms:Nat->LS)(mn:Nat)(r f v:Int)(mP:Rt)(l:List Pg)(rt:Rt)(ps:List Sh)(cx:List (List AV))(n:Nat)(e:bD)(Q:Exit->AS->Prop)
  (e6:Abs.look E 6=.ptr mb.length 0)(e7:Abs.look E 7=.ptr (mb.length+1) 0)(e10:Abs.look E 10=.ptr (mb.length+3) 0)(e11:Abs.look E 11=I v)(e12:Abs.look E 12=.ptr (mb.length+(n+4)) 0)(hn:n<cx.length)(hcx:Qh cx n=Qf e)
  (hr:HC ml ls rt ps.length)(hs:Uf e)(ei:e.al.length<=1000000)(hf:0<=f/\f<=2000000)(hps:ps.length+e.al.length<=1000000000)
  (hQ:∀E' dg fe DG,HC ml dg fe (ps++Bv r f v e e.al).length->Q .normal ⟨Zb 96 E',⟨fH mb r f mP l fe (ps++Bv r f v e e.al) (cx++DG),dg,ms,mn⟩⟩):
  vc Tryz.prog aq orc Y aaM ⟨Zb 96 E,⟨fH mb r f mP l rt ps cx,ls,ms,mn⟩⟩ Q:=by
 obtain⟨⟨a1,a2⟩,⟨a3,a4⟩,⟨a5,a6⟩,a7⟩:=hs;have eO:IntKind.i64.wrap (e.st-e.i)=e.st-e.i:=by rw[Qk]<;>omega
 have eC:IntKind.i64.wrap (f-(e.st-e.i))=f-(e.st-e.i):=by rw[Qk]<;>omega
 simp only[Qf]at hcx;simp[aaM,fH,e12,hcx];refine Qi Ee (auq mb ml ms mn r f v mP l ps cx e) (fun g _=>e.al.length-(numOf (g 72)).toNat) ?_ ?_
 ·exact⟨0,ls,rt,[],by simp,by omega,by simpa[Bv]using hr,by simp[Bv,fH]⟩
 rintro g m ⟨i,ls,rt,b2,h72,hi,hr,rfl⟩;have WT:∀y,Qh ((cx++b2)++y) n=Qf e:=fun y=>by rw[Ql (by simp;omega),Ql hn];exact hcx
 have ayA:Qh (cx++b2) n=Qf e:=by rw[Ql hn];exact hcx
 have hny:n<(cx++b2).length:=by simp;omega
 have azy:n<(cx++b2).length+1:=by omega
 have D6:∀b3,(cx++b2)++b3=cx++(b2++b3):=fun _=>zzba _ _ _;generalize hCY:cx++b2=cy at*
 simp only[Qf]at WT ayA;rcases zzaa i e.al.length with ai|bw
 ·obtain⟨a,ha⟩:=aP ai;have aa:Qh (e.al.map Qe) i=Qe a:=Qr (by simp[ha]);have ah:(i:Int)<(e.al.length:Int):=by omega
  have hw:=bH i (by omega);have bA:e.al.take (i+1)=e.al.take i++[a]:=by rw[zzar,ha];rfl
  have gC:(ps++Bv r f v e (e.al.take i)).length<=ps.length+i:=by
   have h1:=zzbs (fun a:Sp=>decide (a.1=r)) (e.al.take i);have h2:=List.length_take_le i e.al;simp only[Bv,zzai,zzbg];omega
  have mD:=Sy r f v e (e.al.take i) a;rw[<- bA]at mD;generalize hPS:ps++Bv r f v e (e.al.take i)=PS at*
  have s5:ps++Bv r f v e (e.al.take (i+1))=PS++if a.1=r then[(a.2,f-(e.st-e.i),v)]else[]:=by rw[mD,<- zzba,hPS]
  by_cases hc:a.1=r
  ·rw[if_pos hc]at s5;have Oc:∀row∈PS.map Vs,row.length=3:=by rintro row h;obtain⟨x,_,rfl⟩:=zzaw.1 h;rfl
   rcases hr.2 with rfl|⟨k,rfl,cZ,dw⟩
   ·simp[h72,ah,aa,Qe,Ee,hw,hc,fH,e6,e7,e10,e11,e12,ho,eO,eC,WT,zzao];refine⟨⟨?_,by omega⟩,aN,⟨i+1,_,_,b2++[[I r,I a.2]],by simp,by omega,by rw[s5,zzai];exact hr.full,by rw[s5,<- D6];simp[fH,Vs]⟩,by omega⟩
    ·rintro row (⟨x,y,z,_,rfl⟩|rfl)<;>rfl
   simp[h72,ah,aa,Qe,Ee,hw,hc,fH,e6,e7,e10,e11,e12,ho,eO,eC,WT,zzao,dw];refine⟨⟨?_,by omega⟩,aN,⟨i+1,_,_,b2++[[I r,I a.2]],by simp,by omega,by rw[s5,zzai];exact hr.own,by rw[s5,<- D6];simp[fH,Vs]⟩,by omega⟩
   ·rintro row (⟨x,y,z,_,rfl⟩|rfl)<;>rfl
  rw[if_neg hc,zzat]at s5;simp[h72,ah,aa,Qe,Ee,hw,hc,fH,e6,zzao];refine⟨aN,⟨i+1,_,_,b2++[[I a.1,I a.2]],by simp,by omega,by rw[s5];exact hr,by rw[s5,<- D6];simp[fH]⟩,by omega⟩
 have hte:e.al.take i=e.al:=zzam bw;have bJ:¬(i:Int)<(e.al.length:Int):=by omega
 rw[hte]at hr |-
 simp[h72,bJ,Ee];rw[<- hCY];exact hQ _ _ _ _ hr
def DH{f:Int}{e:bD}:∀{L:List bD},zJ f L=some e->e∈L/\e.st<=f/\f<e.st+e.fr
 |[],h=>by cases h
 |a::r,h=>by
  simp only[zJ]at h;split at h
  ·rename_i ho;cases h;exact⟨by simp,by simpa[Wt]using ho⟩
  have:=DH h;exact⟨by simp[this.1],this.2⟩
def O6(r f v:Int)(e:bD):(Bv r f v e e.al).length<=e.al.length:=by
 unfold Bv;rw[zzbg];exact zzbs _ _
def akQ{c a b:Prop}{i:Decidable c}(h:c)(ha:a):@ite Prop c i a b:=by rw[if_pos h];exact ha
def aur{c a b:Prop}{i:Decidable c}(h:¬c)(hb:b):@ite Prop c i a b:=by rw[if_neg h];exact hb
def aaN(Y:YT)(orc:Nat->FuncId->List AV->AV)(ho:∀d l,orc d 999999 l=.junk)(E:List (Nat×AV))(mb:List (List AV))(ml ls:List Nat)(ms:Nat->LS)(mn:Nat)(r f:Int)(v:Nat)(mP:Rt)(l:List Pg)(rt:Rt)(ps:List Sh)(bx:List (List AV))(g:Pg)(Q:Exit->AS->Prop)
  (aoj:∀d(L:List bD),orc d 48 [.sl .ro (L.map Qf),I f]=Tt f (zJ f L))
  (e6:Abs.look E 6=.ptr mb.length 0)(e7:Abs.look E 7=.ptr (mb.length+1) 0)(e9:Abs.look E 9=.ptr (mb.length+2) 0)(e10:Abs.look E 10=.ptr (mb.length+3) 0)(e11:Abs.look E 11=I (v:Int))(hg:l[v]?=some g)
  (hr:HC ml ls rt ps.length)(cA:g.ev.length<=1000000000)(hs:∀e∈g.ev,Uf e/\e.al.length<=1000000)(hf:f<=9223372036854775807)(tH:0<=r)(hps:ps.length<=100000000)
  (hQ:∀x E' dg fe DG,(x=.normal\/x=.exit 1)->HC ml dg fe (ps++j6 r f l v).length->Q x ⟨Zb 96 E',⟨fH mb r f mP l fe (ps++j6 r f l v) (bx++DG),dg,ms,mn⟩⟩):
  vc Tryz.prog aq orc Y Bw ⟨Zb 96 E,⟨fH mb r f mP l rt ps bx,ls,ms,mn⟩⟩ Q:=by
 have k48:=aaL g.ev f cA (fun e he=>(hs e he).1) hf;have O5:=fun d=>aoj d g.ev;have ai:v<l.length:=(zza.1 hg).1;have aa:Qh (l.map Qo) v=Qo g:=Qr (by simp[hg]);have Oc:∀row∈ps.map Vs,row.length=3:=by rintro row h;obtain⟨x,_,rfl⟩:=zzaw.1 h;rfl
 cases D9:zJ f g.ev with
 |none=>
  have jU:j6 r f l (v:Int)=[]:=by simp[j6,hg,D9]
  rw[jU,zzat]at hQ;rw[D9]at k48 O5;simp only[Tt,Z4]at k48 O5;simp[Bw];refine Xz ?_;simp[fH,e7,e9,e11,ai,aa,Qo,Qc,O5];exact⟨k48,hQ (.exit 1) _ _ _ [[I 0,I 0,I 0,I 0,I 0,I 0,.sl .nil []]] (.inr rfl) hr⟩
 |some e=>
  obtain⟨he,ho1,ho2⟩:=DH D9;obtain⟨hs1,KI⟩:=hs e he;have agL:=hs1;obtain⟨⟨a1,a2⟩,⟨a3,a4⟩,⟨a5,a6⟩,a7⟩:=hs1;have jU:j6 r f l (v:Int)=Mm r f v e:=by simp[j6,hg,D9]
  rw[jU]at hQ;rw[D9]at k48 O5;simp only[Tt,Qf]at k48 O5;have iU:=O6 r f v e;by_cases hb:e.re.fdiv (2 ^ (min r.toNat 64))%2=1
  ·have hpe:Mm r f v e=(e.it,e.i+f-e.st,(v:Int))::Bv r f v e e.al:=by simp[Mm,aoi,hb]
   rw[hpe]at hQ;have hQ':∀(x:Exit)(E':List (Nat×AV))(dg:List Nat)(fe:Rt)(DG:List (List AV)),(x=.normal\/x=.exit 1)->HC ml dg fe ((ps++[(e.it,e.i+f-e.st,(v:Int))])++Bv r f v e e.al).length->Q x ⟨Zb 96 E',⟨fH mb r f mP l fe ((ps++[(e.it,e.i+f-e.st,(v:Int))])++Bv r f v e e.al) (bx++DG),dg,ms,mn⟩⟩:=fun x E' dg fe DG hx=>by rw[zzba];exact hQ x E' dg fe DG hx
   rcases hr.2 with rfl|⟨k,rfl,cZ,dw⟩
   ·simp[Bw];refine Xz ?_;simp[fH,e6,e7,e9,e10,e11,ai,aa,Qo,Qc,O5,tH,IntKind.bits,ho];refine⟨k48,?_⟩;refine akQ ((aaO _).trans hb) ⟨⟨?_,by omega⟩,?_⟩
    ·rintro row (⟨x,y,z,_,rfl⟩|rfl)<;>rfl
    refine yu Y orc ho _ mb ml _ ms mn r f v mP l _ (ps++[(e.it,e.i+f-e.st,(v:Int))]) (bx++[Qf e]) bx.length e Q (by simp[e6]) (by simp[e7]) (by simp[e10]) (by simp[e11]) (by simp) (by simp) (by simp) (by rw[zzai];exact hr.full) agL KI (by omega) (by simp;omega) ?_ |> fun h=>(by simpa[fH,Vs,Qf]using h);intro E' dg fe DG hp;have:=hQ' .normal E' dg fe (Qf e::DG) (.inl rfl) hp;simpa using this
   simp[Bw];refine Xz ?_;simp[fH,e6,e7,e9,e10,e11,ai,aa,Qo,Qc,O5,tH,IntKind.bits,ho,dw];refine⟨k48,?_⟩;refine akQ ((aaO _).trans hb) ⟨⟨?_,by omega⟩,?_⟩
   ·rintro row (⟨x,y,z,_,rfl⟩|rfl)<;>rfl
   refine yu Y orc ho _ mb ml _ ms mn r f v mP l _ (ps++[(e.it,e.i+f-e.st,(v:Int))]) (bx++[Qf e]) bx.length e Q (by simp[e6]) (by simp[e7]) (by simp[e10]) (by simp[e11]) (by simp) (by simp) (by simp) (by rw[zzai];exact hr.own) agL KI (by omega) (by simp;omega) ?_ |> fun h=>(by simpa[fH,Vs,Qf]using h);intro E' dg fe DG hp;have:=hQ' .normal E' dg fe (Qf e::DG) (.inl rfl) hp;simpa using this
  have hpe:Mm r f v e=Bv r f v e e.al:=by simp[Mm,aoi,hb]
  rw[hpe]at hQ;simp[Bw];refine Xz ?_;simp[fH,e6,e7,e9,e10,e11,ai,aa,Qo,Qc,O5,tH,IntKind.bits,ho];refine⟨k48,?_⟩;refine aur (fun h=>hb ((aaO _).symm.trans h)) ?_;refine yu Y orc ho _ mb ml _ ms mn r f v mP l _ ps (bx++[Qf e]) bx.length e Q (by simp[e6]) (by simp[e7]) (by simp[e10]) (by simp[e11]) (by simp) (by simp) (by simp) hr agL KI (by omega) (by omega) ?_;intro E' dg fe DG hp;have:=hQ .normal E' dg fe (Qf e::DG) (.inl rfl) hp;simpa using this
open Go Go.Abs
def an.wk{P:Program}{gl:Nat->AV}{Y:YT}{f:FuncId}{xs:List AV}{m:AM}{K:AV->AM->Prop}(h:an P gl Y f xs m fun r m'=>∃r',Wk r r'/\K r' m'):an P gl Y f xs m K:=by
 refine⟨h.1,fun N w0 au γ w vs hm hl hg hy hr=>CallsIn.mono (h.2 N w0 au γ w vs hm hl hg hy hr) ?_⟩;rintro en w' ⟨v,γ',r,m',g0,g1,g2,g3,g4,r',g5,g6⟩;exact⟨v,γ',r',m',g0,g1,g2,g3,g5 _ _ _ g4,g6⟩
def SA{B B':List (List AV)}(h:B.length<=B'.length)(h2:∀j,j<B.length->Qh B' j=Qh B j):∃bx,B'=B++bx:=by
 refine⟨B'.drop B.length,?_⟩;rw[<- zzd B.length B'];congr 1
 ·apply zzed
  ·rw[zzaq];omega
  intro j h3 h4;have:=h2 j h4;unfold Qh at this;rw[zzas,zzas,zzad h4,zzad (by omega)]at this;simpa using this
 rw[zzd]
def HD{x hi:Int}:∀(n:Nat)(a:Int),(hi+1-a).toNat<=n->x∈Yi a hi->a<=x/\x<=hi
 |0,a,hn,h=>by rw[Yi,if_neg (by omega)]at h;cases h
 |n+1,a,hn,h=>by
  rw[Yi]at h;split at h
  ·rcases zzau.1 h with rfl|h
   ·omega
   have:=HD n (a+1) (by omega) h;omega
  cases h
def yw{hi:Int}:∀(n:Nat)(a:Int),(hi+1-a).toNat<=n->(Yi a hi).length<=n
 |0,a,hn=>by rw[Yi,if_neg (by omega)];exact zzab _
 |n+1,a,hn=>by
  rw[Yi];split
  ·have:=yw (hi:=hi) n (a+1) (by omega);simp only[zzbd];omega
  exact zzcc _
def agM{mb:List (List AV)}{r f:Int}{mP:Rt}{l:List Pg}{rt fe:Rt}{ps ps':List Sh}{bx DG:List (List AV)}{j:Nat}(h1:mb.length+4<=j)(h2:j<mb.length+4+bx.length):
  Qh (fH mb r f mP l fe ps' (bx++DG)) j=Qh (fH mb r f mP l rt ps bx) j:=by
 obtain⟨k,rfl⟩:∃k,j=mb.length+4+k:=⟨j-(mb.length+4),by omega⟩
 have e:∀(a b c d:List AV)(y:List (List AV)),Qh (mb++(a::b::c::d::y)) (mb.length+4+k)=Qh y k:=fun a b c d y=>by
  unfold Qh;rw[zzas,zzas,zzal (by omega)];rw[show mb.length+4+k-mb.length=k+4 by omega];simp
 rw[fH,fH,e,e,Ql (by omega)]
def aus(mb:List (List AV))(ml:List Nat)(r f:Int)(mP:Rt)(l:List Pg)(ps:Nat->List Sh)(O:Nat->Prop)(i:Nat)(mm:AM):Prop:=
 (∀j,O j->mb.length+4<=j)/\∃rt bx,HC ml mm.lens rt (ps i).length/\mm.boxes=fH mb r f mP l rt (ps i) bx
def HC.ext{ml ls:List Nat}{rt:Rt}{n:Nat}(h:HC ml ls rt n)(lx:List Nat):HC ml (ls++lx) rt n:=by
 obtain⟨⟨l2,rfl⟩,h⟩:=h;refine⟨⟨l2++lx,by simp⟩,h.imp id ?_⟩;rintro⟨k,h1,h2,h3⟩;exact⟨k,h1,h2,by rw[zzag (zza.1 h3).1];exact h3⟩
def Mn(r f:Int)(l:List Pg)(vs:List Int)(i:Nat):List Sh:=sh0::(vs.take i).flatMap (j6 r f l)
def agN(r f:Int)(l:List Pg)(hl:∀g∈l,∀e∈g.ev,e.al.length<=1000)(v:Int):(j6 r f l v).length<=1001:=by
 unfold j6;cases hg:l[v.toNat]? with
 |none=>simp
 |some g=>
  cases he:zJ f g.ev with
  |none=>simp[he]
  |some e=>
   have h1:=hl g (zzac hg) e (DH he).1;have h2:=O6 r f v e;simp only[he,Mm,zzai];split<;>simp<;>omega
def aaP(r f:Int)(l:List Pg)(hl:∀g∈l,∀e∈g.ev,e.al.length<=1000)(vs:List Int)(i:Nat):(Mn r f l vs i).length<=1+i*1001:=by
 unfold Mn
 have h:∀l2:List Int,(l2.flatMap (j6 r f l)).length<=l2.length*1001:=fun l2=>by
  induction l2 with
  |nil=>simp
  |cons a t ih=>
   have:=agN r f l hl a;rw[zzdc,zzai,zzbd,zzbp];omega
 have h1:=h (vs.take i);have h2:=List.length_take_le i vs;have h3:(vs.take i).length*1001<=i*1001:=zzb _ h2;simp only[zzbd];omega
def agO:SC:=.rfunc (.tmp 40) [41] (.ops [⟨(some 11),(.mv (.tmp 41)),none,[]⟩]) (.block 1 Bw)
def agP(Y:YT)(orc:Nat->FuncId->List AV->AV)(ho:∀d l,orc d 999999 l=.junk)(E:List (Nat×AV))(mb:List (List AV))(ml:List Nat)(ms:Nat->LS)(mn:Nat)(r f lo hi:Int)(mP:Rt)(l:List Pg)(Q:Exit->AS->Prop)
  (aoj:∀d(L:List bD),orc d 48 [.sl .ro (L.map Qf),I f]=Tt f (zJ f L))
  (e6:Abs.look E 6=.ptr mb.length 0)(e7:Abs.look E 7=.ptr (mb.length+1) 0)(e9:Abs.look E 9=.ptr (mb.length+2) 0)(e10:Abs.look E 10=.ptr (mb.length+3) 0)(e40:Abs.look E 40=.fn 104 [] [.ptr (mb.length+4) 0,.ptr (mb.length+5) 0])
  (N3:0<=lo)(hhi:hi<l.length)(zn:l.length<=1000)(cA:∀g∈l,g.ev.length<=1000000000/\∀e∈g.ev,Uf e/\e.al.length<=1000)(hf:f<=9223372036854775807)(tH:0<=r)
  (hQ:∀rt bx dg SB SD,HC ml dg rt (sh0::(Yi lo hi).flatMap (j6 r f l)).length->Q .normal ⟨Zb 96 E,⟨fH mb r f mP l rt (sh0::(Yi lo hi).flatMap (j6 r f l)) bx,dg,SB,SD⟩⟩):
  vc Tryz.prog aq orc Y agO ⟨Zb 96 E,⟨fH mb r f mP l .full [sh0] [[I lo],[I hi]],ml,ms,mn⟩⟩ Q:=by
 have cH:=Sw (mb.length+4) (mb.length+5) lo hi N3 (by omega);have gR:∀rt ps bx,(fH mb r f mP l rt ps bx).length=mb.length+4+bx.length:=fun rt ps bx=>by simp[fH];omega
 have hvl:(Yi lo hi).length<=1000:=yw 1000 lo (by omega);have ayB:=aaP r f l (fun g hg e he=>((cA g hg).2 e he).2) (Yi lo hi);unfold agO;refine Sv (xs:=(Yi lo hi).map Ml) (by simp[e40];try exact⟨rfl,rfl⟩) cH ?_ (by intro x hx;simp at hx;obtain⟨u,_,rfl⟩:=hx;rfl) (aus mb ml r f mP l (Mn r f l (Yi lo hi))) (fun _ _ _=>False) ?_ ?_ (fun _ _ _ _ h=>h.elim) ?_ ?_ (fun _ _ _ h=>h.elim)
 ·simp[auo,AM.aX,fH]
 ·exact⟨by rintro j (rfl|rfl)<;>omega,.full,_,⟨⟨[],by simp⟩,.inl rfl⟩,by simp[Mn];rfl⟩
 ·rintro O i m1 m2 ⟨h1,rt,bx,h2,h3⟩ ⟨q1,q2,⟨lx,q3⟩,q4⟩;refine⟨?_,rt,?_⟩
  ·rintro j (h|h)
   ·exact h1 j h
   rw[h3,gR]at h;omega
  have:∃b2,m2.boxes=fH mb r f mP l rt (Mn r f l (Yi lo hi) i) []++b2:=by
   refine SA (by rw[h3,gR]at q1;rw[gR];simp;omega) fun j hj=>?_;rw[gR]at hj;rw[q2 j (by rw[h3,gR];simp at hj;omega) (fun ho=>by have:=h1 j ho;simp at hj;omega),h3];have:fH mb r f mP l rt (Mn r f l (Yi lo hi) i) bx=fH mb r f mP l rt (Mn r f l (Yi lo hi) i) []++bx:=by simp[fH]
   rw[this,Ql (by rw[gR];exact hj)]
  obtain⟨b2,og⟩:=this;exact⟨b2,by rw[q3];exact h2.ext lx,by rw[og];simp[fH]⟩
 ·rintro O lp i mm x tL bX hg0 gG ⟨h1,rt,bx,h2,h3⟩ hx K' k1 k2 k3
  obtain⟨v,hv,rfl⟩:∃v,(Yi lo hi)[i]?=some v/\Ml v=x:=by
   rw[zzbl]at hx;cases hq:(Yi lo hi)[i]? with
   |none=>rw[hq]at hx;cases hx
   |some y=>rw[hq]at hx;exact⟨y,rfl,Option.some.inj hx⟩
  have gL:=(zza.1 hv).1;obtain⟨v1,v2⟩:=HD 1000 lo (by omega) (zzac hv);obtain⟨w,rfl⟩:=zzgs (show 0<=v by omega);obtain⟨g,hg⟩:∃g,l[w]?=some g:=⟨_,zzad (by omega)⟩;have hgm:=zzac hg
  have hps:Mn r f l (Yi lo hi) (i+1)=Mn r f l (Yi lo hi) i++j6 r f l w:=by
   unfold Mn;rw[zzar,hv,zzek,List.flatMap_append,zzdc,zzds,zzat];rfl
  simp only[Uc,CJ]at h2 h3;obtain⟨mb2,ml2,ms2,mn2⟩:=mm;simp only at h2 h3 gG bX tL;subst h3;simp[gG,Zi,Ml];show vc _ _ _ _ _ ⟨_,⟨fH mb r f mP l rt (Mn r f l (Yi lo hi) i) bx,ml2,ql ms2 lp .busy,mn2⟩⟩ _;refine aaN Y orc ho _ mb ml ml2 (ql ms2 lp .busy) mn2 r f w mP l rt _ bx g _ aoj (by simp[e6]) (by simp[e7]) (by simp[e9]) (by simp[e10]) (by simp) hg h2 (cA g hgm).1 (fun e he=>⟨((cA g hgm).2 e he).1,by have:=((cA g hgm).2 e he).2;omega⟩) hf tH (by have:=ayB i;omega) ?_;intro x E' dg fe DG hx hp
  have wK:∀T,K' .normal ⟨T,⟨fH mb r f mP l fe (Mn r f l (Yi lo hi) i++j6 r f l w) (bx++DG),dg,ql ms2 lp .busy,mn2⟩⟩:=fun T=>by
   refine k1 _ ⟨?_,fun j hj=>?_⟩ ⟨h1,fe,bx++DG,by rw[hps];exact hp,by rw[hps];rfl⟩
   ·show(fH mb r f mP l rt _ bx).length<=(fH mb r f mP l fe _ (bx++DG)).length;rw[gR,gR,zzai];omega
   have hj4:=h1 j hj;have hj5:=tL j hj;rw[gR]at hj5 bX;rw[gR]at bX;simp only[zzbd,zzcf]at bX;refine agM hj4 ?_;obtain(rfl|rfl)|hj5:=hj5
   ·omega
   ·omega
   rw[gR]at hj5;omega
  obtain rfl|rfl:=hx
  ·simp;exact wK _
  simp;exact wK _
 rintro O mm ⟨h1,rt,bx,h2,h3⟩
 have ht:Mn r f l (Yi lo hi) ((Yi lo hi).map Ml).length=sh0::(Yi lo hi).flatMap (j6 r f l):=by
  unfold Mn;rw[zzbg,zzbn]
 rw[ht]at h2 h3;obtain⟨mb2,ml2,ms2,mn2⟩:=mm;simp only at h2 h3;subst h3;exact hQ rt bx ml2 ms2 mn2 h2
end
end Go.Proofs.YtnopaopphmjnmaaGreatDoor
