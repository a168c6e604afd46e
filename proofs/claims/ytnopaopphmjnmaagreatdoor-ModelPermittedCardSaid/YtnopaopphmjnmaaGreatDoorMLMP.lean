import Derived.Test.YtnopaopphmjnmaaGreatDoorMLMF
set_option linter.all false
namespace Go.Abs
open Go Go.RowKit
def AM.wr(m:AM)(id:Nat)(cs:List AV):AM:={m with boxes:=m.boxes.set id cs}
def awR(m:AM)(id:Nat)(cs:List AV){c:List AV}(h:m.boxes[id]?=some c):(m.wr id cs).B=fun i=>if i=id then some cs else m.B i:=by
 funext i;simp only[AM.B,AM.wr];have ai:id<m.boxes.length:=(zza.1 h).1;by_cases hi:i=id
 ·subst hi;simp[ai]
 rw[zzbe (fun h=>hi h.symm),if_neg hi]
def aj(zs:List Int):List AV:=zs.map (AV.int .i64)
def an.fV{P:Program}{gl:Nat->AV}{Y:YT}{f:FuncId}{xs:List AV}{m:AM}{K:AV->AM->Prop}(hc:bC P f)
  (
   h:∀(N:Nat)(w0:ir)(aq:Nat->Nat->Prop)(γ:G)(w:World)(vs:List Value),au N w0 aq γ w m.B m.L->cO γ w m->ak w γ xs vs->
   Calls P f vs.toArray w fun e w'=>∃v γ' r m',e=.returned v/\eD w γ w' γ'/\au N w0 aq γ' w' m'.B m'.L/\cO γ' w' m'/\aB w' γ' r v/\K r m'):an P gl Y f xs m K:=
 ⟨hc,fun N w0 aq γ w vs hm hl _ _ hr=>(callsIn_wide (n:=0)).2 (h N w0 aq γ w vs hm hl hr)⟩
def xB{w:World}{γ:G}:aB w γ (.aW []) (.tuple #[]):=.aW rfl fun i c v h=>by simp at h
open Go Go.RowKit
abbrev I(n:Int):AV:=.int .i64 n
section
variable {H:Type} {P:Program} {n:Nat} {t e:TypeId} {x:DataW H}
def Xi{k:IntKind}(hu:P.underlying t=some (.int k))(h:Typed P (n+1) t x):∃m,x=.lit (.int k m)/\(Lit.int k m).wf=true:=by
 unfold Typed at h;rw[hu]at h;cases x with
 |lit l=>cases l<;>first|(cases h;done)|(obtain⟨rfl,h⟩:=h;exact⟨_,rfl,h⟩)
 |_=>cases h
def Rl(hu:P.underlying t=some .string)(h:Typed P (n+1) t x):∃s,x=.lit (.string s)/\s.length<=maxLen:=by
 unfold Typed at h;rw[hu]at h;cases x with
 |lit l=>cases l<;>first|(cases h;done)|exact⟨_,rfl,h⟩
 |_=>cases h
def Gb(hu:P.underlying t=some (.slice e))(h:Typed P (n+1) t x):x=.nil\/∃bM spare,x=.slice bM spare/\bM.length<=maxLen/\∀y∈bM,Typed P n e y:=by
 unfold Typed at h;rw[hu]at h;cases x<;>first|(cases h;done)|exact .inl rfl|exact .inr ⟨_,_,rfl,h.1,h.2⟩
def Uv{fs:Array Field}(hu:P.underlying t=some (.struct fs))(h:Typed P (n+1) t x):∃parts,x=.agg parts/\parts.length=fs.size/\∀p∈fs.toList.zip parts,Typed P n p.1.type p.2:=by
 unfold Typed at h;rw[hu]at h;cases x<;>first|(cases h;done)|exact⟨_,rfl,h.1,h.2⟩
def Xy{k:IntKind}(hu:P.underlying t=some (.int k))(k':IntKind)(m:Int):cz P (n+1) t (.lit (.int k' m):DataW H)=[.int k' m]:=by simp only[cz,hu]
def afe(hu:P.underlying t=some .string)(l:List UInt8):cz P (n+1) t (.lit (.string l):DataW H)=[.str ⟨l.toArray⟩]:=by simp only[cz,hu]
def aff(hu:P.underlying t=some (.slice e)):cz P (n+1) t (.nil:DataW H)=[.sl .nil []]:=by simp only[cz,hu]
def amP(hu:P.underlying t=some (.slice e))(l sp:List (DataW H)):cz P (n+1) t (.slice l sp)=[.sl .nn (l.map (cz P n e))]:=by simp only[cz,hu]
def Uu{fs:Array Field}(hu:P.underlying t=some (.struct fs))(l:List (DataW H)):cz P (n+1) t (.agg l)=(fs.toList.zip l).flatMap fun p=>cz P n p.1.type p.2:=by simp only[cz,hu]
def Rm{k:Nat}(hu:P.underlying t=some (.array k e))(l:List (DataW H)):cz P (n+1) t (.agg l)=l.flatMap (cz P n e):=by simp only[cz,hu]
def afg{d:Nat}(h:Ja P t=true):jt P d t x=.agg (cz P d t x):=by unfold jt;rw[h];rfl
def Df{d:Nat}(h:Ja P t=false){a:AV}(ha:cz P d t x=[a]):jt P d t x=a:=by unfold jt;rw[h,ha];rfl
end
def Wk(a b:AV):Prop:=∀(w:World)(γ:G)(v:Value),aB w γ a v->aB w γ b v
def Wk.refl(a:AV):Wk a a:=fun _ _ _ h=>h
def Wk.sl(rt:Rt)(rows:List (List AV)):Wk (.sl rt rows) (.sl .ro rows):=fun w γ v h=>by
 cases h with
 |sl b off sz cv hcap hnil ha hsz hc hr aR=>exact .sl b off sz cv hcap hnil ha hsz hc hr trivial
def WkL:List AV->List AV->Prop
 |[],[]=>True
 |a::r,b::s=>Wk a b/\WkL r s
 |_,_=>False
def WkL.rep{w:World}{γ:G}:∀{l l':List AV}{vs:List Value},WkL l l'->ak w γ l vs->ak w γ l' vs
 |[],[],_,_,h=>h
 |[],_::_,_,h,_=>by cases h
 |_::_,[],_,h,_=>by cases h
 |a::l,b::l',[],_,h=>by have:=h.1;simp at this
 |a::l,b::l',v::vs,hk,h=>by
  have h0:aB w γ a v:=h.2 0 a v rfl rfl;have hs:ak w γ l vs:=⟨by have:=h.1;simpa using this,fun i x y h1 h2=>h.2 (i+1) x y (by simpa using h1) (by simpa using h2)⟩;exact ak.cons (hk.1 w γ v h0) (WkL.rep hk.2 hs)
def Zt{P:Program}{gl:Nat->AV}{f:FuncId}{l l':List AV}{r:AV}(h:Pure P gl f l' r)(hk:WkL l l'):Pure P gl f l r:=
 ⟨h.1,fun ro w vs lM hr=>h.2 ro w vs lM (hk.rep hr)⟩
def Wk.rows{α:Type}(l:List α)(f g:α->List AV)(hl:∀a,(g a).length=(f a).length)(hc:∀(a:α)(j:Nat)(c':AV),(g a)[j]?=some c'->∃c,(f a)[j]?=some c/\Wk c c'):Wk (.sl .ro (l.map f)) (.sl .ro (l.map g)):=fun w γ v h=>by
 have key:∀(i j:Nat)(c':AV),Qt (l.map g) i j=some c'->∃c,Qt (l.map f) i j=some c/\Wk c c':=fun i j c' h=>by
  unfold Qt at h |-
  rw[zzbl]at h |-
  cases hi:l[i]? with
  |none=>rw[hi]at h;cases h
  |some a=>
   rw[hi]at h;simpa using hc a j c' (by simpa using h)
 obtain⟨a,cap,b,off,sz,cv,rfl,s1,_⟩:=h.bY;have e1:(l.map f).length=(l.map g).length:=by simp
 rw[e1];refine qm.mk' (b:=b) (off:=off) (sz:=sz) (cv:=cv) ⟨by rw[<- e1];exact s1.hcap,s1.hnil,fun hn=>s1.at_ (by simpa using hn),fun row hr=>?_,fun i j c' h=>?_,fun i j c' h=>?_⟩ trivial
 ·simp at hr;obtain⟨x,hx,rfl⟩:=hr;rw[hl x];exact s1.hsz _ (by simp;exact⟨x,hx,rfl⟩)
 ·obtain⟨c,h1,h2⟩:=key i j c' h;exact s1.cell i j c h1
 obtain⟨c,h1,h2⟩:=key i j c' h;exact h2 _ _ _ (s1.rep i j c h1)
def Qz{P:Program}{gl:Nat->AV}{f:FuncId}{l:List AV}{r r':AV}(h:Pure P gl f l r)(hk:Wk r r'):Pure P gl f l r':=
 ⟨h.1,fun ro w vs hg hr=>(h.2 ro w vs hg hr).mono fun _ _⟨v,h1,h2,h3⟩=>⟨v,h1,h2,hk _ _ _ h3⟩⟩
def Qdp{l l':List AV}(h:WkL l l'):Wk (.agg l) (.agg l'):=fun w γ v hr=>by
 have key:∀{l l':List AV},WkL l l'->l.length=l'.length/\∀(i:Nat)(c':AV),l'[i]?=some c'->∃c,l[i]?=some c/\Wk c c':=by
  intro l;induction l with
  |nil=>intro l' h;cases l' with
   |nil=>exact⟨rfl,fun i c' h=>by simp at h⟩
   |cons _ _=>exact h.elim
  |cons a l ih=>intro l' h;cases l' with
   |nil=>exact h.elim
   |cons b l'=>
    obtain⟨h1,h2⟩:=ih h.2;refine⟨by simp[h1],fun i c' hc=>?_⟩;cases i with
    |zero=>simp at hc;subst hc;exact⟨a,rfl,h.1⟩
    |succ i=>simpa using h2 i c' (by simpa using hc)
 obtain⟨h1,h2⟩:=key h;cases hr with
 |agg hl hc=>
  refine .agg (by omega) fun i c' v qn hv=>?_;obtain⟨c,g1,g2⟩:=h2 i c' qn;exact g2 _ _ _ (hc i c v g1 hv)
open Go Go.RowKit
section
variable {B l:List (List AV)} {i j:Nat}
def Ql(h:i<B.length):Qh (B++l) i=Qh B i:=by simp[Qh,zzar,-Vn,zzag h]
def Yk(v:List AV)(h:i<B.length):(B++l).set i v=B.set i v++l:=by rw[zzfw _ _ h]
def Zy(v:List AV)(h:i≠j):Qh (B.set i v) j=Qh B j:=by simp[Qh,zzar,-Vn,zzbe h]
def Vp(v:List AV)(h:i<B.length):Qh (B.set i v) i=v:=by simp[Qh,zzar,-Vn,zzb h]
def Uc(h:i<B.length):B[i]?=some (Qh B i):=by
 rw[zzac h];simp[Qh,zzar,-Vn,h]
end
def bn(S:Nat->Prop)(B B':List (List AV)):Prop:=B.length<=B'.length/\∀j,j<B.length->¬S j->Qh B' j=Qh B j
def bn.refl(S:Nat->Prop)(B:List (List AV)):bn S B B:=⟨zzab _,fun _ _ _=>rfl⟩
def bn.app{S:Nat->Prop}{B B':List (List AV)}(h:bn S B B')(l:List (List AV)):bn S B (B'++l):=
 ⟨by have:=h.1;simp;omega,fun j hj hs=>by rw[Ql (by have:=h.1;omega)];exact h.2 j hj hs⟩
def bn.set{S:Nat->Prop}{B B':List (List AV)}(h:bn S B B'){i:Nat}(hi:S i\/B.length<=i)(v:List AV):bn S B (B'.set i v):=
 ⟨by have:=h.1;simpa using this,fun j hj hs=>by rw[Zy v (by rintro rfl;obtain hi|hi:=hi;exact hs hi;omega)];exact h.2 j hj hs⟩
def bn.trans{S:Nat->Prop}{B B' B'':List (List AV)}(h:bn S B B')(k:bn (fun i=>S i\/B.length<=i) B' B''):bn S B B'':=
 ⟨zzbn h.1 k.1,fun j hj hs=>by rw[k.2 j (by have:=h.1;omega) (by rintro(h|h);exact hs h;omega)];exact h.2 j hj hs⟩
def bn.mono{S S':Nat->Prop}{B B':List (List AV)}(h:bn S B B')(hs:∀i,S i->S' i):bn S' B B':=⟨h.1,fun j hj hn=>h.2 j hj fun k=>hn (hs j k)⟩
def Qe(s:Int×Int):List AV:=[I s.1,I s.2]
def cC:List (Int×Int)->List AV
 |[]=>[]
 |s::r=>I s.1::I s.2::cC r
@[simp] theorem avL:cC []=[]:=rfl
@[simp] theorem pL(s:Int×Int)(r:List (Int×Int)):cC (s::r)=I s.1::I s.2::cC r:=rfl
def Vy:∀l,(cC l).length=l.length*2
 |[]=>rfl
 |s::r=>by simp[Vy r];omega
def Qcd:∀a b,cC (a++b)=cC a++cC b
 |[],_=>rfl
 |s::r,b=>by simp[Qcd r b]
def Gd:∀(l:List (Int×Int))(i:Nat),(cC l).drop (i*2)=cC (l.drop i)
 |[],i=>by simp
 |s::r,0=>by simp
 |s::r,i+1=>by rw[show(i+1)*2=i*2+1+1 by omega];simp[Gd r i]
def uB{l:List (Int×Int)}{i:Nat}{s:Int×Int}(h:l[i]?=some s):(cC l).drop (i*2)=I s.1::I s.2::cC (l.drop (i+1)):=by
 rw[Gd];have ai:=(zza.1 h).1;rw[zzaf ai];have:l[i]=s:=(zza.1 h).2;rw[this,pL]
def FL{l:List (Int×Int)}{i:Nat}{s:Int×Int}(h:l[i]?=some s):(cC l).drop (i*2+1)=I s.2::cC (l.drop (i+1)):=by
 rw[<- zzds,uB h];rfl
def Oi:∀(l:List (Int×Int))(i:Nat)(s:Int×Int),i<l.length->setA (cC l) (i*2) [I s.1,I s.2]=cC (l.set i s)
 |[],i,s,h=>by simp at h
 |t::r,0,s,h=>by simp[setA]
 |t::r,i+1,s,h=>by
  have ih:=Oi r i s (by simpa using h);simp only[setA]at ih |-
  rw[show(i+1)*2=i*2+1+1 by omega,show i*2+1+1+1=i*2+1+1+1 from rfl];simp only[pL,zzdw];rw[ih]
def xe:∀(l:List (Int×Int))(i:Nat)(s:Int×Int)(y:Int),l[i]?=some s->(cC l).set (i*2+1) (I y)=cC (l.set i (s.1,y))
 |[],i,s,y,h=>by simp at h
 |t::r,0,s,y,h=>by simp at h;subst h;simp
 |t::r,i+1,s,y,h=>by
  have ih:=xe r i s y (by simpa using h);rw[show(i+1)*2+1=i*2+1+1+1 by omega];simp only[pL,zzdw];rw[ih]
def Bc:∀(l:List (Int×Int))(r:List AV),aV 2 l.length (cC l++r)=l.map Qe
 |[],_=>rfl
 |s::l,r=>by simp[Qe,Bc l r]
def Qea(l:List (Int×Int)):aV 2 l.length (cC l)=l.map Qe:=by simpa using Bc l []
def C3(l:List (Int×Int)):Zg (cC l)=true:=by
 induction l with
 |nil=>rfl
 |cons s r ih=>simp only[pL,Zg,List.all_cons,zzak]at ih |-;exact⟨rfl,rfl,ih⟩
def Rn{a b:List AV}(ha:Zg a=true)(hb:Zg b=true):Zg (a++b)=true:=by
 simp only[Zg,zzfd,zzak]at*;exact⟨ha,hb⟩
def Ge(l:List (Int×Int)):(l.map Qe).flatten=cC l:=by
 induction l with
 |nil=>rfl
 |cons s r ih=>simp[Qe,ih]
def Ro(n:Nat):bG n [I 0,I 0]=cC (List.replicate n (0,0)):=by
 induction n with
 |zero=>rfl
 |succ n ih=>rw[bG,ih];rfl
def Zc{l:List (Int×Int)}{i:Nat}{s:Int×Int}(h:l[i]?=some s):Qh (l.map Qe) i=[I s.1,I s.2]:=Qs (by simp[h,Qe])
def o8:∀(bs:List AV)(a b:List AV),bs.length=b.length->setA (a++b) a.length bs=a++bs
 |[],a,b,h=>by cases b with
  |nil=>rfl
  |cons _ _=>simp at h
 |x::bs,a,[],h=>by simp at h
 |x::bs,a,y::b,h=>by
  have ih:=o8 bs (a++[x]) b (by simpa using h);rw[setA];have:(a++y::b).set a.length x=a++[x]++b:=by simp
  rw[this];simpa using ih
def jL(bs a r:List AV)(h:bs.length=a.length):setA (a++r) 0 bs=bs++r:=by
 have D7:∀(bs pre a r:List AV),bs.length=a.length->setA (pre++a++r) pre.length bs=pre++bs++r:=by
  intro bs;induction bs with
  |nil=>intro pre a r h;cases a with
   |nil=>rfl
   |cons _ _=>simp at h
  |cons x bs ih=>intro pre a r h;cases a with
   |nil=>simp at h
   |cons y a=>
    rw[setA];have e:(pre++y::a++r).set pre.length x=pre++[x]++a++r:=by simp
    rw[e];have:=ih (pre++[x]) a r (by simpa using h);rw[show(pre++[x]).length=pre.length+1 by simp]at this;rw[this];simp
 have:=D7 bs [] a r h;simpa using this
open Go Go.RowKit
def asr(S:List (List AV)->Prop)(y:List AV->AM->(Bool->AM->Prop)->Prop)(K:AM->Prop):List (List AV)->AM->Prop
 |[],m=>∀m',fF m m'->K m'
 |x::xs,m=>∀m',fF m m'->∀K':Bool->AM->Prop,(∀lQ,S lQ.boxes->asr S y K xs lQ->K' true lQ)->(∀lQ,(∀m3,fF lQ m3->K m3)->K' false lQ)->y x m' K'
open Go Go.RowKit
def bN(O:Nat->Prop)(m m':AM):Prop:=m.boxes.length<=m'.boxes.length/\(∀j,j<m.boxes.length->¬O j->Qh m'.boxes j=Qh m.boxes j)/\(∃lx,m'.lens=m.lens++lx)/\∀l,m.st l≠.gone->m'.st l=m.st l
def fF.toO{m m':AM}(h:fF m m')(O:Nat->Prop):bN O m m':=by
 obtain⟨⟨bx,h1⟩,h2,h3⟩:=h;exact⟨by rw[h1];simp,fun j hj _=>by rw[h1,Ql hj],h2,h3⟩
def bN.refl(O:Nat->Prop)(m:AM):bN O m m:=(fF.refl m).toO O
def bN.trans{O:Nat->Prop}{m m' lQ:AM}(h:bN O m m')(k:bN O m' lQ):bN O m lQ:=by
 obtain⟨h1,h2,⟨c,h3⟩,h4⟩:=h;obtain⟨k1,k2,⟨c',k3⟩,k4⟩:=k;exact⟨zzbn h1 k1,fun j hj ho=>by rw[k2 j (by omega) ho,h2 j hj ho],⟨c++c',by rw[k3,h3,zzaw]⟩,fun l hl=>by rw[k4 l (by rw[h4 l hl];exact hl),h4 l hl]⟩
def bN.gone{O:Nat->Prop}{m m':AM}(h:bN O m m')(l:Nat):bN O (m.at_ l .gone) (m'.at_ l .gone):=
 ⟨h.1,h.2.1,h.2.2.1,fun l' ey=>by
  by_cases e:l'=l
  ·subst e;simp at ey
  simp only[ajN,qq,e,if_false]at ey |-;exact h.2.2.2 l' ey⟩
def A2(O:Nat->Prop)(m m':AM):Prop:=m.boxes.length<=m'.boxes.length/\∀j,O j->Qh m'.boxes j=Qh m.boxes j
def OU(O:Nat->Prop)(n n':Nat)(j:Nat):Prop:=O j\/(n<=j/\j<n')
def ass{O:Nat->Prop}{a b c:Nat}(h1:a<=b)(h2:b<=c):OU (OU O a b) b c=OU O a c:=by
 funext j;unfold OU;apply propext;constructor
 ·rintro((h|h)|h)
  ·exact .inl h
  ·exact .inr ⟨h.1,by omega⟩
  exact .inr ⟨by omega,h.2⟩
 rintro(h|h)
 ·exact .inl (.inl h)
 rcases zzaa j b with h3|h3
 ·exact .inl (.inr ⟨h.1,h3⟩)
 exact .inr ⟨h3,h.2⟩
def bN.YW{O:Nat->Prop}{m m' lQ:AM}(h:bN O m m')(k:bN (OU O m.boxes.length m'.boxes.length) m' lQ):bN O m lQ:=by
 obtain⟨h1,h2,⟨c,h3⟩,h4⟩:=h;obtain⟨k1,k2,⟨c',k3⟩,k4⟩:=k;exact⟨zzbn h1 k1,fun j hj ho=>by rw[k2 j (by omega) (by rintro(h|h);exact ho h;omega),h2 j hj ho],⟨c++c',by rw[k3,h3,zzaw]⟩,fun l hl=>by rw[k4 l (by rw[h4 l hl];exact hl),h4 l hl]⟩
def jx(y:List AV->AM->(Bool->AM->Prop)->Prop)(K:AM->Prop):List (List AV)->(Nat->Prop)->AM->Prop
 |[],O,m=>∀m',bN O m m'->K m'
 |x::xs,O,m=>∀m',bN O m m'->∀K':Bool->AM->Prop,(∀lQ,A2 (OU O m.boxes.length m'.boxes.length) m' lQ->jx y K xs (OU O m.boxes.length m'.boxes.length) lQ->K' true lQ)->
   (∀lQ,(∀m3,bN (OU O m.boxes.length m'.boxes.length) lQ m3->K m3)->K' false lQ)->y x m' K'
def jx.ext{O:Nat->Prop}{y:List AV->AM->(Bool->AM->Prop)->Prop}{K:AM->Prop}{xs:List (List AV)}{m m':AM}(h:jx y K xs O m)(e:bN O m m'):jx y K xs (OU O m.boxes.length m'.boxes.length) m':=by
 cases xs with
 |nil=>exact fun m2 e2=>h m2 (e.YW e2)
 |cons x xs=>
  intro m2 e2;rw[ass e.1 e2.1];exact h m2 (e.YW e2)
def YD(P:Program)(gl:Nat->AV)(f:FuncId)(first cap:List AV)(xs:List (List AV)):Prop:=
 ∀(Y:YT)(l:Nat)(m:AM)(K:AM->Prop),jx (Y l) K xs (fun _=>False) m->an P gl Y f (first++[.yld l]++cap) m fun _ m'=>K m'
def ru{P:Program}{gl:Nat->AV}{orc:Nat->FuncId->List AV->AV}{Y:YT}{s:AS}{Q:Exit->AS->Prop}{g:bK}{ps:List Nat}{lT body:SC}{f:FuncId}{first cap:List AV}{xs:List (List AV)}
  (hg:ev gl s.T g=.fn f first cap)(cm:YD P gl f first cap xs)(aH:∀x∈xs,x.length=ps.length)(I:(Nat->Prop)->Nat->AM->Prop)(X:(Nat->Prop)->Exit->AM->Prop)
  (h0:I (fun _=>False) 0 s.m)
  (hI:∀O i m m',I O i m->bN O m m'->I (OU O m.boxes.length m'.boxes.length) i m')(hX:∀O ex m m',X O ex m->bN O m m'->X O ex m')
  (
   hb:∀(O:Nat->Prop)(l i:Nat)(m:AM)(x:List AV),(∀j,O j->s.m.boxes.length<=j/\j<m.boxes.length)->s.m.boxes.length<=m.boxes.length->s.m.st l=.gone->m.st l=.ready->I O i (m.at_ l .gone)->xs[i]?=some x->∀K':Exit->AS->Prop,
   (∀s',A2 O m s'.m->I O (i+1) (s'.m.at_ l .gone)->K' .normal s')->(∀s',m.boxes.length<=s'.m.boxes.length->X O .ret (s'.m.at_ l .gone)->K' .ret s')->(∀id s',m.boxes.length<=s'.m.boxes.length->X O (.exit id) (s'.m.at_ l .gone)->K' (.exit id) s')->
   vc P gl orc Y lT ⟨Qam s.T ps x,m⟩ (Fm l fun s'=>vc P gl orc Y body s' K'))
  (KC:∀O m,I O xs.length m->Q .normal ⟨s.T,m⟩)(hex:∀O ex m,X O ex m->Q ex ⟨s.T,m⟩):vc P gl orc Y (.rfunc g ps lT body) s Q:=by
 simp only[vc,hg];intro hl;generalize dg:s.m.ln=l at hl;refine cm _ l s.m.aY (fun m'=>zA l s.T m' Q (m'.st l)) ?_;have fB:∀{O:Nat->Prop}{m m':AM},m.st l=.ready->bN O m m'->m'.st l=.ready:=fun h e=>by rw[e.2.2.2 l (by rw[h];simp),h]
 have key:∀(n i:Nat)(O:Nat->Prop)(m:AM),i+n=xs.length->I O i (m.at_ l .gone)->(∀j,O j->s.m.boxes.length<=j/\j<m.boxes.length)->s.m.boxes.length<=m.boxes.length->m.st l=.ready->
   jx (Yin Y l ps.length (fun args m K=>vc P gl orc Y lT ⟨Qam s.T ps args,m⟩ (Fm l fun s'=>vc P gl orc Y body s' (KA l K))) l) (fun m'=>zA l s.T m' Q (m'.st l)) (xs.drop i) O m:=by
  intro n;induction n with
  |zero=>
   intro i O m hi XL tO kU hm;rw[zzam (by omega)];intro m' e;simp only[fB hm e,zA];obtain rfl:i=xs.length:=by omega
   exact KC _ _ (hI _ _ _ _ XL (e.gone l))
  |succ n ih=>
   intro i O m hi XL tO kU hm;have ai:i<xs.length:=by omega
   rw[zzaf ai];intro m' e K' hT hF;have YX:s.m.boxes.length<=m'.boxes.length:=zzbn kU e.1
   have Rp:∀j,OU O m.boxes.length m'.boxes.length j->s.m.boxes.length<=j/\j<m'.boxes.length:=by
    rintro j (h|h)
    ·exact⟨(tO j h).1,zzbc (tO j h).2 e.1⟩
    exact⟨by omega,h.2⟩
   have zw:=hI _ _ _ _ XL (e.gone l);simp only[Ue]at zw;simp only[Yin,if_true];refine⟨fB hm e,aH _ (zzdi ai),?_⟩;refine hb (OU O m.boxes.length m'.boxes.length) l i m' xs[i] Rp YX hl (fB hm e) zw (zzac ai) (KA l K') (fun s' hS' zw=>?_) (fun s' ck hQ=>?_) fun id s' ck hQ=>?_
   ·refine hT _ (by simpa[A2]using hS') (ih (i+1) _ _ (by omega) ?_ (fun j hj=>⟨(Rp j hj).1,by simpa using zzbc (Rp j hj).2 hS'.1⟩) (by simpa using zzbn YX hS'.1) (by simp));simpa using zw
   ·refine hF _ fun m3 e3=>?_;have h3:m3.st l=.done .ret:=by have:=e3.2.2.2 l (by simp);simpa using this
    simp only[h3];exact hex _ _ _ (hX _ _ _ _ hQ (by have:=e3.gone l;simpa using this))
   refine hF _ fun m3 e3=>?_;have h3:m3.st l=.done (.exit id):=by have:=e3.2.2.2 l (by simp);simpa using this
   simp only[h3];exact hex _ _ _ (hX _ _ _ _ hQ (by have:=e3.gone l;simpa using this))
 have hI0:I (fun _=>False) 0 (s.m.aY.at_ l .gone):=by
  have:=hI (fun _=>False) 0 s.m (s.m.aY.at_ l .gone) h0 ⟨by simp[AM.aY],fun j _ _=>by simp[AM.aY],⟨[],by simp[AM.aY]⟩,fun l' ey=>by
   have aK:l'≠l:=by rintro rfl;exact ey hl
   simp[AM.aY,dg,qq,aK]⟩
  have e:OU (fun _=>False) s.m.boxes.length (s.m.aY.at_ l .gone).boxes.length=fun _=>False:=by
   funext j;simp[OU,AM.aY]
  rw[e]at this;exact this
 have:=key xs.length 0 (fun _=>False) s.m.aY (by simp) hI0 (fun _ h=>h.elim) (by simp[AM.aY]) (by simp[AM.aY,dg]);simpa using this
open Go Go.RowKit
def G.only(γ γ':G):G:={γ' with β:=fun i=>if(γ.β i).isSome then γ'.β i else none,mm:=fun i=>if(γ.mm i).isSome then γ'.mm i else none}
section
variable {N:Nat} {w0:ir} {aq:Nat->Nat->Prop} {γ γ':G} {w w':World} {P:Program} {gl:Nat->AV} {Y:YT}
def Yx{id b:Nat}(h:(γ.only γ').β id=some b):(γ.β id).isSome/\γ'.β id=some b:=by
 simp only[G.only]at h;split at h
 ·exact⟨by assumption,h⟩
 cases h
def Qax{id b:Nat}(h:(γ.only γ').mm id=some b):(γ.mm id).isSome/\γ'.mm id=some b:=by
 simp only[G.only]at h;split at h
 ·exact⟨by assumption,h⟩
 cases h
def Dg{id b b0:Nat}(h0:γ.β id=some b0)(h:γ'.β id=some b):(γ.only γ').β id=some b:=by simp[G.only,h0,h]
def lg{id b b0:Nat}(h0:γ.mm id=some b0)(h:γ'.mm id=some b):(γ.only γ').mm id=some b:=by simp[G.only,h0,h]
def Rq{a:Option Addr}{len cap sz:Nat}{rt:Rt}(h:tF w' γ' a len cap sz rt):tF w' (γ.only γ') a len cap sz rt:=by
 cases rt<;>exact h
def aB.only{a:AV}{v:Value}(h:aB w' γ' a v):∀{v0:Value},aB w γ a v0->aB w' (γ.only γ') a v:=by
 induction h generalizing γ with
 |junk v=>exact fun _=>.junk _
 |gd h h' ih=>exact fun k=>.gd (fun hg=>by cases k with|gd k1 _=>exact ih hg (k1 hg)) h'
 |bool b=>exact fun _=>.bool b
 |int k n=>exact fun _=>.int k n
 |str s=>exact fun _=>.str s
 |nilfn=>exact fun _=>.nilfn
 |nilv p=>exact fun _=>.nilv p
 |yld h=>exact fun _=>.yld h
 |mp h=>exact fun k=>by cases k with|mp k=>exact .mp (lg k h)
 |it h=>exact fun k=>by cases k with|it k=>exact .it (lg k h)
 |agg hl _ ih=>
  intro v0 k;cases k with
  |@agg _ _ dW kl k=>
   refine .agg hl fun i c v h1 h2=>?_
   ·have hi:i<dW.size:=by have:=(zza.1 h1).1;omega
    exact ih i c v h1 h2 (k i c dW[i] h1 (by simp[hi]))
 |aW hl _ ih=>
  intro v0 k;cases k with
  |@aW _ _ dW kl k=>
   refine .aW hl fun i c v h1 h2=>?_
   ·have hi:i<dW.size:=by have:=(zza.1 h1).1;omega
    exact ih i c v h1 h2 (k i c dW[i] h1 (by simp[hi]))
 |fn hl _ ey _ ih ih'=>
  intro v0 k;cases k with
  |@fn _ _ _ _ fa0 ca0 kl k kl' k'=>
   refine .fn hl (fun i c v h1 h2=>?_) ey fun i c v h1 h2=>?_
   ·have hi:i<fa0.size:=by have:=(zza.1 h1).1;omega
    exact ih i c v h1 h2 (k i c fa0[i] h1 (by simp[hi]))
   have hi:i<ca0.size:=by have:=(zza.1 h1).1;omega
   exact ih' i c v h1 h2 (k' i c ca0[i] h1 (by simp[hi]))
 |ptr h=>exact fun k=>by cases k with|ptr k=>exact .ptr (Dg k h)
 |bs h hl hh hs=>exact fun k=>by cases k with|bs k _ _ _=>exact .bs (Dg k h) hl hh hs
 |ep cv hb hc h _=>exact fun _=>.ep cv hb hc h
 |sl b off sz cv hcap hnil ha hsz hc h aR _=>exact fun _=>.sl b off sz cv hcap hnil ha hsz hc h (Rq aR)
def cG.only{x:AV}{o o0:Obj}(h:cG w' γ' x o)(h0:cG w γ x o0):cG w' (γ.only γ') x o:=by
 unfold cG at h;split at h
 ·rename_i kn kvs es clock;cases o0<;>try exact h0.elim
  rename_i es0 amQ;obtain⟨h1,h2,h3⟩:=h;obtain⟨k1,k2,k3⟩:=h0;refine⟨h1,h2,fun i k a e q1 q2=>?_⟩;obtain⟨p1,p2,p3,p4⟩:=h3 i k a e q1 q2;have hi:i<es0.size:=by have:=(zza.1 q1).1;omega
  exact⟨p1,p2,p3,p4.only (k3 i k a es0[i] q1 (by simp[hi])).2.2.2⟩
 ·rename_i mid n seen mb NM sn st;cases o0<;>try exact h0.elim
  rename_i mp0 s0 a0 b0;cases mp0<;>try exact h0.elim
  exact⟨lg h0.1 h.1,h.2⟩
 exact h.elim
def Idle(a:AV):Prop:=∀(w:World)(γ:G)(v:Value),aB w γ a v->aB w γ.cT a v
def Idle.bool(b:Bool):Idle (.bool b):=fun w γ v h=>by rw[h.bA];exact .bool b
def Idle.int(k:IntKind)(n:Int):Idle (.int k n):=fun w γ v h=>by rw[h.aG];exact .int k n
def Idle.str(s:ByteArray):Idle (.str s):=fun w γ v h=>by rw[h.cq];exact .str s
def Idle.agg{cs:List AV}(h:∀c∈cs,Idle c):Idle (.agg cs):=fun w γ v k=>by
 cases k with
 |agg hl k=>exact .agg hl fun i c v h1 h2=>h c (zzad h1) w γ v (k i c v h1 h2)
def Idle.aW{cs:List AV}(h:∀c∈cs,Idle c):Idle (.aW cs):=fun w γ v k=>by
 cases k with
 |aW hl k=>exact .aW hl fun i c v h1 h2=>h c (zzad h1) w γ v (k i c v h1 h2)
def Idle.sl{rt:Rt}{rows:List (List AV)}(h:∀i s,rt≠.own i s):Idle (.sl rt rows):=fun w γ v k=>by
 cases k with
 |sl b off sz cv hcap hnil ha hsz hc hr aR=>
  refine .sl b off sz cv hcap hnil ha hsz hc hr ?_;cases rt with
  |own i s=>exact absurd rfl (h i s)
  |_=>exact aR
def Idle.ro(rows:List (List AV)):Idle (.sl .ro rows):=Idle.sl fun _ _ h=>by cases h
def Idle.nil(rows:List (List AV)):Idle (.sl .nil rows):=Idle.sl fun _ _ h=>by cases h
def Idle.full(rows:List (List AV)):Idle (.sl .full rows):=Idle.sl fun _ _ h=>by cases h
def YY(cells:List AV):Prop:=(∀c∈cells,Idle c/\Qv c=true)\/∃kn kvs,cells=[.aJ kn kvs]/\∀p∈kvs,Idle p.2
def Idle.rep{a:AV}(h:Idle a){v:Value}(hr:aB w' γ' a v):aB w' (γ.only γ') a v:=aB.gD (γ:=γ.only γ') (h w' γ' v hr)
def au.only{m m1:AM}{ex:List (List AV)}(hm:au N w0 aq γ w m.B m.L)(fO:au N w0 aq γ' w' ({m1 with boxes:=m1.boxes++ex}:AM).B m1.L)(e:eD w γ w' γ')
  (aH:m1.boxes.length=m.boxes.length)(hL:m1.lens=m.lens)(hk:∀(id:Nat)(cells:List AV),m1.boxes[id]?=some cells->m.boxes[id]?=some cells\/YY cells):au N w0 aq (γ.only γ') w' m1.B m1.L:=by
 have hB:∀{id:Nat}{cells:List AV},m1.B id=some cells->({m1 with boxes:=m1.boxes++ex}:AM).B id=some cells:=fun{id cells}h=>by
  simp only[AM.B]at h |-
  rw[zzag (zza.1 h).1];exact h
 have hB1:∀{id:Nat}{cells:List AV},m.B id=some cells->∃nT,m1.B id=some nT:=fun{id cells}h=>by
  have:=(zza.1 h).1;exact⟨_,zzac (by omega)⟩
 have pM:∀{id:Nat},(γ.β id).isSome->∃b cells nT,γ.β id=some b/\γ'.β id=some b/\m.B id=some cells/\m1.B id=some nT:=fun{id}h=>by
  obtain⟨b,hb⟩:=zzcj.1 h;obtain⟨_,_,_,_,c,hc⟩:=hm.β id b hb;obtain⟨c1,fE⟩:=hB1 hc;exact⟨b,c,c1,hb,e.β id b hb,hc,fE⟩
 refine⟨w0.st _ _ _ _ fO.bs ⟨rfl,rfl,rfl,zzab _,fun _ _ _=>rfl,fun _ _ _ h=>⟨h,rfl⟩,fun b hb=>.inl ?_,fun _ _ h=>.inl h⟩,fO.hN,fO.aq,fO.robd,fun id cells b hb h1=>?_,fun id b hb=>?_,fun i i' b h h'=>?_,fO.own,fO.oinj,fun b hb=>?_,fun id b hb=>?_,fun i i' b h h'=>?_,fO.len,fO.cur0⟩
 ·obtain⟨i,hi⟩|hb|hb|⟨i,hi⟩:=hb
  ·exact .inl ⟨i,(Yx hi).2⟩
  ·exact .inr (.inl hb)
  ·exact .inr (.inr (.inl hb))
  exact .inr (.inr (.inr ⟨i,(Qax hi).2⟩))
 ·obtain⟨h2,h3⟩:=Yx h1;obtain⟨b0,c0,_,g1,g2,g3,_⟩:=pM h2;rw[h3]at g2;cases g2;obtain⟨arr,e',q1,q2,q3⟩:=fO.box id cells b (hB hb) h3;refine⟨arr,e',q1,⟨q2.1,fun i c v hi hv=>?_⟩,q3⟩;rcases hk id cells hb with hk|hk|⟨kn,kvs,rfl,_⟩
  ·obtain⟨dW,_,_,k2,_⟩:=hm.box id cells b hk g1
   have ai:i<dW.size:=by
    have h5:=(zza.1 hi).1;have h6:=k2.1;simp at h6;omega
   exact(q2.2 i c v hi hv).only (k2.2 i c dW[i] hi (by simp[ai]))
  ·exact(hk c (zzad hi)).1.rep (q2.2 i c v hi hv)
  have:=q2.2 i c v hi hv;cases i with
  |zero=>cases hi;cases this
  |succ i=>cases hi
 ·obtain⟨h2,h3⟩:=Yx hb;obtain⟨b0,c0,c1,_,_,_,g4⟩:=pM h2;obtain⟨q1,q2,q3,q4,_⟩:=fO.β id b h3;exact⟨q1,q2,q3,q4,c1,g4⟩
 ·obtain⟨h2,h3⟩:=Yx h;obtain⟨h4,h5⟩:=Yx h';obtain⟨_,_,c,_,_,_,g3⟩:=pM h2;obtain⟨_,_,c',_,_,_,g3'⟩:=pM h4;have:=fO.inj i i' b h3 h5;rw[hB g3,hB g3']at this;rw[g3,g3'];exact this
 ·obtain⟨q1,q2,q3,q4,q5⟩:=fO.sp b hb;exact⟨q1,q2,q3,fun i hi=>q4 i (Yx hi).2,q5⟩
 ·obtain⟨h2,h3⟩:=Qax hb;obtain⟨b0,dO⟩:=zzcj.1 h2;obtain⟨q1,q2,q3,q4,q5,q6,q8,x,o,q7,q9,q10⟩:=fO.mm id b h3;obtain⟨_,_,_,_,_,_,_,x0,o0,k7,k9,k10⟩:=hm.mm id b0 dO;obtain⟨c1,fE⟩:=hB1 k7;have hx:c1=[x]:=by rw[hB fE]at q7;cases q7;rfl
  subst hx;refine⟨q1,q2,q3,fun i hi=>q4 i (Yx hi).2,q5,q6,by simp[G.only,q8],x,o,fE,q9,?_⟩;rcases hk id [x] fE with hk|hk|⟨kn,kvs,hx,hk⟩
  ·have:x=x0:=by
    have k7':m.boxes[id]?=some [x0]:=k7;rw[hk]at k7';cases k7';rfl
   subst this;exact q10.only k10
  ·have:=(hk x (by simp)).2;cases x<;>cases o<;>first|exact q10.elim|(simp[Qv]at this)
  cases hx;cases o<;>try exact q10.elim
  obtain⟨h4,h5,h6⟩:=q10;refine⟨h4,h5,fun i k a e s1 s2=>?_⟩;obtain⟨p1,p2,p3,p4⟩:=h6 i k a e s1 s2;exact⟨p1,p2,p3,(hk (k,a) (zzad s1)).rep p4⟩
 exact fO.minj i i' b (Qax h).2 (Qax h').2
def eD.only(e:eD w γ w' γ'):eD w γ w' (γ.only γ'):=
 ⟨e.size,e.ro,fun id b h=>Dg h (e.β id b h),e.cur,fun id b h=>lg h (e.mm id b h),e.lp,e.own,e.sp,e.ss⟩
def an.forget{f:FuncId}{as:List AV}{m:AM}{K:AV->AM->Prop}
  (
   h:an P gl Y f as m fun r m'=>∃m1 ex,m'={m1 with boxes:=m1.boxes++ex}/\m1.boxes.length=m.boxes.length/\m1.lens=m.lens/\
   (∀(id:Nat)(cells:List AV),m1.boxes[id]?=some cells->m.boxes[id]?=some cells\/YY cells)/\Idle r/\K r m1):an P gl Y f as m K:=by
 refine⟨h.1,fun N w0 aq γ w vs hm hl hg hy hr=>CallsIn.mono (h.2 N w0 aq γ w vs hm hl hg hy hr) ?_⟩;rintro en w' ⟨v,γ',r,m',rfl,g1,g2,g3,g4,m1,ex,rfl,g5,g6,g7,g8,g9⟩;exact⟨v,γ.only γ',r,m1,rfl,g1.only,hm.only g2 g1 g5 g6 g7,g3,g8.rep g4,g9⟩
def an.read{f:FuncId}{as:List AV}{m:AM}{K:AV->Prop}(h:an P gl Y f as m fun r m'=>∃ex,m'={m with boxes:=m.boxes++ex}/\Idle r/\K r):an P gl Y f as m fun r m'=>m'=m/\K r:=by
 refine an.forget ⟨h.1,fun N w0 aq γ w vs hm hl hg hy hr=>CallsIn.mono (h.2 N w0 aq γ w vs hm hl hg hy hr) ?_⟩;rintro en w' ⟨v,γ',r,m',rfl,g1,g2,g3,g4,ex,rfl,g5,g6⟩;exact⟨v,γ',r,_,rfl,g1,g2,g3,g4,m,ex,rfl,rfl,rfl,fun _ _ h=>.inl h,g5,rfl,g6⟩
end
open Go Go.RowKit
def G.ajX(γ:G):G:={γ with own:=fun _=>none,cur:=fun _=>0}
def G.cR(n:Nat)(γ γ':G):G:={γ.only γ' with own:=fun i=>if i<n then γ'.own i else none,cur:=fun i=>if i<n then γ'.cur i else 0}
def cn(a:AV):Prop:=∀(w:World)(γ:G)(v:Value),aB w γ a v->aB w γ.ajX a v
def cn.bool(b:Bool):cn (.bool b):=fun w γ v h=>by rw[h.bA];exact .bool b
def cn.int(k:IntKind)(n:Int):cn (.int k n):=fun w γ v h=>by rw[h.aG];exact .int k n
def cn.str(s:ByteArray):cn (.str s):=fun w γ v h=>by rw[h.cq];exact .str s
def cn.aJ(kn:Nat)(kvs:List (List Int×AV)):cn (.aJ kn kvs):=fun w γ v h=>by cases h
def cn.mp(id:Nat):cn (.mp id):=fun w γ v h=>by cases h with|mp h=>exact .mp h
def cn.sl{rt:Rt}{rows:List (List AV)}(h:∀i s,rt≠.own i s):cn (.sl rt rows):=fun w γ v k=>by
 cases k with
 |sl b off sz cv hcap hnil ha hsz hc hr aR=>
  refine .sl b off sz cv hcap hnil ha hsz hc hr ?_;cases rt with
  |own i s=>exact absurd rfl (h i s)
  |_=>exact aR
def Lb(cells:List AV):Prop:=∀c∈cells,cn c/\∀kn kvs,c=.aJ kn kvs->∀p∈kvs,cn p.2
def Kept(bs:List (List AV))(id:Nat)(b9 cells:List AV):Prop:=
 (b9=cells/\bs[id]?=some cells/\Lb cells)\/(b9=cells/\∀c∈cells,Idle c/\Qv c=true)\/
 ∃(kn:Nat)(Lc kvs:List (List Int×AV)),b9=[.aJ kn Lc]/\cells=[.aJ kn kvs]/\Lc.length=kvs.length/\(∀p∈kvs,Idle p.2)/\∀(i:Nat)(k:List Int)(a:AV)(k':List Int)(a':AV),Lc[i]?=some (k',a')->kvs[i]?=some (k,a)->k'=k/\Wk a' a
def Kept.empty{bs:List (List AV)}{id:Nat}{b9 cells:List AV}(h:Kept bs id b9 cells)(h':b9=[]):cells=[]:=by
 obtain⟨rfl,_⟩|⟨rfl,_⟩|⟨kn,Lc,kvs,rfl,rfl,_⟩:=h
 ·exact h'
 ·exact h'
 cases h'
section
variable {N:Nat} {w0:ir} {aq:Nat->Nat->Prop} {γ γ':G} {w w':World} {P:Program} {gl:Nat->AV} {Y:YT}
def Rr(n:Nat):NL w' (γ.only γ'.ajX) w' (γ.cR n γ'):=
 ⟨zzab _,fun _ _ _ h=>⟨h,rfl⟩,fun _ _ h=>h,fun _=>zzcc _,fun _ _ h=>h,fun _ _ h=>h,fun _ _ _ h=>(by cases h),Sz.refl w'⟩
def aB.cR{a:AV}{v v0:Value}(n:Nat)(h:aB w' γ' a v)(no:cn a)(h0:aB w γ a v0):aB w' (γ.cR n γ') a v:=
 ((no _ _ _ h).only (γ:=γ) h0).eX (Rr n)
def Idle.ast{a:AV}(n:Nat)(h:Idle a){v:Value}(hr:aB w' γ' a v):aB w' (γ.cR n γ') a v:=aB.gD (γ:=γ.cR n γ') (h w' γ' v hr)
def cG.cR{x:AV}{o o0:Obj}(n:Nat)(h:cG w' γ' x o)(h0:cG w γ x o0)(no:∀kn kvs,x=.aJ kn kvs->∀p∈kvs,cn p.2):cG w' (γ.cR n γ') x o:=by
 unfold cG at h;split at h
 ·rename_i kn kvs es clock;cases o0<;>try exact h0.elim
  rename_i es0 amQ;obtain⟨h1,h2,h3⟩:=h;obtain⟨k1,k2,k3⟩:=h0;refine⟨h1,h2,fun i k a e q1 q2=>?_⟩;obtain⟨p1,p2,p3,p4⟩:=h3 i k a e q1 q2;have hi:i<es0.size:=by have:=(zza.1 q1).1;omega
  exact⟨p1,p2,p3,p4.cR n (no kn kvs rfl (k,a) (zzad q1)) (k3 i k a es0[i] q1 (by simp[hi])).2.2.2⟩
 ·rename_i mid n' seen mb NM sn st;cases o0<;>try exact h0.elim
  rename_i mp0 s0 a0 b0;cases mp0<;>try exact h0.elim
  exact⟨lg h0.1 h.1,h.2⟩
 exact h.elim
def au.cR{m m1:AM}{mx ex:List (List AV)}{exl:List Nat}(hm:au N w0 aq γ w m.B m.L)(fO:au N w0 aq γ' w' (fun i=>(mx++ex)[i]?) (fun i=>(m.lens++exl)[i]?))(e:eD w γ w' γ')
  (aH:m1.boxes.length=m.boxes.length)(Tp:mx.length=m.boxes.length)(hL:m1.lens=m.lens)
  (hk:∀(id:Nat)(cells b9:List AV),m1.boxes[id]?=some cells->mx[id]?=some b9->Kept m.boxes id b9 cells):
  au N w0 aq (γ.cR m.lens.length γ') w' m1.B m1.L:=by
 have hB:∀{id:Nat}{cells:List AV},m1.B id=some cells->∃b9,mx[id]?=some b9/\(mx++ex)[id]?=some b9:=fun{id cells}h=>by
  have h':id<m1.boxes.length:=(zza.1 h).1;have h2:id<mx.length:=by omega
  exact⟨mx[id],by simp[h2],by rw[zzag h2];simp[h2]⟩
 have hB1:∀{id:Nat}{cells:List AV},m.B id=some cells->∃nT,m1.B id=some nT:=fun{id cells}h=>by
  have:=(zza.1 h).1;exact⟨_,zzac (by omega)⟩
 have pM:∀{id:Nat},(γ.β id).isSome->∃b cells nT,γ.β id=some b/\γ'.β id=some b/\m.B id=some cells/\m1.B id=some nT:=fun{id}h=>by
  obtain⟨b,hb⟩:=zzcj.1 h;obtain⟨_,_,_,_,c,hc⟩:=hm.β id b hb;obtain⟨c1,fE⟩:=hB1 hc;exact⟨b,c,c1,hb,e.β id b hb,hc,fE⟩
 have xC:∀{id b:Nat},(γ.cR m.lens.length γ').own id=some b->id<m.lens.length/\γ'.own id=some b:=fun{id b}h=>by
  have h:(if id<m.lens.length then γ'.own id else none)=some b:=h;split at h
  ·exact⟨by assumption,h⟩
  cases h
 refine⟨w0.st _ _ _ _ fO.bs ⟨rfl,rfl,rfl,zzab _,fun _ _ _=>rfl,fun _ _ _ h=>⟨h,rfl⟩,fun b hb=>.inl ?_,fun _ _ h=>.inl h⟩,fO.hN,fO.aq,fO.robd,fun id cells b hb h1=>?_,fun id b hb=>?_,fun i i' b h h'=>?_,fun id b hb=>?_,fun i i' b h h'=>fO.oinj i i' b (xC h).2 (xC h').2,fun b hb=>?_,fun id b hb=>?_,fun i i' b h h'=>?_,fun id n hn=>?_,fun id hn=>?_⟩
 ·obtain⟨i,hi⟩|⟨i,hi⟩|hb|⟨i,hi⟩:=hb
  ·exact .inl ⟨i,(Yx hi).2⟩
  ·exact .inr (.inl ⟨i,(xC hi).2⟩)
  ·exact .inr (.inr (.inl hb))
  exact .inr (.inr (.inr ⟨i,(Qax hi).2⟩))
 ·obtain⟨h2,h3⟩:=Yx h1;obtain⟨b0,c0,_,g1,g2,g3,_⟩:=pM h2;rw[h3]at g2;cases g2;obtain⟨b9,fE,Cu⟩:=hB hb;obtain⟨arr,e',q1,q2,q3⟩:=fO.box id b9 b Cu h3;rcases hk id cells b9 hb fE with⟨rfl,hk,no⟩|⟨rfl,aN⟩|⟨kn,Lc,kvs,rfl,rfl,_⟩
  ·refine⟨arr,e',q1,⟨q2.1,fun i c v hi hv=>?_⟩,q3⟩;obtain⟨dW,_,_,k2,_⟩:=hm.box id b9 b hk g1
   have ai:i<dW.size:=by
    have h5:=(zza.1 hi).1;have h6:=k2.1;simp at h6;omega
   exact(q2.2 i c v hi hv).cR _ (no c (zzad hi)).1 (k2.2 i c dW[i] hi (by simp[ai]))
  ·exact⟨arr,e',q1,⟨q2.1,fun i c v hi hv=>(aN c (zzad hi)).1.ast _ (q2.2 i c v hi hv)⟩,q3⟩
  refine⟨arr,e',q1,⟨by simpa using q2.1,fun i c v hi hv=>?_⟩,q3⟩;cases i with
  |zero=>have:=q2.2 0 _ v rfl hv;cases this
  |succ i=>cases hi
 ·obtain⟨h2,h3⟩:=Yx hb;obtain⟨b0,c0,c1,_,_,_,g4⟩:=pM h2;obtain⟨q1,q2,q3,q4,_⟩:=fO.β id b h3;exact⟨q1,q2,q3,fun id' h=>q4 id' (xC h).2,c1,g4⟩
 ·obtain⟨h2,h3⟩:=Yx h;obtain⟨h4,h5⟩:=Yx h';obtain⟨_,_,c,_,_,_,g3⟩:=pM h2;obtain⟨_,_,c',_,_,_,g3'⟩:=pM h4;obtain⟨d,d1,d2⟩:=hB g3;obtain⟨d',d1',d2'⟩:=hB g3';have:=fO.inj i i' b h3 h5;simp only[d2,d2']at this
  have em:∀{id:Nat}{c d:List AV},m1.B id=some c->mx[id]?=some d->d=[]->c=[]:=fun{id c d}h1 h2 h3=>by
   exact(hk id c d h1 h2).empty h3
  obtain h|h|h:=this
  ·exact .inl (by rw[g3,em g3 d1 (by simpa using h)])
  ·exact .inr (.inl (by rw[g3',em g3' d1' (by simpa using h)]))
  exact .inr (.inr h)
 ·obtain⟨h1,h2⟩:=xC hb;obtain⟨q1,q2,_⟩:=fO.own id b h2;refine⟨q1,q2,m.lens[id],?_⟩;simp only[AM.L,hL];exact zzac h1
 ·obtain⟨q1,q2,q3,q4,q5⟩:=fO.sp b hb;exact⟨q1,q2,q3,fun i hi=>q4 i (Yx hi).2,fun i hi=>q5 i (xC hi).2⟩
 ·obtain⟨h2,h3⟩:=Qax hb;obtain⟨b0,dO⟩:=zzcj.1 h2;obtain⟨q1,q2,q3,q4,q5,q6,q8,x,o,q7,q9,q10⟩:=fO.mm id b h3;obtain⟨_,_,_,_,_,_,_,x0,o0,k7,k9,k10⟩:=hm.mm id b0 dO;obtain⟨c1,fE⟩:=hB1 k7;obtain⟨b9,d1,d2⟩:=hB fE;have hx:b9=[x]:=by rw[d2]at q7;cases q7;rfl
  subst hx
  have hβ:(γ.cR m.lens.length γ').β id=none:=by
   show(if(γ.β id).isSome then γ'.β id else none)=none;rw[q8];split<;>rfl
  refine⟨q1,q2,q3,fun i hi=>q4 i (Yx hi).2,fun i hi=>q5 i (xC hi).2,q6,hβ,?_⟩;rcases hk id c1 [x] fE d1 with⟨rfl,hk,no⟩|⟨rfl,aN⟩|⟨kn,Lc,kvs,h1,rfl,h4,aN,h5⟩
  ·refine⟨x,o,fE,q9,?_⟩
   have:x=x0:=by
    have k7':m.boxes[id]?=some [x0]:=k7;rw[hk]at k7';cases k7';rfl
   subst this;exact q10.cR _ k10 (no x (by simp)).2
  ·have:=(aN x (by simp)).2;cases x<;>cases o<;>first|exact q10.elim|(simp[Qv]at this)
  cases h1;cases o<;>try exact q10.elim
  obtain⟨g4,g5,g6⟩:=q10;refine⟨_,_,fE,q9,g4,by omega,fun i k a e s1 s2=>?_⟩;have dV:=(zza.1 s1).1;obtain⟨k',a',qn⟩:∃k' a',Lc[i]?=some (k',a'):=⟨_,_,zzac (by omega)⟩;obtain⟨p1,p2,p3,p4⟩:=g6 i k' a' e qn s2;obtain⟨rfl,r2⟩:=h5 i k a k' a' qn s1;exact⟨p1,p2,p3,(aN _ (zzad s1)).ast _ (r2 _ _ _ p4)⟩
 ·exact fO.minj i i' b (Qax h).2 (Qax h').2
 ·have hn:m.lens[id]?=some n:=by rw[<- hL];exact hn
  have ai:=(zza.1 hn).1;have:=fO.len id n (by show(m.lens++exl)[id]?=some n;rw[zzag ai];exact hn);show(if id<m.lens.length then γ'.cur id else 0)=n;rw[if_pos ai];exact this
 have hn:m.lens[id]?=none:=by rw[<- hL];exact hn
 have bu:=zzgt.1 hn;show(if id<m.lens.length then γ'.cur id else 0)=0;rw[if_neg (by omega)]
def eD.cR{m:AM}(hm:au N w0 aq γ w m.B m.L)(e:eD w γ w' γ'):eD w γ w' (γ.cR m.lens.length γ'):=by
 have ho:∀id b,γ.own id=some b->id<m.lens.length:=fun id b h=>by
  obtain⟨_,_,n,hn⟩:=hm.own id b h;exact(zza.1 hn).1
 have hc:∀id,¬id<m.lens.length->γ.cur id=0:=fun id h=>hm.cur0 id (zzgt.2 (by omega));refine⟨e.size,e.ro,fun id b h=>Dg h (e.β id b h),fun id=>?_,fun id b h=>lg h (e.mm id b h),e.lp,fun id b h1 h2=>?_,e.sp,e.ss⟩
 ·show γ.cur id<=if id<m.lens.length then γ'.cur id else 0;split
  ·exact e.cur id
  rename_i h;rw[hc id h];exact zzab _
 have ai:=ho id b h2;have h1:(if id<m.lens.length then γ'.cur id else 0)=γ.cur id:=h1;rw[if_pos ai]at h1;obtain⟨a1,a2,a3⟩:=e.own id b h1 h2;refine⟨?_,a2,a3⟩;show(if id<m.lens.length then γ'.own id else none)=some b;rw[if_pos ai];exact a1
def an.mono{f:FuncId}{as:List AV}{m:AM}{K K':AV->AM->Prop}(h:an P gl Y f as m K)(hk:∀r m',K r m'->K' r m'):an P gl Y f as m K':=by
 refine⟨h.1,fun N w0 aq γ w vs hm hl hg hy hr=>CallsIn.mono (h.2 N w0 aq γ w vs hm hl hg hy hr) ?_⟩;rintro en w' ⟨v,γ',r,m',g0,g1,g2,g3,g4,g5⟩;exact⟨v,γ',r,m',g0,g1,g2,g3,g4,hk _ _ g5⟩
end
open Go Go.RowKit
end Go.Abs
