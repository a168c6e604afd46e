import Derived.Test.YtfliagpjbbkijaaGreatDoorVBMF
import Derived.Test.YtfliagpjbbkijaaGreatDoorVBCodeT
import Derived.Shelf.SlMaps.Clone
import Derived.Shelf.Spec.SlicesGrow
set_option linter.all false
set_option maxRecDepth 100000
set_option maxHeartbeats 64000000
namespace Go.Abs
open Go Go.RowKit
def AM.wr(m:AM)(id:Nat)(cs:P1):AM:={m with boxes:=m.boxes.set id cs}
def azl(m:AM)(id:Nat)(cs:P1){c:P1}(h:m.boxes[id]?=some c):(m.wr id cs).B=fun i=>if i=id then some cs else m.B i:=by
 funext i;simp only[AM.B,AM.wr];have ah:id<m.boxes.length:=(zza.1 h).1;by_cases hi:i=id
 ·subst hi;simp[ah]
 rw[zzbm (fun h=>hi h.symm),if_neg hi]
def aj(zs:Pi):P1:=zs.map (AV.int .i64)
def aF.jU{P:Program}{gl:Nat->AV}{Y:YT}{f:FuncId}{xs:P1}{m:AM}{K:UV}(hc:bF P f)
  (
   h:∀(N:Nat)(w0:fE)(an:Nat->Nat->Prop)(γ:G)(w:World)(vs:PP),aq N w0 an γ w m.B m.L->cB γ w m->ak w γ xs vs->
   Calls P f vs.toArray w fun e w'=>∃v γ' r m',e=.returned v/\eC w γ w' γ'/\aq N w0 an γ' w' m'.B m'.L/\cB γ' w' m'/\au w' γ' r v/\K r m'):aF P gl Y f xs m K:=
 ⟨hc,fun N w0 an γ w vs hm hl _ _ hr=>(callsIn_wide (n:=0)).2 (h N w0 an γ w vs hm hl hr)⟩
def yo{w:World}{γ:G}:au w γ (.aS []) (.tuple #[]):=.aS rfl fun i c v h=>by simp at h
abbrev I(n:Int):AV:=.int .i64 n
section
variable {H:Type} {P:Program} {n:Nat} {t e:TypeId} {x:DataW H}
def Zi{k:IntKind}(hu:P.underlying t=some (.int k))(h:Typed P (n+1) t x):∃m,x=.lit (.int k m)/\(Lit.int k m).wf=true:=by
 unfold Typed at h;rw[hu]at h;cases x with
 |lit l=>cases l<;>first|(cases h;done)|(obtain⟨rfl,h⟩:=h;exact⟨_,rfl,h⟩)
 |_=>cases h
def BI(hu:P.underlying t=some .string)(h:Typed P (n+1) t x):∃s,x=.lit (.string s)/\s.length<=maxLen:=by
 unfold Typed at h;rw[hu]at h;cases x with
 |lit l=>cases l<;>first|(cases h;done)|exact⟨_,rfl,h⟩
 |_=>cases h
def HQ(hu:P.underlying t=some (.slice e))(h:Typed P (n+1) t x):x=.nil\/∃bR spare,x=.slice bR spare/\bR.length<=maxLen/\∀y∈bR,Typed P n e y:=by
 unfold Typed at h;rw[hu]at h;cases x<;>first|(cases h;done)|exact .inl rfl|exact .inr ⟨_,_,rfl,h.1,h.2⟩
def Qag{fs:Array Field}(hu:P.underlying t=some (.struct fs))(h:Typed P (n+1) t x):∃parts,x=.agg parts/\parts.length=fs.size/\∀p∈fs.toList.zip parts,Typed P n p.1.type p.2:=by
 unfold Typed at h;rw[hu]at h;cases x<;>first|(cases h;done)|exact⟨_,rfl,h.1,h.2⟩
def Vk{k:IntKind}(hu:P.underlying t=some (.int k))(k':IntKind)(m:Int):cW P (n+1) t (.lit (.int k' m):DataW H)=[.int k' m]:=by simp only[cW,hu]
def OS(hu:P.underlying t=some .string)(l:List UInt8):cW P (n+1) t (.lit (.string l):DataW H)=[.str ⟨l.toArray⟩]:=by simp only[cW,hu]
def af3(hu:P.underlying t=some (.slice e)):cW P (n+1) t (.nil:DataW H)=[.sl .nil []]:=by simp only[cW,hu]
def anL(hu:P.underlying t=some (.slice e))(l sp:List (DataW H)):cW P (n+1) t (.slice l sp)=[.sl .nn (l.map (cW P n e))]:=by simp only[cW,hu]
def Kv{fs:Array Field}(hu:P.underlying t=some (.struct fs))(l:List (DataW H)):cW P (n+1) t (.agg l)=(fs.toList.zip l).flatMap fun p=>cW P n p.1.type p.2:=by simp only[cW,hu]
def Sc{k:Nat}(hu:P.underlying t=some (.array k e))(l:List (DataW H)):cW P (n+1) t (.agg l)=l.flatMap (cW P n e):=by simp only[cW,hu]
def af4{d:Nat}(h:Jq P t=true):o9 P d t x=.agg (cW P d t x):=by unfold o9;rw[h];rfl
def af5{d:Nat}(h:Jq P t=false){a:AV}(ha:cW P d t x=[a]):o9 P d t x=a:=by unfold o9;rw[h,ha];rfl
end
def Wk(a b:AV):Prop:=∀(w:World)(γ:G)(v:Value),au w γ a v->au w γ b v
def Wk.refl(a:AV):Wk a a:=fun _ _ _ h=>h
def Ps{a:AV}:Wk a a:=Wk.refl a
def Wk.sl(rt:Rt)(rows:X2):Wk (.sl rt rows) (.sl .ro rows):=fun w γ v h=>by
 cases h with
 |sl b off sz cv hcap hnil ha hsz hc hr bn=>exact .sl b off sz cv hcap hnil ha hsz hc hr trivial
def WkL:P1->P1->Prop
 |[],[]=>True
 |a::r,b::s=>Wk a b/\WkL r s
 |_,_=>False
def WkL.rep{w:World}{γ:G}:∀{l l':P1}{vs:PP},WkL l l'->ak w γ l vs->ak w γ l' vs
 |[],[],_,_,h=>h
 |[],_::_,_,h,_=>by cases h
 |_::_,[],_,h,_=>by cases h
 |a::l,b::l',[],_,h=>by have:=h.1;simp at this
 |a::l,b::l',v::vs,hk,h=>by
  have h0:au w γ a v:=h.2 0 a v rfl rfl;have hs:ak w γ l vs:=⟨by have:=h.1;simpa using this,fun i x y h1 h2=>h.2 (i+1) x y (Nm h1) (Nm h2)⟩;exact ak.cons (hk.1 w γ v h0) (WkL.rep hk.2 hs)
def Xl{P:Program}{gl:Nat->AV}{f:FuncId}{l l':P1}{r:AV}(h:Pure P gl f l' r)(hk:WkL l l'):Pure P gl f l r:=
 ⟨h.1,fun ro w vs fh hr=>h.2 ro w vs fh (hk.rep hr)⟩
def Wk.rows{α:Type}(l:List α)(f g:α->P1)(hl:∀a,(g a).length=(f a).length)(hc:∀(a:α)(j:Nat)(c':AV),(g a)[j]?=some c'->∃c,(f a)[j]?=some c/\Wk c c'):Wk (.sl .ro (l.map f)) (.sl .ro (l.map g)):=fun w γ v h=>by
 have key:∀(i j:Nat)(c':AV),Qr (l.map g) i j=some c'->∃c,Qr (l.map f) i j=some c/\Wk c c':=fun i j c' h=>by
  unfold Qr at h |-
  rw[zzbc]at h |-
  cases hi:l[i]? with
  |none=>rw[hi]at h;cases h
  |some a=>
   rw[hi]at h;simpa using hc a j c' (Nm h)
 obtain⟨a,cap,b,off,sz,cv,rfl,s1,_⟩:=h.cq;have e1:(l.map f).length=(l.map g).length:=zd
 rw[e1];refine qp.mk' (b:=b) (off:=off) (sz:=sz) (cv:=cv) ⟨by rw[<- e1];exact s1.hcap,s1.hnil,fun hn=>s1.at_ (Nm hn),fun row hr=>?_,fun i j c' h=>?_,fun i j c' h=>?_⟩ trivial
 ·simp at hr;obtain⟨x,hx,rfl⟩:=hr;rw[hl x];exact s1.hsz _ (by simp;exact⟨x,hx,rfl⟩)
 ·obtain⟨c,h1,h2⟩:=key i j c' h;exact s1.cell i j c h1
 obtain⟨c,h1,h2⟩:=key i j c' h;exact h2 _ _ _ (s1.rep i j c h1)
def Zc{P:Program}{gl:Nat->AV}{f:FuncId}{l:P1}{r r':AV}(h:Pure P gl f l r)(hk:Wk r r'):Pure P gl f l r':=
 ⟨h.1,fun ro w vs hg hr=>(h.2 ro w vs hg hr).mono fun _ _⟨v,h1,h2,h3⟩=>⟨v,h1,h2,hk _ _ _ h3⟩⟩
def Wq{l l':P1}(h:WkL l l'):Wk (.agg l) (.agg l'):=fun w γ v hr=>by
 have key:∀{l l':P1},WkL l l'->l.length=l'.length/\∀(i:Nat)(c':AV),l'[i]?=some c'->∃c,l[i]?=some c/\Wk c c':=by
  intro l;induction l with
  |nil=>intro l' h;cases l' with
   |nil=>exact⟨rfl,fun i c' h=>by simp at h⟩
   |cons _ _=>exact h.elim
  |cons a l ih=>intro l' h;cases l' with
   |nil=>exact h.elim
   |cons b l'=>
    obtain⟨h1,h2⟩:=ih h.2;refine⟨by simp[h1],fun i c' hc=>?_⟩;cases i with
    |zero=>simp at hc;subst hc;exact⟨a,rfl,h.1⟩
    |succ i=>simpa using h2 i c' (Nm hc)
 obtain⟨h1,h2⟩:=key h;cases hr with
 |agg hl hc=>
  refine .agg zE fun i c' v kj hv=>?_;obtain⟨c,g1,g2⟩:=h2 i c' kj;exact g2 _ _ _ (hc i c v g1 hv)
section
variable {B l:X2} {i j:Nat}
def Qi(h:i<B.length):Qf (B++l) i=Qf B i:=by simp[Qf,zzaq,-Vo,zzam h]
def Yb(v:P1)(h:i<B.length):(B++l).set i v=B.set i v++l:=by rw[zzfv _ _ h]
def Qx(v:P1)(h:i≠j):Qf (B.set i v) j=Qf B j:=by simp[Qf,zzaq,-Vo,zzbm h]
def Xj(v:P1)(h:i<B.length):Qf (B.set i v) i=v:=by simp[Qf,zzaq,-Vo,zzbg h]
def Jf(h:i<B.length):B[i]?=some (Qf B i):=by
 rw[zzac h];simp[Qf,zzaq,-Vo,h]
end
def bE(S:Nat->Prop)(B B':X2):Prop:=B.length<=B'.length/\∀j,j<B.length->¬S j->Qf B' j=Qf B j
def bE.refl(S:Nat->Prop)(B:X2):bE S B B:=⟨zzaa _,fun _ _ _=>rfl⟩
def bE.app{S:Nat->Prop}{B B':X2}(h:bE S B B')(l:X2):bE S B (B'++l):=
 ⟨by have:=h.1;simp;omega,fun j hj hs=>by rw[Qi (by have:=h.1;omega)];exact h.2 j hj hs⟩
def bE.set{S:Nat->Prop}{B B':X2}(h:bE S B B'){i:Nat}(hi:S i\/B.length<=i)(v:P1):bE S B (B'.set i v):=
 ⟨by have:=h.1;simpa using this,fun j hj hs=>by rw[Qx v (by rintro rfl;obtain hi|hi:=hi;exact hs hi;omega)];exact h.2 j hj hs⟩
def bE.trans{S:Nat->Prop}{B B' B'':X2}(h:bE S B B')(k:bE (fun i=>S i\/B.length<=i) B' B''):bE S B B'':=
 ⟨zzaz h.1 k.1,fun j hj hs=>by rw[k.2 j (by have:=h.1;omega) (by rintro(h|h);exact hs h;omega)];exact h.2 j hj hs⟩
def bE.mono{S S':Nat->Prop}{B B':X2}(h:bE S B B')(hs:∀i,S i->S' i):bE S' B B':=⟨h.1,fun j hj hn=>h.2 j hj fun k=>hn (hs j k)⟩
def Qe(s:Int×Int):P1:=[I s.1,I s.2]
def cL:List (Int×Int)->P1
 |[]=>[]
 |s::r=>I s.1::I s.2::cL r
@[simp] theorem aw5:cL []=[]:=rfl
@[simp] theorem qg(s:Int×Int)(r:List (Int×Int)):cL (s::r)=I s.1::I s.2::cL r:=rfl
def Vw:∀l,(cL l).length=l.length*2
 |[]=>rfl
 |s::r=>by simp[Vw r];omega
def Qbz:∀a b,cL (a++b)=cL a++cL b
 |[],_=>rfl
 |s::r,b=>by simp[Qbz r b]
def HR:∀(l:List (Int×Int))(i:Nat),(cL l).drop (i*2)=cL (l.drop i)
 |[],i=>zd
 |s::r,0=>zd
 |s::r,i+1=>by rw[show(i+1)*2=i*2+1+1 by omega];simp[HR r i]
def uv{l:List (Int×Int)}{i:Nat}{s:Int×Int}(h:l[i]?=some s):(cL l).drop (i*2)=I s.1::I s.2::cL (l.drop (i+1)):=by
 rw[HR];have ah:=(zza.1 h).1;rw[zzae ah];have:l[i]=s:=(zza.1 h).2;rw[this,qg]
def F4{l:List (Int×Int)}{i:Nat}{s:Int×Int}(h:l[i]?=some s):(cL l).drop (i*2+1)=I s.2::cL (l.drop (i+1)):=by
 rw[<- zzdw,uv h];rfl
def OR:∀(l:List (Int×Int))(i:Nat)(s:Int×Int),i<l.length->setA (cL l) (i*2) [I s.1,I s.2]=cL (l.set i s)
 |[],i,s,h=>by simp at h
 |t::r,0,s,h=>by simp[setA]
 |t::r,i+1,s,h=>by
  have ih:=OR r i s (Nm h);simp only[setA]at ih |-
  rw[show(i+1)*2=i*2+1+1 by omega,show i*2+1+1+1=i*2+1+1+1 from rfl];simp only[qg,zzdn];rw[ih]
def wI:∀(l:List (Int×Int))(i:Nat)(s:Int×Int)(y:Int),l[i]?=some s->(cL l).set (i*2+1) (I y)=cL (l.set i (s.1,y))
 |[],i,s,y,h=>by simp at h
 |t::r,0,s,y,h=>by simp at h;subst h;simp
 |t::r,i+1,s,y,h=>by
  have ih:=wI r i s y (Nm h);rw[show(i+1)*2+1=i*2+1+1+1 by omega];simp only[qg,zzdn];rw[ih]
def BJ:∀(l:List (Int×Int))(r:P1),aY 2 l.length (cL l++r)=l.map Qe
 |[],_=>rfl
 |s::l,r=>by simp[Qe,BJ l r]
def Qef(l:List (Int×Int)):aY 2 l.length (cL l)=l.map Qe:=by simpa using BJ l []
def C8(l:List (Int×Int)):Zw (cL l)=true:=by
 induction l with
 |nil=>rfl
 |cons s r ih=>simp only[qg,Zw,List.all_cons,zzak]at ih |-;exact⟨rfl,rfl,ih⟩
def RT{a b:P1}(ha:Zw a=true)(hb:Zw b=true):Zw (a++b)=true:=by
 simp only[Zw,zzfi,zzak]at*;exact⟨ha,hb⟩
def HO(l:List (Int×Int)):(l.map Qe).flatten=cL l:=by
 induction l with
 |nil=>rfl
 |cons s r ih=>simp[Qe,ih]
def Sa(n:Nat):bH n [I 0,I 0]=cL (List.replicate n (0,0)):=by
 induction n with
 |zero=>rfl
 |succ n ih=>rw[bH,ih];rfl
def Ze{l:List (Int×Int)}{i:Nat}{s:Int×Int}(h:l[i]?=some s):Qf (l.map Qe) i=[I s.1,I s.2]:=Qv (by simp[h,Qe])
def pn:∀(bs:P1)(a b:P1),bs.length=b.length->setA (a++b) a.length bs=a++bs
 |[],a,b,h=>by cases b with
  |nil=>rfl
  |cons _ _=>simp at h
 |x::bs,a,[],h=>by simp at h
 |x::bs,a,y::b,h=>by
  have ih:=pn bs (a++[x]) b (Nm h);rw[setA];have:(a++y::b).set a.length x=a++[x]++b:=zd
  rw[this];simpa using ih
def HP(bs a r:P1)(h:bs.length=a.length):setA (a++r) 0 bs=bs++r:=by
 have D8:∀(bs pre a r:P1),bs.length=a.length->setA (pre++a++r) pre.length bs=pre++bs++r:=by
  intro bs;induction bs with
  |nil=>intro pre a r h;cases a with
   |nil=>rfl
   |cons _ _=>simp at h
  |cons x bs ih=>intro pre a r h;cases a with
   |nil=>simp at h
   |cons y a=>
    rw[setA];have e:(pre++y::a++r).set pre.length x=pre++[x]++a++r:=zd
    rw[e];have:=ih (pre++[x]) a r (Nm h);rw[show(pre++[x]).length=pre.length+1 by simp]at this;rw[this];simp
 have:=D8 bs [] a r h;simpa using this
def auI(S:X2->Prop)(y:P1->AM->(Bool->AM->Prop)->Prop)(K:AM->Prop):X2->AM->Prop
 |[],m=>∀m',fR m m'->K m'
 |x::xs,m=>∀m',fR m m'->∀K':Bool->AM->Prop,(∀lz,S lz.boxes->auI S y K xs lz->K' true lz)->(∀lz,(∀m3,fR lz m3->K m3)->K' false lz)->y x m' K'
def bS(O:Nat->Prop)(m m':AM):Prop:=m.boxes.length<=m'.boxes.length/\(∀j,j<m.boxes.length->¬O j->Qf m'.boxes j=Qf m.boxes j)/\(∃lx,m'.lens=m.lens++lx)/\∀l,m.st l≠.gone->m'.st l=m.st l
def fR.toO{m m':AM}(h:fR m m')(O:Nat->Prop):bS O m m':=by
 obtain⟨⟨bx,h1⟩,h2,h3⟩:=h;exact⟨by rw[h1];simp,fun j hj _=>by rw[h1,Qi hj],h2,h3⟩
def bS.refl(O:Nat->Prop)(m:AM):bS O m m:=(fR.refl m).toO O
def bS.trans{O:Nat->Prop}{m m' lz:AM}(h:bS O m m')(k:bS O m' lz):bS O m lz:=by
 obtain⟨h1,h2,⟨c,h3⟩,h4⟩:=h;obtain⟨k1,k2,⟨c',k3⟩,k4⟩:=k;exact⟨zzaz h1 k1,fun j hj ho=>by rw[k2 j zE ho,h2 j hj ho],⟨c++c',by rw[k3,h3,zzbd]⟩,fun l hl=>by rw[k4 l (by rw[h4 l hl];exact hl),h4 l hl]⟩
def bS.gone{O:Nat->Prop}{m m':AM}(h:bS O m m')(l:Nat):bS O (m.at_ l .gone) (m'.at_ l .gone):=
 ⟨h.1,h.2.1,h.2.2.1,fun l' fA=>by
  by_cases e:l'=l
  ·subst e;simp at fA
  simp only[ajh,uo,e,if_false]at fA |-;exact h.2.2.2 l' fA⟩
def N5(O:Nat->Prop)(m m':AM):Prop:=m.boxes.length<=m'.boxes.length/\∀j,O j->Qf m'.boxes j=Qf m.boxes j
def OU(O:Nat->Prop)(n n':Nat)(j:Nat):Prop:=O j\/(n<=j/\j<n')
def auJ{O:Nat->Prop}{a b c:Nat}(h1:a<=b)(h2:b<=c):OU (OU O a b) b c=OU O a c:=by
 funext j;unfold OU;apply propext;constructor
 ·rintro((h|h)|h)
  ·exact .inl h
  ·exact .inr ⟨h.1,zE⟩
  exact .inr ⟨zE,h.2⟩
 rintro(h|h)
 ·exact .inl (.inl h)
 rcases zzab j b with h3|h3
 ·exact .inl (.inr ⟨h.1,h3⟩)
 exact .inr ⟨h3,h.2⟩
def bS.aay{O:Nat->Prop}{m m' lz:AM}(h:bS O m m')(k:bS (OU O m.boxes.length m'.boxes.length) m' lz):bS O m lz:=by
 obtain⟨h1,h2,⟨c,h3⟩,h4⟩:=h;obtain⟨k1,k2,⟨c',k3⟩,k4⟩:=k;exact⟨zzaz h1 k1,fun j hj ho=>by rw[k2 j zE (by rintro(h|h);exact ho h;omega),h2 j hj ho],⟨c++c',by rw[k3,h3,zzbd]⟩,fun l hl=>by rw[k4 l (by rw[h4 l hl];exact hl),h4 l hl]⟩
def mh(y:P1->AM->(Bool->AM->Prop)->Prop)(K:AM->Prop):X2->(Nat->Prop)->AM->Prop
 |[],O,m=>∀m',bS O m m'->K m'
 |x::xs,O,m=>∀m',bS O m m'->∀K':Bool->AM->Prop,(∀lz,N5 (OU O m.boxes.length m'.boxes.length) m' lz->mh y K xs (OU O m.boxes.length m'.boxes.length) lz->K' true lz)->
   (∀lz,(∀m3,bS (OU O m.boxes.length m'.boxes.length) lz m3->K m3)->K' false lz)->y x m' K'
def mh.ext{O:Nat->Prop}{y:P1->AM->(Bool->AM->Prop)->Prop}{K:AM->Prop}{xs:X2}{m m':AM}(h:mh y K xs O m)(e:bS O m m'):mh y K xs (OU O m.boxes.length m'.boxes.length) m':=by
 cases xs with
 |nil=>exact fun m2 e2=>h m2 (e.aay e2)
 |cons x xs=>
  intro m2 e2;rw[auJ e.1 e2.1];exact h m2 (e.aay e2)
def Ge(P:Program)(gl:Nat->AV)(f:FuncId)(first cap:P1)(xs:X2):Prop:=
 ∀(Y:YT)(l:Nat)(m:AM)(K:AM->Prop),mh (Y l) K xs (fun _=>False) m->aF P gl Y f (first++[.yld l]++cap) m fun _ m'=>K m'
def kQ{P:Program}{gl:Nat->AV}{orc:X1}{Y:YT}{s:AS}{Q:So}{g:bN}{ps:P2}{oU body:SC}{f:FuncId}{first cap:P1}{xs:X2}
  (hg:ev gl s.T g=.fn f first cap)(cV:Ge P gl f first cap xs)(aH:∀x∈xs,x.length=ps.length)(I:(Nat->Prop)->Nat->AM->Prop)(X:(Nat->Prop)->Exit->AM->Prop)
  (h0:I (fun _=>False) 0 s.m)
  (hI:∀O i m m',I O i m->bS O m m'->I (OU O m.boxes.length m'.boxes.length) i m')(hX:∀O ex m m',X O ex m->bS O m m'->X O ex m')
  (
   hb:∀(O:Nat->Prop)(l i:Nat)(m:AM)(x:P1),(∀j,O j->s.m.boxes.length<=j/\j<m.boxes.length)->s.m.boxes.length<=m.boxes.length->s.m.st l=.gone->m.st l=.ready->I O i (m.at_ l .gone)->xs[i]?=some x->∀K':So,
   (∀s',N5 O m s'.m->I O (i+1) (s'.m.at_ l .gone)->K' .normal s')->(∀s',m.boxes.length<=s'.m.boxes.length->X O .ret (s'.m.at_ l .gone)->K' .ret s')->(∀id s',m.boxes.length<=s'.m.boxes.length->X O (.exit id) (s'.m.at_ l .gone)->K' (.exit id) s')->
   vc P gl orc Y oU ⟨Qbp s.T ps x,m⟩ (QG l fun s'=>vc P gl orc Y body s' K'))
  (WL:∀O m,I O xs.length m->Q .normal ⟨s.T,m⟩)(hex:∀O ex m,X O ex m->Q ex ⟨s.T,m⟩):vc P gl orc Y (.rfunc g ps oU body) s Q:=by
 simp only[vc,hg];intro hl;generalize eO:s.m.ln=l at hl;refine cV _ l s.m.bM (fun m'=>Kf l s.T m' Q (m'.st l)) ?_;have eX:∀{O:Nat->Prop}{m m':AM},m.st l=.ready->bS O m m'->m'.st l=.ready:=fun h e=>by rw[e.2.2.2 l (by rw[h];simp),h]
 have key:∀(n i:Nat)(O:Nat->Prop)(m:AM),i+n=xs.length->I O i (m.at_ l .gone)->(∀j,O j->s.m.boxes.length<=j/\j<m.boxes.length)->s.m.boxes.length<=m.boxes.length->m.st l=.ready->
   mh (Yin Y l ps.length (fun args m K=>vc P gl orc Y oU ⟨Qbp s.T ps args,m⟩ (QG l fun s'=>vc P gl orc Y body s' (Wa l K))) l) (fun m'=>Kf l s.T m' Q (m'.st l)) (xs.drop i) O m:=by
  intro n;induction n with
  |zero=>
   intro i O m hi hIm zy eN hm;rw[zzaj zE];intro m' e;simp only[eX hm e,Kf];obtain rfl:i=xs.length:=zE
   exact WL _ _ (hI _ _ _ _ hIm (e.gone l))
  |succ n ih=>
   intro i O m hi hIm zy eN hm;have ah:i<xs.length:=zE
   rw[zzae ah];intro m' e K' hT hF;have auK:s.m.boxes.length<=m'.boxes.length:=zzaz eN e.1
   have anM:∀j,OU O m.boxes.length m'.boxes.length j->s.m.boxes.length<=j/\j<m'.boxes.length:=by
    rintro j (h|h)
    ·exact⟨(zy j h).1,zzan (zy j h).2 e.1⟩
    exact⟨zE,h.2⟩
   have mU:=hI _ _ _ _ hIm (e.gone l);simp only[Ut]at mU;simp only[Yin,if_true];refine⟨eX hm e,aH _ (zzdc ah),?_⟩;refine hb (OU O m.boxes.length m'.boxes.length) l i m' xs[i] anM auK hl (eX hm e) mU (zzac ah) (Wa l K') (fun s' hS' mU=>?_) (fun s' cw hQ=>?_) fun id s' cw hQ=>?_
   ·refine hT _ (by simpa[N5]using hS') (ih (i+1) _ _ zE ?_ (fun j hj=>⟨(anM j hj).1,by simpa using zzan (anM j hj).2 hS'.1⟩) (by simpa using zzaz auK hS'.1) zd);simpa using mU
   ·refine hF _ fun m3 e3=>?_;have h3:m3.st l=.done .ret:=by have:=e3.2.2.2 l zd;simpa using this
    simp only[h3];exact hex _ _ _ (hX _ _ _ _ hQ (by have:=e3.gone l;simpa using this))
   refine hF _ fun m3 e3=>?_;have h3:m3.st l=.done (.exit id):=by have:=e3.2.2.2 l zd;simpa using this
   simp only[h3];exact hex _ _ _ (hX _ _ _ _ hQ (by have:=e3.gone l;simpa using this))
 have hI0:I (fun _=>False) 0 (s.m.bM.at_ l .gone):=by
  have:=hI (fun _=>False) 0 s.m (s.m.bM.at_ l .gone) h0 ⟨by simp[AM.bM],fun j _ _=>by simp[AM.bM],⟨[],by simp[AM.bM]⟩,fun l' fA=>by
   have aK:l'≠l:=by rintro rfl;exact fA hl
   simp[AM.bM,eO,uo,aK]⟩
  have e:OU (fun _=>False) s.m.boxes.length (s.m.bM.at_ l .gone).boxes.length=fun _=>False:=by
   funext j;simp[OU,AM.bM]
  rw[e]at this;exact this
 have:=key xs.length 0 (fun _=>False) s.m.bM zd hI0 (fun _ h=>h.elim) (by simp[AM.bM]) (by simp[AM.bM,eO]);simpa using this
def G.only(γ γ':G):G:={γ' with β:=fun i=>if(γ.β i).isSome then γ'.β i else none,mm:=fun i=>if(γ.mm i).isSome then γ'.mm i else none}
section
variable {N:Nat} {w0:fE} {an:Nat->Nat->Prop} {γ γ':G} {w w':World} {P:Program} {gl:Nat->AV} {Y:YT}
def Yt{id b:Nat}(h:(γ.only γ').β id=some b):(γ.β id).isSome/\γ'.β id=some b:=by
 simp only[G.only]at h;split at h
 ·exact⟨by assumption,h⟩
 cases h
def Qak{id b:Nat}(h:(γ.only γ').mm id=some b):(γ.mm id).isSome/\γ'.mm id=some b:=by
 simp only[G.only]at h;split at h
 ·exact⟨by assumption,h⟩
 cases h
def DO{id b b0:Nat}(h0:γ.β id=some b0)(h:γ'.β id=some b):(γ.only γ').β id=some b:=by simp[G.only,h0,h]
def kX{id b b0:Nat}(h0:γ.mm id=some b0)(h:γ'.mm id=some b):(γ.only γ').mm id=some b:=by simp[G.only,h0,h]
def Sd{a:Option Addr}{len cap sz:Nat}{rt:Rt}(h:tG w' γ' a len cap sz rt):tG w' (γ.only γ') a len cap sz rt:=by
 cases rt<;>exact h
def au.only{a:AV}{v:Value}(h:au w' γ' a v):∀{v0:Value},au w γ a v0->au w' (γ.only γ') a v:=by
 induction h generalizing γ with
 |junk v=>exact fun _=>.junk _
 |gd h h' ih=>exact fun k=>.gd (fun hg=>by cases k with|gd k1 _=>exact ih hg (k1 hg)) h'
 |bool b=>exact fun _=>.bool b
 |int k n=>exact fun _=>.int k n
 |str s=>exact fun _=>.str s
 |nilfn=>exact fun _=>.nilfn
 |nilv p=>exact fun _=>.nilv p
 |yld h=>exact fun _=>.yld h
 |mp h=>exact fun k=>by cases k with|mp k=>exact .mp (kX k h)
 |it h=>exact fun k=>by cases k with|it k=>exact .it (kX k h)
 |agg hl _ ih=>
  intro v0 k;cases k with
  |@agg _ _ ew kl k=>
   refine .agg hl fun i c v h1 h2=>?_
   ·have hi:i<ew.size:=by have:=(zza.1 h1).1;omega
    exact ih i c v h1 h2 (k i c ew[i] h1 (by simp[hi]))
 |aS hl _ ih=>
  intro v0 k;cases k with
  |@aS _ _ ew kl k=>
   refine .aS hl fun i c v h1 h2=>?_
   ·have hi:i<ew.size:=by have:=(zza.1 h1).1;omega
    exact ih i c v h1 h2 (k i c ew[i] h1 (by simp[hi]))
 |fn hl _ fA _ ih ih'=>
  intro v0 k;cases k with
  |@fn _ _ _ _ fa0 ca0 kl k kl' k'=>
   refine .fn hl (fun i c v h1 h2=>?_) fA fun i c v h1 h2=>?_
   ·have hi:i<fa0.size:=by have:=(zza.1 h1).1;omega
    exact ih i c v h1 h2 (k i c fa0[i] h1 (by simp[hi]))
   have hi:i<ca0.size:=by have:=(zza.1 h1).1;omega
   exact ih' i c v h1 h2 (k' i c ca0[i] h1 (by simp[hi]))
 |ptr h=>exact fun k=>by cases k with|ptr k=>exact .ptr (DO k h)
 |er hh=>exact fun _=>.er hh
 |bs h hl hh hs=>exact fun k=>by cases k with|bs k _ _ _=>exact .bs (DO k h) hl hh hs
 |ep cv hb hc h _=>exact fun _=>.ep cv hb hc h
 |sl b off sz cv hcap hnil ha hsz hc h bn _=>exact fun _=>.sl b off sz cv hcap hnil ha hsz hc h (Sd bn)
def cS.only{x:AV}{o o0:Obj}(h:cS w' γ' x o)(h0:cS w γ x o0):cS w' (γ.only γ') x o:=by
 unfold cS at h;split at h
 ·rename_i kn kvs es clock;cases o0<;>try exact h0.elim
  rename_i es0 anN;obtain⟨h1,h2,h3⟩:=h;obtain⟨k1,k2,k3⟩:=h0;refine⟨h1,h2,fun i k a e q1 q2=>?_⟩;obtain⟨p1,p2,p3,p4⟩:=h3 i k a e q1 q2;have hi:i<es0.size:=by have:=(zza.1 q1).1;omega
  exact⟨p1,p2,p3,p4.only (k3 i k a es0[i] q1 (by simp[hi])).2.2.2⟩
 ·rename_i mid n seen mb Nz sn st;cases o0<;>try exact h0.elim
  rename_i mp0 s0 a0 b0;cases mp0<;>try exact h0.elim
  exact⟨kX h0.1 h.1,h.2⟩
 exact h.elim
def Idle(a:AV):Prop:=∀(w:World)(γ:G)(v:Value),au w γ a v->au w γ.cQ a v
def Idle.bool(b:Bool):Idle (.bool b):=fun w γ v h=>by rw[h.bA];exact .bool b
def Idle.int(k:IntKind)(n:Int):Idle (.int k n):=fun w γ v h=>by rw[h.aJ];exact .int k n
def Idle.str(s:ByteArray):Idle (.str s):=fun w γ v h=>by rw[h.cD];exact .str s
def Idle.agg{cs:P1}(h:∀c∈cs,Idle c):Idle (.agg cs):=fun w γ v k=>by
 cases k with
 |agg hl k=>exact .agg hl fun i c v h1 h2=>h c (zzad h1) w γ v (k i c v h1 h2)
def Idle.aS{cs:P1}(h:∀c∈cs,Idle c):Idle (.aS cs):=fun w γ v k=>by
 cases k with
 |aS hl k=>exact .aS hl fun i c v h1 h2=>h c (zzad h1) w γ v (k i c v h1 h2)
def Idle.sl{rt:Rt}{rows:X2}(h:∀i s,rt≠.own i s):Idle (.sl rt rows):=fun w γ v k=>by
 cases k with
 |sl b off sz cv hcap hnil ha hsz hc hr bn=>
  refine .sl b off sz cv hcap hnil ha hsz hc hr ?_;cases rt with
  |own i s=>exact absurd rfl (h i s)
  |_=>exact bn
def Idle.ro(rows:X2):Idle (.sl .ro rows):=Idle.sl fun _ _ h=>by cases h
def Idle.nil(rows:X2):Idle (.sl .nil rows):=Idle.sl fun _ _ h=>by cases h
def Idle.full(rows:X2):Idle (.sl .full rows):=Idle.sl fun _ _ h=>by cases h
def YR(cells:P1):Prop:=(∀c∈cells,Idle c/\Qw c=true)\/∃kn kvs,cells=[.aM kn kvs]/\∀p∈kvs,Idle p.2
def Idle.rep{a:AV}(h:Idle a){v:Value}(hr:au w' γ' a v):au w' (γ.only γ') a v:=au.gF (γ:=γ.only γ') (h w' γ' v hr)
def aq.only{m m1:AM}{ex:X2}(hm:aq N w0 an γ w m.B m.L)(eH:aq N w0 an γ' w' ({m1 with boxes:=m1.boxes++ex}:AM).B m1.L)(e:eC w γ w' γ')
  (aH:m1.boxes.length=m.boxes.length)(hL:m1.lens=m.lens)(hk:∀(id:Nat)(cells:P1),m1.boxes[id]?=some cells->m.boxes[id]?=some cells\/YR cells):aq N w0 an (γ.only γ') w' m1.B m1.L:=by
 have hB:∀{id:Nat}{cells:P1},m1.B id=some cells->({m1 with boxes:=m1.boxes++ex}:AM).B id=some cells:=fun{id cells}h=>by
  simp only[AM.B]at h |-
  rw[zzam (zza.1 h).1];exact h
 have A2:∀{id:Nat}{cells:P1},m.B id=some cells->∃nV,m1.B id=some nV:=fun{id cells}h=>by
  have:=(zza.1 h).1;exact⟨_,zzac zE⟩
 have qh:∀{id:Nat},(γ.β id).isSome->∃b cells nV,γ.β id=some b/\γ'.β id=some b/\m.B id=some cells/\m1.B id=some nV:=fun{id}h=>by
  obtain⟨b,hb⟩:=zzcd.1 h;obtain⟨_,_,_,_,c,hc⟩:=hm.β id b hb;obtain⟨c1,fB⟩:=A2 hc;exact⟨b,c,c1,hb,e.β id b hb,hc,fB⟩
 refine⟨w0.st _ _ _ _ eH.bs ⟨rfl,rfl,rfl,zzaa _,fun _ _ _=>rfl,fun _ _ _ h=>⟨h,rfl⟩,fun b hb=>.inl ?_,fun _ _ h=>.inl h⟩,eH.hN,eH.an,eH.robd,fun id cells b hb h1=>?_,fun id b hb=>?_,fun i i' b h h'=>?_,eH.own,eH.oinj,fun b hb=>?_,fun id b hb=>?_,fun i i' b h h'=>?_,eH.len,eH.cur0⟩
 ·obtain⟨i,hi⟩|hb|hb|⟨i,hi⟩:=hb
  ·exact .inl ⟨i,(Yt hi).2⟩
  ·exact .inr (.inl hb)
  ·exact .inr (.inr (.inl hb))
  exact .inr (.inr (.inr ⟨i,(Qak hi).2⟩))
 ·obtain⟨h2,h3⟩:=Yt h1;obtain⟨b0,c0,_,g1,g2,g3,_⟩:=qh h2;rw[h3]at g2;cases g2;obtain⟨arr,e',q1,q2,q3⟩:=eH.box id cells b (hB hb) h3;refine⟨arr,e',q1,⟨q2.1,fun i c v hi hv=>?_⟩,q3⟩;rcases hk id cells hb with hk|hk|⟨kn,kvs,rfl,_⟩
  ·obtain⟨ew,_,_,k2,_⟩:=hm.box id cells b hk g1
   have ah:i<ew.size:=by
    have h5:=(zza.1 hi).1;have h6:=k2.1;simp at h6;omega
   exact(q2.2 i c v hi hv).only (k2.2 i c ew[i] hi (by simp[ah]))
  ·exact(hk c (zzad hi)).1.rep (q2.2 i c v hi hv)
  have:=q2.2 i c v hi hv;cases i with
  |zero=>cases hi;cases this
  |succ i=>cases hi
 ·obtain⟨h2,h3⟩:=Yt hb;obtain⟨b0,c0,c1,_,_,_,g4⟩:=qh h2;obtain⟨q1,q2,q3,q4,_⟩:=eH.β id b h3;exact⟨q1,q2,q3,q4,c1,g4⟩
 ·obtain⟨h2,h3⟩:=Yt h;obtain⟨h4,h5⟩:=Yt h';obtain⟨_,_,c,_,_,_,g3⟩:=qh h2;obtain⟨_,_,c',_,_,_,g3'⟩:=qh h4;have:=eH.inj i i' b h3 h5;rw[hB g3,hB g3']at this;rw[g3,g3'];exact this
 ·obtain⟨q1,q2,q3,q4,q5⟩:=eH.sp b hb;exact⟨q1,q2,q3,fun i hi=>q4 i (Yt hi).2,q5⟩
 ·obtain⟨h2,h3⟩:=Qak hb;obtain⟨b0,di⟩:=zzcd.1 h2;obtain⟨q1,q2,q3,q4,q5,q6,q8,x,o,q7,q9,q10⟩:=eH.mm id b h3;obtain⟨_,_,_,_,_,_,_,x0,o0,k7,k9,k10⟩:=hm.mm id b0 di;obtain⟨c1,fB⟩:=A2 k7;have hx:c1=[x]:=by rw[hB fB]at q7;cases q7;rfl
  subst hx;refine⟨q1,q2,q3,fun i hi=>q4 i (Yt hi).2,q5,q6,by simp[G.only,q8],x,o,fB,q9,?_⟩;rcases hk id [x] fB with hk|hk|⟨kn,kvs,hx,hk⟩
  ·have:x=x0:=by
    have k7':m.boxes[id]?=some [x0]:=k7;rw[hk]at k7';cases k7';rfl
   subst this;exact q10.only k10
  ·have:=(hk x zd).2;cases x<;>cases o<;>first|exact q10.elim|(simp[Qw]at this)
  cases hx;cases o<;>try exact q10.elim
  obtain⟨h4,h5,h6⟩:=q10;refine⟨h4,h5,fun i k a e s1 s2=>?_⟩;obtain⟨p1,p2,p3,p4⟩:=h6 i k a e s1 s2;exact⟨p1,p2,p3,(hk (k,a) (zzad s1)).rep p4⟩
 exact eH.minj i i' b (Qak h).2 (Qak h').2
def eC.only(e:eC w γ w' γ'):eC w γ w' (γ.only γ'):=
 ⟨e.size,e.ro,fun id b h=>DO h (e.β id b h),e.cur,fun id b h=>kX h (e.mm id b h),e.lp,e.own,e.sp,e.ss⟩
def aF.forget{f:FuncId}{as':P1}{m:AM}{K:UV}
  (
   h:aF P gl Y f as' m fun r m'=>∃m1 ex,m'={m1 with boxes:=m1.boxes++ex}/\m1.boxes.length=m.boxes.length/\m1.lens=m.lens/\
   (∀(id:Nat)(cells:P1),m1.boxes[id]?=some cells->m.boxes[id]?=some cells\/YR cells)/\Idle r/\K r m1):aF P gl Y f as' m K:=by
 refine⟨h.1,fun N w0 an γ w vs hm hl hg hy hr=>CallsIn.mono (h.2 N w0 an γ w vs hm hl hg hy hr) ?_⟩;rintro en w' ⟨v,γ',r,m',rfl,g1,g2,g3,g4,m1,ex,rfl,g5,g6,g7,g8,g9⟩;exact⟨v,γ.only γ',r,m1,rfl,g1.only,hm.only g2 g1 g5 g6 g7,g3,g8.rep g4,g9⟩
def aF.read{f:FuncId}{as':P1}{m:AM}{K:AV->Prop}(h:aF P gl Y f as' m fun r m'=>∃ex,m'={m with boxes:=m.boxes++ex}/\Idle r/\K r):aF P gl Y f as' m fun r m'=>m'=m/\K r:=by
 refine aF.forget ⟨h.1,fun N w0 an γ w vs hm hl hg hy hr=>CallsIn.mono (h.2 N w0 an γ w vs hm hl hg hy hr) ?_⟩;rintro en w' ⟨v,γ',r,m',rfl,g1,g2,g3,g4,ex,rfl,g5,g6⟩;exact⟨v,γ',r,_,rfl,g1,g2,g3,g4,m,ex,rfl,rfl,rfl,fun _ _ h=>.inl h,g5,rfl,g6⟩
end
def G.ajG(γ:G):G:={γ with own:=fun _=>none,cur:=fun _=>0}
def G.dn(n:Nat)(γ γ':G):G:={γ.only γ' with own:=fun i=>if i<n then γ'.own i else none,cur:=fun i=>if i<n then γ'.cur i else 0}
def cz(a:AV):Prop:=∀(w:World)(γ:G)(v:Value),au w γ a v->au w γ.ajG a v
def cz.bool(b:Bool):cz (.bool b):=fun w γ v h=>by rw[h.bA];exact .bool b
def cz.int(k:IntKind)(n:Int):cz (.int k n):=fun w γ v h=>by rw[h.aJ];exact .int k n
def cz.str(s:ByteArray):cz (.str s):=fun w γ v h=>by rw[h.cD];exact .str s
def cz.aM(kn:Nat)(kvs:List (Pi×AV)):cz (.aM kn kvs):=fun w γ v h=>by cases h
def cz.mp(id:Nat):cz (.mp id):=fun w γ v h=>by cases h with|mp h=>exact .mp h
def cz.sl{rt:Rt}{rows:X2}(h:∀i s,rt≠.own i s):cz (.sl rt rows):=fun w γ v k=>by
 cases k with
 |sl b off sz cv hcap hnil ha hsz hc hr bn=>
  refine .sl b off sz cv hcap hnil ha hsz hc hr ?_;cases rt with
  |own i s=>exact absurd rfl (h i s)
  |_=>exact bn
def LA(cells:P1):Prop:=∀c∈cells,cz c/\∀kn kvs,c=.aM kn kvs->∀p∈kvs,cz p.2
def Kept(bs:X2)(id:Nat)(ct cells:P1):Prop:=
 (ct=cells/\bs[id]?=some cells/\LA cells)\/(ct=cells/\∀c∈cells,Idle c/\Qw c=true)\/
 ∃(kn:Nat)(L9 kvs:List (Pi×AV)),ct=[.aM kn L9]/\cells=[.aM kn kvs]/\L9.length=kvs.length/\(∀p∈kvs,Idle p.2)/\∀(i:Nat)(k:Pi)(a:AV)(k':Pi)(a':AV),L9[i]?=some (k',a')->kvs[i]?=some (k,a)->k'=k/\Wk a' a
def Kept.empty{bs:X2}{id:Nat}{ct cells:P1}(h:Kept bs id ct cells)(h':ct=[]):cells=[]:=by
 obtain⟨rfl,_⟩|⟨rfl,_⟩|⟨kn,L9,kvs,rfl,rfl,_⟩:=h
 ·exact h'
 ·exact h'
 cases h'
section
variable {N:Nat} {w0:fE} {an:Nat->Nat->Prop} {γ γ':G} {w w':World} {P:Program} {gl:Nat->AV} {Y:YT}
def Se(n:Nat):Ny w' (γ.only γ'.ajG) w' (γ.dn n γ'):=
 ⟨zzaa _,fun _ _ _ h=>⟨h,rfl⟩,fun _ _ h=>h,fun _=>zzbe _,fun _ _ h=>h,fun _ _ h=>h,fun _ _ _ h=>(by cases h),Sz.refl w'⟩
def au.dn{a:AV}{v v0:Value}(n:Nat)(h:au w' γ' a v)(no:cz a)(h0:au w γ a v0):au w' (γ.dn n γ') a v:=
 ((no _ _ _ h).only (γ:=γ) h0).eD (Se n)
def Idle.auL{a:AV}(n:Nat)(h:Idle a){v:Value}(hr:au w' γ' a v):au w' (γ.dn n γ') a v:=au.gF (γ:=γ.dn n γ') (h w' γ' v hr)
def cS.dn{x:AV}{o o0:Obj}(n:Nat)(h:cS w' γ' x o)(h0:cS w γ x o0)(no:∀kn kvs,x=.aM kn kvs->∀p∈kvs,cz p.2):cS w' (γ.dn n γ') x o:=by
 unfold cS at h;split at h
 ·rename_i kn kvs es clock;cases o0<;>try exact h0.elim
  rename_i es0 anN;obtain⟨h1,h2,h3⟩:=h;obtain⟨k1,k2,k3⟩:=h0;refine⟨h1,h2,fun i k a e q1 q2=>?_⟩;obtain⟨p1,p2,p3,p4⟩:=h3 i k a e q1 q2;have hi:i<es0.size:=by have:=(zza.1 q1).1;omega
  exact⟨p1,p2,p3,p4.dn n (no kn kvs rfl (k,a) (zzad q1)) (k3 i k a es0[i] q1 (by simp[hi])).2.2.2⟩
 ·rename_i mid n' seen mb Nz sn st;cases o0<;>try exact h0.elim
  rename_i mp0 s0 a0 b0;cases mp0<;>try exact h0.elim
  exact⟨kX h0.1 h.1,h.2⟩
 exact h.elim
def aq.dn{m m1:AM}{mx ex:X2}{exl:P2}(hm:aq N w0 an γ w m.B m.L)(eH:aq N w0 an γ' w' (fun i=>(mx++ex)[i]?) (fun i=>(m.lens++exl)[i]?))(e:eC w γ w' γ')
  (aH:m1.boxes.length=m.boxes.length)(hmx:mx.length=m.boxes.length)(hL:m1.lens=m.lens)
  (hk:∀(id:Nat)(cells ct:P1),m1.boxes[id]?=some cells->mx[id]?=some ct->Kept m.boxes id ct cells):
  aq N w0 an (γ.dn m.lens.length γ') w' m1.B m1.L:=by
 have hB:∀{id:Nat}{cells:P1},m1.B id=some cells->∃ct,mx[id]?=some ct/\(mx++ex)[id]?=some ct:=fun{id cells}h=>by
  have h':id<m1.boxes.length:=(zza.1 h).1;have h2:id<mx.length:=zE
  exact⟨mx[id],by simp[h2],by rw[zzam h2];simp[h2]⟩
 have A2:∀{id:Nat}{cells:P1},m.B id=some cells->∃nV,m1.B id=some nV:=fun{id cells}h=>by
  have:=(zza.1 h).1;exact⟨_,zzac zE⟩
 have qh:∀{id:Nat},(γ.β id).isSome->∃b cells nV,γ.β id=some b/\γ'.β id=some b/\m.B id=some cells/\m1.B id=some nV:=fun{id}h=>by
  obtain⟨b,hb⟩:=zzcd.1 h;obtain⟨_,_,_,_,c,hc⟩:=hm.β id b hb;obtain⟨c1,fB⟩:=A2 hc;exact⟨b,c,c1,hb,e.β id b hb,hc,fB⟩
 have yt:∀{id b:Nat},(γ.dn m.lens.length γ').own id=some b->id<m.lens.length/\γ'.own id=some b:=fun{id b}h=>by
  have h:(if id<m.lens.length then γ'.own id else none)=some b:=h;split at h
  ·exact⟨by assumption,h⟩
  cases h
 refine⟨w0.st _ _ _ _ eH.bs ⟨rfl,rfl,rfl,zzaa _,fun _ _ _=>rfl,fun _ _ _ h=>⟨h,rfl⟩,fun b hb=>.inl ?_,fun _ _ h=>.inl h⟩,eH.hN,eH.an,eH.robd,fun id cells b hb h1=>?_,fun id b hb=>?_,fun i i' b h h'=>?_,fun id b hb=>?_,fun i i' b h h'=>eH.oinj i i' b (yt h).2 (yt h').2,fun b hb=>?_,fun id b hb=>?_,fun i i' b h h'=>?_,fun id n hn=>?_,fun id hn=>?_⟩
 ·obtain⟨i,hi⟩|⟨i,hi⟩|hb|⟨i,hi⟩:=hb
  ·exact .inl ⟨i,(Yt hi).2⟩
  ·exact .inr (.inl ⟨i,(yt hi).2⟩)
  ·exact .inr (.inr (.inl hb))
  exact .inr (.inr (.inr ⟨i,(Qak hi).2⟩))
 ·obtain⟨h2,h3⟩:=Yt h1;obtain⟨b0,c0,_,g1,g2,g3,_⟩:=qh h2;rw[h3]at g2;cases g2;obtain⟨ct,fB,yZ⟩:=hB hb;obtain⟨arr,e',q1,q2,q3⟩:=eH.box id ct b yZ h3;rcases hk id cells ct hb fB with⟨rfl,hk,no⟩|⟨rfl,aL⟩|⟨kn,L9,kvs,rfl,rfl,_⟩
  ·refine⟨arr,e',q1,⟨q2.1,fun i c v hi hv=>?_⟩,q3⟩;obtain⟨ew,_,_,k2,_⟩:=hm.box id ct b hk g1
   have ah:i<ew.size:=by
    have h5:=(zza.1 hi).1;have h6:=k2.1;simp at h6;omega
   exact(q2.2 i c v hi hv).dn _ (no c (zzad hi)).1 (k2.2 i c ew[i] hi (by simp[ah]))
  ·exact⟨arr,e',q1,⟨q2.1,fun i c v hi hv=>(aL c (zzad hi)).1.auL _ (q2.2 i c v hi hv)⟩,q3⟩
  refine⟨arr,e',q1,⟨Nm q2.1,fun i c v hi hv=>?_⟩,q3⟩;cases i with
  |zero=>have:=q2.2 0 _ v rfl hv;cases this
  |succ i=>cases hi
 ·obtain⟨h2,h3⟩:=Yt hb;obtain⟨b0,c0,c1,_,_,_,g4⟩:=qh h2;obtain⟨q1,q2,q3,q4,_⟩:=eH.β id b h3;exact⟨q1,q2,q3,fun id' h=>q4 id' (yt h).2,c1,g4⟩
 ·obtain⟨h2,h3⟩:=Yt h;obtain⟨h4,h5⟩:=Yt h';obtain⟨_,_,c,_,_,_,g3⟩:=qh h2;obtain⟨_,_,c',_,_,_,g3'⟩:=qh h4;obtain⟨d,d1,d2⟩:=hB g3;obtain⟨d',d1',d2'⟩:=hB g3';have:=eH.inj i i' b h3 h5;simp only[d2,d2']at this
  have em:∀{id:Nat}{c d:P1},m1.B id=some c->mx[id]?=some d->d=[]->c=[]:=fun{id c d}h1 h2 h3=>by
   exact(hk id c d h1 h2).empty h3
  obtain h|h|h:=this
  ·exact .inl (by rw[g3,em g3 d1 (Nm h)])
  ·exact .inr (.inl (by rw[g3',em g3' d1' (Nm h)]))
  exact .inr (.inr h)
 ·obtain⟨h1,h2⟩:=yt hb;obtain⟨q1,q2,_⟩:=eH.own id b h2;refine⟨q1,q2,m.lens[id],?_⟩;simp only[AM.L,hL];exact zzac h1
 ·obtain⟨q1,q2,q3,q4,q5⟩:=eH.sp b hb;exact⟨q1,q2,q3,fun i hi=>q4 i (Yt hi).2,fun i hi=>q5 i (yt hi).2⟩
 ·obtain⟨h2,h3⟩:=Qak hb;obtain⟨b0,di⟩:=zzcd.1 h2;obtain⟨q1,q2,q3,q4,q5,q6,q8,x,o,q7,q9,q10⟩:=eH.mm id b h3;obtain⟨_,_,_,_,_,_,_,x0,o0,k7,k9,k10⟩:=hm.mm id b0 di;obtain⟨c1,fB⟩:=A2 k7;obtain⟨ct,d1,d2⟩:=hB fB;have hx:ct=[x]:=by rw[d2]at q7;cases q7;rfl
  subst hx
  have hβ:(γ.dn m.lens.length γ').β id=none:=by
   show(if(γ.β id).isSome then γ'.β id else none)=none;rw[q8];split<;>rfl
  refine⟨q1,q2,q3,fun i hi=>q4 i (Yt hi).2,fun i hi=>q5 i (yt hi).2,q6,hβ,?_⟩;rcases hk id c1 [x] fB d1 with⟨rfl,hk,no⟩|⟨rfl,aL⟩|⟨kn,L9,kvs,h1,rfl,h4,aL,h5⟩
  ·refine⟨x,o,fB,q9,?_⟩
   have:x=x0:=by
    have k7':m.boxes[id]?=some [x0]:=k7;rw[hk]at k7';cases k7';rfl
   subst this;exact q10.dn _ k10 (no x zd).2
  ·have:=(aL x zd).2;cases x<;>cases o<;>first|exact q10.elim|(simp[Qw]at this)
  cases h1;cases o<;>try exact q10.elim
  obtain⟨g4,g5,g6⟩:=q10;refine⟨_,_,fB,q9,g4,zE,fun i k a e s1 s2=>?_⟩;have dm:=(zza.1 s1).1;obtain⟨k',a',kj⟩:∃k' a',L9[i]?=some (k',a'):=⟨_,_,zzac zE⟩;obtain⟨p1,p2,p3,p4⟩:=g6 i k' a' e kj s2;obtain⟨rfl,r2⟩:=h5 i k a k' a' kj s1;exact⟨p1,p2,p3,(aL _ (zzad s1)).auL _ (r2 _ _ _ p4)⟩
 ·exact eH.minj i i' b (Qak h).2 (Qak h').2
 ·have hn:m.lens[id]?=some n:=by rw[<- hL];exact hn
  have ah:=(zza.1 hn).1;have:=eH.len id n (by show(m.lens++exl)[id]?=some n;rw[zzam ah];exact hn);show(if id<m.lens.length then γ'.cur id else 0)=n;rw[if_pos ah];exact this
 have hn:m.lens[id]?=none:=by rw[<- hL];exact hn
 have bu:=zzgq.1 hn;show(if id<m.lens.length then γ'.cur id else 0)=0;rw[if_neg zE]
def eC.dn{m:AM}(hm:aq N w0 an γ w m.B m.L)(e:eC w γ w' γ'):eC w γ w' (γ.dn m.lens.length γ'):=by
 have ho:∀id b,γ.own id=some b->id<m.lens.length:=fun id b h=>by
  obtain⟨_,_,n,hn⟩:=hm.own id b h;exact(zza.1 hn).1
 have hc:∀id,¬id<m.lens.length->γ.cur id=0:=fun id h=>hm.cur0 id (zzgq.2 zE);refine⟨e.size,e.ro,fun id b h=>DO h (e.β id b h),fun id=>?_,fun id b h=>kX h (e.mm id b h),e.lp,fun id b h1 h2=>?_,e.sp,e.ss⟩
 ·show γ.cur id<=if id<m.lens.length then γ'.cur id else 0;split
  ·exact e.cur id
  rename_i h;rw[hc id h];exact zzaa _
 have ah:=ho id b h2;have h1:(if id<m.lens.length then γ'.cur id else 0)=γ.cur id:=h1;rw[if_pos ah]at h1;obtain⟨a1,a2,a3⟩:=e.own id b h1 h2;refine⟨?_,a2,a3⟩;show(if id<m.lens.length then γ'.own id else none)=some b;rw[if_pos ah];exact a1
def aF.mono{f:FuncId}{as':P1}{m:AM}{K K':UV}(h:aF P gl Y f as' m K)(hk:∀r m',K r m'->K' r m'):aF P gl Y f as' m K':=by
 refine⟨h.1,fun N w0 an γ w vs hm hl hg hy hr=>CallsIn.mono (h.2 N w0 an γ w vs hm hl hg hy hr) ?_⟩;rintro en w' ⟨v,γ',r,m',g0,g1,g2,g3,g4,g5⟩;exact⟨v,γ',r,m',g0,g1,g2,g3,g4,hk _ _ g5⟩
end
end Go.Abs
namespace Go.Proofs.YtfliagpjbbkijaaGreatDoor
open Go Go.Abs
def Db:P1:=[I 24000,I 1001,I 24,I 0,I 24,I 1,I 24,I 0,I 25,I 1,I 25,I 0,I 30000,I 1001,I 30,I 2,I 30,I 1,I 30,I 0,I 50,I 1,I 50,I 0,I 60000,I 1001,I 60,I 4,I 60,I 1,I 60,I 0]
def aD:Nat->AV
 |2=>.ep Db 0
 |_=>.junk
def Zb{α:Type}{l:List α}{i:Nat}{a:α}(h:l[i]?=some a):l.drop i=a::l.drop (i+1):=by
 obtain⟨h1,h2⟩:=zza.1 h;rw[zzae h1,h2]
structure Evt where
 id:Int
 it:Int
 st:Int
 fr:Int
 i:Int
 re:Int
 al:Option Int
def jx:Pure Tryz.prog aD 60 [.sl .nil []] (.sl .nil []):=by
 refine Qm IZ (fun _ _ _=>.junk) zd ?_;simp[abX,abY]
def nJ(f:Int):Prop:= -1000000<=f/\f<=1000000
def wu(n:Int)(h:0<=n)(h':n<=2000000):IntKind.u64.wrap n=n:=by
 simp[IntKind.wrap,IntKind.bits,IntKind.signed];omega
def ajB:AV:=.aS [.agg [I 0,I 0,I 0,I 0,I 0,I 0,.sl .nil []],I 0,.bool false]
end Go.Proofs.YtfliagpjbbkijaaGreatDoor
namespace Go.Abs
open Go Go.RowKit
def aaz{P:Program}{gl:Nat->AV}{Y:YT}{f:FuncId}(hc:bF P f)(aZ:∀(b:Nat)(es:Array MapEntry)(clock:Nat)(w:World),w.heap[b]?=some (.map es clock)->Calls P f #[.map (some b)] w fun e w'=>e=.returned (.map (some w.heap.size))/\w'=w.alloc (.map es clock))
  {m:AM}{id kn:Nat}{kvs:List (Pi×AV)}(hb:m.boxes.getD id []=[.aM kn kvs]){K:UV}(hK:K (.mp m.boxes.length) {m with boxes:=m.boxes++[[.aM kn kvs]]}):aF P gl Y f [.mp id] m K:=by
 refine aF.jU hc fun N w0 an γ w vs hm hl hr=>?_
 match vs,hr with
 |[v],hr=>
  obtain⟨aL,hB⟩:=mQ hb;obtain⟨b,es,h1,rfl,h3,h4,h5⟩:=hm.iY (hr.2 0 _ v rfl rfl) hB;refine(aZ b es _ w h3).mono fun e w'⟨he,hw⟩=>?_;subst hw;obtain⟨g1,g2⟩:=hm.JW m.boxes.length (by simp[AM.B]) (x:=.aM kn kvs) (o:=.map es es.size) ⟨rfl,h4,h5⟩;refine⟨_,_,.mp m.boxes.length,{m with boxes:=m.boxes++[[.aM kn kvs]]},he,g1.cR,?_,hl.mono' g1 rfl,.mp (by simp[G.gJ]),hK⟩;rw[VD];exact g2
 |[],hr=>exact absurd hr.1 zd
 |_::_::_,hr=>exact absurd hr.1 zd
def OT{P:Program}{t:TypeId}{a b c:Nat}(h:(P.info? t).bind (fun i=>i.zero.map fun z=>(i.size,i.bytes,z.cells.size))=some (a,b,c)):∃i z,P.info? t=some i/\i.zero=some z/\i.size=a/\i.bytes=b/\z.cells.size=c:=by
 cases hi:P.info? t with
 |none=>rw[hi]at h;cases h
 |some i=>
  rw[hi]at h;simp only[zzcr]at h;cases hz:i.zero with
  |none=>rw[hz]at h;cases h
  |some z=>
   rw[hz]at h;simp only[zzcb,Option.some.injEq,Prod.mk.injEq]at h;exact⟨i,z,rfl,hz,h.1,h.2.1,h.2.2⟩
def OV{P:Program}{gl:Nat->AV}{Y:YT}{f:FuncId}{t:TypeId}{sz n:Nat}(hc:bF P f)
  (eU:n=0->∀w:World,Calls P f #[.slice none 0 0,.int .i64 (n:Nat)] w fun e w'=>e=.returned (.slice none 0 0)/\w'=w)
  (HS:0<n->∀w:World,Calls P f #[.slice none 0 0,.int .i64 (n:Nat)] w fun e w'=>∃cap cs,e=.returned (.slice (some ⟨w.heap.size,0,none⟩) 0 cap)/\w'=w.drew.alloc (.cells cs t)/\cap*sz<=cs.size)
  {m:AM}{K:UV}(h0:n=0->K (.sl .nil []) m)(h1:0<n->K (.sl (.own m.lens.length sz) []) {m with lens:=m.lens++[0]}):aF P gl Y f [.sl .nil [],.int .i64 (n:Nat)] m K:=by
 refine aF.jU hc fun N w0 an γ w vs hm hl hr=>?_
 match vs,hr with
 |[v,u],hr=>
  have hv:v=.slice none 0 0:=by
   have h:=hr.2 0 _ v rfl rfl;cases h with
   |@sl _ _ _ a cap b off gz cv hcap hnil ha hsz hcc Q8 bn=>
    have:a=none:=bn;subst this;rw[hnil rfl];rfl
  have hu:u=.int .i64 (n:Nat):=(hr.2 1 _ u rfl rfl).aJ;subst hv;subst hu;rcases zzbx n with hn|hn
  ·refine(eU hn w).mono fun e w'⟨he,hw⟩=>?_;subst hw;exact⟨_,γ,_,m,he,(Ev.refl _ γ).cR,hm,hl,Ct,h0 hn⟩
  refine(HS hn w).mono fun e w'⟨cap,cs,he,hw,hs⟩=>?_;subst hw;have iF:=hm.aiQ;have hL:m.L m.lens.length=none:=by simp[AM.L]
  have cp:γ.own m.lens.length=none:=by
   cases h:γ.own m.lens.length with
   |none=>rfl
   |some b=>obtain⟨_,_,k,hk⟩:=hm.own _ _ h;rw[hL]at hk;cases hk
  have eu:γ.cur m.lens.length=0:=hm.cur0 _ hL;have bZ:=iF.2.trans (iF.1.fZ (q:=0) (id:=m.lens.length) (n:=0) zE (fun _=>cp) (.cells cs t));refine⟨_,γ.renew m.lens.length w.heap.size 0 0,.sl (.own m.lens.length sz) [],{m with lens:=m.lens++[0]},he,bZ.cR,?_,hl.mono' bZ rfl,?_,h1 hn⟩
  ·rw[CD];exact iF.1.renew zE (fun _=>cp) _
  refine .sl (rows:=[]) w.heap.size 0 sz (fun _ _=>undef) (zzbe _) (fun h=>(by cases h)) (fun h=>absurd rfl h) (fun _ h=>by cases h) (fun i j c h=>by simp[Qr]at h) (fun i j c h=>by simp[Qr]at h) ?_;refine⟨rfl,zzbe _,fun _=>.inr ⟨w.heap.size,0,cs,t,rfl,by simp[G.renew],by show(w.heap.push _)[w.heap.size]?=_;simp,zE,fun o' _ hr=>?_⟩⟩;obtain hr|⟨_,hr⟩:=hr
  ·have:=hm.robd _ _ hr;omega
  omega
 |[],hr=>exact absurd hr.1 zd
 |[_],hr=>exact absurd hr.1 zd
 |_::_::_::_,hr=>exact absurd hr.1 zd
end Go.Abs
namespace Go.Proofs.YtfliagpjbbkijaaGreatDoor
open Go Go.Abs Go.Shelf Go.RowKit Go.Lib
def Ma:Go.Shelf.Ren:=⟨fun|5=>138|7=>185|n=>n,fun|23=>231|25=>3|3=>3|4=>4|20=>20|n=>n,fun|n=>n⟩
def anO:Go.Proofs.SlLaysW.n5 Tryz.prog Ma:={
 mixed:=by kernel_rfl,
 f5:=⟨Tryz.f138.name,by decide,Tryz.func138.trans (congrArg some (by kernel_rfl))⟩,
 f7:=Tryz.func185.trans (congrArg some (by kernel_rfl)),
 t4:=Tryz.underlying4,
 a4:=Tryz.isAgg4,
 z4:=Tryz.sizeOf4,
 v4:=Tryz.zeroValue4,
 t20:=Tryz.underlying20,
 a20:=Tryz.isAgg20,
 z20:=Tryz.sizeOf20,
 v20:=Tryz.zeroValue20,
 t23:=Tryz.underlying231,
 a23:=Tryz.isAgg231,
 z23:=Tryz.sizeOf231,
 v23:=Tryz.zeroValue231}
def tg:Go.Shelf.Ren:=⟨fun|4=>190|n=>n,fun|22=>57|25=>3|3=>3|4=>4|9=>9|20=>20|0=>0|n=>n,fun|n=>n⟩
def OW:Go.Proofs.Lays8.n4 Tryz.prog tg:={
 mixed:=by kernel_rfl,
 f4:=⟨Tryz.f190.name,by decide,Tryz.func190.trans (congrArg some (by kernel_rfl))⟩,
 t0:=Tryz.underlying0,
 a0:=Tryz.isAgg0,
 z0:=Tryz.sizeOf0,
 v0:=Tryz.zeroValue0,
 t3:=Tryz.underlying3,
 a3:=Tryz.isAgg3,
 z3:=Tryz.sizeOf3,
 v3:=Tryz.zeroValue3,
 t4:=Tryz.underlying4,
 a4:=Tryz.isAgg4,
 z4:=Tryz.sizeOf4,
 v4:=Tryz.zeroValue4,
 t9:=Tryz.underlying9,
 a9:=Tryz.isAgg9,
 z9:=Tryz.sizeOf9,
 v9:=Tryz.zeroValue9,
 t20:=Tryz.underlying20,
 a20:=Tryz.isAgg20,
 z20:=Tryz.sizeOf20,
 v20:=Tryz.zeroValue20,
 t22:=Tryz.underlying57,
 a22:=Tryz.isAgg57,
 z22:=Tryz.sizeOf57,
 v22:=Tryz.zeroValue57}
def yu:Go.Shelf.Ren:=⟨fun|4=>261|n=>n,fun|22=>277|25=>285|3=>3|4=>4|9=>9|20=>20|0=>0|2=>3|n=>n,fun|n=>n⟩
def aaA:Go.Proofs.Lays8.n4 Tryz.prog yu:={
 mixed:=by kernel_rfl,
 f4:=⟨Tryz.f261.name,by decide,Tryz.func261.trans (congrArg some (by kernel_rfl))⟩,
 t0:=Tryz.underlying0,
 a0:=Tryz.isAgg0,
 z0:=Tryz.sizeOf0,
 v0:=Tryz.zeroValue0,
 t3:=Tryz.underlying3,
 a3:=Tryz.isAgg3,
 z3:=Tryz.sizeOf3,
 v3:=Tryz.zeroValue3,
 t4:=Tryz.underlying4,
 a4:=Tryz.isAgg4,
 z4:=Tryz.sizeOf4,
 v4:=Tryz.zeroValue4,
 t9:=Tryz.underlying9,
 a9:=Tryz.isAgg9,
 z9:=Tryz.sizeOf9,
 v9:=Tryz.zeroValue9,
 t20:=Tryz.underlying20,
 a20:=Tryz.isAgg20,
 z20:=Tryz.sizeOf20,
 v20:=Tryz.zeroValue20,
 t22:=Tryz.underlying277,
 a22:=Tryz.isAgg277,
 z22:=Tryz.sizeOf277,
 v22:=Tryz.zeroValue277}
def Ot{Y:YT}{m:AM}{id kn:Nat}{kvs:List (Pi×AV)}(hb:m.boxes.getD id []=[.aM kn kvs]){K:UV}(hK:K (.mp m.boxes.length) {m with boxes:=m.boxes++[[.aM kn kvs]]}):aF Tryz.prog aD Y 138 [.mp id] m K:=
 aaz ⟨_,Tryz.func138,by kernel_rfl,by kernel_rfl⟩ (fun b es clock w h=>AnyW.maps_Clone anO b es clock w h) hb hK
def afj{Y:YT}{m:AM}{n:Nat}(hn:n<=1000000000){K:UV}(h0:n=0->K (.sl .nil []) m)(h1:0<n->K (.sl (.own m.lens.length 1) []) {m with lens:=m.lens++[0]}):aF Tryz.prog aD Y 190 [.sl .nil [],I n] m K:=by
 obtain⟨i0,z,hi0,UT,JR,di,JM⟩:=OT (P:=Tryz.prog) (t:=3) (a:=1) (b:=8) (c:=1) (by kernel_rfl);refine OV (t:=3) (sz:=1) ⟨_,Tryz.func190,by kernel_rfl,by kernel_rfl⟩ (fun fF w=>?_) (fun hp w=>?_) h0 h1
 ·subst fF;exact Any8.slices_Grow_room OW none 0 0 0 w (zzaa _) zE zE (zzaa _)
 refine(Any8.slices_Grow_grow OW i0 z hi0 UT zE none 0 0 n [] w (zzaa _) zE (by rw[di];omega) zE zd (fun _=>rfl) (fun a h=>by cases h)).mono fun e w'⟨he,hw⟩=>?_;refine⟨_,_,he,hw,?_⟩;have hg:n<=grownCap w (0+n) 0 3:=by have:=grownCap_ge w (0+n) 0 3;omega
 simp only[zzfo,size_zeroCells,JM];simp;have e1:tg.t 25=3:=rfl;simp only[e1];omega
def afg{Y:YT}{m:AM}{n:Nat}(hn:n<=1000000000){K:UV}(h0:n=0->K (.sl .nil []) m)(h1:0<n->K (.sl (.own m.lens.length 2) []) {m with lens:=m.lens++[0]}):aF Tryz.prog aD Y 261 [.sl .nil [],I n] m K:=by
 obtain⟨i0,z,hi0,UT,JR,di,JM⟩:=OT (P:=Tryz.prog) (t:=285) (a:=2) (b:=16) (c:=2) (by kernel_rfl);refine OV (t:=285) (sz:=2) ⟨_,Tryz.func261,by kernel_rfl,by kernel_rfl⟩ (fun fF w=>?_) (fun hp w=>?_) h0 h1
 ·subst fF;exact Any8.slices_Grow_room aaA none 0 0 0 w (zzaa _) zE zE (zzaa _)
 refine(Any8.slices_Grow_grow aaA i0 z hi0 UT zE none 0 0 n [] w (zzaa _) zE (by rw[di];omega) zE zd (fun _=>rfl) (fun a h=>by cases h)).mono fun e w'⟨he,hw⟩=>?_;refine⟨_,_,he,hw,?_⟩;have hg:n<=grownCap w (0+n) 0 285:=by have:=grownCap_ge w (0+n) 0 285;omega
 simp only[zzfo,size_zeroCells,JM];simp;have e1:yu.t 25=285:=rfl;simp only[e1];omega
end Go.Proofs.YtfliagpjbbkijaaGreatDoor
namespace Go.Abs
def qi:Nat->Nat->P2
 |0,_=>[]
 |k+1,z=>if z<128 then[z]else(z%128+128)::qi k (z/128)
def th:Nat->P2->Nat->Nat->Option (Nat×Nat)
 |0,_,_,_=>none
 |_+1,[],_,_=>none
 |k+1,b::r,i,z=>if 128<=b then th k r (i+1) (z+b%128*128 ^ i)else if b=0/\0<i then none else some (z+b%128*128 ^ i,i+1)
def Mb:∀(k z i a:Nat)(t:P2),z<128 ^ k->(i=0\/0<z)->0<k->th k (qi k z++t) i a=some (a+z*128 ^ i,i+(qi k z).length)
 |0,z,i,a,t,h,hi,hk=>zE
 |k+1,z,i,a,t,h,hi,hk=>by
  rw[qi];by_cases hz:z<128
  ·rw[if_pos hz];show th (k+1) (z::t) i a=_;rw[th,if_neg zE,if_neg zE,zzdx hz];rfl
  rw[if_neg hz];show th (k+1) ((z%128+128)::(qi k (z/128)++t)) i a=_
  have AJ:0<k:=by
   rcases zzbx k with rfl|h0
   ·simp at h;omega
   exact h0
  have h2:z/128<128 ^ k:=by
   rw[zzde]at h;exact zzdr (by rw[zzcc];exact h)
  rw[th,if_pos zE,Mb k (z/128) (i+1) _ t h2 (.inr zE) AJ,show(z%128+128)%128=z%128 by omega]
  have e:z%128*128 ^ i+z/128*128 ^ (i+1)=z*128 ^ i:=by
   rw[zzde,zzcc (128 ^ i) 128,<- zzgi,<- zzbi,zzcc (z/128) 128,Nat.mod_add_div]
  rw[zzas,e,zzba];congr 2;omega
def aaB:∀(k z i a n m:Nat),n<(qi k z).length->th m ((qi k z).take n) i a=none
 |0,z,i,a,n,m,h=>by simp[qi]at h
 |k+1,z,i,a,0,m,h=>by cases m<;>simp[th]
 |k+1,z,i,a,n+1,m,h=>by
  rw[qi]at h |-
  by_cases hz:z<128
  ·rw[if_pos hz]at h;simp at h
  rw[if_neg hz]at h |-
  rw[zzcy];cases m with
  |zero=>rfl
  |succ m=>
   rw[th,if_pos zE];exact aaB k (z/128) (i+1) _ n m (Nm h)
def iK(n:Int):Nat:=if n<0 then(-n*2-1).toNat else(n*2).toNat
def jV(z:Nat):Int:=if z%2=1 then -((z/2:Nat):Int)-1 else((z/2:Nat):Int)
def af6(n:Int):jV (iK n)=n:=by
 unfold jV iK;split<;>split<;>omega
def OX(z:Nat):iK (jV z)=z:=by
 unfold jV iK;split<;>split<;>omega
def Mc:∀(k:Nat)(l:P2)(i a z n:Nat),(∀b∈l,b<256)->th k l i a=some (z,n)->∃y,z=a+y*128 ^ i/\y<128 ^ k/\(i=0\/0<y)/\i<n/\l.take (n-i)=qi k y
 |0,l,i,a,z,n,hb,h=>by cases h
 |k+1,[],i,a,z,n,hb,h=>by cases h
 |k+1,b::r,i,a,z,n,hb,h=>by
  have di:=hb b zd;rw[th]at h;split at h
  ·rename_i h1;obtain⟨y,y1,y2,y3,y4,y5⟩:=Mc k r (i+1) _ z n (fun x hx=>hb x (by simp[hx])) h;refine⟨b%128+128*y,?_,?_,?_,zE,?_⟩
   ·rw[y1,zzde,zzbi,zzas];congr 2;rw[zzcc (128 ^ i) 128,<- zzgi,zzcc y 128]
   ·rw[zzde];omega
   ·obtain y3|y3:=y3
    ·omega
    right;omega
   rw[show n-i=(n-(i+1))+1 by omega,zzcy,y5,qi];have:0<y:=by rcases y3 with y3|y3<;>omega
   rw[if_neg zE,show(b%128+128*y)/128=y by omega,show(b%128+128*y)%128+128=b by omega]
  rename_i h1;split at h
  ·cases h
  rename_i h2;cases h;refine⟨b,by rw[zzdx zE],?_,zE,zE,?_⟩
  ·have:128<=128 ^ (k+1):=by rw[zzde];exact Nat.le_mul_of_pos_left _ (Nat.pow_pos zE)
   omega
  rw[show i+1-i=1 by omega,qi,if_pos zE];rfl
def qj:Int:=4611686018427387903
def bw(n:Int):Prop:= -qj<=n/\n<=qj
def aN(n:Int):P2:=qi 9 (iK n)
def fO(l:P2)(at_:Nat):Option (Int×Nat):=match th 9 (l.drop at_) 0 0 with
 |none=>none
 |some (z,n)=>if jV z< -qj then none else some (jV z,at_+n)
def Me{n:Int}(h:bw n):iK n<128 ^ 9:=by
 unfold bw qj at h;unfold iK;split<;>omega
def DP{n:Int}(h:bw n)(pre t:P2):fO (pre++(aN n++t)) pre.length=some (n,pre.length+(aN n).length):=by
 unfold fO aN;rw[zzdy,Mb 9 (iK n) 0 0 t (Me h) (.inl rfl) zE];simp only[zzbn,zzhq,Nat.mul_one];rw[af6,if_neg (by unfold bw at h;omega)]
def OY(n:Int)(pre:P2)(k:Nat)(h:k<(aN n).length):fO (pre++(aN n).take k) pre.length=none:=by
 unfold fO;rw[zzdy,aN,aaB 9 (iK n) 0 0 k 9 h]
def aR(l:Pi):P2:=l.flatMap aN
def dF:Nat->P2->Nat->Option (Pi×Nat)
 |0,_,a=>some ([],a)
 |k+1,l,a=>match fO l a with
  |none=>none
  |some (n,a')=>(dF k l a').map fun x=>(n::x.1,x.2)
def OZ:∀(ns:Pi)(pre t:P2),(∀n∈ns,bw n)->dF ns.length (pre++(aR ns++t)) pre.length=some (ns,pre.length+(aR ns).length)
 |[],pre,t,h=>by simp[dF,aR]
 |n::r,pre,t,h=>by
  have ih:=OZ r (pre++aN n) t fun x hx=>h x (by simp[hx]);have e:aR (n::r)=aN n++aR r:=rfl;rw[zzba,dF,e,zzbd,DP (h n zd)];simp only;rw[zzal,zzbd]at ih;rw[ih];simp[zzas]
def O0:∀(ns:Pi)(pre:P2)(k:Nat),(∀n∈ns,bw n)->k<(aR ns).length->dF ns.length (pre++(aR ns).take k) pre.length=none
 |[],pre,k,h,hk=>by simp[aR]at hk
 |n::r,pre,k,h,hk=>by
  have e:aR (n::r)=aN n++aR r:=rfl;rw[e]at hk |-
  rw[zzba,dF];rcases zzab k (aN n).length with ah|bu
  ·rw[zzdu zE,OY n pre k ah]
  rw[zzfa,zzai bu,DP (h n zd)];simp only;have ih:=O0 r (pre++aN n) (k-(aN n).length) (fun x hx=>h x (by simp[hx])) (by rw[zzal]at hk;omega);rw[zzal,zzbd]at ih;rw[ih];rfl
def Qaj{l:P2}{a b:Nat}{n:Int}(hb:∀x∈l,x<256)(h:fO l a=some (n,b)):bw n/\a<b/\(l.drop a).take (b-a)=aN n/\b<=l.length:=by
 unfold fO at h;cases hr:th 9 (l.drop a) 0 0 with
 |none=>rw[hr]at h;cases h
 |some x=>
  obtain⟨z,k⟩:=x;rw[hr]at h;simp only at h;split at h
  ·cases h
  rename_i hn;cases h;obtain⟨y,y1,y2,y3,y4,y5⟩:=Mc 9 (l.drop a) 0 0 z k (fun x hx=>hb x (zzec hx)) hr;simp only[zzbn,zzhq,Nat.mul_one,zzef]at y1 y5;subst y1;have hz:z<9223372036854775808:=y2
  have aH:k<=(l.drop a).length:=by
   rcases zzab (l.drop a).length k with h1|h1
   ·exfalso;rw[zzai zE]at y5;have hg:=Mb 9 z 0 0 [] y2 (.inl rfl) zE;rw[zzau,<- y5,hr]at hg;simp at hg;rw[zzcw]at h1;omega
   exact h1
  refine⟨?_,zE,?_,by rw[zzcw]at aH;omega⟩
  ·unfold bw;unfold qj at hn |-
   unfold jV at hn |-
   split at hn<;>(rename_i h1;first|rw[if_pos h1]|rw[if_neg h1])<;>omega
  rw[show a+k-a=k by omega,y5,aN,OX]
end Go.Abs
namespace Go.Proofs.YtfliagpjbbkijaaGreatDoor
open Go Go.Abs
def anP{r:Nat}(h:r<18446744073709551616):r%2 ^ IntKind.u64.bits&&& 127%2 ^ IntKind.u64.bits=r%128:=by
 show r%18446744073709551616&&& 127=r%128;rw[zzdx h];exact zzfw r 7
def zP{n:Int}(h1:0<=n)(h2:n<18446744073709551616):IntKind.u64.wrap n=n:=by
 simp[IntKind.wrap,IntKind.bits,IntKind.signed];omega
def wr8{n:Int}(h1:0<=n)(h2:n<256):IntKind.u8.wrap n=n:=by
 simp[IntKind.wrap,IntKind.bits,IntKind.signed];omega
def O1:Nat->Nat->List (Nat×Bool)
 |0,_=>[]
 |k+1,z=>if z<128 then[(z,false)]else(z%128,true)::O1 k (z/128)
def grA(x:Nat×Bool):P1:=[.int .u8 x.1,.bool x.2]
def yW(x:Nat×Bool):Nat:=if x.2 then x.1+128 else x.1
def DQ:∀k z,(O1 k z).map yW=qi k z
 |0,z=>rfl
 |k+1,z=>by
  rw[O1,qi];split
  ·rfl
  rw[zzax,DQ k];rfl
def Mf:∀k z,∀x∈O1 k z,x.1<128
 |0,z,x,h=>by cases h
 |k+1,z,x,h=>by
  rw[O1]at h;split at h
  ·simp at h;subst h;assumption
  rcases zzao.1 h with rfl|h
  ·exact zzdk _ zE
  exact Mf k _ x h
def O2:∀k z,(O1 k z).length<=k
 |0,z=>zzaa _
 |k+1,z=>by
  rw[O1];split
  ·simp
  rw[zzba];have:=O2 k (z/128);omega
variable {gl:Nat->AV}
def HT(z:Nat):Pure Tryz.prog gl 65 [.int .u64 z] (.fn 123 [] [.ep [.int .u64 z] 0]):=by
 refine Qm akP (fun _ _ _=>.junk) zd ?_;simp[apF,apG]
def HU(k z:Nat)(hk:0<k)(hz:z<128 ^ k)(h64:z<18446744073709551616):Ge Tryz.prog gl 123 [] [.ep [.int .u64 z] 0] ((O1 k z).map grA):=by
 intro Y l m K hF;refine Xn acj (fun _ _ _=>.junk) zd ?_;simp[aha];refine Qk JA (fun f mm=>∃(k r:Nat)(O:Nat->Prop),f 3=.int .u64 r/\0<k/\r<128 ^ k/\r<18446744073709551616/\mh (Y l) K ((O1 k r).map grA) O mm) (fun f _=>(numOf (f 3)).toNat) ?_ ?_
 ·exact⟨k,z,_,zd,hk,hz,h64,hF⟩
 rintro f mm ⟨k,r,O,h3,hk,hr,h64,hF⟩;obtain⟨k,rfl⟩:∃j,k=j+1:=⟨k-1,zE⟩;rw[O1]at hF;by_cases h:r<128
 ·have h':¬(128:Int)<=(r:Int):=zE
  rw[if_pos h]at hF;have hw:IntKind.u8.wrap (r:Int)=r:=wr8 zE zE;simp[h3,h',JA,Tz,hw];refine hF _ (bS.refl _ _) _ (fun m2 yQ gL=>?_) (fun m2 hK=>?_)
  ·exact gL _ (bS.refl _ _)
  exact hK _ (bS.refl _ _)
 have h':(128:Int)<=(r:Int):=zE
 rw[if_neg h]at hF;have hw:IntKind.u64.wrap ((r:Int)%128)=(r:Int)%128:=zP zE zE;have eY:IntKind.u8.wrap ((r:Int)%128)=(r:Int)%128:=wr8 zE zE;have hd:Int.fdiv (r:Int) 128=(r:Int)/128:=zzgj _ zE;have hF:mh (Y l) K ([.int .u8 ((r:Int)%128),.bool true]::(O1 k (r/128)).map grA) O mm:=by simpa[grA]using hF
 have hm:min 7 IntKind.u64.bits=7:=rfl;simp[h3,h',JA,Tz,anP h64,hw,eY,hm,hd];refine hF _ (bS.refl _ _) _ (fun m2 yQ gL=>?_) (fun m2 hK=>?_)
 ·simp;refine⟨aP,⟨k,r/128,zE,?_,?_,zE,_,gL⟩,zE⟩
  ·rcases zzbx k with rfl|h0
   ·simp at hr;omega
   exact h0
  rw[zzde]at hr;exact zzdr (by rw[zzcc];exact hr)
 simp;exact hK _ (bS.refl _ _)
def PuM(xs:List (Nat×Bool))(i:Nat)(m:AM):Prop:=1<m.boxes.length/\Qf m.boxes 0=(xs.take i).map (fun x=>AV.int .u8 (yW x))++List.replicate (9-i) (.int .u8 0)/\Qf m.boxes 1=[I i]
def auM:SC:=(.rfunc (.tmp 26) [27,28] (.seq (.ops [⟨(some 7),(.mv (.tmp 27)),none,[]⟩]) (.ops [⟨(some 8),(.mv (.tmp 28)),none,[]⟩])) (.block 1 (.seq (.seq (.ops [⟨(some 29),(.mv (.tmp 8)),none,[]⟩]) (.cond (.tmp 29) (.ops [⟨(some 30),(.mv (.tmp 7)),none,[]⟩,⟨(some 31),(.bin .add (.tmp 30) (.const (.int .u8 128))),none,[]⟩,⟨(some 7),(.mv (.tmp 31)),none,[]⟩]) .skip)) (.seq (.ops [⟨(some 32),(.load false 1 (.tmp 6)),none,[]⟩,⟨(some 33),(.mv (.tmp 7)),none,[]⟩,⟨(some 34),(.iaddrA 9 1 (.tmp 5) (.tmp 32)),none,[]⟩,⟨none,(.store 1 (.tmp 34) (.tmp 33)),none,[]⟩]) (.ops [⟨(some 35),(.load false 1 (.tmp 6)),none,[]⟩,⟨(some 36),(.bin .add (.tmp 35) (.const (.int .i64 1))),none,[]⟩,⟨none,(.store 1 (.tmp 6) (.tmp 36)),none,[]⟩])))))
def aaC{xs:List (Nat×Bool)}{z:Int}(cV:Ge Tryz.prog gl 123 [] [.ep [.int .u64 z] 0] (xs.map grA))(aH:xs.length<=9)(ah:∀x∈xs,x.1<128)(orc:X1)(E:QP)(m:AM)
  (hO:PuM xs 0 m)(hg:Abs.look E 26=.fn 123 [] [.ep [.int .u64 z] 0])(h5:Abs.look E 5=.ptr 0 0)(h6:Abs.look E 6=.ptr 1 0)(Q:So)
  (hQ:∀m',PuM xs xs.length m'->Q .normal ⟨Za 40 E,m'⟩):vc Tryz.prog gl orc Y0 auM ⟨Za 40 E,m⟩ Q:=by
 unfold auM
 refine kQ (xs:=xs.map grA) (by simp[hg];try exact⟨rfl,rfl⟩) cV (by intro x hx;obtain⟨y,_,rfl⟩:=zzbk.1 hx;rfl)
  (fun O i mm=>(∀j,O j->m.boxes.length<=j)/\m.boxes.length<=mm.boxes.length/\PuM xs i mm) (fun _ _ _=>False) ?_ ?_ (fun _ _ _ _ h=>h.elim) ?_ ?_ (fun _ _ _ h=>h.elim)
 ·exact⟨fun _ h=>h.elim,zzaa _,hO⟩
 ·rintro O i m1 m2 ⟨h1,h0,h2,h3,h4⟩ e;have od:=hO.1;refine⟨?_,zzaz h0 e.1,zzan h2 e.1,by rw[e.2.1 0 zE (fun h=>by have:=h1 _ h;omega)];exact h3,by rw[e.2.1 1 zE (fun h=>by have:=h1 _ h;omega)];exact h4⟩;rintro j (h|h)
  ·exact h1 j h
  omega
 ·rintro O l i mm x zy cw QW eX ⟨h1,h0,h2,h3,h4⟩ hx K' q1 _ _;rw[zzbc,zzb]at hx;obtain⟨x,hx,rfl⟩:=hx;have lu:=(zza.1 hx).1;have hx7:=ah x (zzad hx);have hml:=hO.1;simp only[Ut,CU]at h0 h2 h3 h4;have hw:=bO i zE
  have hr:((xs.take i).map (fun x=>AV.int .u8 (yW x))++List.replicate (9-i) (AV.int .u8 0)).set i (AV.int .u8 (yW x))=(xs.take (i+1)).map (fun x=>AV.int .u8 (yW x))++List.replicate (9-(i+1)) (.int .u8 0):=by
   have e1:((xs.take i).map (fun x=>AV.int .u8 (yW x))).length=i:=by simp;omega
   rw[zzch _ _ zE,e1,zzex,show 9-i=(9-(i+1))+1 by omega,zzek,zzfl,zzap,hx];simp
  have hl9:((xs.take i).map (fun x=>AV.int .u8 (yW x))++List.replicate (9-i) (AV.int .u8 0)).length=9:=by simp;omega
  have fin:∀(T:P1)(ls:P2)(st:Nat->LS)(ln:Nat),K' .normal ⟨T,⟨(mm.boxes.set 0 ((xs.take (i+1)).map (fun x=>AV.int .u8 (yW x))++List.replicate (9-(i+1)) (.int .u8 0))).set 1 [I ((i+1:Nat):Int)],ls,st,ln⟩⟩:=by
   intro T ls st ln;refine q1 _ ⟨zd,fun j hj=>?_⟩ ⟨h1,Nm h0,Nm h2,?_,?_⟩
   ·have:=(zy j hj).2;have:=h1 j hj;show Qf ((mm.boxes.set 0 _).set 1 _) j=_;rw[Qx _ zE,Qx _ zE]
   ·show Qf ((mm.boxes.set 0 _).set 1 _) 0=_;rw[Qx _ zE,Xj _ zE]
   show Qf ((mm.boxes.set 0 _).set 1 _) 1=_;rw[Xj _ (Nm h2)]
  rw[show((i+1:Nat):Int)=(i:Int)+1 by omega]at fin;generalize hR:(xs.take i).map (fun x=>AV.int .u8 (yW x))++List.replicate (9-i) (AV.int .u8 0)=R at*
  have KR:0<mm.boxes.length:=zE
  have sC:∀v,Qf (mm.boxes.set 0 v) 1=[I i]:=fun v=>by rw[Qx _ zE];exact h4
  have hi9:(i:Int)<9:=zE
  obtain⟨g,b⟩:=x;simp only at hx7;cases b with
  |true=>
   have hw8:IntKind.u8.wrap ((g:Int)+128)=(g:Int)+128:=wr8 zE zE;have hgB:((yW (g,true):Nat):Int)=(g:Int)+128:=by simp[yW]
   simp[Zk,grA,h5,h6,h2,h3,h4,KR,sC,hw,hw8,hi9,hl9,eX];rw[<- hgB,hr];exact⟨zE,fin _ _ _ _⟩
  |false=>
   have hgB:((yW (g,false):Nat):Int)=(g:Int):=by simp[yW]
   simp[Zk,grA,h5,h6,h2,h3,h4,KR,sC,hw,hi9,hl9,eX];rw[<- hgB,hr];exact⟨zE,fin _ _ _ _⟩
 rintro O m' ⟨_,_,h⟩;rw[zzbv]at h;exact hQ m' h
def nW:∀l:P2,Yj (l.map fun b:Nat=>[AV.int .u8 ((b:Nat):Int)])=some (l.map UInt8.ofNat)
 |[]=>rfl
 |b::r=>by
  rw[zzax,FI,nW r];simp
def aaD:∀(l r:P1),aY 1 l.length (l++r)=l.map fun x=>[x]
 |[],r=>rfl
 |a::l,r=>by
  rw[zzba,zzaf,mY,zzcy,zzgc,List.drop_succ_cons,zzdf,aaD l r];rfl
def tj{n:Int}(hn:bw n):Pure Tryz.prog gl 23 [I n] (.aS [.str ⟨((aN n).map UInt8.ofNat).toArray⟩,I 0]):=by
 obtain⟨h1,h2⟩:=hn;unfold qj at h1 h2;have lR:¬n< -4611686018427387903:=zE
 have ze:¬4611686018427387903<n:=zE
 have E9:iK n<128 ^ 9:=Me ⟨h1,h2⟩;have anQ:iK n<18446744073709551616:=zzan E9 (by decide);have kg:=HT (gl:=gl) (iK n);have cV:=HU (gl:=gl) 9 (iK n) zE E9 anQ;have aH:=O2 9 (iK n);have ah:=Mf 9 (iK n);have hPB:aN n=(O1 9 (iK n)).map yW:=(DQ 9 _).symm;rw[hPB];generalize O1 9 (iK n)=xs at*
 refine Qm aj9 (fun _ f _=>if f=65 then .fn 123 [] [.ep [.int .u64 (iK n)] 0]else .junk) zd ?_;have h0:∀st:Nat->LS,PuM xs 0 ⟨[[.int .u8 0,.int .u8 0,.int .u8 0,.int .u8 0,.int .u8 0,.int .u8 0,.int .u8 0,.int .u8 0,.int .u8 0],[I 0]],[],st,0⟩:=fun _=>⟨zd,rfl,rfl⟩
 have tail:∀m':AM,PuM xs xs.length m'->Yj (aY 1 xs.length (Qf m'.boxes 0))=some ((xs.map yW).map UInt8.ofNat):=by
  rintro m' ⟨p1,p2,p3⟩;rw[p2,zzbp];have:=aaD (xs.map fun x=>AV.int .u8 (yW x)) (List.replicate (9-xs.length) (.int .u8 0));rw[zzbv]at this;rw[this,zzcz];have:=nW (xs.map yW);rw[zzcz]at this;exact this
 have auN:∀m':AM,Yj (aY 1 xs.length (Qf m'.boxes 0))=some ((xs.map yW).map UInt8.ofNat)->1<m'.boxes.length->Qf m'.boxes 0=(xs.take xs.length).map (fun x=>AV.int .u8 (yW x))++List.replicate (9-xs.length) (.int .u8 0)->
   ((xs.length:Int)<=9/\9<=(Qf m'.boxes 0).length/\0<m'.boxes.length)/\
  (
   match Yj (aY 1 xs.length (Qf m'.boxes 0))with
    |some l=>(xs.length<=(Qf m'.boxes 0).length,AV.str {data:=l.toArray})
    |none=>(False,AV.junk)).fst/\
   bG m' 5
     (
      match Yj (aY 1 xs.length (Qf m'.boxes 0))with
      |some l=>(xs.length<=(Qf m'.boxes 0).length,AV.str {data:=l.toArray})
      |none=>(False,AV.junk)).snd=
    AV.str {data:=(List.map (UInt8.ofNat ∘ yW) xs).toArray}:=by
  intro m' ht p1 p2;have hl:(Qf m'.boxes 0).length=9:=by rw[p2];simp;omega
  rw[ht,hl];refine⟨⟨zE,zE,zE⟩,zE,?_⟩;simp
 by_cases gK:n<0
 ·have v1:IntKind.i64.wrap (-n)= -n:=by rw[Qh]<;>omega
  have v2:IntKind.u64.wrap (-n)= -n:=by rw[zP]<;>omega
  have v3:IntKind.u64.wrap (-n*2)= -n*2:=by rw[zP]<;>omega
  have v4:IntKind.u64.wrap (-n*2-1)=(iK n:Int):=by unfold iK;rw[if_pos gK,zP]<;>omega
  simp[aj7,aj8,lR,ze,gK,v1,v2,v3,v4,kg];refine aaC cV aH ah _ _ _ (h0 _) zd zd zd _ fun m' eH=>?_;have ht:=tail m' eH;obtain⟨p1,p2,p3⟩:=eH;simp[p1,p3];exact auN m' ht p1 p2
 have v2:IntKind.u64.wrap n=n:=by rw[zP]<;>omega
 have v4:IntKind.u64.wrap (n*2)=(iK n:Int):=by unfold iK;rw[if_neg gK,zP]<;>omega
 simp[aj7,aj8,lR,ze,gK,v2,v4,kg];refine aaC cV aH ah _ _ _ (h0 _) zd zd zd _ fun m' eH=>?_;have ht:=tail m' eH;obtain⟨p1,p2,p3⟩:=eH;simp[p1,p3];exact auN m' ht p1 p2
def aU(s:ByteArray):P2:=s.data.toList.map UInt8.toNat
def Xo(s:ByteArray):(aU s).length=s.size:=by
 rw[aU,zzbv];exact zzcs
def Jj(s:ByteArray):∀x∈aU s,x<256:=fun x hx=>by
 obtain⟨y,_,rfl⟩:=zzbk.1 hx;exact y.toNat_lt
def Kr:Option (Int×Nat)->AV
 |some (n,b)=>.aS [I n,I b,I 0]
 |none=>.aS [I 0,I 0,I 10]
def orN{z b i:Nat}(hz:z<128 ^ i):z|||b*128 ^ i=z+b*128 ^ i:=by
 have h2:(128:Nat) ^ i=2 ^ (7*i):=by rw[Nat.pow_mul]
 rw[h2]at hz |-
 rw[zzcc b,Nat.or_comm,<- Nat.two_pow_add_eq_or_of_lt hz,zzer]
def yw{gl:Nat->AV}(s:ByteArray)(a:Nat)(ha:a<=s.size)(hs:s.size<=1000000):Pure Tryz.prog gl 127 [.str s,I a] (Kr (fO (aU s) a)):=by
 refine Qm acn (fun _ _ _=>.junk) zd ?_;have h1:¬((a:Int)<0):=zE
 have h2:¬((s.size:Int)<(a:Int)):=zE
 have eX:∀r,th 9 ((aU s).drop a) 0 0=r->fO (aU s) a=match r with
   |none=>none
   |some (z,n)=>if jV z< -qj then none else some (jV z,a+n):=fun r h=>by unfold fO;rw[h]<;>rfl
 have aH:=Xo s;simp[TB,Ez,h1,h2];refine Qk BY (fun f mm=>∃i z:Nat,f 8=I i/\f 7=.int .u64 z/\i<=9/\z<128 ^ i/\a+i<=s.size/\th 9 ((aU s).drop a) 0 0=th (9-i) ((aU s).drop (a+i)) i z/\mm=⟨[],[],fun _=>.gone,0⟩) (fun f _=>10-(numOf (f 8)).toNat) ?_ ?_
 ·exact⟨0,0,zd,zd,zE,zd,zE,rfl,rfl⟩
 rintro f mm ⟨i,z,h8,h7,hi,hz,hai,hR,rfl⟩;have gm:IntKind.i64.wrap ((a:Int)+i)=(a:Int)+i:=by rw[Qh]<;>omega
 by_cases c1:i<9
 ·have c1':(i:Int)<9:=zE
  by_cases c2:a+i<s.size
  ·have c2':(a:Int)+i<s.size:=zE
   obtain⟨b,hb⟩:∃b,(aU s)[a+i]?=some b:=⟨_,zzac zE⟩;have gI:=Jj s b (zzad hb)
   have hd:(aU s).drop (a+i)=b::(aU s).drop (a+i+1):=by
    rw[zzae zE,(zza.1 hb).2]
   obtain⟨k,hk⟩:∃k,9-i=k+1:=⟨8-i,zE⟩;rw[hd,hk,th]at hR
   have anQ:z<9223372036854775808:=zzan hz (by
    have:128 ^ i<=128 ^ 9:=zzds zE zE;exact this)
   have hm:b%128*128 ^ i<9223372036854775808:=by
    have h1:b%128*128 ^ i<128*128 ^ i:=zzgg (zzdk _ zE) (Nat.pow_pos zE);have h2:128*128 ^ i<=128 ^ 9:=by rw[zzcc,<- zzde];exact zzds zE zE
    exact zzan h1 h2
   have dR:z+b%128*128 ^ i<128 ^ (i+1):=by
    have h1:(b%128+1)*128 ^ i<=128*128 ^ i:=zzbb _ zE;rw[zzbi,zzdp]at h1;rw[zzde,zzcc _ 128];omega
   have auO:z+b%128*128 ^ i<9223372036854775808:=zzan dR (by
    have:128 ^ (i+1)<=128 ^ 9:=zzds zE zE;exact this)
   have hw7:IntKind.i64.wrap (7*(i:Int))=7*i:=by rw[Qh]<;>omega
   have ha8:b%2 ^ IntKind.u8.bits&&& 127%2 ^ IntKind.u8.bits=b%128:=by
    show b%256&&& 127=b%128;rw[zzdx gI];exact zzfw b 7
   have hq:(s.data[((a:Int)+(i:Int)).toNat]?.getD 0).toNat=b:=by
    rw[show((a:Int)+(i:Int)).toNat=a+i by omega];have h1:(s.data.toList.map UInt8.toNat)[a+i]?=some b:=hb;rw[zzbc,zzb]at h1;obtain⟨y,hy,rfl⟩:=h1;rw[zzby]at hy;rw[hy];rfl
   have ho:IntKind.u64.wrap ((z%2 ^ IntKind.u64.bits|||(IntKind.u64.wrap (IntKind.u64.wrap (IntKind.u8.wrap ((b%2 ^ IntKind.u8.bits&&& 127%2 ^ IntKind.u8.bits:Nat):Int))*2 ^ min (7*(i:Int)).toNat IntKind.u64.bits)%2 ^ IntKind.u64.bits).toNat:Nat):Int)=((z+b%128*128 ^ i:Nat):Int):=by
    rw[ha8,wr8 zE zE,zP (n:=((b%128:Nat):Int)) zE zE,show min (7*(i:Int)).toNat IntKind.u64.bits=7*i from by show min (7*(i:Int)).toNat 64=_;omega]
    have e1:((b%128:Nat):Int)*2 ^ (7*i)=((b%128*128 ^ i:Nat):Int):=by
     rw[show(128:Nat)=2 ^ 7 from rfl,<- Nat.pow_mul];push_cast;rfl
    rw[e1,zP (n:=((b%128*128 ^ i:Nat):Int)) zE zE]
    have e2:(((b%128*128 ^ i:Nat):Int)%2 ^ IntKind.u64.bits).toNat=b%128*128 ^ i:=by
     show(((b%128*128 ^ i:Nat):Int)%18446744073709551616).toNat=_;omega
    have e3:z%2 ^ IntKind.u64.bits=z:=by
     show z%18446744073709551616=z;omega
    rw[e2,e3,orN hz,zP zE zE]
   have rj:=bO i zE;generalize hZ:z+b%128*128 ^ i=Z at*
   simp[h8,h7,c1',c2',gm,hw7,hq,ho,BY,Ez];refine⟨zE,zE,?_⟩;by_cases dI:128<=b
   ·rw[if_pos dI]at hR;rw[if_pos zE];refine⟨aP,⟨i+1,zE,Z,rfl,zE,dR,zE,?_⟩,zE⟩
    ·rw[hR,show 9-(i+1)=k by omega,zzas]
   rw[if_neg dI]at hR;rw[if_neg zE];by_cases di:b=0/\0<i
   ·rw[if_pos di]at hR |-
    rw[eX _ hR];rfl
   rw[if_neg di]at hR |-
   rw[eX _ hR];have w1:IntKind.u64.wrap ((Z:Int)/2)=(Z:Int)/2:=zP zE zE;have w2:IntKind.i64.wrap ((Z:Int)/2)=(Z:Int)/2:=by rw[Qh]<;>omega
   have w3:IntKind.i64.wrap (-((Z:Int)/2))= -((Z:Int)/2):=by rw[Qh]<;>omega
   have w4:IntKind.i64.wrap (-((Z:Int)/2)-1)= -((Z:Int)/2)-1:=by rw[Qh]<;>omega
   have w5:IntKind.i64.wrap ((a:Int)+i+1)=((a+(i+1):Nat):Int):=by rw[Qh]<;>omega
   have w6:(Z:Int).tmod 2=(Z:Int)%2:=zzea zE;rw[w1,w2,w3,w4,w5,w6];simp only;by_cases hp:Z%2=1
   ·have hzg:jV Z= -((Z:Int)/2)-1:=by unfold jV;rw[if_pos hp];omega
    rw[if_pos zE,hzg];by_cases hl: -((Z:Int)/2)-1< -4611686018427387903
    ·rw[if_pos hl,if_pos (by unfold qj;omega)];rfl
    rw[if_neg hl,if_neg (by unfold qj;omega)];rfl
   have hzg:jV Z=(Z:Int)/2:=by unfold jV;rw[if_neg hp];omega
   rw[if_neg zE,hzg,if_neg zE,if_neg (by unfold qj;omega)];rfl
  have c2':¬((a:Int)+i<s.size):=zE
  have hd:(aU s).drop (a+i)=[]:=zzaj zE
  have KU:th 9 ((aU s).drop a) 0 0=none:=by
   rw[hR,hd];cases 9-i<;>rfl
  rw[eX _ KU];simp[h8,h7,c1',c2',gm,BY,Ez,Kr]
 obtain rfl:i=9:=zE
 have KU:th 9 ((aU s).drop a) 0 0=none:=hR;rw[eX _ KU];simp[h8,h7,BY,Ez,Kr]
def dh(l:P2):ByteArray:=⟨(l.map UInt8.ofNat).toArray⟩
def O3(s:ByteArray):dh (aU s)=s:=by
 obtain⟨⟨l⟩⟩:=s;simp[dh,aU,Function.comp_def]
def O4{l:P2}(h:∀x∈l,x<256):aU (dh l)=l:=by
 unfold aU dh;simp only[zzcz]
 conv=>rhs;rw[<- List.map_id l]
 refine zzdb fun x hx=>?_;have:=h x hx;simp[UInt8.toNat_ofNat'];omega
def Uo(l:P2):(dh l).size=l.length:=by
 show((l.map UInt8.ofNat).toArray).size=_;simp
def O5(l:P2)(t:ByteArray):dh (l++aU t)=dh l++t:=by
 refine ByteArray.ext ?_;rw[ByteArray.data_append];obtain⟨⟨m⟩⟩:=t;simp[dh,aU,Function.comp_def]
def Qbw:∀k z,(qi k z).length<=k
 |0,z=>zzaa _
 |k+1,z=>by
  rw[qi];split
  ·simp
  rw[zzba];have:=Qbw k (z/128);omega
def BK(l:P2)(b:Nat):Option (P2×Nat):=match fO l b with
 |none=>none
 |some (c,d)=>if c<0\/65536<c\/(l.length:Int)-d<c then none else some ((l.drop d).take c.toNat,d+c.toNat)
def BL:Option (P2×Nat)->AV
 |some (t,e)=>.aS [.str (dh t),I e,I 0]
 |none=>.aS [.str ⟨#[]⟩,I 0,I 10]
def DS(s:ByteArray)(d c:Nat)(h:d+c<=s.size):s.extract d (d+c)=dh (((aU s).drop d).take c):=by
 have h1:((aU s).drop d).take c=aU (s.extract d (d+c)):=by
  unfold aU;rw[<- zzfp,<- List.map_take];congr 1;obtain⟨⟨l⟩⟩:=s;simp[ByteArray.extract,ByteArray.copySlice,zzgo]
 rw[h1,O3]
def tq{gl:Nat->AV}(s:ByteArray)(a:Nat)(ha:a<=s.size)(hs:s.size<=1000000):Pure Tryz.prog gl 128 [.str s,I a] (BL (BK (aU s) a)):=by
 have k:=yw (gl:=gl) s a ha hs;refine Qm aco (fun _ _ _=>Kr (fO (aU s) a)) zd ?_;cases h:fO (aU s) a with
 |none=>
  rw[h]at k;have hr:BK (aU s) a=none:=by unfold BK;rw[h]
  rw[hr];simp[Aa,Ab,Kr,BL];exact k
 |some x=>
  obtain⟨n,d⟩:=x;rw[h]at k;obtain⟨q1,q2,q3,q4⟩:=Qaj (Jj s) h;rw[Xo]at q4;simp only[bw,qj]at q1;have hw:IntKind.i64.wrap ((s.size:Int)-d)=(s.size:Int)-d:=by rw[Qh]<;>omega
  have hr:BK (aU s) a=if n<0\/65536<n\/(s.size:Int)-d<n then none else some (((aU s).drop d).take n.toNat,d+n.toNat):=by unfold BK;rw[h,Xo]
  rw[hr];by_cases c1:n<0
  ·rw[if_pos zE];simp[Aa,Ab,Kr,BL,c1];exact k
  by_cases c2:65536<n
  ·rw[if_pos zE];simp[Aa,Ab,Kr,BL,c1,c2];exact k
  by_cases c3:(s.size:Int)-d<n
  ·rw[if_pos zE];simp[Aa,Ab,Kr,BL,c1,c2,hw,c3];exact k
  rw[if_neg zE];have eY:IntKind.i64.wrap ((d:Int)+n)=(d:Int)+n:=by rw[Qh]<;>omega
  have he:=DS s d n.toNat zE;simp[Aa,Ab,Kr,BL,c1,c2,hw,c3,eY];exact⟨k,⟨zE,zE⟩,by rw[show((d:Int)+n).toNat=d+n.toNat by omega];exact he,zE⟩
def yx{gl:Nat->AV}(t:ByteArray)(ht:t.size<=65536):Pure Tryz.prog gl 26 [.str t] (.aS [.str (dh (aN t.size++aU t)),I 0]):=by
 have k:=tj (gl:=gl) (n:=(t.size:Int)) (by simp only[bw,qj];omega);refine Qm akb (fun _ _ _=>.aS [.str (dh (aN t.size)),I 0]) zd ?_;have h:¬(65536:Int)<t.size:=zE
 have hl:=Uo (aN t.size);have h9:=Qbw 9 (iK (t.size:Int));simp[apj,apk,h];exact⟨k,by unfold aN at*;omega,(O5 _ _).symm⟩
def fT(a0 a1:Addr):Nat->AV
 |0=>.ep [.er 376 a0] 0
 |1=>.ep [.er 376 a1] 0
 |2=>.ep Db 0
 |_=>.junk
def chE(a:Addr):List PanicEntry:=[{v:=.iface 376 (.pointer (some a)),recovered:=false}]
def Qda{gl:Nat->AV}{Y:YT}{s:ByteArray}{a b id:Nat}{n:Int}{m:AM}{K:UV}(ha:a<=s.size)(hs:s.size<=1000000)(aL:id<m.boxes.length)(hr:Qf m.boxes id=[.str s,I a])
  (h:fO (aU s) a=some (n,b))(hK:K (I n) {m with boxes:=m.boxes.set id [.str s,I b]}):aF Tryz.prog gl Y 74 [.ptr id 0] m K:=by
 have k:=yw (gl:=gl) s a ha hs;rw[h]at k;refine Xn Tf (fun _ _ _=>Kr (some (n,b))) zd ?_;simp[akZ,ak0,hr,aL,Kr];exact⟨k,hK⟩
def Qay{a0 a1:Addr}{Y:YT}{s:ByteArray}{a id:Nat}{m:AM}{K:List PanicEntry->AM->Prop}(ha:a<=s.size)(hs:s.size<=1000000)(hr:Qf m.boxes id=[.str s,I a])
  (h:fO (aU s) a=none)(hK:K (chE a0) m):Fe Tryz.prog (fT a0 a1) Y 74 [.ptr id 0] m K:=by
 have k:=yw (gl:=fT a0 a1) s a ha hs;rw[h]at k;refine NX Tf (fun _ _ _=>Kr none) zd ?_;simp[akZ,ak0,hr,Kr,fT];refine⟨k,1,?_⟩;simp[Ir,Wy,fT];exact hK
def af7{gl:Nat->AV}{Y:YT}{s:ByteArray}{a b id:Nat}{t:P2}{m:AM}{K:UV}(ha:a<=s.size)(hs:s.size<=1000000)(aL:id<m.boxes.length)(hr:Qf m.boxes id=[.str s,I a])
  (h:BK (aU s) a=some (t,b))(hK:K (.str (dh t)) {m with boxes:=m.boxes.set id [.str s,I b]}):aF Tryz.prog gl Y 75 [.ptr id 0] m K:=by
 have k:=tq (gl:=gl) s a ha hs;rw[h]at k;refine Xn Tg (fun _ _ _=>BL (some (t,b))) zd ?_;simp[ak1,ak2,hr,aL,BL];exact⟨k,hK⟩
def aaE{a0 a1:Addr}{Y:YT}{s:ByteArray}{a id:Nat}{m:AM}{K:List PanicEntry->AM->Prop}(ha:a<=s.size)(hs:s.size<=1000000)(hr:Qf m.boxes id=[.str s,I a])
  (h:BK (aU s) a=none)(hK:K (chE a0) m):Fe Tryz.prog (fT a0 a1) Y 75 [.ptr id 0] m K:=by
 have k:=tq (gl:=fT a0 a1) s a ha hs;rw[h]at k;refine NX Tg (fun _ _ _=>BL none) zd ?_;simp[ak1,ak2,hr,BL,fT];refine⟨k,1,?_⟩;simp[Ir,Wy,fT];exact hK
def uP(k:Int):P2:=if k=1 then[4,5]else if k=2 then[4]else if k=3 then[6,7,8,9,10,11]else if k=4 then[13,14,15,16,17,18,19,20]else if k=5 then[21,22,23,24]else[]
