import Derived.Test.YthjppoincojfkaaGreatDoorRPMF
import Derived.Test.YthjppoincojfkaaGreatDoorProg
import Derived.Lib.AppendZerosOnto
import Derived.Shelf.RegionOpenPlain
import Derived.Lib.Walk
import Derived.Lib.JoinLaws
import Derived.Lib.Overlaps
set_option linter.all false
set_option maxRecDepth 100000
set_option maxHeartbeats 64000000
namespace Go.Abs
open Go Go.RowKit
def AM.wr(m:AM)(id:Nat)(cs:P2):AM:={m with boxes:=m.boxes.set id cs}
def ax1(m:AM)(id:Nat)(cs:P2){c:P2}(h:m.boxes[id]?=some c):(m.wr id cs).B=fun i=>if i=id then some cs else m.B i:=by
 funext i;simp only[AM.B,AM.wr];have ai:id<m.boxes.length:=(zza.1 h).1;by_cases hi:i=id
 ·subst hi;simp[ai]
 rw[zzbn (fun h=>hi h.symm),if_neg hi]
def aj(zs:Pi):P2:=zs.map (AV.int .i64)
def aB.fM{P:Program}{gl:Nat->AV}{Y:YT}{f:FuncId}{xs:P2}{m:AM}{K:So}(hc:bw P f)
  (
   h:∀(N:Nat)(w0:eN)(an:Nat->Nat->Prop)(γ:G)(w:World)(vs:PQ),au N w0 an γ w m.B m.L->cS γ w m->ak w γ xs vs->
   Calls P f vs.toArray w fun e w'=>∃v γ' r m',e=.returned v/\eC w γ w' γ'/\au N w0 an γ' w' m'.B m'.L/\cS γ' w' m'/\aA w' γ' r v/\K r m'):aB P gl Y f xs m K:=
 ⟨hc,fun N w0 an γ w vs hm hl _ _ hr=>(callsIn_wide (n:=0)).2 (h N w0 an γ w vs hm hl hr)⟩
def yl{w:World}{γ:G}:aA w γ (.aS []) (.tuple #[]):=.aS rfl fun i c v h=>by simp at h
open Go Go.RowKit
abbrev I(n:Int):AV:=.int .i64 n
section
variable {H:Type} {P:Program} {n:Nat} {t e:TypeId} {x:DataW H}
def Xo{k:IntKind}(hu:P.underlying t=some (.int k))(h:Typed P (n+1) t x):∃m,x=.lit (.int k m)/\(Lit.int k m).wf=true:=by
 unfold Typed at h;rw[hu]at h;cases x with
 |lit l=>cases l<;>first|(cases h;done)|(obtain⟨rfl,h⟩:=h;exact⟨_,rfl,h⟩)
 |_=>cases h
def Rh(hu:P.underlying t=some .string)(h:Typed P (n+1) t x):∃s,x=.lit (.string s)/\s.length<=maxLen:=by
 unfold Typed at h;rw[hu]at h;cases x with
 |lit l=>cases l<;>first|(cases h;done)|exact⟨_,rfl,h⟩
 |_=>cases h
def GZ(hu:P.underlying t=some (.slice e))(h:Typed P (n+1) t x):x=.nil\/∃bM spare,x=.slice bM spare/\bM.length<=maxLen/\∀y∈bM,Typed P n e y:=by
 unfold Typed at h;rw[hu]at h;cases x<;>first|(cases h;done)|exact .inl rfl|exact .inr ⟨_,_,rfl,h.1,h.2⟩
def Uw{fs:Array Field}(hu:P.underlying t=some (.struct fs))(h:Typed P (n+1) t x):∃parts,x=.agg parts/\parts.length=fs.size/\∀p∈fs.toList.zip parts,Typed P n p.1.type p.2:=by
 unfold Typed at h;rw[hu]at h;cases x<;>first|(cases h;done)|exact⟨_,rfl,h.1,h.2⟩
def Ze{k:IntKind}(hu:P.underlying t=some (.int k))(k':IntKind)(m:Int):cD P (n+1) t (.lit (.int k' m):DataW H)=[.int k' m]:=by simp only[cD,hu]
def afh(hu:P.underlying t=some .string)(l:List UInt8):cD P (n+1) t (.lit (.string l):DataW H)=[.str ⟨l.toArray⟩]:=by simp only[cD,hu]
def afi(hu:P.underlying t=some (.slice e)):cD P (n+1) t (.nil:DataW H)=[.sl .nil []]:=by simp only[cD,hu]
def amJ(hu:P.underlying t=some (.slice e))(l sp:List (DataW H)):cD P (n+1) t (.slice l sp)=[.sl .nn (l.map (cD P n e))]:=by simp only[cD,hu]
def Uv{fs:Array Field}(hu:P.underlying t=some (.struct fs))(l:List (DataW H)):cD P (n+1) t (.agg l)=(fs.toList.zip l).flatMap fun p=>cD P n p.1.type p.2:=by simp only[cD,hu]
def Ri{k:Nat}(hu:P.underlying t=some (.array k e))(l:List (DataW H)):cD P (n+1) t (.agg l)=l.flatMap (cD P n e):=by simp only[cD,hu]
def afj{d:Nat}(h:Kj P t=true):oZ P d t x=.agg (cD P d t x):=by unfold oZ;rw[h];rfl
def afk{d:Nat}(h:Kj P t=false){a:AV}(ha:cD P d t x=[a]):oZ P d t x=a:=by unfold oZ;rw[h,ha];rfl
end
def Wk(a b:AV):Prop:=∀(w:World)(γ:G)(v:Value),aA w γ a v->aA w γ b v
def Wk.refl(a:AV):Wk a a:=fun _ _ _ h=>h
def Ps{a:AV}:Wk a a:=Wk.refl a
def Wk.sl(rt:Rt)(rows:T5):Wk (.sl rt rows) (.sl .ro rows):=fun w γ v h=>by
 cases h with
 |sl b off sz cv hcap hnil ha hsz hc hr aX=>exact .sl b off sz cv hcap hnil ha hsz hc hr trivial
def WkL:P2->P2->Prop
 |[],[]=>True
 |a::r,b::s=>Wk a b/\WkL r s
 |_,_=>False
def WkL.rep{w:World}{γ:G}:∀{l l':P2}{vs:PQ},WkL l l'->ak w γ l vs->ak w γ l' vs
 |[],[],_,_,h=>h
 |[],_::_,_,h,_=>by cases h
 |_::_,[],_,h,_=>by cases h
 |a::l,b::l',[],_,h=>by have:=h.1;simp at this
 |a::l,b::l',v::vs,hk,h=>by
  have h0:aA w γ a v:=h.2 0 a v rfl rfl;have hs:ak w γ l vs:=⟨by have:=h.1;simpa using this,fun i x y h1 h2=>h.2 (i+1) x y (Nm h1) (Nm h2)⟩;exact ak.cons (hk.1 w γ v h0) (WkL.rep hk.2 hs)
def Xz{P:Program}{gl:Nat->AV}{f:FuncId}{l l':P2}{r:AV}(h:Pure P gl f l' r)(hk:WkL l l'):Pure P gl f l r:=
 ⟨h.1,fun ro w vs lE hr=>h.2 ro w vs lE (hk.rep hr)⟩
def Wk.rows{α:Type}(l:List α)(f g:α->P2)(hl:∀a,(g a).length=(f a).length)(hc:∀(a:α)(j:Nat)(c':AV),(g a)[j]?=some c'->∃c,(f a)[j]?=some c/\Wk c c'):Wk (.sl .ro (l.map f)) (.sl .ro (l.map g)):=fun w γ v h=>by
 have key:∀(i j:Nat)(c':AV),Qv (l.map g) i j=some c'->∃c,Qv (l.map f) i j=some c/\Wk c c':=fun i j c' h=>by
  unfold Qv at h |-
  rw[zzbm]at h |-
  cases hi:l[i]? with
  |none=>rw[hi]at h;cases h
  |some a=>
   rw[hi]at h;simpa using hc a j c' (Nm h)
 obtain⟨a,cap,b,off,sz,cv,rfl,s1,_⟩:=h.b9;have e1:(l.map f).length=(l.map g).length:=zd
 rw[e1];refine qq.mk' (b:=b) (off:=off) (sz:=sz) (cv:=cv) ⟨by rw[<- e1];exact s1.hcap,s1.hnil,fun hn=>s1.at_ (Nm hn),fun row hr=>?_,fun i j c' h=>?_,fun i j c' h=>?_⟩ trivial
 ·simp at hr;obtain⟨x,hx,rfl⟩:=hr;rw[hl x];exact s1.hsz _ (by simp;exact⟨x,hx,rfl⟩)
 ·obtain⟨c,h1,h2⟩:=key i j c' h;exact s1.cell i j c h1
 obtain⟨c,h1,h2⟩:=key i j c' h;exact h2 _ _ _ (s1.rep i j c h1)
def Zh{P:Program}{gl:Nat->AV}{f:FuncId}{l:P2}{r r':AV}(h:Pure P gl f l r)(hk:Wk r r'):Pure P gl f l r':=
 ⟨h.1,fun ro w vs hg hr=>(h.2 ro w vs hg hr).mono fun _ _⟨v,h1,h2,h3⟩=>⟨v,h1,h2,hk _ _ _ h3⟩⟩
def jv{l l':P2}(h:WkL l l'):Wk (.agg l) (.agg l'):=fun w γ v hr=>by
 have key:∀{l l':P2},WkL l l'->l.length=l'.length/\∀(i:Nat)(c':AV),l'[i]?=some c'->∃c,l[i]?=some c/\Wk c c':=by
  intro l;induction l with
  |nil=>intro l' h;cases l' with
   |nil=>exact⟨rfl,fun i c' h=>by simp at h⟩
   |cons _ _=>exact h.elim
  |cons a l ih=>intro l' h;cases l' with
   |nil=>exact h.elim
   |cons b l'=>
    obtain⟨h1,h2⟩:=ih h.2;refine⟨by simp[h1],fun i c' hc=>?_⟩;cases i with
    |zero=>simp at hc;subst hc;exact⟨a,rfl,h.1⟩
    |succ i=>simpa using h2 i c' (Nm hc)
 obtain⟨h1,h2⟩:=key h;cases hr with
 |agg hl hc=>
  refine .agg zE fun i c' v uh hv=>?_;obtain⟨c,g1,g2⟩:=h2 i c' uh;exact g2 _ _ _ (hc i c v g1 hv)
open Go Go.RowKit
section
variable {B l:T5} {i j:Nat}
def Qn(h:i<B.length):Qh (B++l) i=Qh B i:=by simp[Qh,zzax,-Yb,zzaj h]
def Yk(v:P2)(h:i<B.length):(B++l).set i v=B.set i v++l:=by rw[List.set_append_left _ _ h]
def Ya(v:P2)(h:i≠j):Qh (B.set i v) j=Qh B j:=by simp[Qh,zzax,-Yb,zzbn h]
def Yg(v:P2)(h:i<B.length):Qh (B.set i v) i=v:=by simp[Qh,zzax,-Yb,zzbg h]
def Jj(h:i<B.length):B[i]?=some (Qh B i):=by
 rw[zzaf h];simp[Qh,zzax,-Yb,h]
end
def bB(S:Nat->Prop)(B B':T5):Prop:=B.length<=B'.length/\∀j,j<B.length->¬S j->Qh B' j=Qh B j
def bB.refl(S:Nat->Prop)(B:T5):bB S B B:=⟨zzab _,fun _ _ _=>rfl⟩
def bB.app{S:Nat->Prop}{B B':T5}(h:bB S B B')(l:T5):bB S B (B'++l):=
 ⟨by have:=h.1;simp;omega,fun j hj hs=>by rw[Qn (by have:=h.1;omega)];exact h.2 j hj hs⟩
def bB.set{S:Nat->Prop}{B B':T5}(h:bB S B B'){i:Nat}(hi:S i\/B.length<=i)(v:P2):bB S B (B'.set i v):=
 ⟨by have:=h.1;simpa using this,fun j hj hs=>by rw[Ya v (by rintro rfl;obtain hi|hi:=hi;exact hs hi;omega)];exact h.2 j hj hs⟩
def bB.trans{S:Nat->Prop}{B B' B'':T5}(h:bB S B B')(k:bB (fun i=>S i\/B.length<=i) B' B''):bB S B B'':=
 ⟨zzbd h.1 k.1,fun j hj hs=>by rw[k.2 j (by have:=h.1;omega) (by rintro(h|h);exact hs h;omega)];exact h.2 j hj hs⟩
def bB.mono{S S':Nat->Prop}{B B':T5}(h:bB S B B')(hs:∀i,S i->S' i):bB S' B B':=⟨h.1,fun j hj hn=>h.2 j hj fun k=>hn (hs j k)⟩
def Qf(s:Int×Int):P2:=[I s.1,I s.2]
def cF:List (Int×Int)->P2
 |[]=>[]
 |s::r=>I s.1::I s.2::cF r
@[simp] theorem av8:cF []=[]:=rfl
@[simp] theorem p9(s:Int×Int)(r:List (Int×Int)):cF (s::r)=I s.1::I s.2::cF r:=rfl
def Ye:∀l,(cF l).length=l.length*2
 |[]=>rfl
 |s::r=>by simp[Ye r];omega
def Qcl:∀a b,cF (a++b)=cF a++cF b
 |[],_=>rfl
 |s::r,b=>by simp[Qcl r b]
def G1:∀(l:List (Int×Int))(i:Nat),(cF l).drop (i*2)=cF (l.drop i)
 |[],i=>zd
 |s::r,0=>zd
 |s::r,i+1=>by rw[show(i+1)*2=i*2+1+1 by omega];simp[G1 r i]
def uB{l:List (Int×Int)}{i:Nat}{s:Int×Int}(h:l[i]?=some s):(cF l).drop (i*2)=I s.1::I s.2::cF (l.drop (i+1)):=by
 rw[G1];have ai:=(zza.1 h).1;rw[zzag ai];have:l[i]=s:=(zza.1 h).2;rw[this,p9]
def FP{l:List (Int×Int)}{i:Nat}{s:Int×Int}(h:l[i]?=some s):(cF l).drop (i*2+1)=I s.2::cF (l.drop (i+1)):=by
 rw[<- zze,uB h];rfl
def Oo:∀(l:List (Int×Int))(i:Nat)(s:Int×Int),i<l.length->setA (cF l) (i*2) [I s.1,I s.2]=cF (l.set i s)
 |[],i,s,h=>by simp at h
 |t::r,0,s,h=>by simp[setA]
 |t::r,i+1,s,h=>by
  have ih:=Oo r i s (Nm h);simp only[setA]at ih |-
  rw[show(i+1)*2=i*2+1+1 by omega,show i*2+1+1+1=i*2+1+1+1 from rfl];simp only[p9,zzdq];rw[ih]
def wY:∀(l:List (Int×Int))(i:Nat)(s:Int×Int)(y:Int),l[i]?=some s->(cF l).set (i*2+1) (I y)=cF (l.set i (s.1,y))
 |[],i,s,y,h=>by simp at h
 |t::r,0,s,y,h=>by simp at h;subst h;simp
 |t::r,i+1,s,y,h=>by
  have ih:=wY r i s y (Nm h);rw[show(i+1)*2+1=i*2+1+1+1 by omega];simp only[p9,zzdq];rw[ih]
def Bs:∀(l:List (Int×Int))(r:P2),aY 2 l.length (cF l++r)=l.map Qf
 |[],_=>rfl
 |s::l,r=>by simp[Qf,Bs l r]
def Qeh(l:List (Int×Int)):aY 2 l.length (cF l)=l.map Qf:=by simpa using Bs l []
def C7(l:List (Int×Int)):Zm (cF l)=true:=by
 induction l with
 |nil=>rfl
 |cons s r ih=>simp only[p9,Zm,List.all_cons,zzac]at ih |-;exact⟨rfl,rfl,ih⟩
def Q1{a b:P2}(ha:Zm a=true)(hb:Zm b=true):Zm (a++b)=true:=by
 simp only[Zm,zzfd,zzac]at*;exact⟨ha,hb⟩
def G2(l:List (Int×Int)):(l.map Qf).flatten=cF l:=by
 induction l with
 |nil=>rfl
 |cons s r ih=>simp[Qf,ih]
def Rj(n:Nat):bF n [I 0,I 0]=cF (List.replicate n (0,0)):=by
 induction n with
 |zero=>rfl
 |succ n ih=>rw[bF,ih];rfl
def Zv{l:List (Int×Int)}{i:Nat}{s:Int×Int}(h:l[i]?=some s):Qh (l.map Qf) i=[I s.1,I s.2]:=Qu (by simp[h,Qf])
def pn:∀(bs:P2)(a b:P2),bs.length=b.length->setA (a++b) a.length bs=a++bs
 |[],a,b,h=>by cases b with
  |nil=>rfl
  |cons _ _=>simp at h
 |x::bs,a,[],h=>by simp at h
 |x::bs,a,y::b,h=>by
  have ih:=pn bs (a++[x]) b (Nm h);rw[setA];have:(a++y::b).set a.length x=a++[x]++b:=zd
  rw[this];simpa using ih
def jT(bs a r:P2)(h:bs.length=a.length):setA (a++r) 0 bs=bs++r:=by
 have uk:∀(bs pre a r:P2),bs.length=a.length->setA (pre++a++r) pre.length bs=pre++bs++r:=by
  intro bs;induction bs with
  |nil=>intro pre a r h;cases a with
   |nil=>rfl
   |cons _ _=>simp at h
  |cons x bs ih=>intro pre a r h;cases a with
   |nil=>simp at h
   |cons y a=>
    rw[setA];have e:(pre++y::a++r).set pre.length x=pre++[x]++a++r:=zd
    rw[e];have:=ih (pre++[x]) a r (Nm h);rw[show(pre++[x]).length=pre.length+1 by simp]at this;rw[this];simp
 have:=uk bs [] a r h;simpa using this
open Go Go.RowKit
def atl(S:T5->Prop)(y:P2->AM->(Bool->AM->Prop)->Prop)(K:AM->Prop):T5->AM->Prop
 |[],m=>∀m',fu m m'->K m'
 |x::xs,m=>∀m',fu m m'->∀K':Bool->AM->Prop,(∀lG,S lG.boxes->atl S y K xs lG->K' true lG)->(∀lG,(∀m3,fu lG m3->K m3)->K' false lG)->y x m' K'
open Go Go.RowKit
def bV(O:Nat->Prop)(m m':AM):Prop:=m.boxes.length<=m'.boxes.length/\(∀j,j<m.boxes.length->¬O j->Qh m'.boxes j=Qh m.boxes j)/\(∃lx,m'.lens=m.lens++lx)/\∀l,m.st l≠.gone->m'.st l=m.st l
def fu.toO{m m':AM}(h:fu m m')(O:Nat->Prop):bV O m m':=by
 obtain⟨⟨bx,h1⟩,h2,h3⟩:=h;exact⟨by rw[h1];simp,fun j hj _=>by rw[h1,Qn hj],h2,h3⟩
def bV.refl(O:Nat->Prop)(m:AM):bV O m m:=(fu.refl m).toO O
def bV.trans{O:Nat->Prop}{m m' lG:AM}(h:bV O m m')(k:bV O m' lG):bV O m lG:=by
 obtain⟨h1,h2,⟨c,h3⟩,h4⟩:=h;obtain⟨k1,k2,⟨c',k3⟩,k4⟩:=k;exact⟨zzbd h1 k1,fun j hj ho=>by rw[k2 j zE ho,h2 j hj ho],⟨c++c',by rw[k3,h3,zzav]⟩,fun l hl=>by rw[k4 l (by rw[h4 l hl];exact hl),h4 l hl]⟩
def bV.gone{O:Nat->Prop}{m m':AM}(h:bV O m m')(l:Nat):bV O (m.at_ l .gone) (m'.at_ l .gone):=
 ⟨h.1,h.2.1,h.2.2.1,fun l' eV=>by
  by_cases e:l'=l
  ·subst e;simp at eV
  simp only[aiT,uu,e,if_false]at eV |-;exact h.2.2.2 l' eV⟩
def NY(O:Nat->Prop)(m m':AM):Prop:=m.boxes.length<=m'.boxes.length/\∀j,O j->Qh m'.boxes j=Qh m.boxes j
def OU(O:Nat->Prop)(n n':Nat)(j:Nat):Prop:=O j\/(n<=j/\j<n')
def atm{O:Nat->Prop}{a b c:Nat}(h1:a<=b)(h2:b<=c):OU (OU O a b) b c=OU O a c:=by
 funext j;unfold OU;apply propext;constructor
 ·rintro((h|h)|h)
  ·exact .inl h
  ·exact .inr ⟨h.1,zE⟩
  exact .inr ⟨zE,h.2⟩
 rintro(h|h)
 ·exact .inl (.inl h)
 rcases zzaa j b with h3|h3
 ·exact .inl (.inr ⟨h.1,h3⟩)
 exact .inr ⟨h3,h.2⟩
def bV.ZN{O:Nat->Prop}{m m' lG:AM}(h:bV O m m')(k:bV (OU O m.boxes.length m'.boxes.length) m' lG):bV O m lG:=by
 obtain⟨h1,h2,⟨c,h3⟩,h4⟩:=h;obtain⟨k1,k2,⟨c',k3⟩,k4⟩:=k;exact⟨zzbd h1 k1,fun j hj ho=>by rw[k2 j zE (by rintro(h|h);exact ho h;omega),h2 j hj ho],⟨c++c',by rw[k3,h3,zzav]⟩,fun l hl=>by rw[k4 l (by rw[h4 l hl];exact hl),h4 l hl]⟩
def sF(y:P2->AM->(Bool->AM->Prop)->Prop)(K:AM->Prop):T5->(Nat->Prop)->AM->Prop
 |[],O,m=>∀m',bV O m m'->K m'
 |x::xs,O,m=>∀m',bV O m m'->∀K':Bool->AM->Prop,(∀lG,NY (OU O m.boxes.length m'.boxes.length) m' lG->sF y K xs (OU O m.boxes.length m'.boxes.length) lG->K' true lG)->
   (∀lG,(∀m3,bV (OU O m.boxes.length m'.boxes.length) lG m3->K m3)->K' false lG)->y x m' K'
def sF.ext{O:Nat->Prop}{y:P2->AM->(Bool->AM->Prop)->Prop}{K:AM->Prop}{xs:T5}{m m':AM}(h:sF y K xs O m)(e:bV O m m'):sF y K xs (OU O m.boxes.length m'.boxes.length) m':=by
 cases xs with
 |nil=>exact fun m2 e2=>h m2 (e.ZN e2)
 |cons x xs=>
  intro m2 e2;rw[atm e.1 e2.1];exact h m2 (e.ZN e2)
def XE(P:Program)(gl:Nat->AV)(f:FuncId)(first cap:P2)(xs:T5):Prop:=
 ∀(Y:YT)(l:Nat)(m:AM)(K:AM->Prop),sF (Y l) K xs (fun _=>False) m->aB P gl Y f (first++[.yld l]++cap) m fun _ m'=>K m'
def ri{P:Program}{gl:Nat->AV}{orc:UV}{Y:YT}{s:AS}{Q:R0}{g:bE}{ps:Pa}{gY body:SC}{f:FuncId}{first cap:P2}{xs:T5}
  (hg:ev gl s.T g=.fn f first cap)(cM:XE P gl f first cap xs)(aH:∀x∈xs,x.length=ps.length)(I:(Nat->Prop)->Nat->AM->Prop)(X:(Nat->Prop)->Exit->AM->Prop)
  (h0:I (fun _=>False) 0 s.m)
  (hI:∀O i m m',I O i m->bV O m m'->I (OU O m.boxes.length m'.boxes.length) i m')(hX:∀O ex m m',X O ex m->bV O m m'->X O ex m')
  (
   hb:∀(O:Nat->Prop)(l i:Nat)(m:AM)(x:P2),(∀j,O j->s.m.boxes.length<=j/\j<m.boxes.length)->s.m.boxes.length<=m.boxes.length->s.m.st l=.gone->m.st l=.ready->I O i (m.at_ l .gone)->xs[i]?=some x->∀K':R0,
   (∀s',NY O m s'.m->I O (i+1) (s'.m.at_ l .gone)->K' .normal s')->(∀s',m.boxes.length<=s'.m.boxes.length->X O .ret (s'.m.at_ l .gone)->K' .ret s')->(∀id s',m.boxes.length<=s'.m.boxes.length->X O (.exit id) (s'.m.at_ l .gone)->K' (.exit id) s')->
   vc P gl orc Y gY ⟨Qaq s.T ps x,m⟩ (J5 l fun s'=>vc P gl orc Y body s' K'))
  (WB:∀O m,I O xs.length m->Q .normal ⟨s.T,m⟩)(hex:∀O ex m,X O ex m->Q ex ⟨s.T,m⟩):vc P gl orc Y (.rfunc g ps gY body) s Q:=by
 simp only[vc,hg];intro hl;generalize dD:s.m.ln=l at hl;refine cM _ l s.m.bK (fun m'=>CM l s.T m' Q (m'.st l)) ?_;have iC:∀{O:Nat->Prop}{m m':AM},m.st l=.ready->bV O m m'->m'.st l=.ready:=fun h e=>by rw[e.2.2.2 l (by rw[h];simp),h]
 have key:∀(n i:Nat)(O:Nat->Prop)(m:AM),i+n=xs.length->I O i (m.at_ l .gone)->(∀j,O j->s.m.boxes.length<=j/\j<m.boxes.length)->s.m.boxes.length<=m.boxes.length->m.st l=.ready->
   sF (Yin Y l ps.length (fun args m K=>vc P gl orc Y gY ⟨Qaq s.T ps args,m⟩ (J5 l fun s'=>vc P gl orc Y body s' (PT l K))) l) (fun m'=>CM l s.T m' Q (m'.st l)) (xs.drop i) O m:=by
  intro n;induction n with
  |zero=>
   intro i O m hi hIm C5 gL hm;rw[zzal zE];intro m' e;simp only[iC hm e,CM];obtain rfl:i=xs.length:=zE
   exact WB _ _ (hI _ _ _ _ hIm (e.gone l))
  |succ n ih=>
   intro i O m hi hIm C5 gL hm;have ai:i<xs.length:=zE
   rw[zzag ai];intro m' e K' hT hF;have atn:s.m.boxes.length<=m'.boxes.length:=zzbd gL e.1
   have amK:∀j,OU O m.boxes.length m'.boxes.length j->s.m.boxes.length<=j/\j<m'.boxes.length:=by
    rintro j (h|h)
    ·exact⟨(C5 j h).1,zzba (C5 j h).2 e.1⟩
    exact⟨zE,h.2⟩
   have lI:=hI _ _ _ _ hIm (e.gone l);simp only[Jm]at lI;simp only[Yin,if_true];refine⟨iC hm e,aH _ (zzdd ai),?_⟩;refine hb (OU O m.boxes.length m'.boxes.length) l i m' xs[i] amK atn hl (iC hm e) lI (zzaf ai) (PT l K') (fun s' hS' lI=>?_) (fun s' cn hQ=>?_) fun id s' cn hQ=>?_
   ·refine hT _ (by simpa[NY]using hS') (ih (i+1) _ _ zE ?_ (fun j hj=>⟨(amK j hj).1,by simpa using zzba (amK j hj).2 hS'.1⟩) (by simpa using zzbd atn hS'.1) zd);simpa using lI
   ·refine hF _ fun m3 e3=>?_;have h3:m3.st l=.done .ret:=by have:=e3.2.2.2 l zd;simpa using this
    simp only[h3];exact hex _ _ _ (hX _ _ _ _ hQ (by have:=e3.gone l;simpa using this))
   refine hF _ fun m3 e3=>?_;have h3:m3.st l=.done (.exit id):=by have:=e3.2.2.2 l zd;simpa using this
   simp only[h3];exact hex _ _ _ (hX _ _ _ _ hQ (by have:=e3.gone l;simpa using this))
 have hI0:I (fun _=>False) 0 (s.m.bK.at_ l .gone):=by
  have:=hI (fun _=>False) 0 s.m (s.m.bK.at_ l .gone) h0 ⟨by simp[AM.bK],fun j _ _=>by simp[AM.bK],⟨[],by simp[AM.bK]⟩,fun l' eV=>by
   have aO:l'≠l:=by rintro rfl;exact eV hl
   simp[AM.bK,dD,uu,aO]⟩
  have e:OU (fun _=>False) s.m.boxes.length (s.m.bK.at_ l .gone).boxes.length=fun _=>False:=by
   funext j;simp[OU,AM.bK]
  rw[e]at this;exact this
 have:=key xs.length 0 (fun _=>False) s.m.bK zd hI0 (fun _ h=>h.elim) (by simp[AM.bK]) (by simp[AM.bK,dD]);simpa using this
end Go.Abs
namespace Go.Proofs.YthjppoincojfkaaGreatDoor
open Go Go.Abs Go.RowKit Go.Lib
def Rk{P:Program}(w:World)(dT sT ty elem:TypeId)(i:TypeInfo)(b o Lw afl:Nat)(a:Addr)(Lx afm:Nat)(cs:PQ)
  (hu:P.underlying dT=some (.slice elem))(hi:P.info? elem=some i)(hn:cs.length=Nat.min Lx Lw*i.size)
  (ax2:∀j v,cs[j]?=some v->w.cell? (a.add j)=some v)(hc:∀j,j<cs.length->(w.cell? ⟨b,o+j,none⟩).isSome=true)(hf:∀j,j<cs.length->w.frozen? ⟨b,o+j,none⟩=false)(h1:∀v∈cs,v.oneCell'=true):
  (Builtin.copy_ #[dT,sT] ty #[.slice (some ⟨b,o,none⟩) Lw afl,.slice (some a) Lx afm]).run P w=.ok (goInt (Nat.min Lx Lw)) (w.setCells b o cs):=by
 have hl:=run_loadCells_list (P:=P) w a cs ax2;have bY:=run_storeCells_cells (P:=P) b o cs 0 w (Nm hc) (Nm hf) h1;simp only[zzcn]at bY;simp[Builtin.copy_,run_underlying hu,Builtin.lenOf,Builtin.firstCells,sizeOf,typeInfo,hi,<- hn,hl,bY]
def kZ{P:Program}(w:World)(dT sT ty elem:TypeId)(i:TypeInfo)(b o Lw afl b2 o2 Lx afm k:Nat)(hu:P.underlying dT=some (.slice elem))(hi:P.info? elem=some i)
  {arr Rl:P1}{e e2:TypeId}(hb:w.heap[b]?=some (.cells arr e (0,0)))(fR:w.heap[b2]?=some (.cells Rl e2 (0,0)))(hk:Nat.min Lx Lw=k)
  (h1:o+k*i.size<=arr.size)(h2:o2+k*i.size<=Rl.size)(ho:∀v∈Rl.toList,v.oneCell'=true):
  (Builtin.copy_ #[dT,sT] ty #[.slice (some ⟨b,o,none⟩) Lw afl,.slice (some ⟨b2,o2,none⟩) Lx afm]).run P w=.ok (goInt k) (w.setCells b o ((Rl.toList.drop o2).take (k*i.size))):=by
 have aH:((Rl.toList.drop o2).take (k*i.size)).length=k*i.size:=by rw[zzaq,zzcw,zzbi];omega
 have:=Rk (P:=P) w dT sT ty elem i b o Lw afl ⟨b2,o2,none⟩ Lx afm ((Rl.toList.drop o2).take (k*i.size)) hu hi (by rw[aH,hk])
  (
   fun j v hj=>by
   rw[Go.Abs.bn];show w.cell? ⟨b2,o2+j,none⟩=_;rw[aN fR];rw[zzbj]at hj;split at hj
   ·rw[zzbl]at hj;simpa using hj
   cases hj)
  (fun j hj=>by rw[aN hb,zzah zE];rfl) (fun j hj=>Zp hb)
  (fun v hv=>ho v (zzdu (zzcg hv)))
 rw[hk]at this;exact this
def qb{P:Program}(w:World){ops:Array Oper}{rest:List Oper}{o:Oper}{a:Act}{Q:PP}(JM:o.guard=none)(d s:Operand)(t t':TypeId)
  (ho:o.op=.call {callee:=.builtin .copy,args:=#[d,s],argTypes:=#[t,t']})(v u:Value)(hd:a.eval d=v)(hs:a.eval s=u){v':Value}{w':World}
  (hr:(Builtin.copy_ #[t,t'] o.type #[v,u]).run P w=.ok v' w')(h:wpList P ops Q rest (a.put o.dst v') w'):wpList P ops Q (o::rest) a w:=
 wpList_plain JM fun _ hK=>by
  unfold Oper.wp execOp;simp only[ho,resolve,invoke,builtin,Sem.run_bind,Sem.run_pure,Result.andThen_ok,List.map_toArray,zzbb,zzcs,hd,hs,hr];exact hK _ _ h
def ym{P:Program}{ops:Array Oper}{o:Oper}{a:Act}{w:World}{K:Act->World->Prop}{Q:PP}{E:Prop}
  (hg:o.guard=none)(d x:Operand)(dT sT:TypeId)(dm:o.op=Op.call {callee:=Callee.builtin Builtin.copy,args:=#[d,x],argTypes:=#[dT,sT]})
  (v u:Value)(hd:a.eval d=v)(hx:a.eval x=u){v':Value}{w':World}(hr:(Builtin.copy_ #[dT,sT] o.type #[v,u]).run P w=.ok v' w')(hK:K (a.put o.dst v') w'):
  if Region.wanted o (yielded ops a.tmps)=true then Oper.wp P o a w K Q else E:=by
 have hw:Region.wanted o (yielded ops a.tmps)=true:=by simp[Region.wanted,hg]
 rw[if_pos hw];unfold Oper.wp;simp[execOp,dm,resolve,invoke,builtin,hd,hx,hr,Result.andThen];exact hK
def G3{w:World}{b:Nat}{arr:P1}{te:TypeId}{f:Nat×Nat}(h:w.heap[b]?=some (.cells arr te f)):w.shape? b=some (te,arr.size):=by
 simp[World.shape?,h]
def Rm(b n c i vb vc:Nat)(arr uP:P1)(te tv:TypeId)(w:World)(hi:i<n)(cA:n+1<=c)(hn:n+1<=1000000000)(hvb:vb≠b)
  (hb:w.heap[b]?=some (.cells arr te (0,0)))(hv:w.heap[vb]?=some (.cells uP tv (0,0)))(hs:c*7<=arr.size)(hsv:7<=uP.size)(ho:∀v∈arr.toList,v.oneCell'=true)(hov:∀v∈uP.toList,v.oneCell'=true):
  Calls Tryz.prog 150 #[.slice (some ⟨b,0,none⟩) n c,.int .i64 i,.slice (some ⟨vb,0,none⟩) 1 vc] w fun e w'=>
   e=.returned (.slice (some ⟨b,0,none⟩) (n+1) c)/\w'=(w.drew.setCells b ((i+1)*7) ((arr.toList.drop (i*7)).take ((n-i)*7))).setCells b (i*7) (uP.toList.take 7):=by
 obtain⟨i36,DD,dP⟩:∃x,Tryz.prog.info? 47=some x/\x.size=7:=⟨_,rfl,rfl⟩;have lN:=G3 hv;have hsb:=G3 hb;have Ef:w.frozen? ⟨vb,0,none⟩=false:=Zp hv;have hfe:w.frozen? ⟨vb,uP.size,none⟩=false:=Zp hv
 have ax3:∀lb cb,(callFunc 202 #[.slice (some ⟨vb,0,none⟩) 1 vc,.slice (some ⟨b,(i+1)*7,none⟩) lb cb]).run Tryz.prog w=.ok (.value (.bool false)) w:=fun lb cb=>by
  rw[run_callFunc_extern Tryz.func202 (by kernel_rfl) (by kernel_rfl) (by kernel_rfl) (e:=Extern.SlicesOverlaps.overlaps #[28,28] #[4]) (by kernel_rfl),
   Lib.run_overlaps_apart w 28 4 47 Tryz.underlying28 7 (fun w=>by simp[Go.sizeOf,typeInfo,DD,dP]) ⟨vb,0,none⟩ ⟨b,(i+1)*7,none⟩ 1 vc lb cb hvb tv te uP.size arr.size lN hsb zE Ef hfe]
  rfl
 have lM:IntKind.i64.wrap ((i:Int)+1)=(i:Int)+1:=by rw[IntKind.wrap_i64];omega
 have hz2:¬((i:Int)=(n:Int)):=zE
 have fQ:IntKind.i64.wrap ((n:Int)+1)=(n:Int)+1:=by rw[IntKind.wrap_i64];omega
 have htn:((i:Int)+1).toNat=i+1:=zE
 have al3:((n:Int)+1).toNat=n+1:=zE
 have dx:(0:Int)<=(i:Int)+1:=zE
 have fR:¬(c=i+1):=zE
 have hb3:(i:Int)<=(n:Int)+1:=zE
 have hb4:¬(c=i):=zE
 have Ph:(n+1)*7<=c*7:=zzbe _ cA;have ei:w.drew.heap[b]?=some (.cells arr te (0,0)):=hb
 have ato:∀ty dc sc,(Builtin.copy_ #[28,28] ty #[.slice (some ⟨b,(i+1)*7,none⟩) (n-i) dc,.slice (some ⟨b,i*7,none⟩) (n+1-i) sc]).run Tryz.prog w.drew=
   .ok (goInt (n-i:Nat)) (w.drew.setCells b ((i+1)*7) ((arr.toList.drop (i*7)).take ((n-i)*7))):=fun ty dc sc=>by
  have:=kZ (P:=Tryz.prog) w.drew 28 28 ty 47 i36 b ((i+1)*7) (n-i) dc b (i*7) (n+1-i) sc (n-i) Tryz.underlying28 DD ei ei (by simp only[zzgz];split<;>omega) (by rw[dP];omega) (by rw[dP];omega) ho;rw[dP]at this;exact this
 obtain⟨W1,QA⟩:∃W1,W1=w.drew.setCells b ((i+1)*7) ((arr.toList.drop (i*7)).take ((n-i)*7)):=⟨_,rfl⟩;have hb5:W1.heap[b]?=some (.cells (tF arr ((i+1)*7) ((arr.toList.drop (i*7)).take ((n-i)*7))) te (0,0)):=by rw[QA];exact Xe b _ _ w.drew arr te _ ei
 have hv5:W1.heap[vb]?=some (.cells uP tv (0,0)):=by rw[QA,Qz b _ _ w.drew vb hvb];exact hv
 have ax4:∀ty dc,(Builtin.copy_ #[28,28] ty #[.slice (some ⟨b,i*7,none⟩) (n+1-i) dc,.slice (some ⟨vb,0,none⟩) 1 vc]).run Tryz.prog W1=.ok (goInt (1:Nat)) (W1.setCells b (i*7) (uP.toList.take 7)):=fun ty dc=>by
  have:=kZ (P:=Tryz.prog) W1 28 28 ty 47 i36 b (i*7) (n+1-i) dc vb 0 1 vc 1 Tryz.underlying28 DD hb5 hv5 (by simp only[zzgz];split<;>omega) (by rw[dP,Zz];omega) (by rw[dP];omega) hov;rw[dP,zzd,zzdt]at this;exact this
 rw[<- QA]at ato |-
 clear DD dP QA;have bO:i<=n:=zE
 have mixed:Tryz.prog.follows Departure.mixedOrders=true:=by kernel_rfl
 go_enter Tryz.func150,Tryz.ntmps150
 go_wp2_with (simp only[ax3])
 go_region_law_o (refine ym rfl _ _ 28 28 rfl _ _ (by simp[Act.eval,Act.put]) (by simp[Act.eval,Act.put]) (ato _ _ _) ?_)
 go_wp2_with (at_builtin;refine qb _ rfl _ _ 28 28 rfl _ _ rfl rfl (ax4 _ _) ?_)
 go_ret
 exact⟨rfl,rfl⟩
def afn{n c:Nat}(h:c<n)(hn:n<=1000000000):Builtin.nextslicecap n c*72<=281474976710656:=by
 have:=JE h;omega
def ZO(b n c i vb vc:Nat)(arr uP:P1)(te tv:TypeId)(w:World)(hi:i<n)(hnc:n<=c)(cA:c<n+1)(vH:n+1<=1000000000)(hvb:vb≠b)
  (hb:w.heap[b]?=some (.cells arr te (0,0)))(hv:w.heap[vb]?=some (.cells uP tv (0,0)))(hs:c*7<=arr.size)(hsv:7<=uP.size)(ho:∀v∈arr.toList,v.oneCell'=true)(hov:∀v∈uP.toList,v.oneCell'=true):
  Calls Tryz.prog 150 #[.slice (some ⟨b,0,none⟩) n c,.int .i64 i,.slice (some ⟨vb,0,none⟩) 1 vc] w fun e w'=>
   ∃(G:Nat)(nZ:P1)(zs:PQ),n+1<=G/\e=.returned (.slice (some ⟨w.heap.size,0,none⟩) (n+1) G)/\nZ.toList=arr.toList.take (i*7)++zs/\(n+1-i)*7<=zs.length/\G*7<=nZ.size/\(∀v∈zs,v.oneCell'=true)/\
    w'=(((w.drew.alloc (.cells nZ 47)).setCells w.heap.size (i*7) (uP.toList.take 7)).drew).setCells w.heap.size ((i+1)*7) ((arr.toList.drop (i*7)).take ((n-i)*7)):=by
 obtain⟨i36,z36,DD,dP,ax5,atp,EV,hzo⟩:∃x z,Tryz.prog.info? 47=some x/\x.size=7/\x.zero=some z/\x.bytes=72/\z.cells.size=7/\∀u∈z.cells,u.oneCell'=true:=⟨_,_,rfl,rfl,rfl,rfl,rfl,by decide⟩;have hz2:¬((i:Int)=(n:Int)):=zE
 have hz3:(c:Int)<(n:Int)+1:=zE
 have hbw:b<w.heap.size:=aR hb;have hvw:vb<w.heap.size:=aR hv;have hkk:(n:Int)+1-(i:Int)=((n+1-i:Nat):Int):=zE
 have qP:i+(n+1-i)=n+1:=zE
 have Ph:n*7<=c*7:=zzbe _ hnc;have iV:(arr.toList.take (i*7)).length=i*7:=by rw[zzaq,zzbi];omega
 have iU:(Builtin.firstCells i36.size i (.slice (some ⟨b,0,none⟩) i c)).run Tryz.prog w.drew=.ok (arr.toList.take (i*7)).toArray w.drew:=by
  rw[dP];refine run_firstCells_some w.drew 7 i ⟨b,0,none⟩ i c _ iV (fun j v hj=>?_);rw[Go.Abs.bn];show w.cell? _=_;rw[aN hb];rw[zzbj]at hj;split at hj
  ·simpa using hj
  cases hj
 have hrz:∀ty,(Builtin.append_ #[28,3] ty #[.slice (some ⟨b,0,none⟩) i c,.int .i64 ((n:Int)+1-(i:Int))]).run Tryz.prog w=
   .ok (.slice (some ⟨w.heap.size,0,none⟩) (n+1) (grownCap w (n+1) c 47)) (w.drew.alloc (.cells ((arr.toList.take (i*7)).toArray++Builtin.zeroCells z36.cells (n+1-i)++Builtin.zeroCells z36.cells (grownCap w (n+1) c 47-(n+1))) 47)):=fun ty=>by
  have h:=Lib.run_append_grow_zeros w 28 3 ty 47 i36 z36 .i64 .i64 Tryz.underlying28 Tryz.underlying3 DD ax5 (some ⟨b,0,none⟩) i c (arr.toList.take (i*7)) iU (n+1-i) zE zE zE zE (by rw[atp];omega) (by rw[atp,qP];exact afn cA vH);rw[qP]at h;rw[hkk];exact h
 obtain⟨G,hG⟩:∃G,G=grownCap w (n+1) c 47:=⟨_,rfl⟩;have hGn:n+1<=G:=by rw[hG];exact grownCap_ge w _ _ _
 have azg:G<=9223372036854775807:=by
  have:=grownCap_le_maxLen w (n+1) c 47 (by unfold maxLen;omega);rw[<- hG]at this;unfold maxLen at this;omega
 rw[<- hG]at hrz;obtain⟨nZ,G4⟩:∃nZ:P1,nZ=(arr.toList.take (i*7)).toArray++Builtin.zeroCells z36.cells (n+1-i)++Builtin.zeroCells z36.cells (G-(n+1)):=⟨_,rfl⟩;rw[<- G4]at hrz;have hRs:nZ.size=i*7+(n+1-i)*7+(G-(n+1))*7:=by rw[G4];simp only[zzep,zzeo,iV,size_zeroCells,EV]
 have hRt:nZ.toList=arr.toList.take (i*7)++((Builtin.zeroCells z36.cells (n+1-i)).toList++(Builtin.zeroCells z36.cells (G-(n+1))).toList):=by rw[G4];simp
 have hRo:∀v∈(Builtin.zeroCells z36.cells (n+1-i)).toList++(Builtin.zeroCells z36.cells (G-(n+1))).toList,v.oneCell'=true:=fun v hv=>by
  rcases zzam.1 hv with hv|hv
  ·exact Ws hzo _ v hv
  exact Ws hzo _ v hv
 have hRl:(n+1-i)*7<=((Builtin.zeroCells z36.cells (n+1-i)).toList++(Builtin.zeroCells z36.cells (G-(n+1))).toList).length:=by
  simp only[zzak,zzbi,size_zeroCells,EV];omega
 obtain⟨zs,Cq⟩:∃zs,zs=(Builtin.zeroCells z36.cells (n+1-i)).toList++(Builtin.zeroCells z36.cells (G-(n+1))).toList:=⟨_,rfl⟩;rw[<- Cq]at hRt hRo hRl;have hGR:G*7<=nZ.size:=by rw[hRs];omega
 clear G4 Cq iU hG;obtain⟨W1,QA⟩:∃W1,W1=w.drew.alloc (.cells nZ 47):=⟨_,rfl⟩;have hN1:W1.heap[w.heap.size]?=some (.cells nZ 47 (0,0)):=by rw[QA];exact Yj w _
 have hO1:∀x,x<w.heap.size->W1.heap[x]?=w.heap[x]?:=fun x hx=>by rw[QA];exact Below.heap_alloc w.drew _ x hx
 have dx:=(hO1 b hbw).trans hb;have hv1:=(hO1 vb hvw).trans hv
 have ax6:∀ty dc,(Builtin.copy_ #[28,28] ty #[.slice (some ⟨w.heap.size,i*7,none⟩) (n+1-i) dc,.slice (some ⟨vb,0,none⟩) 1 vc]).run Tryz.prog W1=.ok (goInt (1:Nat)) (W1.setCells w.heap.size (i*7) (uP.toList.take 7)):=fun ty dc=>by
  have:=kZ (P:=Tryz.prog) W1 28 28 ty 47 i36 w.heap.size (i*7) (n+1-i) dc vb 0 1 vc 1 Tryz.underlying28 DD hN1 hv1 (by simp only[zzgz];split<;>omega) (by rw[dP];omega) (by rw[dP];omega) hov;rw[dP,zzd,zzdt]at this;exact this
 obtain⟨W2,P9⟩:∃W2,W2=(W1.setCells w.heap.size (i*7) (uP.toList.take 7)).drew:=⟨_,rfl⟩;have hN2:W2.heap[w.heap.size]?=some (.cells (tF nZ (i*7) (uP.toList.take 7)) 47 (0,0)):=by rw[P9];exact Xe _ _ _ W1 nZ 47 _ hN1
 have fR:W2.heap[b]?=some (.cells arr te (0,0)):=by
  rw[P9];exact(Qz w.heap.size _ _ W1 b zE).trans dx
 have atq:∀ty dc sc,(Builtin.copy_ #[28,28] ty #[.slice (some ⟨w.heap.size,(i+1)*7,none⟩) (n-i) dc,.slice (some ⟨b,i*7,none⟩) (n-i) sc]).run Tryz.prog W2=
   .ok (goInt (n-i:Nat)) (W2.setCells w.heap.size ((i+1)*7) ((arr.toList.drop (i*7)).take ((n-i)*7))):=fun ty dc sc=>by
  have:=kZ (P:=Tryz.prog) W2 28 28 ty 47 i36 w.heap.size ((i+1)*7) (n-i) dc b (i*7) (n-i) sc (n-i) Tryz.underlying28 DD hN2 fR (by simp only[zzgz];split<;>omega) (by rw[dP,Zz];omega) (by rw[dP];omega) ho;rw[dP]at this;exact this
 have FZ:((((w.drew.alloc (.cells nZ 47)).setCells w.heap.size (i*7) (uP.toList.take 7)).drew).setCells w.heap.size ((i+1)*7) ((arr.toList.drop (i*7)).take ((n-i)*7)))=
   W2.setCells w.heap.size ((i+1)*7) ((arr.toList.drop (i*7)).take ((n-i)*7)):=by rw[P9,QA]
 have ax7:∀ty,(Builtin.append_ #[28,3] ty #[.slice (some ⟨b,0,none⟩) i c,.int .i64 ((n:Int)+1-(i:Int))]).run Tryz.prog w=.ok (.slice (some ⟨w.heap.size,0,none⟩) (n+1) G) W1:=by rw[QA];exact hrz
 have ax8:W2=(W1.setCells w.heap.size (i*7) (uP.toList.take 7)).drew:=P9;have lM:IntKind.i64.wrap ((i:Int)+1)=(i:Int)+1:=by rw[IntKind.wrap_i64];omega
 have fQ:IntKind.i64.wrap ((n:Int)+1)=(n:Int)+1:=by rw[IntKind.wrap_i64];omega
 have Sw:IntKind.i64.wrap ((n:Int)+1-(i:Int))=(n:Int)+1-(i:Int):=by rw[IntKind.wrap_i64];omega
 have htn:((i:Int)+1).toNat=i+1:=zE
 have azh:(0:Int)<=(i:Int)+1:=zE
 have hb3:(i:Int)<=(n:Int)+1:=zE
 have bO:i<=n:=zE
 have hci:¬(c=i):=zE
 have hGi:¬(G=i):=zE
 have azi:¬(G=i+1):=zE
 have mixed:Tryz.prog.follows Departure.mixedOrders=true:=by kernel_rfl
 suffices aiY:Calls Tryz.prog 150 #[.slice (some ⟨b,0,none⟩) n c,.int .i64 i,.slice (some ⟨vb,0,none⟩) 1 vc] w fun e w'=>e=.returned (.slice (some ⟨w.heap.size,0,none⟩) (n+1) G)/\w'=((W1.setCells w.heap.size (i*7) (uP.toList.take 7)).drew).setCells w.heap.size ((i+1)*7) ((arr.toList.drop (i*7)).take ((n-i)*7))from
  aiY.mono fun e w'⟨h1,h2⟩=>⟨G,nZ,zs,hGn,h1,hRt,hRl,hGR,hRo,by rw[h2,QA]⟩
 rw[P9]at atq;clear DD dP hrz QA P9 ax8 FZ hkk qP hRt hRl hGR hRo hRs hN1 hN2 hO1 dx hv1 fR
 go_enter Tryz.func150,Tryz.ntmps150
 go_wp2_with (first
  |(at_builtin;refine Lib.wpList_append_run _ rfl _ _ _ _ rfl _ _ rfl rfl _ _ (ax7 _) ?_)
  |(at_builtin;refine qb _ rfl _ _ 28 28 rfl _ _ rfl rfl (ax6 _ _) ?_))
 go_region_law_o (refine ym rfl _ _ 28 28 rfl _ _ (by simp[Act.eval,Act.put]) (by simp[Act.eval,Act.put]) (atq _ _ _) ?_)
 go_wp2
 go_ret
 exact⟨rfl,rfl⟩
open Go Go.Abs Go.RowKit
def Oq(y:AV):∀(xs l:P2)(n:Nat),setA (y::l) (n+1) xs=y::setA l n xs
 |[],_,_=>rfl
 |x::xs,l,n=>by rw[setA,setA,zzdq,Oq y xs]
def lg(pre X Y:P2)(n:Nat)(k:Nat)(h:pre.length=n):setA (pre++X) (n+k) Y=pre++setA X k Y:=by
 subst h;induction pre with
 |nil=>simp
 |cons a r ih=>rw[zzae,zzaz,show r.length+1+k=r.length+k+1 by omega,Oq,ih];rfl
section
variable {N:Nat} {w0:eN} {an:Nat->Nat->Prop} {γ:G} {w:World} {m:AM}
def aje(m:AM){id:Nat}(aL:id<m.boxes.length)(cells:P2):({m with boxes:=m.boxes.set id []++[cells]}:AM).B=fun i=>if i=m.boxes.length then some cells else if i=id then some []else m.B i:=by
 have e1:=Sj {m with boxes:=m.boxes.set id []} cells;rw[mg m id aL]at e1;simpa using e1
def ajf{A C:P2}{arr:P1}(q3:cr w γ (A++C) arr.toList):ak w γ C ((arr.toList.drop A.length).take C.length):=by
 have h:=q3.1;simp only[zzak,zzbi]at h;refine⟨by simp only[zzaq,zzcw,zzbi];omega,fun k c v g1 g2=>?_⟩;have hk:=(zza.1 g1).1;rw[zzbj,if_pos hk,zzbl]at g2;refine q3.2 (A.length+k) c v ?_ g2;rw[zzao zE,zzdy];exact g1
def Rn(hm:au N w0 an γ w m.B m.L){id b:Nat}{A C V:P2}(aL:m.boxes[id]?=some (A++C))(aO:A++C≠[])(hb:γ.β id=some b){arr:P1}{te:TypeId}(hh:w.heap[b]?=some (.cells arr te (0,0)))
  {vs:PQ}(hV:ak w γ V vs)(hvo:∀v∈vs,v.oneCell'=true)(hsz:A.length+V.length+C.length<=arr.size):
  Ev w γ ((w.drew.setCells b (A.length+V.length) ((arr.toList.drop A.length).take C.length)).setCells b A.length vs) (γ.box m.boxes.length b)/\
  au N w0 an (γ.box m.boxes.length b) ((w.drew.setCells b (A.length+V.length) ((arr.toList.drop A.length).take C.length)).setCells b A.length vs) ({m with boxes:=m.boxes.set id []++[A++(V++C)]}:AM).B m.L:=by
 have ai:id<m.boxes.length:=(zza.1 aL).1;have hB:m.B id=some (A++C):=aL;obtain⟨bN,e',q2,q3,q4⟩:=hm.box id _ b hB hb;rw[hh]at q2;cases q2;have cH:m.B m.boxes.length=none:=by simp[AM.B]
 have hD:=ajf q3;have hDl:=hD.1;have hh':w.drew.heap[b]?=some (.cells arr te (0,0)):=hh;have gp:∀v∈(arr.toList.drop A.length).take C.length,v.oneCell'=true:=fun v hv=>q4 v (zzdu (zzcg hv));generalize(arr.toList.drop A.length).take C.length=D at*
 have hr:cr w γ (A++(List.replicate V.length .junk++C)) (tF arr (A.length+V.length) D).toList:=by
  refine⟨by simp only[zzak,zzeb,zzbi,Zz];omega,fun k c v g1 g2=>?_⟩;rw[zzcd,vT]at g2;rcases zzaa k A.length with h1|h1
  ·rw[zzaj h1]at g1;rw[if_neg zE]at g2;exact q3.2 k c v (by rw[zzaj h1];exact g1) (by rw[zzcd];exact g2)
  rw[zzao h1]at g1;rcases zzaa (k-A.length) V.length with h2|h2
  ·rw[zzaj (Nm h2),zzcm,if_pos h2]at g1;cases g1;exact .junk _
  rw[zzao (Nm h2),zzeb]at g1;have h3:=(zza.1 g1).1;rw[if_pos zE]at g2;refine hD.2 _ c v g1 ?_;rw[<- g2];congr 1;omega
 obtain⟨e1,m1⟩:=hm.drew.share (id':=m.boxes.length) (new:=A++(List.replicate V.length .junk++C)) hb hB aO cH hh' (p:=A.length+V.length) (vs:=D) (hr.mono (Ev.drew w γ)) q4 gp;have dx:(γ.box m.boxes.length b).β m.boxes.length=some b:=by simp[G.box]
 have hh1:=Xe b D (A.length+V.length) w.drew arr te _ hh';have Sl:=(hr.mono (Ev.drew w γ)).mono e1;have hV1:=(hV.mono (Ev.drew w γ)).mono e1
 have Ro:A++(List.replicate V.length AV.junk++C)≠[]:=by
  intro h;simp only[zzh]at h;exact aO (by simp[h.1,h.2.2])
 have m2:=m1.store (id:=m.boxes.length) zd dx hh1 Sl (Qaa D _ arr q4 gp) (o:=A.length) hV1 hvo Ro;refine⟨((Ev.drew w γ).trans e1).trans (m1.cz dx A.length vs),?_⟩;rw[aje m ai]
 have lN:setA (A++(List.replicate V.length AV.junk++C)) A.length V=A++(V++C):=by
  have:=lg A (List.replicate V.length AV.junk++C) V A.length 0 rfl;rw[zzcn,jT V (List.replicate V.length AV.junk) C zd]at this;exact this
 rw[lN]at m2;refine(congrArg (fun B=>au N w0 an _ _ B m.L) (funext fun i=>?_)).mp m2;by_cases hi:i=m.boxes.length<;>simp[hi]
def afo(hm:au N w0 an γ w m.B m.L){id b:Nat}{A C V:P2}(aL:m.boxes[id]?=some (A++C))(hb:γ.β id=some b){arr:P1}{te te2:TypeId}(hh:w.heap[b]?=some (.cells arr te (0,0)))
  {vs zs:PQ}(hV:ak w γ V vs)(hvo:∀v∈vs,v.oneCell'=true){nZ:P1}(G4:nZ.toList=arr.toList.take A.length++zs)(Cq:V.length+C.length<=zs.length)(hzo:∀v∈zs,v.oneCell'=true)(aO:A++(V++C)≠[]):
  Ev w γ ((((w.drew.alloc (.cells nZ te2)).setCells w.heap.size A.length vs).drew).setCells w.heap.size (A.length+V.length) ((arr.toList.drop A.length).take C.length)) (γ.box m.boxes.length w.heap.size)/\
  au N w0 an (γ.box m.boxes.length w.heap.size) ((((w.drew.alloc (.cells nZ te2)).setCells w.heap.size A.length vs).drew).setCells w.heap.size (A.length+V.length) ((arr.toList.drop A.length).take C.length)) ({m with boxes:=m.boxes.set id []++[A++(V++C)]}:AM).B m.L:=by
 have ai:id<m.boxes.length:=(zza.1 aL).1;have hB:m.B id=some (A++C):=aL;obtain⟨bN,e',q2,q3,q4⟩:=hm.box id _ b hB hb;rw[hh]at q2;cases q2;have hq:=q3.1;simp only[zzak,zzbi]at hq;have cH:m.B m.boxes.length=none:=by simp[AM.B]
 have hD:=ajf q3;have hDl:=hD.1;have gp:∀v∈(arr.toList.drop A.length).take C.length,v.oneCell'=true:=fun v hv=>q4 v (zzdu (zzcg hv));generalize(arr.toList.drop A.length).take C.length=D at*
 have hmk:=(hm.kill hb).drew
 have fH:(fun i=>if i=id then some []else m.B i) m.boxes.length=none:=by
  have:m.boxes.length≠id:=zE
  simp only[if_neg this];exact cH
 have ayY:nZ.size=A.length+zs.length:=by
  have:=congrArg List.length G4;simp only[zzbi,zzak,zzaq]at this;omega
 have hP:cr w γ (A++(List.replicate V.length .junk++List.replicate C.length .junk)) nZ.toList:=by
  refine⟨by simp only[zzak,zzeb,zzbi];omega,fun k c v g1 g2=>?_⟩;rcases zzaa k A.length with h1|h1
  ·rw[zzaj h1]at g1;rw[G4,zzaj (by simp only[zzaq,zzbi];omega),zzbj,if_pos h1]at g2;exact q3.2 k c v (by rw[zzaj h1];exact g1) g2
  rw[zzao h1]at g1;rw[List.replicate_append_replicate,zzcm]at g1;split at g1
  ·cases g1;exact .junk _
  cases g1
 have hRo:∀v∈nZ.toList,v.oneCell'=true:=fun v hv=>by
  rw[G4]at hv;rcases zzam.1 hv with hv|hv
  ·exact q4 v (zzcg hv)
  exact hzo v hv
 have e1:=hmk.dw _ fH (.cells nZ te2);have m1:=hmk.eW _ fH (e:=te2) (arr:=nZ) (hP.mono (Ev.drew w γ)) hRo;have amL:w.drew.heap.size=w.heap.size:=rfl;rw[amL]at e1 m1;have dx:(γ.box m.boxes.length w.heap.size).β m.boxes.length=some w.heap.size:=by simp[G.box]
 have hh1:(w.drew.alloc (.cells nZ te2)).heap[w.heap.size]?=some (.cells nZ te2 (0,0)):=Yj w _;have hP1:=(hP.mono (Ev.drew w γ)).mono e1;have hV1:=(hV.mono (Ev.drew w γ)).mono e1;have hD1:=(hD.mono (Ev.drew w γ)).mono e1
 have hX:A++(List.replicate V.length AV.junk++List.replicate C.length AV.junk)≠[]:=by
  intro hX;apply aO;have h:=congrArg List.length hX;simp only[zzak,zzeb,zzco]at h;apply zzbf;simp only[zzak];omega
 have m2:=m1.store (id:=m.boxes.length) zd dx hh1 hP1 hRo (o:=A.length) hV1 hvo hX;have e2:=m1.cz dx A.length vs
 have lN:setA (A++(List.replicate V.length AV.junk++List.replicate C.length AV.junk)) A.length V=A++(V++List.replicate C.length AV.junk):=by
  have:=lg A (List.replicate V.length AV.junk++List.replicate C.length AV.junk) V A.length 0 rfl;rw[zzcn,jT V (List.replicate V.length AV.junk) _ zd]at this;exact this
 have hh2:=Xe w.heap.size vs A.length _ nZ te2 _ hh1;have m3:=m2.drew
 have hX2:setA (A++(List.replicate V.length AV.junk++List.replicate C.length AV.junk)) A.length V≠[]:=by
  intro h;have h:=congrArg List.length h;rw[oH]at h;exact hX (zzbf h)
 have hP2:=((cr.setA (o:=A.length) hV1 hP1).mono e2).mono (Ev.drew _ _);have hD2:=(hD1.mono e2).mono (Ev.drew _ _);have m4:=m3.store (id:=m.boxes.length) zd dx hh2 hP2 (Qaa vs _ nZ hRo hvo) (o:=A.length+V.length) hD2 gp hX2;have e4:=m3.cz dx (A.length+V.length) D;refine⟨((((Ev.drew w γ).trans e1).trans e2).trans (Ev.drew _ _)).trans e4,?_⟩;rw[aje m ai]
 have hsb:setA (A++(V++List.replicate C.length AV.junk)) (A.length+V.length) C=A++(V++C):=by
  rw[lg A (V++List.replicate C.length AV.junk) C A.length V.length rfl];have:=lg V (List.replicate C.length AV.junk) C V.length 0 rfl;rw[zzcn]at this;rw[this];have:=jT C (List.replicate C.length AV.junk) [] zd;simp only[zzau]at this;rw[this]
 rw[lN,hsb]at m4;refine(congrArg (fun B=>au N w0 an _ _ B m.L) (funext fun i=>?_)).mp m4;by_cases hi:i=m.boxes.length<;>simp[hi]
end
