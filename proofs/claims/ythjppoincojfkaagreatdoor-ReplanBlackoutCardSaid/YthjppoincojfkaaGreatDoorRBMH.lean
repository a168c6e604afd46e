import Derived.Test.YthjppoincojfkaaGreatDoorRBMF
set_option linter.all false
namespace Go.Abs
open Go Go.RowKit
def AM.wr(m:AM)(id:Nat)(cs:P2):AM:={m with boxes:=m.boxes.set id cs}
def awN(m:AM)(id:Nat)(cs:P2){c:P2}(h:m.boxes[id]?=some c):(m.wr id cs).B=fun i=>if i=id then some cs else m.B i:=by
 funext i;simp only[AM.B,AM.wr];have ai:id<m.boxes.length:=(zza.1 h).1;by_cases hi:i=id
 ·subst hi;simp[ai]
 rw[zzbn (fun h=>hi h.symm),if_neg hi]
def aj(zs:Pi):P2:=zs.map (AV.int .i64)
def aB.fO{P:Program}{gl:Nat->AV}{Y:YT}{f:FuncId}{xs:P2}{m:AM}{K:So}(hc:bw P f)
  (
   h:∀(N:Nat)(w0:eS)(an:Nat->Nat->Prop)(γ:G)(w:World)(vs:PQ),au N w0 an γ w m.B m.L->cS γ w m->ak w γ xs vs->
   Calls P f vs.toArray w fun e w'=>∃v γ' r m',e=.returned v/\eD w γ w' γ'/\au N w0 an γ' w' m'.B m'.L/\cS γ' w' m'/\aA w' γ' r v/\K r m'):aB P gl Y f xs m K:=
 ⟨hc,fun N w0 an γ w vs hm hl _ _ hr=>(callsIn_wide (n:=0)).2 (h N w0 an γ w vs hm hl hr)⟩
def wO{w:World}{γ:G}:aA w γ (.aS []) (.tuple #[]):=.aS rfl fun i c v h=>by simp at h
open Go Go.RowKit
abbrev I(n:Int):AV:=.int .i64 n
section
variable {H:Type} {P:Program} {n:Nat} {t e:TypeId} {x:DataW H}
def Xl{k:IntKind}(hu:P.underlying t=some (.int k))(h:Typed P (n+1) t x):∃m,x=.lit (.int k m)/\(Lit.int k m).wf=true:=by
 unfold Typed at h;rw[hu]at h;cases x with
 |lit l=>cases l<;>first|(cases h;done)|(obtain⟨rfl,h⟩:=h;exact⟨_,rfl,h⟩)
 |_=>cases h
def P3(hu:P.underlying t=some .string)(h:Typed P (n+1) t x):∃s,x=.lit (.string s)/\s.length<=maxLen:=by
 unfold Typed at h;rw[hu]at h;cases x with
 |lit l=>cases l<;>first|(cases h;done)|exact⟨_,rfl,h⟩
 |_=>cases h
def Fy(hu:P.underlying t=some (.slice e))(h:Typed P (n+1) t x):x=.nil\/∃bM spare,x=.slice bM spare/\bM.length<=maxLen/\∀y∈bM,Typed P n e y:=by
 unfold Typed at h;rw[hu]at h;cases x<;>first|(cases h;done)|exact .inl rfl|exact .inr ⟨_,_,rfl,h.1,h.2⟩
def Uu{fs:Array Field}(hu:P.underlying t=some (.struct fs))(h:Typed P (n+1) t x):∃parts,x=.agg parts/\parts.length=fs.size/\∀p∈fs.toList.zip parts,Typed P n p.1.type p.2:=by
 unfold Typed at h;rw[hu]at h;cases x<;>first|(cases h;done)|exact⟨_,rfl,h.1,h.2⟩
def Zd{k:IntKind}(hu:P.underlying t=some (.int k))(k':IntKind)(m:Int):cE P (n+1) t (.lit (.int k' m):DataW H)=[.int k' m]:=by simp only[cE,hu]
def aec(hu:P.underlying t=some .string)(l:List UInt8):cE P (n+1) t (.lit (.string l):DataW H)=[.str ⟨l.toArray⟩]:=by simp only[cE,hu]
def aed(hu:P.underlying t=some (.slice e)):cE P (n+1) t (.nil:DataW H)=[.sl .nil []]:=by simp only[cE,hu]
def alI(hu:P.underlying t=some (.slice e))(l sp:List (DataW H)):cE P (n+1) t (.slice l sp)=[.sl .nn (l.map (cE P n e))]:=by simp only[cE,hu]
def Ut{fs:Array Field}(hu:P.underlying t=some (.struct fs))(l:List (DataW H)):cE P (n+1) t (.agg l)=(fs.toList.zip l).flatMap fun p=>cE P n p.1.type p.2:=by simp only[cE,hu]
def P4{k:Nat}(hu:P.underlying t=some (.array k e))(l:List (DataW H)):cE P (n+1) t (.agg l)=l.flatMap (cE P n e):=by simp only[cE,hu]
def aee{d:Nat}(h:Jn P t=true):mg P d t x=.agg (cE P d t x):=by unfold mg;rw[h];rfl
def NM{d:Nat}(h:Jn P t=false){a:AV}(ha:cE P d t x=[a]):mg P d t x=a:=by unfold mg;rw[h,ha];rfl
end
def Wk(a b:AV):Prop:=∀(w:World)(γ:G)(v:Value),aA w γ a v->aA w γ b v
def Wk.refl(a:AV):Wk a a:=fun _ _ _ h=>h
def Ps{a:AV}:Wk a a:=Wk.refl a
def Wk.sl(rt:Rt)(rows:T5):Wk (.sl rt rows) (.sl .ro rows):=fun w γ v h=>by
 cases h with
 |sl b off sz cv hcap hnil ha hsz hc hr aX=>exact .sl b off sz cv hcap hnil ha hsz hc hr trivial
def WkL:P2->P2->Prop
 |[],[]=>True
 |a::r,b::s=>Wk a b/\WkL r s
 |_,_=>False
def WkL.rep{w:World}{γ:G}:∀{l l':P2}{vs:PQ},WkL l l'->ak w γ l vs->ak w γ l' vs
 |[],[],_,_,h=>h
 |[],_::_,_,h,_=>by cases h
 |_::_,[],_,h,_=>by cases h
 |a::l,b::l',[],_,h=>by have:=h.1;simp at this
 |a::l,b::l',v::vs,hk,h=>by
  have h0:aA w γ a v:=h.2 0 a v rfl rfl;have hs:ak w γ l vs:=⟨by have:=h.1;simpa using this,fun i x y h1 h2=>h.2 (i+1) x y (Nm h1) (Nm h2)⟩;exact ak.cons (hk.1 w γ v h0) (WkL.rep hk.2 hs)
def Xw{P:Program}{gl:Nat->AV}{f:FuncId}{l l':P2}{r:AV}(h:Pure P gl f l' r)(hk:WkL l l'):Pure P gl f l r:=
 ⟨h.1,fun ro w vs lE hr=>h.2 ro w vs lE (hk.rep hr)⟩
def Wk.rows{α:Type}(l:List α)(f g:α->P2)(hl:∀a,(g a).length=(f a).length)(hc:∀(a:α)(j:Nat)(c':AV),(g a)[j]?=some c'->∃c,(f a)[j]?=some c/\Wk c c'):Wk (.sl .ro (l.map f)) (.sl .ro (l.map g)):=fun w γ v h=>by
 have key:∀(i j:Nat)(c':AV),Qv (l.map g) i j=some c'->∃c,Qv (l.map f) i j=some c/\Wk c c':=fun i j c' h=>by
  unfold Qv at h |-
  rw[zzbm]at h |-
  cases hi:l[i]? with
  |none=>rw[hi]at h;cases h
  |some a=>
   rw[hi]at h;simpa using hc a j c' (Nm h)
 obtain⟨a,cap,b,off,sz,cv,rfl,s1,_⟩:=h.b9;have e1:(l.map f).length=(l.map g).length:=zd
 rw[e1];refine qh.mk' (b:=b) (off:=off) (sz:=sz) (cv:=cv) ⟨by rw[<- e1];exact s1.hcap,s1.hnil,fun hn=>s1.at_ (Nm hn),fun row hr=>?_,fun i j c' h=>?_,fun i j c' h=>?_⟩ trivial
 ·simp at hr;obtain⟨x,hx,rfl⟩:=hr;rw[hl x];exact s1.hsz _ (by simp;exact⟨x,hx,rfl⟩)
 ·obtain⟨c,h1,h2⟩:=key i j c' h;exact s1.cell i j c h1
 obtain⟨c,h1,h2⟩:=key i j c' h;exact h2 _ _ _ (s1.rep i j c h1)
def Zk{P:Program}{gl:Nat->AV}{f:FuncId}{l:P2}{r r':AV}(h:Pure P gl f l r)(hk:Wk r r'):Pure P gl f l r':=
 ⟨h.1,fun ro w vs hg hr=>(h.2 ro w vs hg hr).mono fun _ _⟨v,h1,h2,h3⟩=>⟨v,h1,h2,hk _ _ _ h3⟩⟩
def Qdv{l l':P2}(h:WkL l l'):Wk (.agg l) (.agg l'):=fun w γ v hr=>by
 have key:∀{l l':P2},WkL l l'->l.length=l'.length/\∀(i:Nat)(c':AV),l'[i]?=some c'->∃c,l[i]?=some c/\Wk c c':=by
  intro l;induction l with
  |nil=>intro l' h;cases l' with
   |nil=>exact⟨rfl,fun i c' h=>by simp at h⟩
   |cons _ _=>exact h.elim
  |cons a l ih=>intro l' h;cases l' with
   |nil=>exact h.elim
   |cons b l'=>
    obtain⟨h1,h2⟩:=ih h.2;refine⟨by simp[h1],fun i c' hc=>?_⟩;cases i with
    |zero=>simp at hc;subst hc;exact⟨a,rfl,h.1⟩
    |succ i=>simpa using h2 i c' (Nm hc)
 obtain⟨h1,h2⟩:=key h;cases hr with
 |agg hl hc=>
  refine .agg zE fun i c' v tI hv=>?_;obtain⟨c,g1,g2⟩:=h2 i c' tI;exact g2 _ _ _ (hc i c v g1 hv)
open Go Go.RowKit
section
variable {B l:T5} {i j:Nat}
def Qn(h:i<B.length):Qj (B++l) i=Qj B i:=by simp[Qj,zzav,-Ya,zzaj h]
def Yk(v:P2)(h:i<B.length):(B++l).set i v=B.set i v++l:=by rw[List.set_append_left _ _ h]
def Vz(v:P2)(h:i≠j):Qj (B.set i v) j=Qj B j:=by simp[Qj,zzav,-Ya,zzbn h]
def Yg(v:P2)(h:i<B.length):Qj (B.set i v) i=v:=by simp[Qj,zzav,-Ya,zzbf h]
def Jh(h:i<B.length):B[i]?=some (Qj B i):=by
 rw[zzaf h];simp[Qj,zzav,-Ya,h]
end
def bB(S:Nat->Prop)(B B':T5):Prop:=B.length<=B'.length/\∀j,j<B.length->¬S j->Qj B' j=Qj B j
def bB.refl(S:Nat->Prop)(B:T5):bB S B B:=⟨zzab _,fun _ _ _=>rfl⟩
def bB.app{S:Nat->Prop}{B B':T5}(h:bB S B B')(l:T5):bB S B (B'++l):=
 ⟨by have:=h.1;simp;omega,fun j hj hs=>by rw[Qn (by have:=h.1;omega)];exact h.2 j hj hs⟩
def bB.set{S:Nat->Prop}{B B':T5}(h:bB S B B'){i:Nat}(hi:S i\/B.length<=i)(v:P2):bB S B (B'.set i v):=
 ⟨by have:=h.1;simpa using this,fun j hj hs=>by rw[Vz v (by rintro rfl;obtain hi|hi:=hi;exact hs hi;omega)];exact h.2 j hj hs⟩
def bB.trans{S:Nat->Prop}{B B' B'':T5}(h:bB S B B')(k:bB (fun i=>S i\/B.length<=i) B' B''):bB S B B'':=
 ⟨zzbb h.1 k.1,fun j hj hs=>by rw[k.2 j (by have:=h.1;omega) (by rintro(h|h);exact hs h;omega)];exact h.2 j hj hs⟩
def bB.mono{S S':Nat->Prop}{B B':T5}(h:bB S B B')(hs:∀i,S i->S' i):bB S' B B':=⟨h.1,fun j hj hn=>h.2 j hj fun k=>hn (hs j k)⟩
def Qf(s:Int×Int):P2:=[I s.1,I s.2]
def cF:List (Int×Int)->P2
 |[]=>[]
 |s::r=>I s.1::I s.2::cF r
@[simp] theorem avH:cF []=[]:=rfl
@[simp] theorem oZ(s:Int×Int)(r:List (Int×Int)):cF (s::r)=I s.1::I s.2::cF r:=rfl
def Ye:∀l,(cF l).length=l.length*2
 |[]=>rfl
 |s::r=>by simp[Ye r];omega
def Qcj:∀a b,cF (a++b)=cF a++cF b
 |[],_=>rfl
 |s::r,b=>by simp[Qcj r b]
def Fz:∀(l:List (Int×Int))(i:Nat),(cF l).drop (i*2)=cF (l.drop i)
 |[],i=>zd
 |s::r,0=>zd
 |s::r,i+1=>by rw[show(i+1)*2=i*2+1+1 by omega];simp[Fz r i]
def uB{l:List (Int×Int)}{i:Nat}{s:Int×Int}(h:l[i]?=some s):(cF l).drop (i*2)=I s.1::I s.2::cF (l.drop (i+1)):=by
 rw[Fz];have ai:=(zza.1 h).1;rw[zzah ai];have:l[i]=s:=(zza.1 h).2;rw[this,oZ]
def FA{l:List (Int×Int)}{i:Nat}{s:Int×Int}(h:l[i]?=some s):(cF l).drop (i*2+1)=I s.2::cF (l.drop (i+1)):=by
 rw[<- zzdw,uB h];rfl
def NN:∀(l:List (Int×Int))(i:Nat)(s:Int×Int),i<l.length->setA (cF l) (i*2) [I s.1,I s.2]=cF (l.set i s)
 |[],i,s,h=>by simp at h
 |t::r,0,s,h=>by simp[setA]
 |t::r,i+1,s,h=>by
  have ih:=NN r i s (Nm h);simp only[setA]at ih |-
  rw[show(i+1)*2=i*2+1+1 by omega,show i*2+1+1+1=i*2+1+1+1 from rfl];simp only[oZ,zzdx];rw[ih]
def wP:∀(l:List (Int×Int))(i:Nat)(s:Int×Int)(y:Int),l[i]?=some s->(cF l).set (i*2+1) (I y)=cF (l.set i (s.1,y))
 |[],i,s,y,h=>by simp at h
 |t::r,0,s,y,h=>by simp at h;subst h;simp
 |t::r,i+1,s,y,h=>by
  have ih:=wP r i s y (Nm h);rw[show(i+1)*2+1=i*2+1+1+1 by omega];simp only[oZ,zzdx];rw[ih]
def AU:∀(l:List (Int×Int))(r:P2),aY 2 l.length (cF l++r)=l.map Qf
 |[],_=>rfl
 |s::l,r=>by simp[Qf,AU l r]
def Qeh(l:List (Int×Int)):aY 2 l.length (cF l)=l.map Qf:=by simpa using AU l []
def CW(l:List (Int×Int)):Zl (cF l)=true:=by
 induction l with
 |nil=>rfl
 |cons s r ih=>simp only[oZ,Zl,List.all_cons,zzac]at ih |-;exact⟨rfl,rfl,ih⟩
def P5{a b:P2}(ha:Zl a=true)(hb:Zl b=true):Zl (a++b)=true:=by
 simp only[Zl,zzff,zzac]at*;exact⟨ha,hb⟩
def FB(l:List (Int×Int)):(l.map Qf).flatten=cF l:=by
 induction l with
 |nil=>rfl
 |cons s r ih=>simp[Qf,ih]
def P6(n:Nat):bE n [I 0,I 0]=cF (List.replicate n (0,0)):=by
 induction n with
 |zero=>rfl
 |succ n ih=>rw[bE,ih];rfl
def Zv{l:List (Int×Int)}{i:Nat}{s:Int×Int}(h:l[i]?=some s):Qj (l.map Qf) i=[I s.1,I s.2]:=Qu (by simp[h,Qf])
def o6:∀(bs:P2)(a b:P2),bs.length=b.length->setA (a++b) a.length bs=a++bs
 |[],a,b,h=>by cases b with
  |nil=>rfl
  |cons _ _=>simp at h
 |x::bs,a,[],h=>by simp at h
 |x::bs,a,y::b,h=>by
  have ih:=o6 bs (a++[x]) b (Nm h);rw[setA];have:(a++y::b).set a.length x=a++[x]++b:=zd
  rw[this];simpa using ih
def jt(bs a r:P2)(h:bs.length=a.length):setA (a++r) 0 bs=bs++r:=by
 have uo:∀(bs pre a r:P2),bs.length=a.length->setA (pre++a++r) pre.length bs=pre++bs++r:=by
  intro bs;induction bs with
  |nil=>intro pre a r h;cases a with
   |nil=>rfl
   |cons _ _=>simp at h
  |cons x bs ih=>intro pre a r h;cases a with
   |nil=>simp at h
   |cons y a=>
    rw[setA];have e:(pre++y::a++r).set pre.length x=pre++[x]++a++r:=zd
    rw[e];have:=ih (pre++[x]) a r (Nm h);rw[show(pre++[x]).length=pre.length+1 by simp]at this;rw[this];simp
 have:=uo bs [] a r h;simpa using this
open Go Go.RowKit
def asa(S:T5->Prop)(y:P2->AM->(Bool->AM->Prop)->Prop)(K:AM->Prop):T5->AM->Prop
 |[],m=>∀m',fD m m'->K m'
 |x::xs,m=>∀m',fD m m'->∀K':Bool->AM->Prop,(∀lG,S lG.boxes->asa S y K xs lG->K' true lG)->(∀lG,(∀m3,fD lG m3->K m3)->K' false lG)->y x m' K'
open Go Go.RowKit
def bV(O:Nat->Prop)(m m':AM):Prop:=m.boxes.length<=m'.boxes.length/\(∀j,j<m.boxes.length->¬O j->Qj m'.boxes j=Qj m.boxes j)/\(∃lx,m'.lens=m.lens++lx)/\∀l,m.st l≠.gone->m'.st l=m.st l
def fD.toO{m m':AM}(h:fD m m')(O:Nat->Prop):bV O m m':=by
 obtain⟨⟨bx,h1⟩,h2,h3⟩:=h;exact⟨by rw[h1];simp,fun j hj _=>by rw[h1,Qn hj],h2,h3⟩
def bV.refl(O:Nat->Prop)(m:AM):bV O m m:=(fD.refl m).toO O
def bV.trans{O:Nat->Prop}{m m' lG:AM}(h:bV O m m')(k:bV O m' lG):bV O m lG:=by
 obtain⟨h1,h2,⟨c,h3⟩,h4⟩:=h;obtain⟨k1,k2,⟨c',k3⟩,k4⟩:=k;exact⟨zzbb h1 k1,fun j hj ho=>by rw[k2 j zE ho,h2 j hj ho],⟨c++c',by rw[k3,h3,zzbe]⟩,fun l hl=>by rw[k4 l (by rw[h4 l hl];exact hl),h4 l hl]⟩
def bV.gone{O:Nat->Prop}{m m':AM}(h:bV O m m')(l:Nat):bV O (m.at_ l .gone) (m'.at_ l .gone):=
 ⟨h.1,h.2.1,h.2.2.1,fun l' eY=>by
  by_cases e:l'=l
  ·subst e;simp at eY
  simp only[aiA,uw,e,if_false]at eY |-;exact h.2.2.2 l' eY⟩
def NO(O:Nat->Prop)(m m':AM):Prop:=m.boxes.length<=m'.boxes.length/\∀j,O j->Qj m'.boxes j=Qj m.boxes j
def OU(O:Nat->Prop)(n n':Nat)(j:Nat):Prop:=O j\/(n<=j/\j<n')
def asb{O:Nat->Prop}{a b c:Nat}(h1:a<=b)(h2:b<=c):OU (OU O a b) b c=OU O a c:=by
 funext j;unfold OU;apply propext;constructor
 ·rintro((h|h)|h)
  ·exact .inl h
  ·exact .inr ⟨h.1,zE⟩
  exact .inr ⟨zE,h.2⟩
 rintro(h|h)
 ·exact .inl (.inl h)
 rcases zzaa j b with h3|h3
 ·exact .inl (.inr ⟨h.1,h3⟩)
 exact .inr ⟨h3,h.2⟩
def bV.WV{O:Nat->Prop}{m m' lG:AM}(h:bV O m m')(k:bV (OU O m.boxes.length m'.boxes.length) m' lG):bV O m lG:=by
 obtain⟨h1,h2,⟨c,h3⟩,h4⟩:=h;obtain⟨k1,k2,⟨c',k3⟩,k4⟩:=k;exact⟨zzbb h1 k1,fun j hj ho=>by rw[k2 j zE (by rintro(h|h);exact ho h;omega),h2 j hj ho],⟨c++c',by rw[k3,h3,zzbe]⟩,fun l hl=>by rw[k4 l (by rw[h4 l hl];exact hl),h4 l hl]⟩
def sC(y:P2->AM->(Bool->AM->Prop)->Prop)(K:AM->Prop):T5->(Nat->Prop)->AM->Prop
 |[],O,m=>∀m',bV O m m'->K m'
 |x::xs,O,m=>∀m',bV O m m'->∀K':Bool->AM->Prop,(∀lG,NO (OU O m.boxes.length m'.boxes.length) m' lG->sC y K xs (OU O m.boxes.length m'.boxes.length) lG->K' true lG)->
   (∀lG,(∀m3,bV (OU O m.boxes.length m'.boxes.length) lG m3->K m3)->K' false lG)->y x m' K'
def sC.ext{O:Nat->Prop}{y:P2->AM->(Bool->AM->Prop)->Prop}{K:AM->Prop}{xs:T5}{m m':AM}(h:sC y K xs O m)(e:bV O m m'):sC y K xs (OU O m.boxes.length m'.boxes.length) m':=by
 cases xs with
 |nil=>exact fun m2 e2=>h m2 (e.WV e2)
 |cons x xs=>
  intro m2 e2;rw[asb e.1 e2.1];exact h m2 (e.WV e2)
def WW(P:Program)(gl:Nat->AV)(f:FuncId)(first cap:P2)(xs:T5):Prop:=
 ∀(Y:YT)(l:Nat)(m:AM)(K:AM->Prop),sC (Y l) K xs (fun _=>False) m->aB P gl Y f (first++[.yld l]++cap) m fun _ m'=>K m'
def qR{P:Program}{gl:Nat->AV}{orc:UV}{Y:YT}{s:AS}{Q:R0}{g:bD}{ps:Pa}{ig body:SC}{f:FuncId}{first cap:P2}{xs:T5}
  (hg:ev gl s.T g=.fn f first cap)(cT:WW P gl f first cap xs)(aH:∀x∈xs,x.length=ps.length)(I:(Nat->Prop)->Nat->AM->Prop)(X:(Nat->Prop)->Exit->AM->Prop)
  (h0:I (fun _=>False) 0 s.m)
  (hI:∀O i m m',I O i m->bV O m m'->I (OU O m.boxes.length m'.boxes.length) i m')(hX:∀O ex m m',X O ex m->bV O m m'->X O ex m')
  (
   hb:∀(O:Nat->Prop)(l i:Nat)(m:AM)(x:P2),(∀j,O j->s.m.boxes.length<=j/\j<m.boxes.length)->s.m.boxes.length<=m.boxes.length->s.m.st l=.gone->m.st l=.ready->I O i (m.at_ l .gone)->xs[i]?=some x->∀K':R0,
   (∀s',NO O m s'.m->I O (i+1) (s'.m.at_ l .gone)->K' .normal s')->(∀s',m.boxes.length<=s'.m.boxes.length->X O .ret (s'.m.at_ l .gone)->K' .ret s')->(∀id s',m.boxes.length<=s'.m.boxes.length->X O (.exit id) (s'.m.at_ l .gone)->K' (.exit id) s')->
   vc P gl orc Y ig ⟨Qal s.T ps x,m⟩ (JU l fun s'=>vc P gl orc Y body s' K'))
  (Wg:∀O m,I O xs.length m->Q .normal ⟨s.T,m⟩)(hex:∀O ex m,X O ex m->Q ex ⟨s.T,m⟩):vc P gl orc Y (.rfunc g ps ig body) s Q:=by
 simp only[vc,hg];intro hl;generalize dG:s.m.ln=l at hl;refine cT _ l s.m.bK (fun m'=>CJ l s.T m' Q (m'.st l)) ?_;have iE:∀{O:Nat->Prop}{m m':AM},m.st l=.ready->bV O m m'->m'.st l=.ready:=fun h e=>by rw[e.2.2.2 l (by rw[h];simp),h]
 have key:∀(n i:Nat)(O:Nat->Prop)(m:AM),i+n=xs.length->I O i (m.at_ l .gone)->(∀j,O j->s.m.boxes.length<=j/\j<m.boxes.length)->s.m.boxes.length<=m.boxes.length->m.st l=.ready->
   sC (Yin Y l ps.length (fun args m K=>vc P gl orc Y ig ⟨Qal s.T ps args,m⟩ (JU l fun s'=>vc P gl orc Y body s' (PS l K))) l) (fun m'=>CJ l s.T m' Q (m'.st l)) (xs.drop i) O m:=by
  intro n;induction n with
  |zero=>
   intro i O m hi hIm CX gN hm;rw[zzal zE];intro m' e;simp only[iE hm e,CJ];obtain rfl:i=xs.length:=zE
   exact Wg _ _ (hI _ _ _ _ hIm (e.gone l))
  |succ n ih=>
   intro i O m hi hIm CX gN hm;have ai:i<xs.length:=zE
   rw[zzah ai];intro m' e K' hT hF;have asc:s.m.boxes.length<=m'.boxes.length:=zzbb gN e.1
   have alJ:∀j,OU O m.boxes.length m'.boxes.length j->s.m.boxes.length<=j/\j<m'.boxes.length:=by
    rintro j (h|h)
    ·exact⟨(CX j h).1,zzay (CX j h).2 e.1⟩
    exact⟨zE,h.2⟩
   have lI:=hI _ _ _ _ hIm (e.gone l);simp only[Jm]at lI;simp only[Yin,if_true];refine⟨iE hm e,aH _ (zzde ai),?_⟩;refine hb (OU O m.boxes.length m'.boxes.length) l i m' xs[i] alJ asc hl (iE hm e) lI (zzaf ai) (PS l K') (fun s' hS' lI=>?_) (fun s' cm hQ=>?_) fun id s' cm hQ=>?_
   ·refine hT _ (by simpa[NO]using hS') (ih (i+1) _ _ zE ?_ (fun j hj=>⟨(alJ j hj).1,by simpa using zzay (alJ j hj).2 hS'.1⟩) (by simpa using zzbb asc hS'.1) zd);simpa using lI
   ·refine hF _ fun m3 e3=>?_;have h3:m3.st l=.done .ret:=by have:=e3.2.2.2 l zd;simpa using this
    simp only[h3];exact hex _ _ _ (hX _ _ _ _ hQ (by have:=e3.gone l;simpa using this))
   refine hF _ fun m3 e3=>?_;have h3:m3.st l=.done (.exit id):=by have:=e3.2.2.2 l zd;simpa using this
   simp only[h3];exact hex _ _ _ (hX _ _ _ _ hQ (by have:=e3.gone l;simpa using this))
 have hI0:I (fun _=>False) 0 (s.m.bK.at_ l .gone):=by
  have:=hI (fun _=>False) 0 s.m (s.m.bK.at_ l .gone) h0 ⟨by simp[AM.bK],fun j _ _=>by simp[AM.bK],⟨[],by simp[AM.bK]⟩,fun l' eY=>by
   have aN:l'≠l:=by rintro rfl;exact eY hl
   simp[AM.bK,dG,uw,aN]⟩
  have e:OU (fun _=>False) s.m.boxes.length (s.m.bK.at_ l .gone).boxes.length=fun _=>False:=by
   funext j;simp[OU,AM.bK]
  rw[e]at this;exact this
 have:=key xs.length 0 (fun _=>False) s.m.bK zd hI0 (fun _ h=>h.elim) (by simp[AM.bK]) (by simp[AM.bK,dG]);simpa using this
end Go.Abs
