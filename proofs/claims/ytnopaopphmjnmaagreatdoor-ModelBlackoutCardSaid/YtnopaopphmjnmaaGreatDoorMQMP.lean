import Derived.Test.YtnopaopphmjnmaaGreatDoorMQMF
set_option linter.all false
namespace Go.Abs
open Go Go.RowKit
def AM.wr(m:AM)(id:Nat)(cs:List AV):AM:={m with boxes:=m.boxes.set id cs}
def ayb(m:AM)(id:Nat)(cs:List AV){c:List AV}(h:m.boxes[id]?=some c):(m.wr id cs).B=fun i=>if i=id then some cs else m.B i:=by
 funext i;simp only[AM.B,AM.wr];have ai:id<m.boxes.length:=(zza.1 h).1;by_cases hi:i=id
 ·subst hi;simp[ai]
 rw[zzbf (fun h=>hi h.symm),if_neg hi]
def aj(zs:List Int):List AV:=zs.map (AV.int .i64)
def an.gr{P:Program}{gl:Nat->AV}{Y:YT}{f:FuncId}{xs:List AV}{m:AM}{K:AV->AM->Prop}(hc:bD P f)
  (
   h:∀(N:Nat)(w0:fF)(aq:Nat->Nat->Prop)(γ:G)(w:World)(vs:List Value),au N w0 aq γ w m.B m.L->cZ γ w m->ak w γ xs vs->
   Calls P f vs.toArray w fun e w'=>∃v γ' r m',e=.returned v/\eP w γ w' γ'/\au N w0 aq γ' w' m'.B m'.L/\cZ γ' w' m'/\aC w' γ' r v/\K r m'):an P gl Y f xs m K:=
 ⟨hc,fun N w0 aq γ w vs hm hl _ _ hr=>(callsIn_wide (n:=0)).2 (h N w0 aq γ w vs hm hl hr)⟩
def xR{w:World}{γ:G}:aC w γ (.aZ []) (.tuple #[]):=.aZ rfl fun i c v h=>by simp at h
open Go Go.RowKit
abbrev I(n:Int):AV:=.int .i64 n
section
variable {H:Type} {P:Program} {n:Nat} {t e:TypeId} {x:DataW H}
def Xk{k:IntKind}(hu:P.underlying t=some (.int k))(h:Typed P (n+1) t x):∃m,x=.lit (.int k m)/\(Lit.int k m).wf=true:=by
 unfold Typed at h;rw[hu]at h;cases x with
 |lit l=>cases l<;>first|(cases h;done)|(obtain⟨rfl,h⟩:=h;exact⟨_,rfl,h⟩)
 |_=>cases h
def R6(hu:P.underlying t=some .string)(h:Typed P (n+1) t x):∃s,x=.lit (.string s)/\s.length<=maxLen:=by
 unfold Typed at h;rw[hu]at h;cases x with
 |lit l=>cases l<;>first|(cases h;done)|exact⟨_,rfl,h⟩
 |_=>cases h
def GQ(hu:P.underlying t=some (.slice e))(h:Typed P (n+1) t x):x=.nil\/∃bP spare,x=.slice bP spare/\bP.length<=maxLen/\∀y∈bP,Typed P n e y:=by
 unfold Typed at h;rw[hu]at h;cases x<;>first|(cases h;done)|exact .inl rfl|exact .inr ⟨_,_,rfl,h.1,h.2⟩
def Jb{fs:Array Field}(hu:P.underlying t=some (.struct fs))(h:Typed P (n+1) t x):∃parts,x=.agg parts/\parts.length=fs.size/\∀p∈fs.toList.zip parts,Typed P n p.1.type p.2:=by
 unfold Typed at h;rw[hu]at h;cases x<;>first|(cases h;done)|exact⟨_,rfl,h.1,h.2⟩
def Za{k:IntKind}(hu:P.underlying t=some (.int k))(k':IntKind)(m:Int):cE P (n+1) t (.lit (.int k' m):DataW H)=[.int k' m]:=by simp only[cE,hu]
def afP(hu:P.underlying t=some .string)(l:List UInt8):cE P (n+1) t (.lit (.string l):DataW H)=[.str ⟨l.toArray⟩]:=by simp only[cE,hu]
def afQ(hu:P.underlying t=some (.slice e)):cE P (n+1) t (.nil:DataW H)=[.sl .nil []]:=by simp only[cE,hu]
def anJ(hu:P.underlying t=some (.slice e))(l sp:List (DataW H)):cE P (n+1) t (.slice l sp)=[.sl .nn (l.map (cE P n e))]:=by simp only[cE,hu]
def Ja{fs:Array Field}(hu:P.underlying t=some (.struct fs))(l:List (DataW H)):cE P (n+1) t (.agg l)=(fs.toList.zip l).flatMap fun p=>cE P n p.1.type p.2:=by simp only[cE,hu]
def R7{k:Nat}(hu:P.underlying t=some (.array k e))(l:List (DataW H)):cE P (n+1) t (.agg l)=l.flatMap (cE P n e):=by simp only[cE,hu]
def afR{d:Nat}(h:Jh P t=true):jO P d t x=.agg (cE P d t x):=by unfold jO;rw[h];rfl
def DI{d:Nat}(h:Jh P t=false){a:AV}(ha:cE P d t x=[a]):jO P d t x=a:=by unfold jO;rw[h,ha];rfl
end
def Wk(a b:AV):Prop:=∀(w:World)(γ:G)(v:Value),aC w γ a v->aC w γ b v
def Wk.refl(a:AV):Wk a a:=fun _ _ _ h=>h
def Wk.sl(rt:Rt)(rows:List (List AV)):Wk (.sl rt rows) (.sl .ro rows):=fun w γ v h=>by
 cases h with
 |sl b off sz cv hcap hnil ha hsz hc hr aT=>exact .sl b off sz cv hcap hnil ha hsz hc hr trivial
def WkL:List AV->List AV->Prop
 |[],[]=>True
 |a::r,b::s=>Wk a b/\WkL r s
 |_,_=>False
def WkL.rep{w:World}{γ:G}:∀{l l':List AV}{vs:List Value},WkL l l'->ak w γ l vs->ak w γ l' vs
 |[],[],_,_,h=>h
 |[],_::_,_,h,_=>by cases h
 |_::_,[],_,h,_=>by cases h
 |a::l,b::l',[],_,h=>by have:=h.1;simp at this
 |a::l,b::l',v::vs,hk,h=>by
  have h0:aC w γ a v:=h.2 0 a v rfl rfl;have hs:ak w γ l vs:=⟨by have:=h.1;simpa using this,fun i x y h1 h2=>h.2 (i+1) x y (by simpa using h1) (by simpa using h2)⟩;exact ak.cons (hk.1 w γ v h0) (WkL.rep hk.2 hs)
def Zo{P:Program}{gl:Nat->AV}{f:FuncId}{l l':List AV}{r:AV}(h:Pure P gl f l' r)(hk:WkL l l'):Pure P gl f l r:=
 ⟨h.1,fun ro w vs ji hr=>h.2 ro w vs ji (hk.rep hr)⟩
def Wk.rows{α:Type}(l:List α)(f g:α->List AV)(hl:∀a,(g a).length=(f a).length)(hc:∀(a:α)(j:Nat)(c':AV),(g a)[j]?=some c'->∃c,(f a)[j]?=some c/\Wk c c'):Wk (.sl .ro (l.map f)) (.sl .ro (l.map g)):=fun w γ v h=>by
 have key:∀(i j:Nat)(c':AV),Qv (l.map g) i j=some c'->∃c,Qv (l.map f) i j=some c/\Wk c c':=fun i j c' h=>by
  unfold Qv at h |-
  rw[zzbi]at h |-
  cases hi:l[i]? with
  |none=>rw[hi]at h;cases h
  |some a=>
   rw[hi]at h;simpa using hc a j c' (by simpa using h)
 obtain⟨a,cap,b,off,sz,cv,rfl,s1,_⟩:=h.cm;have e1:(l.map f).length=(l.map g).length:=zd
 rw[e1];refine qz.mk' (b:=b) (off:=off) (sz:=sz) (cv:=cv) ⟨by rw[<- e1];exact s1.hcap,s1.hnil,fun hn=>s1.at_ (by simpa using hn),fun row hr=>?_,fun i j c' h=>?_,fun i j c' h=>?_⟩ trivial
 ·simp at hr;obtain⟨x,hx,rfl⟩:=hr;rw[hl x];exact s1.hsz _ (by simp;exact⟨x,hx,rfl⟩)
 ·obtain⟨c,h1,h2⟩:=key i j c' h;exact s1.cell i j c h1
 obtain⟨c,h1,h2⟩:=key i j c' h;exact h2 _ _ _ (s1.rep i j c h1)
def Xa{P:Program}{gl:Nat->AV}{f:FuncId}{l:List AV}{r r':AV}(h:Pure P gl f l r)(hk:Wk r r'):Pure P gl f l r':=
 ⟨h.1,fun ro w vs hg hr=>(h.2 ro w vs hg hr).mono fun _ _⟨v,h1,h2,h3⟩=>⟨v,h1,h2,hk _ _ _ h3⟩⟩
def Qcq{l l':List AV}(h:WkL l l'):Wk (.agg l) (.agg l'):=fun w γ v hr=>by
 have key:∀{l l':List AV},WkL l l'->l.length=l'.length/\∀(i:Nat)(c':AV),l'[i]?=some c'->∃c,l[i]?=some c/\Wk c c':=by
  intro l;induction l with
  |nil=>intro l' h;cases l' with
   |nil=>exact⟨rfl,fun i c' h=>by simp at h⟩
   |cons _ _=>exact h.elim
  |cons a l ih=>intro l' h;cases l' with
   |nil=>exact h.elim
   |cons b l'=>
    obtain⟨h1,h2⟩:=ih h.2;refine⟨by simp[h1],fun i c' hc=>?_⟩;cases i with
    |zero=>simp at hc;subst hc;exact⟨a,rfl,h.1⟩
    |succ i=>simpa using h2 i c' (by simpa using hc)
 obtain⟨h1,h2⟩:=key h;cases hr with
 |agg hl hc=>
  refine .agg zE fun i c' v oW hv=>?_;obtain⟨c,g1,g2⟩:=h2 i c' oW;exact g2 _ _ _ (hc i c v g1 hv)
open Go Go.RowKit
section
variable {B l:List (List AV)} {i j:Nat}
def Ql(h:i<B.length):Qh (B++l) i=Qh B i:=by simp[Qh,zzar,-Vp,zzag h]
def Ym(v:List AV)(h:i<B.length):(B++l).set i v=B.set i v++l:=by rw[zzfz _ _ h]
def Zz(v:List AV)(h:i≠j):Qh (B.set i v) j=Qh B j:=by simp[Qh,zzar,-Vp,zzbf h]
def Vs(v:List AV)(h:i<B.length):Qh (B.set i v) i=v:=by simp[Qh,zzar,-Vp,zzba h]
def Ug(h:i<B.length):B[i]?=some (Qh B i):=by
 rw[zzae h];simp[Qh,zzar,-Vp,h]
end
def bw(S:Nat->Prop)(B B':List (List AV)):Prop:=B.length<=B'.length/\∀j,j<B.length->¬S j->Qh B' j=Qh B j
def bw.refl(S:Nat->Prop)(B:List (List AV)):bw S B B:=⟨zzab _,fun _ _ _=>rfl⟩
def bw.app{S:Nat->Prop}{B B':List (List AV)}(h:bw S B B')(l:List (List AV)):bw S B (B'++l):=
 ⟨by have:=h.1;simp;omega,fun j hj hs=>by rw[Ql (by have:=h.1;omega)];exact h.2 j hj hs⟩
def bw.set{S:Nat->Prop}{B B':List (List AV)}(h:bw S B B'){i:Nat}(hi:S i\/B.length<=i)(v:List AV):bw S B (B'.set i v):=
 ⟨by have:=h.1;simpa using this,fun j hj hs=>by rw[Zz v (by rintro rfl;obtain hi|hi:=hi;exact hs hi;omega)];exact h.2 j hj hs⟩
def bw.trans{S:Nat->Prop}{B B' B'':List (List AV)}(h:bw S B B')(k:bw (fun i=>S i\/B.length<=i) B' B''):bw S B B'':=
 ⟨zzbg h.1 k.1,fun j hj hs=>by rw[k.2 j (by have:=h.1;omega) (by rintro(h|h);exact hs h;omega)];exact h.2 j hj hs⟩
def bw.mono{S S':Nat->Prop}{B B':List (List AV)}(h:bw S B B')(hs:∀i,S i->S' i):bw S' B B':=⟨h.1,fun j hj hn=>h.2 j hj fun k=>hn (hs j k)⟩
def Qf(s:Int×Int):List AV:=[I s.1,I s.2]
def cI:List (Int×Int)->List AV
 |[]=>[]
 |s::r=>I s.1::I s.2::cI r
@[simp] theorem awY:cI []=[]:=rfl
@[simp] theorem pX(s:Int×Int)(r:List (Int×Int)):cI (s::r)=I s.1::I s.2::cI r:=rfl
def Yb:∀l,(cI l).length=l.length*2
 |[]=>rfl
 |s::r=>by simp[Yb r];omega
def Qcl:∀a b,cI (a++b)=cI a++cI b
 |[],_=>rfl
 |s::r,b=>by simp[Qcl r b]
def GR:∀(l:List (Int×Int))(i:Nat),(cI l).drop (i*2)=cI (l.drop i)
 |[],i=>zd
 |s::r,0=>zd
 |s::r,i+1=>by rw[show(i+1)*2=i*2+1+1 by omega];simp[GR r i]
def uT{l:List (Int×Int)}{i:Nat}{s:Int×Int}(h:l[i]?=some s):(cI l).drop (i*2)=I s.1::I s.2::cI (l.drop (i+1)):=by
 rw[GR];have ai:=(zza.1 h).1;rw[zzaf ai];have:l[i]=s:=(zza.1 h).2;rw[this,pX]
def Gu{l:List (Int×Int)}{i:Nat}{s:Int×Int}(h:l[i]?=some s):(cI l).drop (i*2+1)=I s.2::cI (l.drop (i+1)):=by
 rw[<- zzdx,uT h];rfl
def O6:∀(l:List (Int×Int))(i:Nat)(s:Int×Int),i<l.length->setA (cI l) (i*2) [I s.1,I s.2]=cI (l.set i s)
 |[],i,s,h=>by simp at h
 |t::r,0,s,h=>by simp[setA]
 |t::r,i+1,s,h=>by
  have ih:=O6 r i s (by simpa using h);simp only[setA]at ih |-
  rw[show(i+1)*2=i*2+1+1 by omega,show i*2+1+1+1=i*2+1+1+1 from rfl];simp only[pX,zzdz];rw[ih]
def xF:∀(l:List (Int×Int))(i:Nat)(s:Int×Int)(y:Int),l[i]?=some s->(cI l).set (i*2+1) (I y)=cI (l.set i (s.1,y))
 |[],i,s,y,h=>by simp at h
 |t::r,0,s,y,h=>by simp at h;subst h;simp
 |t::r,i+1,s,y,h=>by
  have ih:=xF r i s y (by simpa using h);rw[show(i+1)*2+1=i*2+1+1+1 by omega];simp only[pX,zzdz];rw[ih]
def Bx:∀(l:List (Int×Int))(r:List AV),bh 2 l.length (cI l++r)=l.map Qf
 |[],_=>rfl
 |s::l,r=>by simp[Qf,Bx l r]
def Qek(l:List (Int×Int)):bh 2 l.length (cI l)=l.map Qf:=by simpa using Bx l []
def Dy(l:List (Int×Int)):Zj (cI l)=true:=by
 induction l with
 |nil=>rfl
 |cons s r ih=>simp only[pX,Zj,List.all_cons,zzak]at ih |-;exact⟨rfl,rfl,ih⟩
def R8{a b:List AV}(ha:Zj a=true)(hb:Zj b=true):Zj (a++b)=true:=by
 simp only[Zj,zzfk,zzak]at*;exact⟨ha,hb⟩
def GU(l:List (Int×Int)):(l.map Qf).flatten=cI l:=by
 induction l with
 |nil=>rfl
 |cons s r ih=>simp[Qf,ih]
def R9(n:Nat):bK n [I 0,I 0]=cI (List.replicate n (0,0)):=by
 induction n with
 |zero=>rfl
 |succ n ih=>rw[bK,ih];rfl
def Zf{l:List (Int×Int)}{i:Nat}{s:Int×Int}(h:l[i]?=some s):Qh (l.map Qf) i=[I s.1,I s.2]:=Qt (by simp[h,Qf])
def pJ:∀(bs:List AV)(a b:List AV),bs.length=b.length->setA (a++b) a.length bs=a++bs
 |[],a,b,h=>by cases b with
  |nil=>rfl
  |cons _ _=>simp at h
 |x::bs,a,[],h=>by simp at h
 |x::bs,a,y::b,h=>by
  have ih:=pJ bs (a++[x]) b (by simpa using h);rw[setA];have:(a++y::b).set a.length x=a++[x]++b:=zd
  rw[this];simpa using ih
def jV(bs a r:List AV)(h:bs.length=a.length):setA (a++r) 0 bs=bs++r:=by
 have EI:∀(bs pre a r:List AV),bs.length=a.length->setA (pre++a++r) pre.length bs=pre++bs++r:=by
  intro bs;induction bs with
  |nil=>intro pre a r h;cases a with
   |nil=>rfl
   |cons _ _=>simp at h
  |cons x bs ih=>intro pre a r h;cases a with
   |nil=>simp at h
   |cons y a=>
    rw[setA];have e:(pre++y::a++r).set pre.length x=pre++[x]++a++r:=zd
    rw[e];have:=ih (pre++[x]) a r (by simpa using h);rw[show(pre++[x]).length=pre.length+1 by simp]at this;rw[this];simp
 have:=EI bs [] a r h;simpa using this
open Go Go.RowKit
def aty(S:List (List AV)->Prop)(y:List AV->AM->(Bool->AM->Prop)->Prop)(K:AM->Prop):List (List AV)->AM->Prop
 |[],m=>∀m',fR m m'->K m'
 |x::xs,m=>∀m',fR m m'->∀K':Bool->AM->Prop,(∀lU,S lU.boxes->aty S y K xs lU->K' true lU)->(∀lU,(∀m3,fR lU m3->K m3)->K' false lU)->y x m' K'
open Go Go.RowKit
def bQ(O:Nat->Prop)(m m':AM):Prop:=m.boxes.length<=m'.boxes.length/\(∀j,j<m.boxes.length->¬O j->Qh m'.boxes j=Qh m.boxes j)/\(∃lx,m'.lens=m.lens++lx)/\∀l,m.st l≠.gone->m'.st l=m.st l
def fR.toO{m m':AM}(h:fR m m')(O:Nat->Prop):bQ O m m':=by
 obtain⟨⟨bx,h1⟩,h2,h3⟩:=h;exact⟨by rw[h1];simp,fun j hj _=>by rw[h1,Ql hj],h2,h3⟩
def bQ.refl(O:Nat->Prop)(m:AM):bQ O m m:=(fR.refl m).toO O
def bQ.trans{O:Nat->Prop}{m m' lU:AM}(h:bQ O m m')(k:bQ O m' lU):bQ O m lU:=by
 obtain⟨h1,h2,⟨c,h3⟩,h4⟩:=h;obtain⟨k1,k2,⟨c',k3⟩,k4⟩:=k;exact⟨zzbg h1 k1,fun j hj ho=>by rw[k2 j zE ho,h2 j hj ho],⟨c++c',by rw[k3,h3,zzb]⟩,fun l hl=>by rw[k4 l (by rw[h4 l hl];exact hl),h4 l hl]⟩
def bQ.gone{O:Nat->Prop}{m m':AM}(h:bQ O m m')(l:Nat):bQ O (m.at_ l .gone) (m'.at_ l .gone):=
 ⟨h.1,h.2.1,h.2.2.1,fun l' eM=>by
  by_cases e:l'=l
  ·subst e;simp at eM
  simp only[akv,qE,e,if_false]at eM |-;exact h.2.2.2 l' eM⟩
def Bq(O:Nat->Prop)(m m':AM):Prop:=m.boxes.length<=m'.boxes.length/\∀j,O j->Qh m'.boxes j=Qh m.boxes j
def OU(O:Nat->Prop)(n n':Nat)(j:Nat):Prop:=O j\/(n<=j/\j<n')
def atz{O:Nat->Prop}{a b c:Nat}(h1:a<=b)(h2:b<=c):OU (OU O a b) b c=OU O a c:=by
 funext j;unfold OU;apply propext;constructor
 ·rintro((h|h)|h)
  ·exact .inl h
  ·exact .inr ⟨h.1,zE⟩
  exact .inr ⟨zE,h.2⟩
 rintro(h|h)
 ·exact .inl (.inl h)
 rcases zzaa j b with h3|h3
 ·exact .inl (.inr ⟨h.1,h3⟩)
 exact .inr ⟨h3,h.2⟩
def bQ.ZZ{O:Nat->Prop}{m m' lU:AM}(h:bQ O m m')(k:bQ (OU O m.boxes.length m'.boxes.length) m' lU):bQ O m lU:=by
 obtain⟨h1,h2,⟨c,h3⟩,h4⟩:=h;obtain⟨k1,k2,⟨c',k3⟩,k4⟩:=k;exact⟨zzbg h1 k1,fun j hj ho=>by rw[k2 j zE (by rintro(h|h);exact ho h;omega),h2 j hj ho],⟨c++c',by rw[k3,h3,zzb]⟩,fun l hl=>by rw[k4 l (by rw[h4 l hl];exact hl),h4 l hl]⟩
def jQ(y:List AV->AM->(Bool->AM->Prop)->Prop)(K:AM->Prop):List (List AV)->(Nat->Prop)->AM->Prop
 |[],O,m=>∀m',bQ O m m'->K m'
 |x::xs,O,m=>∀m',bQ O m m'->∀K':Bool->AM->Prop,(∀lU,Bq (OU O m.boxes.length m'.boxes.length) m' lU->jQ y K xs (OU O m.boxes.length m'.boxes.length) lU->K' true lU)->
   (∀lU,(∀m3,bQ (OU O m.boxes.length m'.boxes.length) lU m3->K m3)->K' false lU)->y x m' K'
def jQ.ext{O:Nat->Prop}{y:List AV->AM->(Bool->AM->Prop)->Prop}{K:AM->Prop}{xs:List (List AV)}{m m':AM}(h:jQ y K xs O m)(e:bQ O m m'):jQ y K xs (OU O m.boxes.length m'.boxes.length) m':=by
 cases xs with
 |nil=>exact fun m2 e2=>h m2 (e.ZZ e2)
 |cons x xs=>
  intro m2 e2;rw[atz e.1 e2.1];exact h m2 (e.ZZ e2)
def ZM(P:Program)(gl:Nat->AV)(f:FuncId)(first cap:List AV)(xs:List (List AV)):Prop:=
 ∀(Y:YT)(l:Nat)(m:AM)(K:AM->Prop),jQ (Y l) K xs (fun _=>False) m->an P gl Y f (first++[.yld l]++cap) m fun _ m'=>K m'
def rK{P:Program}{gl:Nat->AV}{orc:Nat->FuncId->List AV->AV}{Y:YT}{s:AS}{Q:Exit->AS->Prop}{g:bN}{ps:List Nat}{lV body:SC}{f:FuncId}{first cap:List AV}{xs:List (List AV)}
  (hg:ev gl s.T g=.fn f first cap)(cp:ZM P gl f first cap xs)(aH:∀x∈xs,x.length=ps.length)(I:(Nat->Prop)->Nat->AM->Prop)(X:(Nat->Prop)->Exit->AM->Prop)
  (h0:I (fun _=>False) 0 s.m)
  (hI:∀O i m m',I O i m->bQ O m m'->I (OU O m.boxes.length m'.boxes.length) i m')(hX:∀O ex m m',X O ex m->bQ O m m'->X O ex m')
  (
   hb:∀(O:Nat->Prop)(l i:Nat)(m:AM)(x:List AV),(∀j,O j->s.m.boxes.length<=j/\j<m.boxes.length)->s.m.boxes.length<=m.boxes.length->s.m.st l=.gone->m.st l=.ready->I O i (m.at_ l .gone)->xs[i]?=some x->∀K':Exit->AS->Prop,
   (∀s',Bq O m s'.m->I O (i+1) (s'.m.at_ l .gone)->K' .normal s')->(∀s',m.boxes.length<=s'.m.boxes.length->X O .ret (s'.m.at_ l .gone)->K' .ret s')->(∀id s',m.boxes.length<=s'.m.boxes.length->X O (.exit id) (s'.m.at_ l .gone)->K' (.exit id) s')->
   vc P gl orc Y lV ⟨Qas s.T ps x,m⟩ (F5 l fun s'=>vc P gl orc Y body s' K'))
  (Lo:∀O m,I O xs.length m->Q .normal ⟨s.T,m⟩)(hex:∀O ex m,X O ex m->Q ex ⟨s.T,m⟩):vc P gl orc Y (.rfunc g ps lV body) s Q:=by
 simp only[vc,hg];intro hl;generalize dy:s.m.ln=l at hl;refine cp _ l s.m.bu (fun m'=>zS l s.T m' Q (m'.st l)) ?_;have fL:∀{O:Nat->Prop}{m m':AM},m.st l=.ready->bQ O m m'->m'.st l=.ready:=fun h e=>by rw[e.2.2.2 l (by rw[h];simp),h]
 have key:∀(n i:Nat)(O:Nat->Prop)(m:AM),i+n=xs.length->I O i (m.at_ l .gone)->(∀j,O j->s.m.boxes.length<=j/\j<m.boxes.length)->s.m.boxes.length<=m.boxes.length->m.st l=.ready->
   jQ (Yin Y l ps.length (fun args m K=>vc P gl orc Y lV ⟨Qas s.T ps args,m⟩ (F5 l fun s'=>vc P gl orc Y body s' (Ll l K))) l) (fun m'=>zS l s.T m' Q (m'.st l)) (xs.drop i) O m:=by
  intro n;induction n with
  |zero=>
   intro i O m hi YV um gm hm;rw[zzan zE];intro m' e;simp only[fL hm e,zS];obtain rfl:i=xs.length:=zE
   exact Lo _ _ (hI _ _ _ _ YV (e.gone l))
  |succ n ih=>
   intro i O m hi YV um gm hm;have ai:i<xs.length:=zE
   rw[zzaf ai];intro m' e K' hT hF;have Z0:s.m.boxes.length<=m'.boxes.length:=zzbg gm e.1
   have Sa:∀j,OU O m.boxes.length m'.boxes.length j->s.m.boxes.length<=j/\j<m'.boxes.length:=by
    rintro j (h|h)
    ·exact⟨(um j h).1,zzaz (um j h).2 e.1⟩
    exact⟨zE,h.2⟩
   have gX:=hI _ _ _ _ YV (e.gone l);simp only[Ui]at gX;simp only[Yin,if_true];refine⟨fL hm e,aH _ (zzdk ai),?_⟩;refine hb (OU O m.boxes.length m'.boxes.length) l i m' xs[i] Sa Z0 hl (fL hm e) gX (zzae ai) (Ll l K') (fun s' hS' gX=>?_) (fun s' cw hQ=>?_) fun id s' cw hQ=>?_
   ·refine hT _ (by simpa[Bq]using hS') (ih (i+1) _ _ zE ?_ (fun j hj=>⟨(Sa j hj).1,by simpa using zzaz (Sa j hj).2 hS'.1⟩) (by simpa using zzbg Z0 hS'.1) zd);simpa using gX
   ·refine hF _ fun m3 e3=>?_;have h3:m3.st l=.done .ret:=by have:=e3.2.2.2 l zd;simpa using this
    simp only[h3];exact hex _ _ _ (hX _ _ _ _ hQ (by have:=e3.gone l;simpa using this))
   refine hF _ fun m3 e3=>?_;have h3:m3.st l=.done (.exit id):=by have:=e3.2.2.2 l zd;simpa using this
   simp only[h3];exact hex _ _ _ (hX _ _ _ _ hQ (by have:=e3.gone l;simpa using this))
 have hI0:I (fun _=>False) 0 (s.m.bu.at_ l .gone):=by
  have:=hI (fun _=>False) 0 s.m (s.m.bu.at_ l .gone) h0 ⟨by simp[AM.bu],fun j _ _=>by simp[AM.bu],⟨[],by simp[AM.bu]⟩,fun l' eM=>by
   have aM:l'≠l:=by rintro rfl;exact eM hl
   simp[AM.bu,dy,qE,aM]⟩
  have e:OU (fun _=>False) s.m.boxes.length (s.m.bu.at_ l .gone).boxes.length=fun _=>False:=by
   funext j;simp[OU,AM.bu]
  rw[e]at this;exact this
 have:=key xs.length 0 (fun _=>False) s.m.bu zd hI0 (fun _ h=>h.elim) (by simp[AM.bu]) (by simp[AM.bu,dy]);simpa using this
open Go Go.RowKit
def G.only(γ γ':G):G:={γ' with β:=fun i=>if(γ.β i).isSome then γ'.β i else none,mm:=fun i=>if(γ.mm i).isSome then γ'.mm i else none}
section
variable {N:Nat} {w0:fF} {aq:Nat->Nat->Prop} {γ γ':G} {w w':World} {P:Program} {gl:Nat->AV} {Y:YT}
def Ub{id b:Nat}(h:(γ.only γ').β id=some b):(γ.β id).isSome/\γ'.β id=some b:=by
 simp only[G.only]at h;split at h
 ·exact⟨by assumption,h⟩
 cases h
def Qbc{id b:Nat}(h:(γ.only γ').mm id=some b):(γ.mm id).isSome/\γ'.mm id=some b:=by
 simp only[G.only]at h;split at h
 ·exact⟨by assumption,h⟩
 cases h
def DJ{id b b0:Nat}(h0:γ.β id=some b0)(h:γ'.β id=some b):(γ.only γ').β id=some b:=by simp[G.only,h0,h]
def lD{id b b0:Nat}(h0:γ.mm id=some b0)(h:γ'.mm id=some b):(γ.only γ').mm id=some b:=by simp[G.only,h0,h]
def Sb{a:Option Addr}{len cap sz:Nat}{rt:Rt}(h:tY w' γ' a len cap sz rt):tY w' (γ.only γ') a len cap sz rt:=by
 cases rt<;>exact h
def aC.only{a:AV}{v:Value}(h:aC w' γ' a v):∀{v0:Value},aC w γ a v0->aC w' (γ.only γ') a v:=by
 induction h generalizing γ with
 |junk v=>exact fun _=>.junk _
 |gd h h' ih=>exact fun k=>.gd (fun hg=>by cases k with|gd k1 _=>exact ih hg (k1 hg)) h'
 |bool b=>exact fun _=>.bool b
 |int k n=>exact fun _=>.int k n
 |str s=>exact fun _=>.str s
 |nilfn=>exact fun _=>.nilfn
 |nilv p=>exact fun _=>.nilv p
 |yld h=>exact fun _=>.yld h
 |mp h=>exact fun k=>by cases k with|mp k=>exact .mp (lD k h)
 |it h=>exact fun k=>by cases k with|it k=>exact .it (lD k h)
 |agg hl _ ih=>
  intro v0 k;cases k with
  |@agg _ _ eu kl k=>
   refine .agg hl fun i c v h1 h2=>?_
   ·have hi:i<eu.size:=by have:=(zza.1 h1).1;omega
    exact ih i c v h1 h2 (k i c eu[i] h1 (by simp[hi]))
 |aZ hl _ ih=>
  intro v0 k;cases k with
  |@aZ _ _ eu kl k=>
   refine .aZ hl fun i c v h1 h2=>?_
   ·have hi:i<eu.size:=by have:=(zza.1 h1).1;omega
    exact ih i c v h1 h2 (k i c eu[i] h1 (by simp[hi]))
 |fn hl _ eM _ ih ih'=>
  intro v0 k;cases k with
  |@fn _ _ _ _ fa0 ca0 kl k kl' k'=>
   refine .fn hl (fun i c v h1 h2=>?_) eM fun i c v h1 h2=>?_
   ·have hi:i<fa0.size:=by have:=(zza.1 h1).1;omega
    exact ih i c v h1 h2 (k i c fa0[i] h1 (by simp[hi]))
   have hi:i<ca0.size:=by have:=(zza.1 h1).1;omega
   exact ih' i c v h1 h2 (k' i c ca0[i] h1 (by simp[hi]))
 |ptr h=>exact fun k=>by cases k with|ptr k=>exact .ptr (DJ k h)
 |bs h hl hh hs=>exact fun k=>by cases k with|bs k _ _ _=>exact .bs (DJ k h) hl hh hs
 |ep cv hb hc h _=>exact fun _=>.ep cv hb hc h
 |sl b off sz cv hcap hnil ha hsz hc h aT _=>exact fun _=>.sl b off sz cv hcap hnil ha hsz hc h (Sb aT)
def cN.only{x:AV}{o o0:Obj}(h:cN w' γ' x o)(h0:cN w γ x o0):cN w' (γ.only γ') x o:=by
 unfold cN at h;split at h
 ·rename_i kn kvs es clock;cases o0<;>try exact h0.elim
  rename_i es0 anK;obtain⟨h1,h2,h3⟩:=h;obtain⟨k1,k2,k3⟩:=h0;refine⟨h1,h2,fun i k a e q1 q2=>?_⟩;obtain⟨p1,p2,p3,p4⟩:=h3 i k a e q1 q2;have hi:i<es0.size:=by have:=(zza.1 q1).1;omega
  exact⟨p1,p2,p3,p4.only (k3 i k a es0[i] q1 (by simp[hi])).2.2.2⟩
 ·rename_i mid n seen mb Oy sn st;cases o0<;>try exact h0.elim
  rename_i mp0 s0 a0 b0;cases mp0<;>try exact h0.elim
  exact⟨lD h0.1 h.1,h.2⟩
 exact h.elim
def Idle(a:AV):Prop:=∀(w:World)(γ:G)(v:Value),aC w γ a v->aC w γ.cT a v
def Idle.bool(b:Bool):Idle (.bool b):=fun w γ v h=>by rw[h.bB];exact .bool b
def Idle.int(k:IntKind)(n:Int):Idle (.int k n):=fun w γ v h=>by rw[h.aI];exact .int k n
def Idle.str(s:ByteArray):Idle (.str s):=fun w γ v h=>by rw[h.cB];exact .str s
def Idle.agg{cs:List AV}(h:∀c∈cs,Idle c):Idle (.agg cs):=fun w γ v k=>by
 cases k with
 |agg hl k=>exact .agg hl fun i c v h1 h2=>h c (zzac h1) w γ v (k i c v h1 h2)
def Idle.aZ{cs:List AV}(h:∀c∈cs,Idle c):Idle (.aZ cs):=fun w γ v k=>by
 cases k with
 |aZ hl k=>exact .aZ hl fun i c v h1 h2=>h c (zzac h1) w γ v (k i c v h1 h2)
def Idle.sl{rt:Rt}{rows:List (List AV)}(h:∀i s,rt≠.own i s):Idle (.sl rt rows):=fun w γ v k=>by
 cases k with
 |sl b off sz cv hcap hnil ha hsz hc hr aT=>
  refine .sl b off sz cv hcap hnil ha hsz hc hr ?_;cases rt with
  |own i s=>exact absurd rfl (h i s)
  |_=>exact aT
def Idle.ro(rows:List (List AV)):Idle (.sl .ro rows):=Idle.sl fun _ _ h=>by cases h
def Idle.nil(rows:List (List AV)):Idle (.sl .nil rows):=Idle.sl fun _ _ h=>by cases h
def Idle.full(rows:List (List AV)):Idle (.sl .full rows):=Idle.sl fun _ _ h=>by cases h
def Z1(cells:List AV):Prop:=(∀c∈cells,Idle c/\Qw c=true)\/∃kn kvs,cells=[.aL kn kvs]/\∀p∈kvs,Idle p.2
def Idle.rep{a:AV}(h:Idle a){v:Value}(hr:aC w' γ' a v):aC w' (γ.only γ') a v:=aC.gK (γ:=γ.only γ') (h w' γ' v hr)
def au.only{m m1:AM}{ex:List (List AV)}(hm:au N w0 aq γ w m.B m.L)(gi:au N w0 aq γ' w' ({m1 with boxes:=m1.boxes++ex}:AM).B m1.L)(e:eP w γ w' γ')
  (aH:m1.boxes.length=m.boxes.length)(hL:m1.lens=m.lens)(hk:∀(id:Nat)(cells:List AV),m1.boxes[id]?=some cells->m.boxes[id]?=some cells\/Z1 cells):au N w0 aq (γ.only γ') w' m1.B m1.L:=by
 have hB:∀{id:Nat}{cells:List AV},m1.B id=some cells->({m1 with boxes:=m1.boxes++ex}:AM).B id=some cells:=fun{id cells}h=>by
  simp only[AM.B]at h |-
  rw[zzag (zza.1 h).1];exact h
 have hB1:∀{id:Nat}{cells:List AV},m.B id=some cells->∃nZ,m1.B id=some nZ:=fun{id cells}h=>by
  have:=(zza.1 h).1;exact⟨_,zzae zE⟩
 have pY:∀{id:Nat},(γ.β id).isSome->∃b cells nZ,γ.β id=some b/\γ'.β id=some b/\m.B id=some cells/\m1.B id=some nZ:=fun{id}h=>by
  obtain⟨b,hb⟩:=zzci.1 h;obtain⟨_,_,_,_,c,hc⟩:=hm.β id b hb;obtain⟨c1,fN⟩:=hB1 hc;exact⟨b,c,c1,hb,e.β id b hb,hc,fN⟩
 refine⟨w0.st _ _ _ _ gi.bs ⟨rfl,rfl,rfl,zzab _,fun _ _ _=>rfl,fun _ _ _ h=>⟨h,rfl⟩,fun b hb=>.inl ?_,fun _ _ h=>.inl h⟩,gi.hN,gi.aq,gi.robd,fun id cells b hb h1=>?_,fun id b hb=>?_,fun i i' b h h'=>?_,gi.own,gi.oinj,fun b hb=>?_,fun id b hb=>?_,fun i i' b h h'=>?_,gi.len,gi.cur0⟩
 ·obtain⟨i,hi⟩|hb|hb|⟨i,hi⟩:=hb
  ·exact .inl ⟨i,(Ub hi).2⟩
  ·exact .inr (.inl hb)
  ·exact .inr (.inr (.inl hb))
  exact .inr (.inr (.inr ⟨i,(Qbc hi).2⟩))
 ·obtain⟨h2,h3⟩:=Ub h1;obtain⟨b0,c0,_,g1,g2,g3,_⟩:=pY h2;rw[h3]at g2;cases g2;obtain⟨arr,e',q1,q2,q3⟩:=gi.box id cells b (hB hb) h3;refine⟨arr,e',q1,⟨q2.1,fun i c v hi hv=>?_⟩,q3⟩;rcases hk id cells hb with hk|hk|⟨kn,kvs,rfl,_⟩
  ·obtain⟨eu,_,_,k2,_⟩:=hm.box id cells b hk g1
   have ai:i<eu.size:=by
    have h5:=(zza.1 hi).1;have h6:=k2.1;simp at h6;omega
   exact(q2.2 i c v hi hv).only (k2.2 i c eu[i] hi (by simp[ai]))
  ·exact(hk c (zzac hi)).1.rep (q2.2 i c v hi hv)
  have:=q2.2 i c v hi hv;cases i with
  |zero=>cases hi;cases this
  |succ i=>cases hi
 ·obtain⟨h2,h3⟩:=Ub hb;obtain⟨b0,c0,c1,_,_,_,g4⟩:=pY h2;obtain⟨q1,q2,q3,q4,_⟩:=gi.β id b h3;exact⟨q1,q2,q3,q4,c1,g4⟩
 ·obtain⟨h2,h3⟩:=Ub h;obtain⟨h4,h5⟩:=Ub h';obtain⟨_,_,c,_,_,_,g3⟩:=pY h2;obtain⟨_,_,c',_,_,_,g3'⟩:=pY h4;have:=gi.inj i i' b h3 h5;rw[hB g3,hB g3']at this;rw[g3,g3'];exact this
 ·obtain⟨q1,q2,q3,q4,q5⟩:=gi.sp b hb;exact⟨q1,q2,q3,fun i hi=>q4 i (Ub hi).2,q5⟩
 ·obtain⟨h2,h3⟩:=Qbc hb;obtain⟨b0,dV⟩:=zzci.1 h2;obtain⟨q1,q2,q3,q4,q5,q6,q8,x,o,q7,q9,q10⟩:=gi.mm id b h3;obtain⟨_,_,_,_,_,_,_,x0,o0,k7,k9,k10⟩:=hm.mm id b0 dV;obtain⟨c1,fN⟩:=hB1 k7;have hx:c1=[x]:=by rw[hB fN]at q7;cases q7;rfl
  subst hx;refine⟨q1,q2,q3,fun i hi=>q4 i (Ub hi).2,q5,q6,by simp[G.only,q8],x,o,fN,q9,?_⟩;rcases hk id [x] fN with hk|hk|⟨kn,kvs,hx,hk⟩
  ·have:x=x0:=by
    have k7':m.boxes[id]?=some [x0]:=k7;rw[hk]at k7';cases k7';rfl
   subst this;exact q10.only k10
  ·have:=(hk x zd).2;cases x<;>cases o<;>first|exact q10.elim|(simp[Qw]at this)
  cases hx;cases o<;>try exact q10.elim
  obtain⟨h4,h5,h6⟩:=q10;refine⟨h4,h5,fun i k a e s1 s2=>?_⟩;obtain⟨p1,p2,p3,p4⟩:=h6 i k a e s1 s2;exact⟨p1,p2,p3,(hk (k,a) (zzac s1)).rep p4⟩
 exact gi.minj i i' b (Qbc h).2 (Qbc h').2
def eP.only(e:eP w γ w' γ'):eP w γ w' (γ.only γ'):=
 ⟨e.size,e.ro,fun id b h=>DJ h (e.β id b h),e.cur,fun id b h=>lD h (e.mm id b h),e.lp,e.own,e.sp,e.ss⟩
def an.forget{f:FuncId}{as:List AV}{m:AM}{K:AV->AM->Prop}
  (
   h:an P gl Y f as m fun r m'=>∃m1 ex,m'={m1 with boxes:=m1.boxes++ex}/\m1.boxes.length=m.boxes.length/\m1.lens=m.lens/\
   (∀(id:Nat)(cells:List AV),m1.boxes[id]?=some cells->m.boxes[id]?=some cells\/Z1 cells)/\Idle r/\K r m1):an P gl Y f as m K:=by
 refine⟨h.1,fun N w0 aq γ w vs hm hl hg hy hr=>CallsIn.mono (h.2 N w0 aq γ w vs hm hl hg hy hr) ?_⟩;rintro en w' ⟨v,γ',r,m',rfl,g1,g2,g3,g4,m1,ex,rfl,g5,g6,g7,g8,g9⟩;exact⟨v,γ.only γ',r,m1,rfl,g1.only,hm.only g2 g1 g5 g6 g7,g3,g8.rep g4,g9⟩
def an.read{f:FuncId}{as:List AV}{m:AM}{K:AV->Prop}(h:an P gl Y f as m fun r m'=>∃ex,m'={m with boxes:=m.boxes++ex}/\Idle r/\K r):an P gl Y f as m fun r m'=>m'=m/\K r:=by
 refine an.forget ⟨h.1,fun N w0 aq γ w vs hm hl hg hy hr=>CallsIn.mono (h.2 N w0 aq γ w vs hm hl hg hy hr) ?_⟩;rintro en w' ⟨v,γ',r,m',rfl,g1,g2,g3,g4,ex,rfl,g5,g6⟩;exact⟨v,γ',r,_,rfl,g1,g2,g3,g4,m,ex,rfl,rfl,rfl,fun _ _ h=>.inl h,g5,rfl,g6⟩
end
open Go Go.RowKit
def G.akF(γ:G):G:={γ with own:=fun _=>none,cur:=fun _=>0}
def G.dg(n:Nat)(γ γ':G):G:={γ.only γ' with own:=fun i=>if i<n then γ'.own i else none,cur:=fun i=>if i<n then γ'.cur i else 0}
def cz(a:AV):Prop:=∀(w:World)(γ:G)(v:Value),aC w γ a v->aC w γ.akF a v
def cz.bool(b:Bool):cz (.bool b):=fun w γ v h=>by rw[h.bB];exact .bool b
def cz.int(k:IntKind)(n:Int):cz (.int k n):=fun w γ v h=>by rw[h.aI];exact .int k n
def cz.str(s:ByteArray):cz (.str s):=fun w γ v h=>by rw[h.cB];exact .str s
def cz.aL(kn:Nat)(kvs:List (List Int×AV)):cz (.aL kn kvs):=fun w γ v h=>by cases h
def cz.mp(id:Nat):cz (.mp id):=fun w γ v h=>by cases h with|mp h=>exact .mp h
def cz.sl{rt:Rt}{rows:List (List AV)}(h:∀i s,rt≠.own i s):cz (.sl rt rows):=fun w γ v k=>by
 cases k with
 |sl b off sz cv hcap hnil ha hsz hc hr aT=>
  refine .sl b off sz cv hcap hnil ha hsz hc hr ?_;cases rt with
  |own i s=>exact absurd rfl (h i s)
  |_=>exact aT
def L5(cells:List AV):Prop:=∀c∈cells,cz c/\∀kn kvs,c=.aL kn kvs->∀p∈kvs,cz p.2
def Kept(bs:List (List AV))(id:Nat)(cq cells:List AV):Prop:=
 (cq=cells/\bs[id]?=some cells/\L5 cells)\/(cq=cells/\∀c∈cells,Idle c/\Qw c=true)\/
 ∃(kn:Nat)(L6 kvs:List (List Int×AV)),cq=[.aL kn L6]/\cells=[.aL kn kvs]/\L6.length=kvs.length/\(∀p∈kvs,Idle p.2)/\∀(i:Nat)(k:List Int)(a:AV)(k':List Int)(a':AV),L6[i]?=some (k',a')->kvs[i]?=some (k,a)->k'=k/\Wk a' a
def Kept.empty{bs:List (List AV)}{id:Nat}{cq cells:List AV}(h:Kept bs id cq cells)(h':cq=[]):cells=[]:=by
 obtain⟨rfl,_⟩|⟨rfl,_⟩|⟨kn,L6,kvs,rfl,rfl,_⟩:=h
 ·exact h'
 ·exact h'
 cases h'
section
variable {N:Nat} {w0:fF} {aq:Nat->Nat->Prop} {γ γ':G} {w w':World} {P:Program} {gl:Nat->AV} {Y:YT}
def Sc(n:Nat):Ox w' (γ.only γ'.akF) w' (γ.dg n γ'):=
 ⟨zzab _,fun _ _ _ h=>⟨h,rfl⟩,fun _ _ h=>h,fun _=>zzbt _,fun _ _ h=>h,fun _ _ h=>h,fun _ _ _ h=>(by cases h),Sz.refl w'⟩
def aC.dg{a:AV}{v v0:Value}(n:Nat)(h:aC w' γ' a v)(no:cz a)(h0:aC w γ a v0):aC w' (γ.dg n γ') a v:=
 ((no _ _ _ h).only (γ:=γ) h0).fA (Sc n)
def Idle.atA{a:AV}(n:Nat)(h:Idle a){v:Value}(hr:aC w' γ' a v):aC w' (γ.dg n γ') a v:=aC.gK (γ:=γ.dg n γ') (h w' γ' v hr)
def cN.dg{x:AV}{o o0:Obj}(n:Nat)(h:cN w' γ' x o)(h0:cN w γ x o0)(no:∀kn kvs,x=.aL kn kvs->∀p∈kvs,cz p.2):cN w' (γ.dg n γ') x o:=by
 unfold cN at h;split at h
 ·rename_i kn kvs es clock;cases o0<;>try exact h0.elim
  rename_i es0 anK;obtain⟨h1,h2,h3⟩:=h;obtain⟨k1,k2,k3⟩:=h0;refine⟨h1,h2,fun i k a e q1 q2=>?_⟩;obtain⟨p1,p2,p3,p4⟩:=h3 i k a e q1 q2;have hi:i<es0.size:=by have:=(zza.1 q1).1;omega
  exact⟨p1,p2,p3,p4.dg n (no kn kvs rfl (k,a) (zzac q1)) (k3 i k a es0[i] q1 (by simp[hi])).2.2.2⟩
 ·rename_i mid n' seen mb Oy sn st;cases o0<;>try exact h0.elim
  rename_i mp0 s0 a0 b0;cases mp0<;>try exact h0.elim
  exact⟨lD h0.1 h.1,h.2⟩
 exact h.elim
def au.dg{m m1:AM}{mx ex:List (List AV)}{exl:List Nat}(hm:au N w0 aq γ w m.B m.L)(gi:au N w0 aq γ' w' (fun i=>(mx++ex)[i]?) (fun i=>(m.lens++exl)[i]?))(e:eP w γ w' γ')
  (aH:m1.boxes.length=m.boxes.length)(T7:mx.length=m.boxes.length)(hL:m1.lens=m.lens)
  (hk:∀(id:Nat)(cells cq:List AV),m1.boxes[id]?=some cells->mx[id]?=some cq->Kept m.boxes id cq cells):
  au N w0 aq (γ.dg m.lens.length γ') w' m1.B m1.L:=by
 have hB:∀{id:Nat}{cells:List AV},m1.B id=some cells->∃cq,mx[id]?=some cq/\(mx++ex)[id]?=some cq:=fun{id cells}h=>by
  have h':id<m1.boxes.length:=(zza.1 h).1;have h2:id<mx.length:=zE
  exact⟨mx[id],by simp[h2],by rw[zzag h2];simp[h2]⟩
 have hB1:∀{id:Nat}{cells:List AV},m.B id=some cells->∃nZ,m1.B id=some nZ:=fun{id cells}h=>by
  have:=(zza.1 h).1;exact⟨_,zzae zE⟩
 have pY:∀{id:Nat},(γ.β id).isSome->∃b cells nZ,γ.β id=some b/\γ'.β id=some b/\m.B id=some cells/\m1.B id=some nZ:=fun{id}h=>by
  obtain⟨b,hb⟩:=zzci.1 h;obtain⟨_,_,_,_,c,hc⟩:=hm.β id b hb;obtain⟨c1,fN⟩:=hB1 hc;exact⟨b,c,c1,hb,e.β id b hb,hc,fN⟩
 have xS:∀{id b:Nat},(γ.dg m.lens.length γ').own id=some b->id<m.lens.length/\γ'.own id=some b:=fun{id b}h=>by
  have h:(if id<m.lens.length then γ'.own id else none)=some b:=h;split at h
  ·exact⟨by assumption,h⟩
  cases h
 refine⟨w0.st _ _ _ _ gi.bs ⟨rfl,rfl,rfl,zzab _,fun _ _ _=>rfl,fun _ _ _ h=>⟨h,rfl⟩,fun b hb=>.inl ?_,fun _ _ h=>.inl h⟩,gi.hN,gi.aq,gi.robd,fun id cells b hb h1=>?_,fun id b hb=>?_,fun i i' b h h'=>?_,fun id b hb=>?_,fun i i' b h h'=>gi.oinj i i' b (xS h).2 (xS h').2,fun b hb=>?_,fun id b hb=>?_,fun i i' b h h'=>?_,fun id n hn=>?_,fun id hn=>?_⟩
 ·obtain⟨i,hi⟩|⟨i,hi⟩|hb|⟨i,hi⟩:=hb
  ·exact .inl ⟨i,(Ub hi).2⟩
  ·exact .inr (.inl ⟨i,(xS hi).2⟩)
  ·exact .inr (.inr (.inl hb))
  exact .inr (.inr (.inr ⟨i,(Qbc hi).2⟩))
 ·obtain⟨h2,h3⟩:=Ub h1;obtain⟨b0,c0,_,g1,g2,g3,_⟩:=pY h2;rw[h3]at g2;cases g2;obtain⟨cq,fN,zJ⟩:=hB hb;obtain⟨arr,e',q1,q2,q3⟩:=gi.box id cq b zJ h3;rcases hk id cells cq hb fN with⟨rfl,hk,no⟩|⟨rfl,aK⟩|⟨kn,L6,kvs,rfl,rfl,_⟩
  ·refine⟨arr,e',q1,⟨q2.1,fun i c v hi hv=>?_⟩,q3⟩;obtain⟨eu,_,_,k2,_⟩:=hm.box id cq b hk g1
   have ai:i<eu.size:=by
    have h5:=(zza.1 hi).1;have h6:=k2.1;simp at h6;omega
   exact(q2.2 i c v hi hv).dg _ (no c (zzac hi)).1 (k2.2 i c eu[i] hi (by simp[ai]))
  ·exact⟨arr,e',q1,⟨q2.1,fun i c v hi hv=>(aK c (zzac hi)).1.atA _ (q2.2 i c v hi hv)⟩,q3⟩
  refine⟨arr,e',q1,⟨by simpa using q2.1,fun i c v hi hv=>?_⟩,q3⟩;cases i with
  |zero=>have:=q2.2 0 _ v rfl hv;cases this
  |succ i=>cases hi
 ·obtain⟨h2,h3⟩:=Ub hb;obtain⟨b0,c0,c1,_,_,_,g4⟩:=pY h2;obtain⟨q1,q2,q3,q4,_⟩:=gi.β id b h3;exact⟨q1,q2,q3,fun id' h=>q4 id' (xS h).2,c1,g4⟩
 ·obtain⟨h2,h3⟩:=Ub h;obtain⟨h4,h5⟩:=Ub h';obtain⟨_,_,c,_,_,_,g3⟩:=pY h2;obtain⟨_,_,c',_,_,_,g3'⟩:=pY h4;obtain⟨d,d1,d2⟩:=hB g3;obtain⟨d',d1',d2'⟩:=hB g3';have:=gi.inj i i' b h3 h5;simp only[d2,d2']at this
  have em:∀{id:Nat}{c d:List AV},m1.B id=some c->mx[id]?=some d->d=[]->c=[]:=fun{id c d}h1 h2 h3=>by
   exact(hk id c d h1 h2).empty h3
  obtain h|h|h:=this
  ·exact .inl (by rw[g3,em g3 d1 (by simpa using h)])
  ·exact .inr (.inl (by rw[g3',em g3' d1' (by simpa using h)]))
  exact .inr (.inr h)
 ·obtain⟨h1,h2⟩:=xS hb;obtain⟨q1,q2,_⟩:=gi.own id b h2;refine⟨q1,q2,m.lens[id],?_⟩;simp only[AM.L,hL];exact zzae h1
 ·obtain⟨q1,q2,q3,q4,q5⟩:=gi.sp b hb;exact⟨q1,q2,q3,fun i hi=>q4 i (Ub hi).2,fun i hi=>q5 i (xS hi).2⟩
 ·obtain⟨h2,h3⟩:=Qbc hb;obtain⟨b0,dV⟩:=zzci.1 h2;obtain⟨q1,q2,q3,q4,q5,q6,q8,x,o,q7,q9,q10⟩:=gi.mm id b h3;obtain⟨_,_,_,_,_,_,_,x0,o0,k7,k9,k10⟩:=hm.mm id b0 dV;obtain⟨c1,fN⟩:=hB1 k7;obtain⟨cq,d1,d2⟩:=hB fN;have hx:cq=[x]:=by rw[d2]at q7;cases q7;rfl
  subst hx
  have hβ:(γ.dg m.lens.length γ').β id=none:=by
   show(if(γ.β id).isSome then γ'.β id else none)=none;rw[q8];split<;>rfl
  refine⟨q1,q2,q3,fun i hi=>q4 i (Ub hi).2,fun i hi=>q5 i (xS hi).2,q6,hβ,?_⟩;rcases hk id c1 [x] fN d1 with⟨rfl,hk,no⟩|⟨rfl,aK⟩|⟨kn,L6,kvs,h1,rfl,h4,aK,h5⟩
  ·refine⟨x,o,fN,q9,?_⟩
   have:x=x0:=by
    have k7':m.boxes[id]?=some [x0]:=k7;rw[hk]at k7';cases k7';rfl
   subst this;exact q10.dg _ k10 (no x zd).2
  ·have:=(aK x zd).2;cases x<;>cases o<;>first|exact q10.elim|(simp[Qw]at this)
  cases h1;cases o<;>try exact q10.elim
  obtain⟨g4,g5,g6⟩:=q10;refine⟨_,_,fN,q9,g4,zE,fun i k a e s1 s2=>?_⟩;have di:=(zza.1 s1).1;obtain⟨k',a',oW⟩:∃k' a',L6[i]?=some (k',a'):=⟨_,_,zzae zE⟩;obtain⟨p1,p2,p3,p4⟩:=g6 i k' a' e oW s2;obtain⟨rfl,r2⟩:=h5 i k a k' a' oW s1;exact⟨p1,p2,p3,(aK _ (zzac s1)).atA _ (r2 _ _ _ p4)⟩
 ·exact gi.minj i i' b (Qbc h).2 (Qbc h').2
 ·have hn:m.lens[id]?=some n:=by rw[<- hL];exact hn
  have ai:=(zza.1 hn).1;have:=gi.len id n (by show(m.lens++exl)[id]?=some n;rw[zzag ai];exact hn);show(if id<m.lens.length then γ'.cur id else 0)=n;rw[if_pos ai];exact this
 have hn:m.lens[id]?=none:=by rw[<- hL];exact hn
 have bz:=zzgt.1 hn;show(if id<m.lens.length then γ'.cur id else 0)=0;rw[if_neg zE]
def eP.dg{m:AM}(hm:au N w0 aq γ w m.B m.L)(e:eP w γ w' γ'):eP w γ w' (γ.dg m.lens.length γ'):=by
 have ho:∀id b,γ.own id=some b->id<m.lens.length:=fun id b h=>by
  obtain⟨_,_,n,hn⟩:=hm.own id b h;exact(zza.1 hn).1
 have hc:∀id,¬id<m.lens.length->γ.cur id=0:=fun id h=>hm.cur0 id (zzgt.2 zE);refine⟨e.size,e.ro,fun id b h=>DJ h (e.β id b h),fun id=>?_,fun id b h=>lD h (e.mm id b h),e.lp,fun id b h1 h2=>?_,e.sp,e.ss⟩
 ·show γ.cur id<=if id<m.lens.length then γ'.cur id else 0;split
  ·exact e.cur id
  rename_i h;rw[hc id h];exact zzab _
 have ai:=ho id b h2;have h1:(if id<m.lens.length then γ'.cur id else 0)=γ.cur id:=h1;rw[if_pos ai]at h1;obtain⟨a1,a2,a3⟩:=e.own id b h1 h2;refine⟨?_,a2,a3⟩;show(if id<m.lens.length then γ'.own id else none)=some b;rw[if_pos ai];exact a1
def an.mono{f:FuncId}{as:List AV}{m:AM}{K K':AV->AM->Prop}(h:an P gl Y f as m K)(hk:∀r m',K r m'->K' r m'):an P gl Y f as m K':=by
 refine⟨h.1,fun N w0 aq γ w vs hm hl hg hy hr=>CallsIn.mono (h.2 N w0 aq γ w vs hm hl hg hy hr) ?_⟩;rintro en w' ⟨v,γ',r,m',g0,g1,g2,g3,g4,g5⟩;exact⟨v,γ',r,m',g0,g1,g2,g3,g4,hk _ _ g5⟩
end
open Go Go.RowKit
end Go.Abs
