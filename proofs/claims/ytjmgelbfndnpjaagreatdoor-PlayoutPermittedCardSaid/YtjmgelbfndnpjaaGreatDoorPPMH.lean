import Derived.Test.YtjmgelbfndnpjaaGreatDoorPPMF
set_option linter.unusedVariables false
set_option linter.unusedSimpArgs false
namespace Go.Abs
open Go Go.RowKit
def AM.wr (m:AM) (id:Nat) (cs:List AV):AM:={ m with boxes:=m.boxes.set id cs }
theorem wr_B (m:AM) (id:Nat) (cs:List AV) {c:List AV} (h:m.boxes[id]? = some c):(m.wr id cs).B=fun i=>if i=id then some cs else m.B i:=by
 funext i
 simp only [AM.B,AM.wr]
 have hlt:id < m.boxes.length:=(List.getElem?_eq_some_iff.1 h).1
 by_cases hi:i=id
 ·subst hi;simp [hlt]
 ·rw [List.getElem?_set_ne (fun h=>hi h.symm),if_neg hi]
def intCells (zs:List Int):List AV:=zs.map (AV.int .i64)
theorem EffY.of_calls {P:Program} {gl:Nat->AV} {Y:YT} {f:FuncId} {xs:List AV} {m:AM} {K:AV->AM->Prop} (hc:callable P f)
  (h:∀ (N:Nat) (w0:Bas) (ro0:Nat->Nat->Prop) (γ:G) (w:World) (vs:List Value),MSim N w0 ro0 γ w m.B m.L->LSim γ w m->RepL w γ xs vs ->
   Calls P f vs.toArray w fun e w'=>∃ v γ' r m',e=.returned v/\EvR w γ w' γ'/\MSim N w0 ro0 γ' w' m'.B m'.L/\LSim γ' w' m'/\Rep w' γ' r v/\K r m'):EffY P gl Y f xs m K :=
 ⟨hc,fun N w0 ro0 γ w vs hm hl _ _ hr=>(callsIn_wide (n:=0)).2 (h N w0 ro0 γ w vs hm hl hr)⟩
theorem rep_tup0 {w:World} {γ:G}:Rep w γ (.tup []) (.tuple #[]):=.tup rfl fun i c v h=>by simp at h
end Go.Abs
namespace Go.Abs
open Go Go.RowKit
abbrev I (n:Int):AV:=.int .i64 n
section
variable {H:Type} {P:Program} {n:Nat} {t e:TypeId} {x:DataW H}
theorem Zc {k:IntKind} (hu:P.underlying t=some (.int k)) (h:Typed P (n+1) t x):∃ m,x=.lit (.int k m)/\(Lit.int k m).wf=true:=by
 unfold Typed at h
 rw [hu] at h
 cases x with
 | lit l=>cases l<;>first | (cases h;done) | (obtain ⟨rfl,h⟩:=h;exact ⟨_,rfl,h⟩)
 | _=>cases h
theorem typed_slice (hu:P.underlying t=some (.slice e)) (h:Typed P (n+1) t x):x=.nil\/∃ elems spare,x=.slice elems spare/\elems.length<=maxLen/\∀ y∈elems,Typed P n e y:=by
 unfold Typed at h
 rw [hu] at h
 cases x<;>first | (cases h;done) | exact .inl rfl | exact .inr ⟨_,_,rfl,h.1,h.2⟩
theorem Jw {fs:Array Field} (hu:P.underlying t=some (.struct fs)) (h:Typed P (n+1) t x):∃ parts,x=.agg parts/\parts.length=fs.size/\∀ p∈fs.toList.zip parts,Typed P n p.1.type p.2:=by
 unfold Typed at h
 rw [hu] at h
 cases x<;>first | (cases h;done) | exact ⟨_,rfl,h.1,h.2⟩
theorem Ve {k:IntKind} (hu:P.underlying t=some (.int k)) (k':IntKind) (m:Int):avs P (n+1) t (.lit (.int k' m):DataW H)=[.int k' m]:=by simp only [avs,hu]
theorem avs_nil (hu:P.underlying t=some (.slice e)):avs P (n+1) t (.nil:DataW H)=[.sl .nil []]:=by simp only [avs,hu]
theorem avs_sl (hu:P.underlying t=some (.slice e)) (l sp:List (DataW H)):avs P (n+1) t (.slice l sp)=[.sl .nn (l.map (avs P n e))]:=by simp only [avs,hu]
theorem Ux {fs:Array Field} (hu:P.underlying t=some (.struct fs)) (l:List (DataW H)):avs P (n+1) t (.agg l)=(fs.toList.zip l).flatMap fun p=>avs P n p.1.type p.2:=by simp only [avs,hu]
theorem avs_array {k:Nat} (hu:P.underlying t=some (.array k e)) (l:List (DataW H)):avs P (n+1) t (.agg l)=l.flatMap (avs P n e):=by simp only [avs,hu]
theorem arg_agg {d:Nat} (h:Ub P t=true):argOf P d t x=.agg (avs P d t x):=by unfold argOf;rw [h];rfl
theorem arg_one {d:Nat} (h:Ub P t=false) {a:AV} (ha:avs P d t x=[a]):argOf P d t x=a:=by unfold argOf;rw [h,ha];rfl
end
def Wk (a b:AV):Prop:=∀ (w:World) (γ:G) (v:Value),Rep w γ a v->Rep w γ b v
theorem Wk.refl (a:AV):Wk a a:=fun _ _ _ h=>h
theorem Wk.sl (rt:Rt) (rows:List (List AV)):Wk (.sl rt rows) (.sl .ro rows):=fun w γ v h=>by
 cases h with
 | sl b off sz cv hcap hnil ha hsz hc hr hrt=>exact .sl b off sz cv hcap hnil ha hsz hc hr trivial
def WkL:List AV->List AV->Prop
 | [],[]=>True
 | a::r,b::s=>Wk a b/\WkL r s
 | _,_=>False
theorem WkL.rep {w:World} {γ:G}:∀ {l l':List AV} {vs:List Value},WkL l l'->RepL w γ l vs->RepL w γ l' vs
 | [],[],_,_,h=>h
 | [],_::_,_,h,_=>by cases h
 | _::_,[],_,h,_=>by cases h
 | a::l,b::l',[],_,h=>by have:=h.1;simp at this
 | a::l,b::l',v::vs,hk,h=>by
  have h0:Rep w γ a v:=h.2 0 a v rfl rfl
  have hs:RepL w γ l vs:=⟨by have:=h.1;simpa using this,fun i x y h1 h2=>h.2 (i+1) x y (by simpa using h1) (by simpa using h2)⟩
  exact RepL.cons (hk.1 w γ v h0) (WkL.rep hk.2 hs)
theorem Yh {P:Program} {gl:Nat->AV} {f:FuncId} {l l':List AV} {r:AV} (h:Pure P gl f l' r) (hk:WkL l l'):Pure P gl f l r :=
 ⟨h.1,fun ro w vs hgl hr=>h.2 ro w vs hgl (hk.rep hr)⟩
theorem Wk.rows {α:Type} (l:List α) (f g:α->List AV) (hl:∀ a,(g a).length=(f a).length) (hc:∀ (a:α) (j:Nat) (c':AV),(g a)[j]? = some c'->∃ c,(f a)[j]? = some c/\Wk c c'):Wk (.sl .ro (l.map f)) (.sl .ro (l.map g)):=fun w γ v h=>by
 have key:∀ (i j:Nat) (c':AV),Qr (l.map g) i j=some c'->∃ c,Qr (l.map f) i j=some c/\Wk c c':=fun i j c' h=>by
  unfold Qr at h |-
  rw [List.getElem?_map] at h |-
  cases hi:l[i]? with
  | none=>rw [hi] at h;cases h
  | some a =>
   rw [hi] at h
   simpa using hc a j c' (by simpa using h)
 obtain ⟨a,cap,b,off,sz,cv,rfl,s1,_⟩:=h.sl_inv
 have e1:(l.map f).length=(l.map g).length:=by simp
 rw [e1]
 refine SlV.mk' (b:=b) (off:=off) (sz:=sz) (cv:=cv) ⟨by rw [<- e1];exact s1.hcap,s1.hnil,fun hn=>s1.at_ (by simpa using hn),fun row hr=>?_,fun i j c' h=>?_,fun i j c' h=>?_⟩ trivial
 ·simp at hr
  obtain ⟨x,hx,rfl⟩:=hr
  rw [hl x]
  exact s1.hsz _ (by simp;exact ⟨x,hx,rfl⟩)
 ·obtain ⟨c,h1,h2⟩:=key i j c' h
  exact s1.cell i j c h1
 ·obtain ⟨c,h1,h2⟩:=key i j c' h
  exact h2 _ _ _ (s1.rep i j c h1)
theorem Yc {P:Program} {gl:Nat->AV} {f:FuncId} {l:List AV} {r r':AV} (h:Pure P gl f l r) (hk:Wk r r'):Pure P gl f l r' :=
 ⟨h.1,fun ro w vs hg hr=>(h.2 ro w vs hg hr).mono fun _ _ ⟨v,h1,h2,h3⟩=>⟨v,h1,h2,hk _ _ _ h3⟩⟩
theorem wk_agg {l l':List AV} (h:WkL l l'):Wk (.agg l) (.agg l'):=fun w γ v hr=>by
 have key:∀ {l l':List AV},WkL l l'->l.length=l'.length/\∀ (i:Nat) (c':AV),l'[i]? = some c'->∃ c,l[i]? = some c/\Wk c c':=by
  intro l
  induction l with
  | nil=>intro l' h;cases l' with
   | nil=>exact ⟨rfl,fun i c' h=>by simp at h⟩
   | cons _ _=>exact h.elim
  | cons a l ih=>intro l' h;cases l' with
   | nil=>exact h.elim
   | cons b l' =>
    obtain ⟨h1,h2⟩:=ih h.2
    refine ⟨by simp [h1],fun i c' hc=>?_⟩
    cases i with
    | zero=>simp at hc;subst hc;exact ⟨a,rfl,h.1⟩
    | succ i=>simpa using h2 i c' (by simpa using hc)
 obtain ⟨h1,h2⟩:=key h
 cases hr with
 | agg hl hc =>
  refine .agg (by omega) fun i c' v hc' hv=>?_
  obtain ⟨c,g1,g2⟩:=h2 i c' hc'
  exact g2 _ _ _ (hc i c v g1 hv)
end Go.Abs
namespace Go.Abs
open Go Go.RowKit
section
variable {B l:List (List AV)} {i j:Nat}
theorem Qh (h:i < B.length):Qf (B++l) i=Qf B i:=by simp [Qf,List.getD_eq_getElem?_getD,-Zq,List.getElem?_append_left h]
theorem Vq (v:List AV) (h:i < B.length):(B++l).set i v=B.set i v++l:=by rw [List.set_append_left _ _ h]
theorem Zu (v:List AV) (h:i≠j):Qf (B.set i v) j=Qf B j:=by simp [Qf,List.getD_eq_getElem?_getD,-Zq,List.getElem?_set_ne h]
theorem Vn (v:List AV) (h:i < B.length):Qf (B.set i v) i=v:=by simp [Qf,List.getD_eq_getElem?_getD,-Zq,List.getElem?_set_self h]
theorem rowN_get (h:i < B.length):B[i]? = some (Qf B i):=by
 rw [List.getElem?_eq_getElem h];simp [Qf,List.getD_eq_getElem?_getD,-Zq,h]
end
def Keep (S:Nat->Prop) (B B':List (List AV)):Prop:=B.length<=B'.length/\∀ j,j < B.length->¬ S j->Qf B' j=Qf B j
theorem Keep.refl (S:Nat->Prop) (B:List (List AV)):Keep S B B:=⟨Nat.le_refl _,fun _ _ _=>rfl⟩
theorem Keep.app {S:Nat->Prop} {B B':List (List AV)} (h:Keep S B B') (l:List (List AV)):Keep S B (B'++l) :=
 ⟨by have:=h.1;simp;omega,fun j hj hs=>by rw [Qh (by have:=h.1;omega)];exact h.2 j hj hs⟩
theorem Keep.set {S:Nat->Prop} {B B':List (List AV)} (h:Keep S B B') {i:Nat} (hi:S i\/B.length<=i) (v:List AV):Keep S B (B'.set i v) :=
 ⟨by have:=h.1;simpa using this,fun j hj hs=>by rw [Zu v (by rintro rfl;rcases hi with hi | hi;exact hs hi;omega)];exact h.2 j hj hs⟩
theorem Keep.trans {S:Nat->Prop} {B B' B'':List (List AV)} (h:Keep S B B') (k:Keep (fun i=>S i\/B.length<=i) B' B''):Keep S B B'' :=
 ⟨Nat.le_trans h.1 k.1,fun j hj hs=>by rw [k.2 j (by have:=h.1;omega) (by rintro (h | h);exact hs h;omega)];exact h.2 j hj hs⟩
theorem Keep.mono {S S':Nat->Prop} {B B':List (List AV)} (h:Keep S B B') (hs:∀ i,S i->S' i):Keep S' B B':=⟨h.1,fun j hj hn=>h.2 j hj fun k=>hn (hs j k)⟩
def Qd (s:Int×Int):List AV:=[I s.1,I s.2]
def fl2:List (Int×Int)->List AV
 | []=>[]
 | s::r=>I s.1::I s.2::fl2 r
@[simp] theorem fl2_nil:fl2 []=[]:=rfl
@[simp] theorem fl2_cons (s:Int×Int) (r:List (Int×Int)):fl2 (s::r)=I s.1::I s.2::fl2 r:=rfl
theorem Vb:∀ l,(fl2 l).length=l.length*2
 | []=>rfl
 | s::r=>by simp [Vb r];omega
theorem Wd:∀ a b,fl2 (a++b)=fl2 a++fl2 b
 | [],_=>rfl
 | s::r,b=>by simp [Wd r b]
theorem fl2_drop:∀ (l:List (Int×Int)) (i:Nat),(fl2 l).drop (i*2)=fl2 (l.drop i)
 | [],i=>by simp
 | s::r,0=>by simp
 | s::r,i+1=>by rw [show (i+1)*2=i*2+1+1 by omega];simp [fl2_drop r i]
theorem fl2_get {l:List (Int×Int)} {i:Nat} {s:Int×Int} (h:l[i]? = some s):(fl2 l).drop (i*2)=I s.1::I s.2::fl2 (l.drop (i+1)):=by
 rw [fl2_drop]
 have hlt:=(List.getElem?_eq_some_iff.1 h).1
 rw [List.drop_eq_getElem_cons hlt]
 have:l[i]=s:=(List.getElem?_eq_some_iff.1 h).2
 rw [this,fl2_cons]
theorem fl2_get1 {l:List (Int×Int)} {i:Nat} {s:Int×Int} (h:l[i]? = some s):(fl2 l).drop (i*2+1)=I s.2::fl2 (l.drop (i+1)):=by
 rw [<- List.drop_drop,fl2_get h];rfl
theorem fl2_set:∀ (l:List (Int×Int)) (i:Nat) (s:Int×Int),i < l.length->setA (fl2 l) (i*2) [I s.1,I s.2]=fl2 (l.set i s)
 | [],i,s,h=>by simp at h
 | t::r,0,s,h=>by simp [setA]
 | t::r,i+1,s,h=>by
  have ih:=fl2_set r i s (by simpa using h)
  simp only [setA] at ih |-
  rw [show (i+1)*2=i*2+1+1 by omega,show i*2+1+1+1=i*2+1+1+1 from rfl]
  simp only [fl2_cons,List.set_cons_succ]
  rw [ih]
theorem fl2_set1:∀ (l:List (Int×Int)) (i:Nat) (s:Int×Int) (y:Int),l[i]? = some s->(fl2 l).set (i*2+1) (I y)=fl2 (l.set i (s.1,y))
 | [],i,s,y,h=>by simp at h
 | t::r,0,s,y,h=>by simp at h;subst h;simp
 | t::r,i+1,s,y,h=>by
  have ih:=fl2_set1 r i s y (by simpa using h)
  rw [show (i+1)*2+1=i*2+1+1+1 by omega]
  simp only [fl2_cons,List.set_cons_succ]
  rw [ih]
theorem fl2_chunk:∀ (l:List (Int×Int)) (r:List AV),chunk 2 l.length (fl2 l++r)=l.map Qd
 | [],_=>rfl
 | s::l,r=>by simp [Qd,fl2_chunk l r]
theorem Qaz (l:List (Int×Int)):chunk 2 l.length (fl2 l)=l.map Qd:=by simpa using fl2_chunk l []
theorem fl2_ok (l:List (Int×Int)):okRow (fl2 l)=true:=by
 induction l with
 | nil=>rfl
 | cons s r ih=>simp only [fl2_cons,okRow,List.all_cons,Bool.and_eq_true] at ih |-;exact ⟨rfl,rfl,ih⟩
theorem fl2_flat (l:List (Int×Int)):(l.map Qd).flatten=fl2 l:=by
 induction l with
 | nil=>rfl
 | cons s r ih=>simp [Qd,ih]
theorem fl2_fills (n:Nat):fills n [I 0,I 0]=fl2 (List.replicate n (0,0)):=by
 induction n with
 | zero=>rfl
 | succ n ih=>rw [fills,ih];rfl
theorem Zm {l:List (Int×Int)} {i:Nat} {s:Int×Int} (h:l[i]? = some s):Qf (l.map Qd) i=[I s.1,I s.2]:=Qv (by simp [h,Qd])
theorem setA_app:∀ (bs:List AV) (a b:List AV),bs.length=b.length->setA (a++b) a.length bs=a++bs
 | [],a,b,h=>by cases b with
  | nil=>rfl
  | cons _ _=>simp at h
 | x::bs,a,[],h=>by simp at h
 | x::bs,a,y::b,h=>by
  have ih:=setA_app bs (a++[x]) b (by simpa using h)
  rw [setA]
  have:(a++y::b).set a.length x=a++[x]++b:=by simp
  rw [this]
  simpa using ih
theorem setA_pre (bs a r:List AV) (h:bs.length=a.length):setA (a++r) 0 bs=bs++r:=by
 have gen:∀ (bs pre a r:List AV),bs.length=a.length->setA (pre++a++r) pre.length bs=pre++bs++r:=by
  intro bs
  induction bs with
  | nil=>intro pre a r h;cases a with
   | nil=>rfl
   | cons _ _=>simp at h
  | cons x bs ih=>intro pre a r h;cases a with
   | nil=>simp at h
   | cons y a =>
    rw [setA]
    have e:(pre++y::a++r).set pre.length x=pre++[x]++a++r:=by simp
    rw [e]
    have:=ih (pre++[x]) a r (by simpa using h)
    rw [show (pre++[x]).length=pre.length+1 by simp] at this
    rw [this];simp
 have:=gen bs [] a r h
 simpa using this
end Go.Abs
namespace Go.Abs
open Go Go.RowKit
def FoldS (S:List (List AV)->Prop) (y:List AV->AM->(Bool->AM->Prop)->Prop) (K:AM->Prop):List (List AV)->AM->Prop
 | [],m=>∀ m',Ext m m'->K m'
 | x::xs,m=>∀ m',Ext m m'->∀ K':Bool->AM->Prop,(∀ m'',S m''.boxes->FoldS S y K xs m''->K' true m'')->(∀ m'',(∀ m3,Ext m'' m3->K m3)->K' false m'')->y x m' K'
theorem FoldS.ext {S:List (List AV)->Prop} {y:List AV->AM->(Bool->AM->Prop)->Prop} {K:AM->Prop} {xs:List (List AV)} {m m':AM} (h:FoldS S y K xs m) (e:Ext m m'):FoldS S y K xs m':=by
 cases xs with
 | nil=>exact fun m2 e2=>h m2 (e.trans e2)
 | cons x xs=>exact fun m2 e2=>h m2 (e.trans e2)
end Go.Abs
namespace Go.Abs
open Go Go.RowKit
def ExtO (O:Nat->Prop) (m m':AM):Prop:=m.boxes.length<=m'.boxes.length/\(∀ j,j < m.boxes.length->¬ O j->Qf m'.boxes j=Qf m.boxes j)/\(∃ lx,m'.lens=m.lens++lx)/\∀ l,m.st l≠.gone->m'.st l=m.st l
theorem Ext.toO {m m':AM} (h:Ext m m') (O:Nat->Prop):ExtO O m m':=by
 obtain ⟨⟨bx,h1⟩,h2,h3⟩:=h
 exact ⟨by rw [h1];simp,fun j hj _=>by rw [h1,Qh hj],h2,h3⟩
theorem ExtO.refl (O:Nat->Prop) (m:AM):ExtO O m m:=(Ext.refl m).toO O
theorem ExtO.trans {O:Nat->Prop} {m m' m'':AM} (h:ExtO O m m') (k:ExtO O m' m''):ExtO O m m'':=by
 obtain ⟨h1,h2,⟨c,h3⟩,h4⟩:=h
 obtain ⟨k1,k2,⟨c',k3⟩,k4⟩:=k
 exact ⟨Nat.le_trans h1 k1,fun j hj ho=>by rw [k2 j (by omega) ho,h2 j hj ho],⟨c++c',by rw [k3,h3,List.append_assoc]⟩,fun l hl=>by rw [k4 l (by rw [h4 l hl];exact hl),h4 l hl]⟩
theorem ExtO.gone {O:Nat->Prop} {m m':AM} (h:ExtO O m m') (l:Nat):ExtO O (m.at_ l .gone) (m'.at_ l .gone) :=
 ⟨h.1,h.2.1,h.2.2.1,fun l' hl'=>by
  by_cases e:l'=l
  ·subst e;simp at hl'
  ·simp only [at_st,upd,e,if_false] at hl' |-;exact h.2.2.2 l' hl'⟩
def SameO (O:Nat->Prop) (m m':AM):Prop:=m.boxes.length<=m'.boxes.length/\∀ j,O j->Qf m'.boxes j=Qf m.boxes j
theorem SameO.refl (O:Nat->Prop) (m:AM):SameO O m m:=⟨Nat.le_refl _,fun _ _=>rfl⟩
def OU (O:Nat->Prop) (n n':Nat) (j:Nat):Prop:=O j\/(n<=j/\j < n')
theorem OU_OU {O:Nat->Prop} {a b c:Nat} (h1:a<=b) (h2:b<=c):OU (OU O a b) b c=OU O a c:=by
 funext j
 unfold OU
 apply propext
 constructor
 ·rintro ((h | h) | h)
  ·exact .inl h
  ·exact .inr ⟨h.1,by omega⟩
  ·exact .inr ⟨by omega,h.2⟩
 ·rintro (h | h)
  ·exact .inl (.inl h)
  ·rcases Nat.lt_or_ge j b with h3 | h3
   ·exact .inl (.inr ⟨h.1,h3⟩)
   ·exact .inr ⟨h3,h.2⟩
theorem ExtO.transU {O:Nat->Prop} {m m' m'':AM} (h:ExtO O m m') (k:ExtO (OU O m.boxes.length m'.boxes.length) m' m''):ExtO O m m'':=by
 obtain ⟨h1,h2,⟨c,h3⟩,h4⟩:=h
 obtain ⟨k1,k2,⟨c',k3⟩,k4⟩:=k
 exact ⟨Nat.le_trans h1 k1,fun j hj ho=>by rw [k2 j (by omega) (by rintro (h | h);exact ho h;omega),h2 j hj ho],⟨c++c',by rw [k3,h3,List.append_assoc]⟩,fun l hl=>by rw [k4 l (by rw [h4 l hl];exact hl),h4 l hl]⟩
def FoldO (y:List AV->AM->(Bool->AM->Prop)->Prop) (K:AM->Prop):List (List AV)->(Nat->Prop)->AM->Prop
 | [],O,m=>∀ m',ExtO O m m'->K m'
 | x::xs,O,m=>∀ m',ExtO O m m'->∀ K':Bool->AM->Prop,(∀ m'',SameO (OU O m.boxes.length m'.boxes.length) m' m''->FoldO y K xs (OU O m.boxes.length m'.boxes.length) m''->K' true m'') ->
   (∀ m'',(∀ m3,ExtO (OU O m.boxes.length m'.boxes.length) m'' m3->K m3)->K' false m'')->y x m' K'
theorem FoldO.ext {O:Nat->Prop} {y:List AV->AM->(Bool->AM->Prop)->Prop} {K:AM->Prop} {xs:List (List AV)} {m m':AM} (h:FoldO y K xs O m) (e:ExtO O m m'):FoldO y K xs (OU O m.boxes.length m'.boxes.length) m':=by
 cases xs with
 | nil=>exact fun m2 e2=>h m2 (e.transU e2)
 | cons x xs =>
  intro m2 e2
  rw [OU_OU e.1 e2.1]
  exact h m2 (e.transU e2)
def IterO (P:Program) (gl:Nat->AV) (f:FuncId) (first cap:List AV) (xs:List (List AV)):Prop :=
 ∀ (Y:YT) (l:Nat) (m:AM) (K:AM->Prop),FoldO (Y l) K xs (fun _=>False) m->EffY P gl Y f (first++[.yld l]++cap) m fun _ m'=>K m'
theorem vc_rfuncO {P:Program} {gl:Nat->AV} {orc:Nat->FuncId->List AV->AV} {Y:YT} {s:AS} {Q:Exit->AS->Prop} {g:Opd} {ps:List Nat} {asg body:SC} {f:FuncId} {first cap:List AV} {xs:List (List AV)}
  (hg:ev gl s.T g=.fn f first cap) (hit:IterO P gl f first cap xs) (hlen:∀ x∈xs,x.length=ps.length) (I:(Nat->Prop)->Nat->AM->Prop) (X:(Nat->Prop)->Exit->AM->Prop)
  (h0:I (fun _=>False) 0 s.m)
  (hI:∀ O i m m',I O i m->ExtO O m m'->I (OU O m.boxes.length m'.boxes.length) i m') (hX:∀ O ex m m',X O ex m->ExtO O m m'->X O ex m')
  (hb:∀ (O:Nat->Prop) (l i:Nat) (m:AM) (x:List AV),(∀ j,O j->s.m.boxes.length<=j/\j < m.boxes.length)->s.m.boxes.length<=m.boxes.length->s.m.st l=.gone->m.st l=.ready->I O i (m.at_ l .gone)->xs[i]? = some x->∀ K':Exit->AS->Prop,
   (∀ s',SameO O m s'.m->I O (i+1) (s'.m.at_ l .gone)->K' .normal s')->(∀ s',m.boxes.length<=s'.m.boxes.length->X O .ret (s'.m.at_ l .gone)->K' .ret s')->(∀ id s',m.boxes.length<=s'.m.boxes.length->X O (.exit id) (s'.m.at_ l .gone)->K' (.exit id) s') ->
   vc P gl orc Y asg ⟨Jc s.T ps x,m⟩ (Qasg l fun s'=>vc P gl orc Y body s' K'))
  (hend:∀ O m,I O xs.length m->Q .normal ⟨s.T,m⟩) (hex:∀ O ex m,X O ex m->Q ex ⟨s.T,m⟩):vc P gl orc Y (.rfunc g ps asg body) s Q:=by
 simp only [vc,hg]
 intro hl
 generalize hln:s.m.ln=l at hl
 refine hit _ l s.m.begin_ (fun m'=>Qend l s.T m' Q (m'.st l)) ?_
 have hrd:∀ {O:Nat->Prop} {m m':AM},m.st l=.ready->ExtO O m m'->m'.st l=.ready:=fun h e=>by rw [e.2.2.2 l (by rw [h];simp),h]
 have key:∀ (n i:Nat) (O:Nat->Prop) (m:AM),i+n=xs.length->I O i (m.at_ l .gone)->(∀ j,O j->s.m.boxes.length<=j/\j < m.boxes.length)->s.m.boxes.length<=m.boxes.length->m.st l=.ready ->
   FoldO (Yin Y l ps.length (fun args m K=>vc P gl orc Y asg ⟨Jc s.T ps args,m⟩ (Qasg l fun s'=>vc P gl orc Y body s' (Qrnd l K))) l) (fun m'=>Qend l s.T m' Q (m'.st l)) (xs.drop i) O m:=by
  intro n
  induction n with
  | zero =>
   intro i O m hi hIm hOb hmm hm
   rw [List.drop_eq_nil_of_le (by omega)]
   intro m' e
   simp only [hrd hm e,Qend]
   obtain rfl:i=xs.length:=by omega
   exact hend _ _ (hI _ _ _ _ hIm (e.gone l))
  | succ n ih =>
   intro i O m hi hIm hOb hmm hm
   have hlt:i < xs.length:=by omega
   rw [List.drop_eq_getElem_cons hlt]
   intro m' e K' hT hF
   have hmm':s.m.boxes.length<=m'.boxes.length:=Nat.le_trans hmm e.1
   have hOb':∀ j,OU O m.boxes.length m'.boxes.length j->s.m.boxes.length<=j/\j < m'.boxes.length:=by
    rintro j (h | h)
    ·exact ⟨(hOb j h).1,Nat.lt_of_lt_of_le (hOb j h).2 e.1⟩
    ·exact ⟨by omega,h.2⟩
   have hI':=hI _ _ _ _ hIm (e.gone l)
   simp only [Vw] at hI'
   simp only [Yin,if_true]
   refine ⟨hrd hm e,hlen _ (List.getElem_mem hlt),?_⟩
   refine hb (OU O m.boxes.length m'.boxes.length) l i m' xs[i] hOb' hmm' hl (hrd hm e) hI' (List.getElem?_eq_getElem hlt) (Qrnd l K') (fun s' hS' hI'=>?_) (fun s' hle hQ=>?_) fun id s' hle hQ=>?_
   ·refine hT _ (by simpa [SameO] using hS') (ih (i+1) _ _ (by omega) ?_ (fun j hj=>⟨(hOb' j hj).1,by simpa using Nat.lt_of_lt_of_le (hOb' j hj).2 hS'.1⟩) (by simpa using Nat.le_trans hmm' hS'.1) (by simp))
    simpa using hI'
   ·refine hF _ fun m3 e3=>?_
    have h3:m3.st l=.done .ret:=by have:=e3.2.2.2 l (by simp);simpa using this
    simp only [h3]
    exact hex _ _ _ (hX _ _ _ _ hQ (by have:=e3.gone l;simpa using this))
   ·refine hF _ fun m3 e3=>?_
    have h3:m3.st l=.done (.exit id):=by have:=e3.2.2.2 l (by simp);simpa using this
    simp only [h3]
    exact hex _ _ _ (hX _ _ _ _ hQ (by have:=e3.gone l;simpa using this))
 have hI0:I (fun _=>False) 0 (s.m.begin_.at_ l .gone):=by
  have:=hI (fun _=>False) 0 s.m (s.m.begin_.at_ l .gone) h0 ⟨by simp [AM.begin_],fun j _ _=>by simp [AM.begin_],⟨[],by simp [AM.begin_]⟩,fun l' hl'=>by
   have hne:l'≠l:=by rintro rfl;exact hl' hl
   simp [AM.begin_,hln,upd,hne]⟩
  have e:OU (fun _=>False) s.m.boxes.length (s.m.begin_.at_ l .gone).boxes.length=fun _=>False:=by
   funext j;simp [OU,AM.begin_]
  rw [e] at this
  exact this
 have:=key xs.length 0 (fun _=>False) s.m.begin_ (by simp) hI0 (fun _ h=>h.elim) (by simp [AM.begin_]) (by simp [AM.begin_,hln])
 simpa using this
end Go.Abs
