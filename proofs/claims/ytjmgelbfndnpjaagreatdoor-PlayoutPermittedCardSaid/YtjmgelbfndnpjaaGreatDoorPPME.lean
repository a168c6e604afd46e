import Derived.Test.YtjmgelbfndnpjaaGreatDoorPPMD
import Derived.RangeFuncNested
set_option linter.unusedVariables false
set_option linter.unusedSimpArgs false
namespace Go.Abs
open Go Go.RowKit
def Zv (o:Oper):List Nat:=(o.after.toList.filter fun e=>Region.binds .any e).map (·.on)
def waitsB (ops:Array Oper) (i j:Nat):Bool :=
 match ops[i]? with
 | some o=>(Zv o).contains j
 | none=>false
def tailOK (ops:Array Oper) (i:Nat):Bool:=(List.range i).all fun j=>(List.range (i - j)).any fun d=>waitsB ops (i - d) j
def dsplitFrom (ops:Array Oper):Nat->Nat
 | 0=>0
 | k+1=>if tailOK ops k then dsplitFrom ops k else k+1
def dsplit (ops:Array Oper):Nat:=dsplitFrom ops ops.size
def Vm (ops:Array Oper) (i:Nat):Option Nat:=(ops[i]?).bind (·.dst)
def Qam (ops:Array Oper) (p:Nat):Bool :=
 decide (p<=ops.size)&&(List.range ops.size).all fun i =>
  match ops[i]? with
  | none=>false
  | some o=>(Zv o).all (fun j=>decide (j < i)) &&
   (if i < p then
    ((o.looksAt ops).all fun t=>(List.range p).all fun j=>!(Vm ops j==some t)||j==i||(decide (j < i)&&(Zv o).contains j)) &&
    ((List.range i).all fun j=>(Vm ops j).isNone||!(Vm ops j==o.dst))
   else tailOK ops i)
section
variable (P:Program) (gl:Nat->AV) (orc:Nat->FuncId->List AV->AV)
def dop (o:SO) (T:List AV) (m:AM) (nb:List (List AV)):Prop×AV×List (List AV) :=
 match o.guard with
 | none=>match o.op with
  | .alloc zs=>(zs.all Qs=true,.ptr (m.boxes.length+nb.length) 0,nb++[zs])
  | .box x=>(bare (ev gl T x)=true/\(cellsOf (ev gl T x)).all Qs=true,.ptr (m.boxes.length+nb.length) 0,nb++[cellsOf (ev gl T x)])
  | .mks sz bytes zs l c=>(match ev gl T l,ev gl T c with
   | .int _ l,.int _ c=>((0<=l/\l<=c/\bytes*c<=281474976710656/\c<=9223372036854775807)/\zs.length=sz/\zs.all Qs=true,.bs (m.boxes.length+nb.length) 0 l.toNat sz,nb++[fills c.toNat zs])
   | _,_=>(False,.junk,nb))
  | op=>((rop P gl orc (ev gl T) m o.dst op).1,(rop P gl orc (ev gl T) m o.dst op).2,nb)
 | some (some t,want)=>match gvw want (T.getD t .junk) with
  | some gw=>(gok gl T gw (gxs o.op o.xs)/\(gw=true->(rop P gl orc (evG gl T o.op) m o.dst o.op).1),.gd gw (rop P gl orc (evG gl T o.op) m o.dst o.op).2,nb)
  | none=>(False,.junk,nb)
 | some (none,_)=>(False,.junk,nb)
def vcD (Y:YT) (l2:List SO) (K:AS->Prop):List SO->List AV->AM->List (List AV)->Prop
 | [],T,m,nb=>Xy P gl orc Y l2 ⟨T,{ m with boxes:=m.boxes++nb }⟩ K
 | o::r,T,m,nb=>(dop P gl orc o T m nb).1/\vcD Y l2 K r (put T o.dst (dop P gl orc o T m nb).2.1) m (dop P gl orc o T m nb).2.2
def Qy (ops:Array Oper) (T0:List AV) (m:AM):Nat->List AV×List (List AV)
 | 0=>(T0,[])
 | k+1=>match ops[k]? with
  | some o=>(put (Qy ops T0 m k).1 o.dst (dop P gl orc (Xl P ops o) (Qy ops T0 m k).1 m (Qy ops T0 m k).2).2.1,(dop P gl orc (Xl P ops o) (Qy ops T0 m k).1 m (Qy ops T0 m k).2).2.2)
  | none=>Qy ops T0 m k
end
section
variable {N:Nat} {w0:Bas} {r:Option Nat} {ro0:Nat->Nat->Prop} {S:G×World} {Y:YT} {P:Program} {gl:Nat->AV} {orc:Nat->FuncId->List AV->AV} {ops:Array Oper} {T0:List AV} {m:AM} {p:Nat}
theorem Uu {k:Nat} {o:Oper} (h:ops[k]? = some o):Qy P gl orc ops T0 m (k+1) =
  (put (Qy P gl orc ops T0 m k).1 o.dst (dop P gl orc (Xl P ops o) (Qy P gl orc ops T0 m k).1 m (Qy P gl orc ops T0 m k).2).2.1,(dop P gl orc (Xl P ops o) (Qy P gl orc ops T0 m k).1 m (Qy P gl orc ops T0 m k).2).2.2):=by
 simp only [Qy,h]
theorem vcD_all (l2:List SO) (K:AS->Prop) (hp:p<=ops.size):∀ (n k:Nat),k+n=p->vcD P gl orc Y l2 K (((ops.toList.take p).drop k).map (Xl P ops)) (Qy P gl orc ops T0 m k).1 m (Qy P gl orc ops T0 m k).2 ->
  (∀ i o,k<=i->i < p->ops[i]? = some o->(dop P gl orc (Xl P ops o) (Qy P gl orc ops T0 m i).1 m (Qy P gl orc ops T0 m i).2).1) /\
  Xy P gl orc Y l2 ⟨(Qy P gl orc ops T0 m p).1,{ m with boxes:=m.boxes++(Qy P gl orc ops T0 m p).2 }⟩ K
 | 0,k,hk,h=>by
  obtain rfl:k=p:=by omega
  have:(ops.toList.take k).drop k=[]:=List.drop_eq_nil_of_le (by simp;omega)
  rw [this] at h
  exact ⟨fun i o h1 h2=>by omega,h⟩
 | n+1,k,hk,h=>by
  have hlt:k < ops.size:=by omega
  have ho:ops[k]? = some ops[k]:=Array.getElem?_eq_getElem hlt
  have hd:(ops.toList.take p).drop k=ops[k]::(ops.toList.take p).drop (k+1):=by
   rw [List.drop_eq_getElem_cons (by simp;omega)];simp
  rw [hd,List.map_cons] at h
  obtain ⟨h1,h2⟩:=h
  have hsu:=Uu (P:=P) (gl:=gl) (orc:=orc) (T0:=T0) (m:=m) ho
  have:=vcD_all l2 K hp n (k+1) (by omega) (by rw [hsu];exact h2)
  refine ⟨fun i o hi hip hio=>?_,this.2⟩
  rcases Nat.lt_or_ge k i with hki | hki
  ·exact this.1 i o hki hip hio
  ·obtain rfl:i=k:=by omega
   rw [ho] at hio
   cases hio
   exact h1
theorem length_put (T:List AV) (d:Option Nat) (x:AV):(put T d x).length=T.length:=by cases d<;>simp [put]
theorem dsts_len:∀ k,(Qy P gl orc ops T0 m k).1.length=T0.length
 | 0=>rfl
 | k+1=>by
  cases h:ops[k]? with
  | none=>simp only [Qy,h];exact dsts_len k
  | some o=>rw [Uu h,length_put];exact dsts_len k
theorem Kz {T:List AV} {d:Option Nat} {x:AV} {t:Nat} (h:d≠some t):(put T d x).getD t .junk=T.getD t .junk:=by
 cases d with
 | none=>rfl
 | some d=>simp only [put,List.getD];rw [List.getElem?_set_ne (by rintro rfl;exact h rfl)]
theorem getD_put_same {T:List AV} {t:Nat} {x:AV} (h:t < T.length):(put T (some t) x).getD t .junk=x:=by
 simp [put,List.getD,h]
theorem Qba {t:Nat}:∀ k,(∀ j,j < k->Vm ops j≠some t)->(Qy P gl orc ops T0 m k).1.getD t .junk=T0.getD t .junk
 | 0,_=>rfl
 | k+1,h=>by
  cases ho:ops[k]? with
  | none=>simp only [Qy,ho];exact Qba k fun j hj=>h j (by omega)
  | some o =>
   rw [Uu ho,Kz (by have:=h k (by omega);simpa [Vm,ho] using this)]
   exact Qba k fun j hj=>h j (by omega)
theorem dsts_last {t k:Nat}:∀ n,(∀ j,k<=j->j < k+n->Vm ops j≠some t)->(Qy P gl orc ops T0 m (k+n)).1.getD t .junk=(Qy P gl orc ops T0 m k).1.getD t .junk
 | 0,_=>rfl
 | n+1,h=>by
  rw [<- Nat.add_assoc]
  cases ho:ops[k+n]? with
  | none=>simp only [Qy,ho];exact dsts_last n fun j h1 h2=>h j h1 (by omega)
  | some o =>
   rw [Uu ho,Kz (by have:=h (k+n) (by omega) (by omega);simpa [Vm,ho] using this)]
   exact dsts_last n fun j h1 h2=>h j h1 (by omega)
theorem dop_nb {o:Oper} {T:List AV} {nb:List (List AV)} :
  ((dop P gl orc (Xl P ops o) T m nb).2.2=nb)\/(∃ cells,(dop P gl orc (Xl P ops o) T m nb).2.2=nb++[cells]):=by
 unfold dop
 split
 ·split
  ·exact .inr ⟨_,rfl⟩
  ·exact .inr ⟨_,rfl⟩
  ·split
   ·exact .inr ⟨_,rfl⟩
   ·exact .inl rfl
  ·exact .inl rfl
 ·split
  ·exact .inl rfl
  ·exact .inl rfl
 ·exact .inl rfl
def nbl (P:Program) (gl:Nat->AV) (orc:Nat->FuncId->List AV->AV) (ops:Array Oper) (T0:List AV) (m:AM) (k:Nat):Nat:=(Qy P gl orc ops T0 m k).2.length
theorem dsts_nb (k:Nat):(Qy P gl orc ops T0 m (k+1)).2=(Qy P gl orc ops T0 m k).2\/∃ cells,(Qy P gl orc ops T0 m (k+1)).2=(Qy P gl orc ops T0 m k).2++[cells]:=by
 cases ho:ops[k]? with
 | none=>exact .inl (by simp only [Qy,ho])
 | some o=>rw [Uu ho];exact dop_nb
theorem nbl_step (k:Nat):nbl P gl orc ops T0 m (k+1)=nbl P gl orc ops T0 m k\/nbl P gl orc ops T0 m (k+1)=nbl P gl orc ops T0 m k+1:=by
 unfold nbl
 rcases dsts_nb (P:=P) (gl:=gl) (orc:=orc) (ops:=ops) (T0:=T0) (m:=m) k with h | ⟨c,h⟩
 ·rw [h];exact .inl rfl
 ·rw [h];exact .inr (by simp)
theorem nbl_mono {j:Nat}:∀ n,nbl P gl orc ops T0 m j<=nbl P gl orc ops T0 m (j+n)
 | 0=>Nat.le_refl _
 | n+1=>by
  have:=nbl_mono (j:=j) n
  rcases nbl_step (P:=P) (gl:=gl) (orc:=orc) (ops:=ops) (T0:=T0) (m:=m) (j+n) with h | h<;>rw [<- Nat.add_assoc]<;>omega
theorem nbl_le {i j:Nat} (h:i<=j):nbl P gl orc ops T0 m i<=nbl P gl orc ops T0 m j:=by
 have:=nbl_mono (P:=P) (gl:=gl) (orc:=orc) (ops:=ops) (T0:=T0) (m:=m) (j:=i) (j - i)
 rwa [show i+(j - i)=j by omega] at this
theorem nb_get {i:Nat}:∀ n {q:Nat} {c:List AV},(Qy P gl orc ops T0 m i).2[q]? = some c->(Qy P gl orc ops T0 m (i+n)).2[q]? = some c
 | 0,_,_,h=>h
 | n+1,q,c,h=>by
  have ih:=nb_get n h
  rw [<- Nat.add_assoc]
  rcases dsts_nb (P:=P) (gl:=gl) (orc:=orc) (ops:=ops) (T0:=T0) (m:=m) (i+n) with e | ⟨c',e⟩
  ·rw [e];exact ih
  ·rw [e,List.getElem?_append_left (List.getElem?_eq_some_iff.1 ih).1];exact ih
def Jr (P:Program) (gl:Nat->AV) (orc:Nat->FuncId->List AV->AV) (ops:Array Oper) (T0:List AV) (m:AM) (i:Nat):Bool:=nbl P gl orc ops T0 m (i+1)==nbl P gl orc ops T0 m i+1
theorem nbl_find {q:Nat}:∀ k,q < nbl P gl orc ops T0 m k->∃ i,i < k/\Jr P gl orc ops T0 m i=true/\nbl P gl orc ops T0 m i=q
 | 0,h=>by simp [nbl,Qy] at h
 | k+1,h=>by
  rcases Nat.lt_or_ge q (nbl P gl orc ops T0 m k) with h' | h'
  ·obtain ⟨i,h1,h2,h3⟩:=nbl_find k h'
   exact ⟨i,by omega,h2,h3⟩
  ·rcases nbl_step (P:=P) (gl:=gl) (orc:=orc) (ops:=ops) (T0:=T0) (m:=m) k with e | e
   ·omega
   ·exact ⟨k,by omega,by simp [Jr,e],by omega⟩
def Bof (P:Program) (gl:Nat->AV) (orc:Nat->FuncId->List AV->AV) (ops:Array Oper) (T0:List AV) (m:AM) (p:Nat) (listed:Array Bool) (id:Nat):Option (List AV) :=
 if id < m.boxes.length then m.boxes[id]?
 else if (List.range p).any fun i=>listed.getD i false&&(Jr P gl orc ops T0 m i&&decide (m.boxes.length+nbl P gl orc ops T0 m i=id)) then (Qy P gl orc ops T0 m p).2[id - m.boxes.length]? else none
def wr (ops:Array Oper) (p:Nat) (listed:Array Bool) (t:Nat):Bool:=(List.range p).any fun i=>listed.getD i false&&(Vm ops i==some t)
def At (P:Program) (gl:Nat->AV) (orc:Nat->FuncId->List AV->AV) (ops:Array Oper) (T0:List AV) (m:AM) (p:Nat) (listed:Array Bool) (t:Nat):AV :=
 if wr ops p listed t then (Qy P gl orc ops T0 m p).1.getD t .junk else T0.getD t .junk
structure InvA (N:Nat) (w0:Bas) (r:Option Nat) (ro0:Nat->Nat->Prop) (S:G×World) (Y:YT) (P:Program) (gl:Nat->AV) (orc:Nat->FuncId->List AV->AV) (ops:Array Oper) (T0:List AV) (m:AM) (p:Nat) (listed:Array Bool) (γ:G) (w:World) (a:Act):Prop where
 size:listed.size=ops.size
 tail:∀ i,p<=i->i < ops.size->listed.getD i true=false
 clo:∀ i o,listed.getD i false=true->ops[i]? = some o->∀ j∈Zv o,listed.getD j false=true
 mm:MSim N w0 ro0 γ w (Bof P gl orc ops T0 m p listed) m.L
 ls:LSim γ w m
 rd:Rdr r γ w
 tl:a.tmps.size=T0.length
 tt:∀ t,Rep w γ (At P gl orc ops T0 m p listed t) (a.tmps.getD t undef)
 d:Dfr S.2.heap.size γ w a.defers
 g:∀ g,Rep w γ.imm (gl g) (.pointer (some ⟨g,0,none⟩))
 y:YOK N w0 ro0 P Y γ w
 e:EvR S.2 S.1 w γ
theorem Za {listed:Array Bool} {i:Nat} {b:Bool} (h:i < listed.size):(listed.setIfInBounds i true).getD i b=true:=by
 simp [h]
theorem Qt {listed:Array Bool} {i j:Nat} {b:Bool} (h:j≠i):(listed.setIfInBounds i true).getD j b=listed.getD j b:=by
 simp [Array.getElem?_setIfInBounds_ne (Ne.symm h)]
theorem Bof_old {listed:Array Bool} {id:Nat} {cells:List AV} (h:m.boxes[id]? = some cells):Bof P gl orc ops T0 m p listed id=some cells:=by
 unfold Bof
 rw [if_pos (List.getElem?_eq_some_iff.1 h).1]
 exact h
theorem Bof_same {listed:Array Bool} {i:Nat} (hn:Jr P gl orc ops T0 m i=false):Bof P gl orc ops T0 m p (listed.setIfInBounds i true)=Bof P gl orc ops T0 m p listed:=by
 funext id
 unfold Bof
 congr 1
 have:((List.range p).any fun j=>(listed.setIfInBounds i true).getD j false&&(Jr P gl orc ops T0 m j&&decide (m.boxes.length+nbl P gl orc ops T0 m j=id))) =
   ((List.range p).any fun j=>listed.getD j false&&(Jr P gl orc ops T0 m j&&decide (m.boxes.length+nbl P gl orc ops T0 m j=id))):=by
  congr 1
  funext j
  by_cases hj:j=i
  ·subst hj;simp [hn]
  ·rw [Qt hj]
 rw [this]
theorem new_inj {i j:Nat} (hi:Jr P gl orc ops T0 m i=true) (hj:Jr P gl orc ops T0 m j=true) (h:nbl P gl orc ops T0 m i=nbl P gl orc ops T0 m j):i=j:=by
 simp only [Jr,beq_iff_eq] at hi hj
 rcases Nat.lt_trichotomy i j with h' | h' | h'
 ·have:=nbl_le (P:=P) (gl:=gl) (orc:=orc) (ops:=ops) (T0:=T0) (m:=m) (i:=i+1) (j:=j) h';omega
 ·exact h'
 ·have:=nbl_le (P:=P) (gl:=gl) (orc:=orc) (ops:=ops) (T0:=T0) (m:=m) (i:=j+1) (j:=i) h';omega
theorem Bof_fresh {listed:Array Bool} {i:Nat} (hn:Jr P gl orc ops T0 m i=true) (hl:listed.getD i false=false):Bof P gl orc ops T0 m p listed (m.boxes.length+nbl P gl orc ops T0 m i)=none:=by
 unfold Bof
 rw [if_neg (by omega),if_neg]
 intro h
 obtain ⟨j,_,h⟩:=List.any_eq_true.1 h
 simp only [Bool.and_eq_true,decide_eq_true_eq] at h
 obtain ⟨h1,h2,h3⟩:=h
 have:=new_inj h2 hn (by omega)
 subst this
 rw [hl] at h1;cases h1
theorem Bof_new {listed:Array Bool} {i:Nat} {cells:List AV} (hip:i < p) (hsz:i < listed.size) (hn:Jr P gl orc ops T0 m i=true) (hc:(Qy P gl orc ops T0 m p).2[nbl P gl orc ops T0 m i]? = some cells) :
  Bof P gl orc ops T0 m p (listed.setIfInBounds i true)=fun id=>if id=m.boxes.length+nbl P gl orc ops T0 m i then some cells else Bof P gl orc ops T0 m p listed id:=by
 funext id
 by_cases hid:id=m.boxes.length+nbl P gl orc ops T0 m i
 ·rw [if_pos hid]
  unfold Bof
  rw [if_neg (by omega),if_pos]
  ·rw [hid,Nat.add_sub_cancel_left];exact hc
  ·rw [List.any_eq_true]
   exact ⟨i,List.mem_range.2 hip,by rw [Za hsz,hn];simp [hid]⟩
 ·rw [if_neg hid]
  unfold Bof
  congr 1
  have:((List.range p).any fun j=>(listed.setIfInBounds i true).getD j false&&(Jr P gl orc ops T0 m j&&decide (m.boxes.length+nbl P gl orc ops T0 m j=id))) =
    ((List.range p).any fun j=>listed.getD j false&&(Jr P gl orc ops T0 m j&&decide (m.boxes.length+nbl P gl orc ops T0 m j=id))):=by
   congr 1
   funext j
   by_cases hj:j=i
   ·subst hj
    have:decide (m.boxes.length+nbl P gl orc ops T0 m j=id)=false:=by simp;omega
    simp [this]
   ·rw [Qt hj]
  rw [this]
theorem Bof_all {listed:Array Bool} (hall:∀ i,i < p->listed.getD i false=true):Bof P gl orc ops T0 m p listed=({ m with boxes:=m.boxes++(Qy P gl orc ops T0 m p).2 }:AM).B:=by
 funext id
 unfold Bof
 simp only [AM.B]
 split
 ·rename_i h;rw [List.getElem?_append_left h]
 ·rename_i h
  rw [List.getElem?_append_right (by omega)]
  split
  ·rfl
  ·rename_i hn
   rcases Nat.lt_or_ge (id - m.boxes.length) (Qy P gl orc ops T0 m p).2.length with hq | hq
   ·obtain ⟨i,h1,h2,h3⟩:=nbl_find (P:=P) (gl:=gl) (orc:=orc) (ops:=ops) (T0:=T0) (m:=m) (q:=id - m.boxes.length) p hq
    exfalso
    apply hn
    rw [List.any_eq_true]
    exact ⟨i,List.mem_range.2 h1,by rw [hall i h1,h2];simp;omega⟩
   ·rw [List.getElem?_eq_none hq]
theorem countP_lt {α:Type} {f g:α->Bool}:∀ {l:List α} {x:α},(∀ y,f y=true->g y=true)->x∈l->g x=true->f x=false->l.countP f < l.countP g
 | y::l,x,hfg,hx,hg,hf=>by
  have hle:l.countP f<=l.countP g:=List.countP_mono_left fun y _=>hfg y
  rw [List.countP_cons,List.countP_cons]
  rcases List.mem_cons.1 hx with rfl | hx
  ·rw [hg,hf];simp;omega
  ·have:=countP_lt hfg hx hg hf
   by_cases h1:f y=true
   ·rw [h1,hfg y h1];simp;omega
   ·have h1':f y=false:=by simpa using h1
    rw [h1']
    simp only [Bool.false_eq_true,if_false,Nat.add_zero]
    exact Nat.lt_of_lt_of_le this (Nat.le_add_right _ _)
def uc (ops:Array Oper) (listed:Array Bool):Nat:=(List.range ops.size).countP fun i=>!listed.getD i true
theorem uc_set {listed:Array Bool} {i:Nat} (hsz:listed.size=ops.size) (hi:i < ops.size) (hl:listed.getD i true=false):uc ops (listed.setIfInBounds i true) < uc ops listed:=by
 unfold uc
 refine countP_lt (x:=i) (fun j hj=>?_) (List.mem_range.2 hi) (by rw [hl];rfl) (by rw [Za (by omega)];rfl)
 by_cases hji:j=i
 ·subst hji;rw [hl];rfl
 ·rw [Qt hji] at hj;exact hj
theorem uc_zero {listed:Array Bool} (h:uc ops listed=0) {i:Nat} (hi:i < ops.size):listed.getD i true=true:=by
 unfold uc at h
 have:=List.countP_eq_zero.1 h i (List.mem_range.2 hi)
 simpa using this
theorem Xd {listed:Array Bool} {i:Nat} (hi:i < listed.size) (b b':Bool):listed.getD i b=listed.getD i b':=by simp [hi]
theorem Zg (h:Qam ops p=true):p<=ops.size/\∀ i o,ops[i]? = some o->(∀ j∈Zv o,j < i) /\
  (i < p->(∀ t∈o.looksAt ops,∀ j,j < p->Vm ops j=some t->j≠i->j < i/\j∈Zv o)/\(∀ j,j < i->∀ t,Vm ops j=some t->o.dst≠some t)) /\
  (p<=i->tailOK ops i=true):=by
 unfold Qam at h
 simp only [Bool.and_eq_true,decide_eq_true_eq,List.all_eq_true] at h
 obtain ⟨hp,h⟩:=h
 refine ⟨hp,fun i o ho=>?_⟩
 have hi:i < ops.size:=(Array.getElem?_eq_some_iff.1 ho).1
 have:=h i (List.mem_range.2 hi)
 simp only [ho,Bool.and_eq_true,List.all_eq_true,decide_eq_true_eq] at this
 obtain ⟨h1,h2⟩:=this
 refine ⟨h1,fun hip=>?_,fun hip=>?_⟩
 ·rw [if_pos hip] at h2
  simp only [Bool.and_eq_true,List.all_eq_true] at h2
  obtain ⟨h3,h4⟩:=h2
  refine ⟨fun t ht j hj hd hne=>?_,fun j hj t hd ho'=>?_⟩
  ·have:=h3 t ht j (List.mem_range.2 hj)
   simp [hd,hne] at this
   exact ⟨this.1,this.2⟩
  ·have:=h4 j (List.mem_range.2 hj)
   simp [hd,ho'] at this
 ·rw [if_neg (by omega)] at h2
  exact h2
def Clo (ops:Array Oper) (listed:Array Bool):Prop:=∀ i o,listed.getD i false=true->ops[i]? = some o->∀ j∈Zv o,listed.getD j false=true
theorem Clo.set {listed:Array Bool} (h:Clo ops listed) {i:Nat} {o:Oper} (ho:ops[i]? = some o) (hsz:i < listed.size) (haft:∀ j∈Zv o,listed.getD j false=true):Clo ops (listed.setIfInBounds i true):=by
 have hmono:∀ k,listed.getD k false=true->(listed.setIfInBounds i true).getD k false=true:=fun k hk=>by
  by_cases hik:i=k
  ·subst hik;exact Za hsz
  ·rw [Qt (Ne.symm hik)];exact hk
 intro k o' hk ho' j hj
 by_cases hik:i=k
 ·subst hik
  rw [ho] at ho'
  cases ho'
  exact hmono j (haft j hj)
 ·rw [Qt (Ne.symm hik)] at hk
  exact hmono j (h k o' hk ho' j hj)
theorem tail_all {listed:Array Bool} (hclo:Clo ops listed) {i:Nat} {o:Oper} (ho:ops[i]? = some o) (ht:tailOK ops i=true) (haft:∀ j∈Zv o,listed.getD j false=true):∀ (n j:Nat),j < i->i - j<=n->listed.getD j false=true
 | 0,j,h1,h2=>by omega
 | n+1,j,h1,h2=>by
  obtain ⟨d,hd,hw⟩:=List.any_eq_true.1 (List.all_eq_true.1 ht j (List.mem_range.2 h1))
  have hdl:=List.mem_range.1 hd
  unfold waitsB at hw
  split at hw
  ·rename_i o' ho'
   have hm:j∈Zv o':=by simpa using hw
   by_cases h0:d=0
   ·subst h0
    rw [Nat.sub_zero,ho] at ho'
    cases ho'
    exact haft j hm
   ·exact hclo (i - d) o' (tail_all hclo ho ht haft n (i - d) (by omega) (by omega)) ho' j hm
  ·cases hw
theorem mem_afters {o:Oper} {j:Nat}:j∈Zv o<->∃ e∈o.after,Region.binds .any e=true/\e.on=j:=by
 simp [Zv]
 constructor
 ·rintro ⟨e,⟨h1,h2⟩,rfl⟩;exact ⟨e,h1,h2,rfl⟩
 ·rintro ⟨e,h1,h2,rfl⟩;exact ⟨e,⟨h1,h2⟩,rfl⟩
theorem Je (hc:Qam ops p=true) {listed:Array Bool} (hsz:listed.size=ops.size):∀ (n i:Nat),i<=n->i < ops.size->listed.getD i true=false->∃ j,j∈Region.ready .any ops listed
 | 0,i,hin,hi,hl=>by
  obtain rfl:i=0:=by omega
  have ho:ops[0]? = some ops[0]:=Array.getElem?_eq_getElem hi
  refine ⟨0,mem_ready.2 ⟨hl,ops[0],ho,fun e he hb=>?_⟩⟩
  have:=((Zg hc).2 0 _ ho).1 e.on (mem_afters.2 ⟨e,he,hb,rfl⟩)
  omega
 | n+1,i,hin,hi,hl=>by
  by_cases hex:∃ j,j < i/\listed.getD j true=false
  ·obtain ⟨j,hj,hlj⟩:=hex
   exact Je hc hsz n j (by omega) (by omega) hlj
  ·have ho:ops[i]? = some ops[i]:=Array.getElem?_eq_getElem hi
   refine ⟨i,mem_ready.2 ⟨hl,ops[i],ho,fun e he hb=>?_⟩⟩
   have hlt:=((Zg hc).2 i _ ho).1 e.on (mem_afters.2 ⟨e,he,hb,rfl⟩)
   have:listed.getD e.on true=true:=by
    cases h:listed.getD e.on true with
    | true=>rfl
    | false=>exact absurd ⟨e.on,hlt,h⟩ hex
   rw [Xd (by omega) false true];exact this
theorem Jf (hc:Qam ops p=true) {listed:Array Bool} {i:Nat} (hr:i∈Region.ready .any ops listed):i < ops.size/\listed.getD i true=false/\∃ o,ops[i]? = some o/\∀ j∈Zv o,listed.getD j false=true:=by
 obtain ⟨h1,o,ho,h2⟩:=mem_ready.1 hr
 refine ⟨(Array.getElem?_eq_some_iff.1 ho).1,h1,o,ho,fun j hj=>?_⟩
 obtain ⟨e,he,hb,rfl⟩:=mem_afters.1 hj
 exact h2 e he hb
theorem tail_sound {Q:Exit->Act->World->Prop} {K:AS->Prop} (hQ:∀ γ w s a,K s->Sim N w0 r ro0 S P gl Y γ w s a->Q .normal a w) (hc:Qam ops p=true) :
  ∀ (fuel k:Nat) (listed:Array Bool) (γ:G) (w:World) (s:AS) (a:Act),p<=k->k<=ops.size->listed.size=ops.size->(∀ j,j < k->listed.getD j false=true)->(∀ j,k<=j->j < ops.size->listed.getD j true=false) ->
   uc ops listed<=fuel->Xy P gl orc Y ((ops.toList.drop k).map (Xl P ops)) s K->Sim N w0 r ro0 S P gl Y γ w s a->wpAnyIn (FW r) 0 P .any ops Q fuel listed a w:=by
 intro fuel
 induction fuel with
 | zero =>
  intro k listed γ w s a hpk hk hsz hlo hhi huc h hs
  have hkn:k=ops.size:=by
   rcases Nat.lt_or_ge k ops.size with h' | h'
   ·have:=uc_zero (Nat.le_zero.1 huc) h'
    rw [hhi k (Nat.le_refl _) h'] at this;cases this
   ·omega
  have hd:ops.toList.drop k=[]:=List.drop_eq_nil_of_le (by simp;omega)
  rw [hd] at h
  refine ⟨?_,hQ γ w s a h hs⟩
  rw [List.eq_nil_iff_forall_not_mem]
  intro i hi
  obtain ⟨hlt,hu,_⟩:=Jf hc hi
  have:=uc_zero (Nat.le_zero.1 huc) hlt
  rw [hu] at this;cases this
 | succ fuel ih =>
  intro k listed γ w s a hpk hk hsz hlo hhi huc h hs
  refine ⟨fun hr=>?_,fun i hi=>?_⟩
  ·have hkn:k=ops.size:=by
    rcases Nat.lt_or_ge k ops.size with h' | h'
    ·obtain ⟨j,hj⟩:=Je hc hsz k k (Nat.le_refl _) h' (hhi k (Nat.le_refl _) h')
     rw [hr] at hj;cases hj
    ·omega
   have hd:ops.toList.drop k=[]:=List.drop_eq_nil_of_le (by simp;omega)
   rw [hd] at h
   exact hQ γ w s a h hs
  ·obtain ⟨hlt,hu,o,ho,haft⟩:=Jf hc hi
   have hki:k<=i:=by
    rcases Nat.lt_or_ge i k with h' | h'
    ·have:=hlo i h'
     rw [Xd (by omega) false true,hu] at this;cases this
    ·exact h'
   have hik:i=k:=by
    rcases Nat.lt_or_ge k i with h' | h'
    ·have hclo:Clo ops listed:=fun x ox hx hox j hj=>by
      have hxk:x < k:=by
       rcases Nat.lt_or_ge x k with h1 | h1
       ·exact h1
       ·have hxs:x < ops.size:=(Array.getElem?_eq_some_iff.1 hox).1
        rw [Xd (by omega) false true,hhi x h1 hxs] at hx;cases hx
      have:=((Zg hc).2 x ox hox).1 j hj
      exact hlo j (by omega)
     have:=tail_all hclo ho (((Zg hc).2 i o ho).2.2 (by omega)) haft i k h' (by omega)
     rw [Xd (by omega) false true,hhi k (Nat.le_refl _) (by omega)] at this;cases this
    ·omega
   subst hik
   refine wpOpIn_mono ?_ (vcOps_step hlt hs h)
   rintro a' w' ⟨γ',s',hs',h'⟩
   refine ih (i+1) _ γ' w' s' a' (by omega) hlt (by simp [hsz]) (fun j hj=>?_) (fun j hj1 hj2=>?_) ?_ h' hs'
   ·rcases Nat.lt_or_ge j i with h' | h'
    ·rw [Qt (by omega)];exact hlo j h'
    ·obtain rfl:j=i:=by omega
     exact Za (by omega)
   ·rw [Qt (by omega)];exact hhi j (by omega) hj2
   ·have:=uc_set hsz hlt hu;omega
theorem mks_rep {P:Program} {w:World} {γ:G} {te:TypeId} {zs:List AV} {i:TypeInfo} {z:Value} {n:Nat} (hzr:RepL w γ zs z.cells.toList) (g5:zs.all Qs=true) (g4:zs.length=i.size) :
  RepP w γ (fills n zs) (madeCells z.cells (n*i.size)).toList/\∀ v∈(madeCells z.cells (n*i.size)).toList,v.oneCell'=true:=by
 have hone:=Yb hzr g5
 have hzl:z.cells.size=zs.length:=by have:=hzr.1;simp at this;omega
 refine ⟨⟨by simp [Yj,size_madeCells,g4],fun k c v j1 j2=>?_⟩,fun v hv=>?_⟩
 ·obtain ⟨q1,q2⟩:=fills_get j1
  have h0:0 < zs.length:=by
   rcases Nat.eq_zero_or_pos zs.length with h0 | h0
   ·simp [h0] at q1
   ·exact h0
  have hlt:k % zs.length < z.cells.size:=by rw [hzl];exact Nat.mod_lt _ h0
  have hv':v=z.cells[k % zs.length]:=by
   simp only [madeCells,Array.getElem?_toList,Array.getElem?_map] at j2
   rw [Array.getElem?_eq_getElem (by simp;rw [<- g4];exact q1)] at j2
   simp [hzl] at j2
   rw [<- j2,getElem!_pos z.cells _ hlt]
  subst hv'
  exact hzr.2 _ c _ q2 (by simp [hlt])
 ·simp [madeCells] at hv
  obtain ⟨k,hk,rfl⟩:=hv
  have h0:0 < z.cells.size:=by
   rcases Nat.eq_zero_or_pos z.cells.size with h0 | h0
   ·rw [h0] at hzl;rw [<- g4,<- hzl] at hk;simp at hk
   ·exact h0
  have hlt:k % z.cells.size < z.cells.size:=Nat.mod_lt _ h0
  rw [getElem!_pos z.cells _ hlt]
  exact hone _ (by simp)
theorem tr_mks {o:Oper} {sz bytes:Nat} {zs:List AV} {x y:Opd} (h:tr P o=.mks sz bytes zs x y):∃ t l c te i,o.op=.makeSlice t l c/\x=opd l/\y=opd c/\P.underlying t=some (.slice te)/\P.info? te=some i/\sz=i.size/\bytes=i.bytes/\zc P te=some zs:=by
 obtain ⟨dst,op,ty,pos,after,guard⟩:=o
 cases op
 case makeSlice t l c =>
  simp only [tr] at h
  split at h
  ·rename_i te hu
   split at h
   ·split at h<;>cases h
   ·rename_i i hi _
    split at h
    ·rename_i zs' hz;cases h;exact ⟨t,_,_,te,i,rfl,rfl,rfl,hu,hi,rfl,rfl,hz⟩
    ·cases h
   ·cases h
  ·cases h
 case call c=>simp only [tr,Xw] at h;repeat' split at h
              all_goals cases h
 case build t parts=>simp only [tr,Uy] at h;repeat' split at h
                     all_goals cases h
 case slice t x lo hi mx=>cases mx<;>simp only [tr] at h<;>(repeat' split at h)<;>cases h
 case makeFunc fn a b=>cases fn<;>cases h
 case next x s=>cases s<;>cases h
 case makeMap t r=>cases r<;>simp only [tr] at h<;>(repeat' split at h)<;>cases h
 case binOp op t x y t'=>simp only [tr,trNil,trEq] at h;repeat' split at h
                         all_goals cases h
 all_goals first | (cases h;done) | (simp only [tr] at h;repeat' split at h
                                     all_goals cases h)
theorem trCall_noalloc (c:Call) (zs:List AV):Xw P c≠.alloc zs:=by
 intro h
 obtain ⟨callee,args,ts⟩:=c
 cases callee with
 | builtin b=>cases b<;>simp only [Xw] at h<;>(repeat' split at h)<;>cases h
 | _=>cases h
theorem trCall_nobox (c:Call) (x:Opd):Xw P c≠.box x:=by
 intro h
 obtain ⟨callee,args,ts⟩:=c
 cases callee with
 | builtin b=>cases b<;>simp only [Xw] at h<;>(repeat' split at h)<;>cases h
 | _=>cases h
theorem tr_alloc {o:Oper} {zs:List AV} (h:tr P o=.alloc zs):∃ t,o.op=.alloc t/\zc P t=some zs:=by
 obtain ⟨dst,op,ty,pos,after,guard⟩:=o
 cases op
 case alloc t =>
  simp only [tr] at h
  split at h
  ·rename_i zs' hz;cases h;exact ⟨t,rfl,hz⟩
  ·cases h
 case call c=>exact absurd h (trCall_noalloc c zs)
 case build t parts=>simp only [tr,Uy] at h;repeat' split at h
                     all_goals cases h
 case slice t x lo hi mx=>cases mx<;>simp only [tr] at h<;>(repeat' split at h)<;>cases h
 case makeFunc fn a b=>cases fn<;>cases h
 case next x s=>cases s<;>cases h
 case makeMap t r=>cases r<;>simp only [tr] at h<;>(repeat' split at h)<;>cases h
 case binOp op t x y t'=>simp only [tr,trNil,trEq] at h;repeat' split at h
                         all_goals cases h
 all_goals first | (cases h;done) | (simp only [tr] at h;repeat' split at h
                                     all_goals cases h)
theorem tr_box {o:Oper} {x:Opd} (h:tr P o=.box x):∃ t y,o.op=.box t y/\x=opd y:=by
 obtain ⟨dst,op,ty,pos,after,guard⟩:=o
 cases op
 case box t y=>cases h;exact ⟨t,y,rfl,rfl⟩
 case call c=>exact absurd h (trCall_nobox c x)
 case build t parts=>simp only [tr,Uy] at h;repeat' split at h
                     all_goals cases h
 case slice t x lo hi mx=>cases mx<;>simp only [tr] at h<;>(repeat' split at h)<;>cases h
 case makeFunc fn a b=>cases fn<;>cases h
 case next x s=>cases s<;>cases h
 case makeMap t r=>cases r<;>simp only [tr] at h<;>(repeat' split at h)<;>cases h
 case binOp op t x y t'=>simp only [tr,trNil,trEq] at h;repeat' split at h
                         all_goals cases h
 all_goals first | (cases h;done) | (simp only [tr] at h;repeat' split at h
                                     all_goals cases h)
theorem sees (hc:Qam ops p=true) {listed:Array Bool} (hsz:listed.size=ops.size) {i:Nat} {o:Oper} (ho:ops[i]? = some o) (hip:i < p) (hu:listed.getD i true=false) (haft:∀ j∈Zv o,listed.getD j false=true)
  {t:Nat} (ht:t∈o.looksAt ops):(Qy P gl orc ops T0 m i).1.getD t .junk=At P gl orc ops T0 m p listed t:=by
 have hi:i < ops.size:=(Array.getElem?_eq_some_iff.1 ho).1
 obtain ⟨hp,hsp⟩:=Zg hc
 unfold At
 by_cases hex:∃ j,j < p/\Vm ops j=some t/\j≠i
 ·obtain ⟨j,hj,hd,hne⟩:=hex
  obtain ⟨hji,hja⟩:=((hsp i o ho).2.1 hip).1 t ht j hj hd hne
  have hw:wr ops p listed t=true:=by
   unfold wr
   rw [List.any_eq_true]
   exact ⟨j,List.mem_range.2 hj,by rw [haft j hja,hd];simp⟩
  rw [if_pos hw]
  have:=dsts_last (P:=P) (gl:=gl) (orc:=orc) (ops:=ops) (T0:=T0) (m:=m) (t:=t) (k:=i) (p - i) fun k hk1 hk2 hdk=>by
   have hk:k < ops.size:=by omega
   have hko:ops[k]? = some ops[k]:=Array.getElem?_eq_getElem hk
   have:=((hsp k _ hko).2.1 (by omega)).2 j (by omega) t hd
   simp [Vm,hko] at hdk
   exact this hdk
  rw [show i+(p - i)=p by omega] at this
  exact this.symm
 ·have hw:wr ops p listed t=false:=by
   unfold wr
   rw [List.any_eq_false]
   intro j hj
   simp only [Bool.and_eq_true,beq_iff_eq,not_and]
   intro hl hd
   by_cases hji:j=i
   ·subst hji
    rw [Xd (by omega) false true,hu] at hl;cases hl
   ·exact hex ⟨j,List.mem_range.1 hj,hd,hji⟩
  rw [hw]
  simp only [Bool.false_eq_true,if_false]
  exact Qba i fun j hj hd=>hex ⟨j,by omega,hd,by omega⟩
theorem At_set (hc:Qam ops p=true) {listed:Array Bool} (hsz:listed.size=ops.size) {i:Nat} {o:Oper} (ho:ops[i]? = some o) (hip:i < p) {t:Nat} :
  At P gl orc ops T0 m p (listed.setIfInBounds i true) t=if o.dst=some t/\t < T0.length then (dop P gl orc (Xl P ops o) (Qy P gl orc ops T0 m i).1 m (Qy P gl orc ops T0 m i).2).2.1 else At P gl orc ops T0 m p listed t:=by
 have hi:i < ops.size:=(Array.getElem?_eq_some_iff.1 ho).1
 obtain ⟨hp,hsp⟩:=Zg hc
 by_cases hd:o.dst=some t
 ·have hw:wr ops p (listed.setIfInBounds i true) t=true:=by
   unfold wr
   rw [List.any_eq_true]
   exact ⟨i,List.mem_range.2 hip,by rw [Za (by omega)];simp [Vm,ho,hd]⟩
  have hl:=dsts_last (P:=P) (gl:=gl) (orc:=orc) (ops:=ops) (T0:=T0) (m:=m) (t:=t) (k:=i+1) (p - (i+1)) fun k hk1 hk2 hdk=>by
   have hk:k < ops.size:=by omega
   have hko:ops[k]? = some ops[k]:=Array.getElem?_eq_getElem hk
   have:=((hsp k _ hko).2.1 (by omega)).2 i (by omega) t (by simp [Vm,ho,hd])
   simp [Vm,hko] at hdk
   exact this hdk
  rw [show i+1+(p - (i+1))=p by omega] at hl
  by_cases ht:t < T0.length
  ·rw [if_pos ⟨hd,ht⟩]
   unfold At
   rw [if_pos hw,hl,Uu ho,hd]
   exact getD_put_same (by rw [dsts_len];exact ht)
  ·rw [if_neg (by simp [ht])]
   have h1:∀ k,(Qy P gl orc ops T0 m k).1.getD t .junk=.junk:=fun k=>by
    have:=dsts_len (P:=P) (gl:=gl) (orc:=orc) (ops:=ops) (T0:=T0) (m:=m) k
    simp only [List.getD]
    rw [List.getElem?_eq_none (by omega)];rfl
   have h2:T0.getD t .junk=.junk:=h1 0
   unfold At
   rw [h1 p,h2]
   simp
 ·rw [if_neg (by simp [hd])]
  have hw:wr ops p (listed.setIfInBounds i true) t=wr ops p listed t:=by
   unfold wr
   congr 1
   funext j
   by_cases hj:j=i
   ·subst hj
    have hb:(o.dst==some t)=false:=by simpa using hd
    simp [Vm,ho,hb]
   ·rw [Qt hj]
  unfold At
  rw [hw]
theorem early_step (hc:Qam ops p=true) {Q:Exit->Act->World->Prop} {listed:Array Bool} {γ:G} {w:World} {a:Act} (hI:InvA N w0 r ro0 S Y P gl orc ops T0 m p listed γ w a) {i:Nat} {o:Oper} (ho:ops[i]? = some o) (hip:i < p)
  (hu:listed.getD i true=false) (haft:∀ j∈Zv o,listed.getD j false=true) (hcond:(dop P gl orc (Xl P ops o) (Qy P gl orc ops T0 m i).1 m (Qy P gl orc ops T0 m i).2).1) :
  wpOpIn (FW r) 0 P ops Q i (fun a' w'=>∃ γ',InvA N w0 r ro0 S Y P gl orc ops T0 m p (listed.setIfInBounds i true) γ' w' a') a w:=by
 have hi:i < ops.size:=(Array.getElem?_eq_some_iff.1 ho).1
 have hsee:∀ t∈o.looksAt ops,Rep w γ ((Qy P gl orc ops T0 m i).1.getD t .junk) (a.tmps.getD t undef):=fun t ht=>by
  rw [sees (P:=P) (gl:=gl) (orc:=orc) (T0:=T0) (m:=m) hc hI.size ho hip hu haft ht];exact hI.tt t
 have hop:∀ x∈o.op.operands,Rep w γ (ev gl (Qy P gl orc ops T0 m i).1 (opd x)) (a.eval x):=fun x hx=>by
  cases x with
  | tmp t=>exact hsee t (by simp only [Oper.looksAt,List.mem_append,List.mem_filterMap];exact .inl ⟨.tmp t,by simpa using hx,rfl⟩)
  | const v=>exact Yw w γ v
  | func f=>exact .fn rfl (fun i c v h=>by simp at h) rfl fun i c v h=>by simp at h
  | global g=>exact (hI.g g).of_imm
 have hB:∀ id cells,m.boxes[id]? = some cells->Bof P gl orc ops T0 m p listed id=some cells:=fun id cells h=>Bof_old h
 have fin:∀ {v:Value} {w':World} {γ':G},Ev w γ w' γ'->MSim N w0 ro0 γ' w' (Bof P gl orc ops T0 m p (listed.setIfInBounds i true)) m.L ->
   Rep w' γ' (dop P gl orc (Xl P ops o) (Qy P gl orc ops T0 m i).1 m (Qy P gl orc ops T0 m i).2).2.1 v->∃ γ',InvA N w0 r ro0 S Y P gl orc ops T0 m p (listed.setIfInBounds i true) γ' w' (a.put o.dst v):=fun {v w' γ'} he hm hr=>by
  refine ⟨γ',by simp [hI.size],fun j hj1 hj2=>by rw [Qt (by omega)];exact hI.tail j hj1 hj2,Clo.set hI.clo ho (by rw [hI.size];exact hi) haft,hm,hI.ls.mono he,hI.rd.monoR he.toR,?_,fun t=>?_,?_,fun g=>(hI.g g).mono he.imm,hI.y.mono he.toR,hI.e.trans he.toR⟩
  ·cases hd:o.dst<;>simp [Act.put,hI.tl]
  ·rw [At_set hc hI.size ho hip]
   by_cases hd:o.dst=some t
   ·by_cases ht:t < T0.length
    ·rw [if_pos ⟨hd,ht⟩,hd]
     have:(a.put (some t) v).tmps.getD t undef=v:=by simp [Act.put,hI.tl,ht]
     rw [this];exact hr
    ·rw [if_neg (by simp [ht]),hd]
     have:(a.put (some t) v).tmps.getD t undef=a.tmps.getD t undef:=by simp [Act.put,hI.tl,ht]
     rw [this];exact (hI.tt t).mono he
   ·rw [if_neg (by simp [hd])]
    have:(a.put o.dst v).tmps.getD t undef=a.tmps.getD t undef:=by
     cases hd':o.dst with
     | none=>rfl
     | some d=>simp only [Act.put];simp;rw [Array.getElem?_setIfInBounds_ne (by rintro rfl;exact hd hd')]
    rw [this];exact (hI.tt t).mono he
  ·cases hd:o.dst<;>exact hI.d.monoR he.toR
 have hsucc:=Uu (P:=P) (gl:=gl) (orc:=orc) (T0:=T0) (m:=m) ho
 have hnew:∀ cells,(dop P gl orc (Xl P ops o) (Qy P gl orc ops T0 m i).1 m (Qy P gl orc ops T0 m i).2).2.2=(Qy P gl orc ops T0 m i).2++[cells]->Jr P gl orc ops T0 m i=true/\(Qy P gl orc ops T0 m p).2[nbl P gl orc ops T0 m i]? = some cells:=fun cells h=>by
  refine ⟨by simp only [Jr,nbl,hsucc,h];simp,?_⟩
  have:=nb_get (P:=P) (gl:=gl) (orc:=orc) (ops:=ops) (T0:=T0) (m:=m) (i:=i+1) (p - (i+1)) (q:=nbl P gl orc ops T0 m i) (c:=cells) (by rw [hsucc];simp only [h,nbl];simp)
  rwa [show i+1+(p - (i+1))=p by omega] at this
 have hold:(dop P gl orc (Xl P ops o) (Qy P gl orc ops T0 m i).1 m (Qy P gl orc ops T0 m i).2).2.2=(Qy P gl orc ops T0 m i).2->Bof P gl orc ops T0 m p (listed.setIfInBounds i true)=Bof P gl orc ops T0 m p listed:=fun h =>
  Bof_same (by simp only [Jr,nbl,hsucc,h];simp)
 have hlf:listed.getD i false=false:=by rw [Xd (by rw [hI.size];exact hi) false true];exact hu
 have box:∀ {cells:List AV} {arr:Array Value} {te:TypeId},RepL w γ cells arr.toList->cells.all Qs=true ->
   (dop P gl orc (Xl P ops o) (Qy P gl orc ops T0 m i).1 m (Qy P gl orc ops T0 m i).2).2=(.ptr (m.boxes.length+(Qy P gl orc ops T0 m i).2.length) 0,(Qy P gl orc ops T0 m i).2++[cells]) ->
   (execOp a.eval o).run P w=.ok (.value (.pointer (some ⟨w.heap.size,0,none⟩))) (w.alloc (.cells arr te)) ->
   o.wpIn (FW r) 0 P a w (fun a' w'=>∃ γ',InvA N w0 r ro0 S Y P gl orc ops T0 m p (listed.setIfInBounds i true) γ' w' a') Q:=fun {cells arr te} hr hcell hd hrun=>by
  obtain ⟨hn1,hn2⟩:=hnew cells (by rw [hd])
  have hid:=Bof_fresh (p:=p) hn1 hlf
  refine Xv hrun (fin (hI.mm.ev_box _ hid _) ?_ ?_)
  ·rw [Bof_new hip (by rw [hI.size];exact hi) hn1 hn2]
   exact hI.mm.newBox _ hid hr.toP (Yb hr hcell)
  ·rw [hd]
   exact .ptr (by simp [G.box,nbl])
 simp only [wpOpIn,ho]
 cases hg:o.guard with
 | none =>
  have hw:Region.wanted o (yielded ops a.tmps)=true:=by simp [Region.wanted,hg]
  rw [if_pos hw]
  have e1:(Xl P ops o).guard=none:=by simp [Xl,hg]
  cases hso:tr P o with
  | alloc zs =>
   have hd:dop P gl orc (Xl P ops o) (Qy P gl orc ops T0 m i).1 m (Qy P gl orc ops T0 m i).2=(zs.all Qs=true,.ptr (m.boxes.length+(Qy P gl orc ops T0 m i).2.length) 0,(Qy P gl orc ops T0 m i).2++[zs]):=by
    have e2:(Xl P ops o).op=.alloc zs:=hso
    simp only [dop,e1,e2]
   rw [hd] at hcond
   obtain ⟨t,hot,hz⟩:=tr_alloc hso
   obtain ⟨i',z,hi',hzz,hr⟩:=zc_rep (w:=w) (γ:=γ) hz
   refine box (te:=t) hr hcond (by rw [hd]) ?_
   obtain ⟨d',op',ty',pos',af',gu'⟩:=o
   simp only at hot
   subst hot
   simp [execOp,Instr.alloc,zeroValue,typeInfo,hi',hzz,newVar,newRow]
  | box x =>
   have hd:dop P gl orc (Xl P ops o) (Qy P gl orc ops T0 m i).1 m (Qy P gl orc ops T0 m i).2=(bare (ev gl (Qy P gl orc ops T0 m i).1 x)=true/\(cellsOf (ev gl (Qy P gl orc ops T0 m i).1 x)).all Qs=true,
     .ptr (m.boxes.length+(Qy P gl orc ops T0 m i).2.length) 0,(Qy P gl orc ops T0 m i).2++[cellsOf (ev gl (Qy P gl orc ops T0 m i).1 x)]):=by
    have e2:(Xl P ops o).op=.box x:=hso
    simp only [dop,e1,e2]
   rw [hd] at hcond
   obtain ⟨t,y,hot,rfl⟩:=tr_box hso
   have hry:=hop y (by rw [hot];simp [Op.operands])
   refine box (te:=t) (rep_cells hry hcond.1) hcond.2 (by rw [hd]) ?_
   obtain ⟨d',op',ty',pos',af',gu'⟩:=o
   simp only at hot
   subst hot
   simp [execOp,Instr.box,newVar,newRow]
  | mks sz bytes zs x y =>
   obtain ⟨t,l,c,te,i',hot,rfl,rfl,hu,hi',rfl,rfl,hzs⟩:=tr_mks hso
   have e2:(Xl P ops o).op=.mks i'.size i'.bytes zs (opd l) (opd c):=hso
   simp only [dop,e1,e2] at hcond hnew
   have hl:=hop l (by rw [hot];simp [Op.operands])
   have hc:=hop c (by rw [hot];simp [Op.operands])
   split at hcond
   case h_2=>exact hcond.elim
   rename_i k1 n1 k2 n2 q1 q2
   rw [q1] at hl
   rw [q2] at hc
   obtain ⟨⟨g0,g1,g2,g3⟩,g4,g5⟩:=hcond
   obtain ⟨i2,z,hi2,hz,hzr⟩:=zc_rep (w:=w) (γ:=γ) hzs
   rw [hi'] at hi2
   cases hi2
   have hd:dop P gl orc (Xl P ops o) (Qy P gl orc ops T0 m i).1 m (Qy P gl orc ops T0 m i).2=((0<=n1/\n1<=n2/\i'.bytes*n2<=281474976710656/\n2<=9223372036854775807)/\zs.length=i'.size/\zs.all Qs=true,.bs (m.boxes.length+(Qy P gl orc ops T0 m i).2.length) 0 n1.toNat i'.size,(Qy P gl orc ops T0 m i).2++[fills n2.toNat zs]):=by
    simp only [dop,e1,e2,q1,q2]
   have hrun:=run_make (P:=P) w t te i' z hu hi' hz k1 k2 n1 n2 g0 (by omega) g2 g3
   obtain ⟨hr1,hr2⟩:=mks_rep (P:=P) (te:=te) (n:=n2.toNat) hzr g5 g4
   obtain ⟨hn1,hn2⟩:=hnew (fills n2.toNat zs) (by simp only [q1,q2])
   have hid:=Bof_fresh (p:=p) hn1 hlf
   have hrun':(execOp a.eval o).run P w=.ok (.value (.slice (some ⟨w.heap.size,0,none⟩) n1.toNat n2.toNat)) (w.alloc (.cells (madeCells z.cells (n2.toNat*i'.size)) te)):=by
    obtain ⟨d',op',ty',pos',af',gu'⟩:=o
    simp only at hot
    subst hot
    simp [execOp,hl.inv_int,hc.inv_int,hrun]
   refine Xv hrun' (fin (hI.mm.ev_box _ hid _) ?_ ?_)
   ·rw [Bof_new hip (by rw [hI.size];exact hi) hn1 hn2]
    exact hI.mm.newBox _ hid hr1 hr2
   ·rw [hd]
    exact .bs (arr:=madeCells z.cells (n2.toNat*i'.size)) (e:=te) (by simp [G.box,nbl]) (by omega) (by show (w.heap.push _)[w.heap.size]? = _;simp) (by rw [Nat.zero_add,size_madeCells];exact Nat.le_refl _)
  | _ =>
   have hd:dop P gl orc (Xl P ops o) (Qy P gl orc ops T0 m i).1 m (Qy P gl orc ops T0 m i).2=((rop P gl orc (ev gl (Qy P gl orc ops T0 m i).1) m o.dst (tr P o)).1,(rop P gl orc (ev gl (Qy P gl orc ops T0 m i).1) m o.dst (tr P o)).2,(Qy P gl orc ops T0 m i).2):=by
    have e2:(Xl P ops o).op=tr P o:=rfl
    rw [hso] at e2
    simp only [dop,e1,e2,hso]
    rfl
   rw [hd] at hcond
   have hB':=hold (by rw [hd])
   rw [hd,hB'] at fin
   exact Ww hI.mm hB hI.g hop hcond r _ Q fun v w' γ' h1 h2 h3=>fin h1 h2 h3
 | some q =>
  obtain ⟨j,want⟩:=q
  have e1:(Xl P ops o).guard=some ((ops[j]?).bind (·.dst),want):=by simp [Xl,hg]
  cases hj:(ops[j]?).bind (·.dst) with
  | none =>
   rw [hj] at e1
   simp only [dop,e1] at hcond
  | some t =>
   rw [hj] at e1
   have htl:t∈o.looksAt ops:=by simp [Oper.looksAt,hg,hj]
   have hrt:=hsee t htl
   cases hgt:gvw want ((Qy P gl orc ops T0 m i).1.getD t .junk) with
   | none=>simp only [dop,e1,hgt] at hcond
   | some gw =>
    have hd:dop P gl orc (Xl P ops o) (Qy P gl orc ops T0 m i).1 m (Qy P gl orc ops T0 m i).2=(gok gl (Qy P gl orc ops T0 m i).1 gw (gxs (tr P o) (Xl P ops o).xs)/\(gw=true->(rop P gl orc (evG gl (Qy P gl orc ops T0 m i).1 (tr P o)) m o.dst (tr P o)).1),
      .gd gw (rop P gl orc (evG gl (Qy P gl orc ops T0 m i).1 (tr P o)) m o.dst (tr P o)).2,(Qy P gl orc ops T0 m i).2):=by
     simp only [dop,e1,hgt]
     rfl
    rw [hd] at hcond
    have hB':=hold (by rw [hd])
    rw [hd,hB'] at fin
    have hwant:Region.wanted o (yielded ops a.tmps)=gw:=by
     have hyv:∀ b,a.tmps.getD t undef=.bool b->yielded ops a.tmps j=some b:=fun b hb=>by
      have hlt':t < a.tmps.size:=by
       rcases Nat.lt_or_ge t a.tmps.size with h | h
       ·exact h
       ·simp [Array.getElem?_eq_none h,undef] at hb
      simp [hlt'] at hb
      simp only [yielded,hj,Option.bind_some,Array.getElem?_eq_getElem hlt',hb]
     have hyu:a.tmps.getD t undef=undef->yielded ops a.tmps j=none:=fun hb=>by
      rcases Nat.lt_or_ge t a.tmps.size with hlt' | h
      ·simp [hlt'] at hb
       simp only [yielded,hj,Option.bind_some,Array.getElem?_eq_getElem hlt',hb];rfl
      ·simp only [yielded,hj,Option.bind_some,Array.getElem?_eq_none h]
     generalize (Qy P gl orc ops T0 m i).1.getD t .junk=gv at hgt hrt
     cases gv with
     | bool g =>
      simp only [gvw,Option.some.injEq] at hgt
      subst hgt
      simp only [Region.wanted,hg,hyv g hrt.inv_bool]
      cases g<;>cases want<;>rfl
     | gd d x =>
      cases d with
      | false =>
       simp only [Region.wanted,hg,hyu hrt.inv_gdF]
       cases x<;>simp [gvw] at hgt<;>subst hgt<;>cases want<;>rfl
      | true =>
       cases x<;>simp [gvw] at hgt
       rename_i b
       subst hgt
       simp only [Region.wanted,hg,hyv b (hrt.inv_gd rfl).inv_bool]
       cases b<;>cases want<;>rfl
     | _=>simp [gvw] at hgt
    rw [hwant]
    obtain ⟨h1,h2⟩:=hcond
    cases hgw:gw with
    | true =>
     rw [hgw] at h1 h2 fin
     simp only [if_true]
     refine Ww (e:=evG gl (Qy P gl orc ops T0 m i).1 (tr P o)) hI.mm hB hI.g (fun x hx=>?_) (h2 rfl) r _ Q fun v w' γ' q1 q2 q3=>fin q1 q2 (.gd (fun _=>q3) (fun h=>by cases h))
     unfold evG
     cases hra:rawOp (tr P o) with
     | true=>exact hop x hx
     | false =>
      refine strip_rep (hop x hx) fun g' b hgb=>gok_mem h1 (opd x) ?_ g' b hgb rfl
      simp only [gxs,hra,cond_false]
      simp [Xl,hg];exact ⟨x,by simpa using hx,rfl⟩
    | false =>
     rw [hgw] at fin
     simp only [Bool.false_eq_true,if_false]
     exact ⟨fun _ _=>trivial,fin (Ev.refl _ _) hI.mm (.gd (fun h=>by cases h) (fun _=>rfl))⟩
theorem early_sound {Q:Exit->Act->World->Prop} {K:AS->Prop} (hQ:∀ γ w s a,K s->Sim N w0 r ro0 S P gl Y γ w s a->Q .normal a w) (hc:Qam ops p=true)
  (hconds:∀ i o,i < p->ops[i]? = some o->(dop P gl orc (Xl P ops o) (Qy P gl orc ops T0 m i).1 m (Qy P gl orc ops T0 m i).2).1)
  (hrest:Xy P gl orc Y ((ops.toList.drop p).map (Xl P ops)) ⟨(Qy P gl orc ops T0 m p).1,{ m with boxes:=m.boxes++(Qy P gl orc ops T0 m p).2 }⟩ K) :
  ∀ (fuel:Nat) (listed:Array Bool) (γ:G) (w:World) (a:Act),InvA N w0 r ro0 S Y P gl orc ops T0 m p listed γ w a->uc ops listed<=fuel->wpAnyIn (FW r) 0 P .any ops Q fuel listed a w:=by
 obtain ⟨hp,hsp⟩:=Zg hc
 have full:∀ (fuel:Nat) (listed:Array Bool) (γ:G) (w:World) (a:Act),InvA N w0 r ro0 S Y P gl orc ops T0 m p listed γ w a->uc ops listed<=fuel->(∀ i,i < p->listed.getD i false=true)->wpAnyIn (FW r) 0 P .any ops Q fuel listed a w:=by
  intro fuel listed γ w a hI huc hall
  refine tail_sound hQ hc fuel p listed γ w _ a (Nat.le_refl _) hp hI.size hall hI.tail huc hrest ⟨?_,hI.ls,hI.rd,⟨?_,fun t x v hx hv=>?_⟩,hI.d,hI.g,hI.y,hI.e⟩
  ·have:=hI.mm
   rw [Bof_all hall] at this
   exact this
  ·simp [dsts_len,hI.tl]
  ·have h1:=hI.tt t
   have hAt:At P gl orc ops T0 m p listed t=x:=by
    have hx':(Qy P gl orc ops T0 m p).1.getD t .junk=x:=by simp only at hx;simp [List.getD,hx]
    unfold At
    split
    ·exact hx'
    ·rename_i hw
     rw [<- hx']
     refine (Qba p fun j hj hd=>hw ?_).symm
     unfold wr
     rw [List.any_eq_true]
     exact ⟨j,List.mem_range.2 hj,by rw [hall j hj,hd];simp⟩
   rw [hAt] at h1
   have:a.tmps.getD t undef=v:=by simp at hv;simp [hv]
   rwa [this] at h1
 intro fuel
 induction fuel with
 | zero =>
  intro listed γ w a hI huc
  exact full 0 listed γ w a hI huc fun i hi=>by
   rw [Xd (by rw [hI.size];omega) false true]
   exact uc_zero (Nat.le_zero.1 huc) (by omega)
 | succ fuel ih =>
  intro listed γ w a hI huc
  by_cases hall:∀ i,i < p->listed.getD i false=true
  ·exact full (fuel+1) listed γ w a hI huc hall
  ·have hex:∃ k,k < p/\listed.getD k true=false:=by
    refine Classical.byContradiction fun hn=>hall fun i hi=>?_
    rw [Xd (by rw [hI.size];omega) false true]
    cases hl:listed.getD i true with
    | true=>rfl
    | false=>exact absurd ⟨i,hi,hl⟩ hn
   obtain ⟨k,hk,hlk⟩:=hex
   refine ⟨fun hr=>?_,fun i hi=>?_⟩
   ·obtain ⟨j,hj⟩:=Je hc hI.size k k (Nat.le_refl _) (by omega) hlk
    rw [hr] at hj;cases hj
   ·obtain ⟨hlt,hu,o,ho,haft⟩:=Jf hc hi
    have hip:i < p:=by
     rcases Nat.lt_or_ge i p with h | h
     ·exact h
     ·have:=tail_all hI.clo ho ((hsp i o ho).2.2 h) haft i k (by omega) (by omega)
      rw [Xd (by rw [hI.size];omega) false true,hlk] at this;cases this
    refine wpOpIn_mono ?_ (early_step hc hI ho hip hu haft (hconds i o hip ho))
    rintro a' w' ⟨γ',hI'⟩
    refine ih _ γ' w' a' hI' ?_
    have:=uc_set hI.size hlt hu
    omega
theorem draw_sound {Q:Exit->Act->World->Prop} {K:AS->Prop} {γ:G} {w:World} {s:AS} {a:Act} (hQ:∀ γ w s a,K s->Sim N w0 r ro0 S P gl Y γ w s a->Q .normal a w) (hc:Qam ops p=true)
  (h:vcD P gl orc Y ((ops.toList.drop p).map (Xl P ops)) K ((ops.toList.take p).map (Xl P ops)) s.T s.m []) (hs:Sim N w0 r ro0 S P gl Y γ w s a) :
  wpAnyIn (FW r) 0 P .any ops Q ops.size (Array.replicate ops.size false) a { w with drawn:=w.drawn+1 }:=by
 have hp:=(Zg hc).1
 obtain ⟨h1,h2⟩:=vcD_all (P:=P) (gl:=gl) (orc:=orc) (T0:=s.T) (m:=s.m) ((ops.toList.drop p).map (Xl P ops)) K hp p 0 (by simp) (by rw [List.drop_zero];exact h)
 refine early_sound (T0:=s.T) (m:=s.m) hQ hc (fun i o hi ho=>h1 i o (Nat.zero_le _) hi ho) h2 ops.size _ γ w.drew a ⟨by simp,fun i _ hi=>by simp [hi],fun i o h=>(by rcases Nat.lt_or_ge i ops.size with h' | h'<;>simp [h'] at h),?_,hs.ls.mono (Ev.drew w γ),hs.rd.monoR (Ev.drew w γ).toR,?_,fun t=>?_,hs.d.monoR (Ev.drew w γ).toR,fun g=>(hs.g g).mono (Ev.drew w γ).imm,hs.y.mono (Ev.drew w γ).toR,hs.e.trans (Ev.drew w γ).toR⟩ ?_
 ·have hB:Bof P gl orc ops s.T s.m p (Array.replicate ops.size false)=s.m.B:=by
   funext id
   unfold Bof
   simp only [AM.B]
   split
   ·rfl
   ·rename_i hid
    rw [if_neg,List.getElem?_eq_none (by omega)]
    rw [List.any_eq_true]
    rintro ⟨j,_,hj⟩
    have:(Array.replicate ops.size false).getD j false=false:=by
     rcases Nat.lt_or_ge j ops.size with h | h<;>simp [h]
    rw [this] at hj;cases hj
  rw [hB];exact hs.m.drew
 ·have:=hs.t.1;simp at this;omega
 ·have hw:wr ops p (Array.replicate ops.size false) t=false:=by
   unfold wr
   rw [List.any_eq_false]
   intro j _
   have:(Array.replicate ops.size false).getD j false=false:=by
    rcases Nat.lt_or_ge j ops.size with h | h<;>simp [h]
   rw [this];simp
  unfold At
  rw [hw]
  simp only [Bool.false_eq_true,if_false]
  have:=(hs.t.mono (Ev.drew w γ)).get t
  simpa [List.getD] using this
 ·unfold uc
  exact Nat.le_trans (List.countP_le_length) (by simp)
end
end Go.Abs
namespace Go.Abs
open Go Go.RowKit
def calmOp (o:Oper):Bool:=o.guard.isNone
def effFn (f:FuncId):Bool:=f==107||f==50||f==20
def isDyn (o:Oper):Bool:=match o.op with
 | .call ⟨.value (.tmp _),_,_⟩=>o.dst.isSome
 | .call ⟨.value (.func f),_,_⟩=>o.dst.isSome&&effFn f
 | .call ⟨.builtin .copy,_,_⟩=>true
 | .call ⟨.builtin .append,_,_⟩=>o.dst.isSome
 | .store _ _ _=>true
 | .mapUpdate _ _ _ _=>true
 | .mapEntry _ _ _=>true
 | .entryStore _ _ _ _=>true
 | _=>false
def isEf (o:Oper):Bool:=isDyn o||(match o.op with
 | .alloc _ | .box _ _ | .makeMap _ _ | .range _ _=>true
 | _=>false)
def opAt (ops:Array Oper) (p:Oper->Bool) (i:Nat):Bool:=match ops[i]? with
 | some o=>p o
 | none=>false
def chnB (ops:Array Oper):List Nat->Bool
 | j::j'::r=>(match ops[j']? with | some o=>(Zv o).contains j | none=>false)&&chnB ops (j'::r)
 | _=>true
def effsAt (ops:Array Oper) (p:Nat):Option (List Nat) :=
 let js:=(List.range p).filter (opAt ops isEf)
 if (List.range p).any (opAt ops isDyn)&&chnB ops js&&(List.range p).all (opAt ops calmOp) then some js else none
inductive Fg
 | eff
 | pre
 | oth
def cloL (ops:Array Oper):Nat->List Nat->List Nat
 | 0,s=>s
 | k+1,s=>bif s.any fun i=>waitsB ops i k then cloL ops k (k::s) else cloL ops k s
theorem cloL_ok {ops:Array Oper} {listed:Array Bool} (h:Clo ops listed):∀ (k:Nat) (s:List Nat),(∀ i∈s,listed.getD i false=true)->∀ i∈cloL ops k s,listed.getD i false=true
 | 0,_,hs,i,hi=>hs i hi
 | k+1,s,hs,i,hi=>by
  simp only [cloL] at hi
  cases hc:s.any fun i=>waitsB ops i k with
  | false=>rw [hc] at hi;exact cloL_ok h k s hs i hi
  | true =>
   rw [hc] at hi
   refine cloL_ok h k (k::s) (fun j hj=>?_) i hi
   rcases List.mem_cons.1 hj with rfl | hj
   ·obtain ⟨x,hx,hw⟩:=List.any_eq_true.1 hc
    unfold waitsB at hw
    split at hw
    ·rename_i o ho
     exact h x o (hs x hx) ho j (by simpa using hw)
    ·cases hw
   ·exact hs j hj
def preAt (ops:Array Oper) (js:List Nat) (i:Nat):Bool:=match js with
 | j::_=>(cloL ops j [j]).contains i
 | []=>false
def Yq (ops:Array Oper) (js:List Nat) (i:Nat):Fg:=bif js.contains i then .eff else bif preAt ops js i then .pre else .oth
def flags (ops:Array Oper) (p:Nat) (js:List Nat):List Fg:=(List.range p).map (Yq ops js)
section
variable (P:Program) (gl:Nat->AV) (orc:Nat->FuncId->List AV->AV) (Y:YT)
def memEff:SOp->Bool
 | .store _ _ _ | .cpy _ _ _ | .mupd _ _ _ _ | .ment _ _ _ _ | .esto _ _ _ | .alloc _ | .box _ | .mkmap _ | .rng _ | .app _ _ _ _=>true
 | _=>false
def effV (v:AV):SOp->AV
 | .alloc _ | .box _ | .mkmap _ | .rng _ | .ment _ _ _ _ | .app _ _ _ _=>v
 | _=>.junk
def effC (e:Opd->AV) (m:AM) (dst:Option Nat) (av:AV) (m1:AM):SOp->Prop
 | .call f args=>(match e f with
  | .fn g first cap=>EffY P gl Y g (first++args.map e++cap) m (fun x m2=>x=av/\m2=m1)
  | _=>False)
 | so=>memEff so=true/\(sop P gl orc e m dst so).1/\av=effV (sop P gl orc e m dst so).2.1 so/\m1=(sop P gl orc e m dst so).2.2
def vcE (l2:List SO) (K:AS->Prop) (m:AM) (ms:List (AV×AM)):List SO->List Fg->List (AV×AM)->AM->List AV->Prop
 | [],_,q,mc,T=>q=[]/\Xy P gl orc Y l2 ⟨T,mc⟩ K
 | _::_,[],_,_,_=>False
 | o::r,.eff::fl,q,mc,T=>(match q with
  | []=>False
  | x::q=>effC P gl orc Y (ev gl T) mc o.dst x.1 x.2 o.op/\vcE l2 K m ms r fl q x.2 (put T o.dst x.1))
 | o::r,.pre::fl,q,mc,T=>(rop P gl orc (ev gl T) m o.dst o.op).1/\vcE l2 K m ms r fl q mc (put T o.dst (rop P gl orc (ev gl T) m o.dst o.op).2)
 | o::r,.oth::fl,q,mc,T=>(rop P gl orc (ev gl T) m o.dst o.op).1/\(∀ x∈ms,rop P gl orc (ev gl T) x.2 o.dst o.op=rop P gl orc (ev gl T) m o.dst o.op)/\vcE l2 K m ms r fl q mc (put T o.dst (rop P gl orc (ev gl T) m o.dst o.op).2)
end
def lkp:List (Nat×AV)->Nat->Option AV
 | [],_=>none
 | (k,a)::r,d=>if k=d then some a else lkp r d
def Xf:List Nat->List (AV×AM)->List (Nat×AV)
 | j::js,x::q=>(j,x.1)::Xf js q
 | _,_=>[]
def Yz (listed:Array Bool):AM->List Nat->List (AV×AM)->AM
 | m,j::js,x::q=>if listed.getD j false then Yz listed x.2 js q else m
 | m,_,_=>m
def Uh (m:AM) (ms:List (AV×AM)):Nat->AM
 | 0=>m
 | a+1=>(ms.getD a (.junk,m)).2
def chn (listed:Array Bool):List Nat->Prop
 | j::j'::r=>(listed.getD j' false=true->listed.getD j false=true)/\chn listed (j'::r)
 | _=>True
section
variable {N:Nat} {w0:Bas} {r:Option Nat} {ro0:Nat->Nat->Prop} {S:G×World} {Y:YT} {P:Program} {gl:Nat->AV} {orc:Nat->FuncId->List AV->AV} {ops:Array Oper} {T0:List AV} {m:AM} {p:Nat}
theorem memL_mem (listed:Array Bool):∀ (js:List Nat) (ms:List (AV×AM)) (m:AM),Yz listed m js ms=m\/∃ x∈ms,Yz listed m js ms=x.2
 | [],ms,m=>.inl (by cases ms<;>rfl)
 | j::js,[],m=>.inl rfl
 | j::js,x::q,m=>by
  simp only [Yz]
  split
  ·rcases memL_mem listed js q x.2 with h | ⟨y,hy,h⟩
   ·exact .inr ⟨x,by simp,h⟩
   ·exact .inr ⟨y,by simp [hy],h⟩
  ·exact .inl rfl
theorem Ka {listed:Array Bool}:∀ {js:List Nat} {ms:List (AV×AM)} {m:AM} {a:Nat},js.length=ms.length->a<=js.length->(∀ b j,b < a->js[b]? = some j->listed.getD j false=true)->(∀ j,js[a]? = some j->listed.getD j false=false) ->
  Yz listed m js ms=Uh m ms a
 | [],[],m,a,_,ha,_,_=>by
  have:a=0:=by simpa using ha
  subst this;rfl
 | [],_::_,_,_,h,_,_,_=>by simp at h
 | _::_,[],_,_,h,_,_,_=>by simp at h
 | j::js,x::q,m,0,_,_,_,h=>by
  simp only [Yz,Uh]
  rw [h j rfl];rfl
 | j::js,x::q,m,a+1,hl,ha,h1,h2=>by
  simp only [Yz]
  rw [h1 0 j (by omega) rfl,if_pos rfl]
  rw [Ka (a:=a) (by simpa using hl) (by simpa using ha) (fun b j hb hj=>h1 (b+1) j (by omega) (by simpa using hj)) (fun j hj=>h2 j (by simpa using hj))]
  cases a with
  | zero=>rfl
  | succ a =>
   simp only [Uh,List.getD_cons_succ]
   have:a < q.length:=by simp at ha hl;omega
   simp [List.getD,this]
theorem memL_same {listed listed':Array Bool}:∀ {js:List Nat} {ms:List (AV×AM)} {m:AM},(∀ j∈js,listed'.getD j false=listed.getD j false)->Yz listed' m js ms=Yz listed m js ms
 | [],_,_,_=>rfl
 | _::_,[],_,_=>rfl
 | j::js,x::q,m,h=>by
  simp only [Yz]
  rw [h j (by simp),memL_same fun j hj=>h j (by simp [hj])]
theorem chn_down {listed:Array Bool}:∀ {js:List Nat},chn listed js->∀ {a b j j':Nat},a < b->js[a]? = some j->js[b]? = some j'->listed.getD j' false=true->listed.getD j false=true
 | [],_,a,b,j,j',_,h,_,_=>by simp at h
 | [x],_,a,b,j,j',hab,h,h',_=>by
  have:=(List.getElem?_eq_some_iff.1 h').1
  simp at this;omega
 | x::y::r,hc,0,1,j,j',_,h,h',hl=>by
  simp at h h';subst h;subst h';exact hc.1 hl
 | x::y::r,hc,0,b+2,j,j',_,h,h',hl=>by
  simp at h;subst h
  exact hc.1 (chn_down hc.2 (a:=0) (b:=b+1) (by omega) rfl (by simpa using h') hl)
 | x::y::r,hc,a+1,b+1,j,j',hab,h,h',hl=>chn_down hc.2 (a:=a) (b:=b) (by omega) (by simpa using h) (by simpa using h') hl
theorem chn_set {listed:Array Bool} {i:Nat}:∀ {js:List Nat},chn listed js->(∀ a j,js[a]? = some j->js[a+1]? = some i->listed.getD j false=true)->chn (listed.setIfInBounds i true) js
 | [],_,_=>trivial
 | [_],_,_=>trivial
 | j::j'::r,hc,h=>by
  refine ⟨fun hl=>?_,chn_set hc.2 fun a x hx hx'=>h (a+1) x (by simpa using hx) (by simpa using hx')⟩
  have mono:∀ k,listed.getD k false=true->(listed.setIfInBounds i true).getD k false=true:=fun k hk=>by
   by_cases hik:i=k
   ·subst hik
    have:i < listed.size:=by
     rcases Nat.lt_or_ge i listed.size with h | h
     ·exact h
     ·simp [Nat.not_lt.2 h] at hk
    exact Za this
   ·rw [Qt (Ne.symm hik)];exact hk
  by_cases hij:i=j'
  ·subst hij;exact mono j (h 0 j rfl rfl)
  ·rw [Qt (Ne.symm hij)] at hl
   exact mono j (hc.1 hl)
theorem Qac {l:List Nat} (h:l.Nodup) {a b i:Nat} (h1:l[a]? = some i) (h2:l[b]? = some i):a=b:=by
 obtain ⟨ha,ea⟩:=List.getElem?_eq_some_iff.1 h1
 obtain ⟨hb,eb⟩:=List.getElem?_eq_some_iff.1 h2
 rcases Nat.lt_trichotomy a b with h' | h' | h'
 ·exact absurd (ea.trans eb.symm) (List.pairwise_iff_getElem.1 h a b ha hb h')
 ·exact h'
 ·exact absurd (eb.trans ea.symm) (List.pairwise_iff_getElem.1 h b a hb ha h')
def Kr (P:Program) (gl:Nat->AV) (orc:Nat->FuncId->List AV->AV) (ops:Array Oper) (m:AM) (L:List (Nat×AV)) (i:Nat) (T:List AV):AV:=match lkp L i with
 | some av=>av
 | none=>match ops[i]? with
  | some o=>(rop P gl orc (ev gl T) m o.dst (tr P o)).2
  | none=>.junk
def dsV (P:Program) (gl:Nat->AV) (orc:Nat->FuncId->List AV->AV) (ops:Array Oper) (T0:List AV) (m:AM) (L:List (Nat×AV)):Nat->List AV
 | 0=>T0
 | k+1=>match ops[k]? with
  | some o=>put (dsV P gl orc ops T0 m L k) o.dst (Kr P gl orc ops m L k (dsV P gl orc ops T0 m L k))
  | none=>dsV P gl orc ops T0 m L k
theorem Qak {L:List (Nat×AV)} {k:Nat} {o:Oper} (h:ops[k]? = some o):dsV P gl orc ops T0 m L (k+1)=put (dsV P gl orc ops T0 m L k) o.dst (Kr P gl orc ops m L k (dsV P gl orc ops T0 m L k)):=by
 simp only [dsV,h]
theorem dsV_len {L:List (Nat×AV)}:∀ k,(dsV P gl orc ops T0 m L k).length=T0.length
 | 0=>rfl
 | k+1=>by
  cases h:ops[k]? with
  | none=>simp only [dsV,h];exact dsV_len k
  | some o=>rw [Qak h,length_put];exact dsV_len k
theorem Qal {L:List (Nat×AV)} {t:Nat}:∀ k,(∀ j,j < k->Vm ops j≠some t)->(dsV P gl orc ops T0 m L (k)).getD t .junk=T0.getD t .junk
 | 0,_=>rfl
 | k+1,h=>by
  cases ho:ops[k]? with
  | none=>simp only [dsV,ho];exact Qal k fun j hj=>h j (by omega)
  | some o =>
   rw [Qak ho,Kz (by have:=h k (by omega);simpa [Vm,ho] using this)]
   exact Qal k fun j hj=>h j (by omega)
theorem dsV_last {L:List (Nat×AV)} {t k:Nat}:∀ n,(∀ j,k<=j->j < k+n->Vm ops j≠some t)->(dsV P gl orc ops T0 m L (k+n)).getD t .junk=(dsV P gl orc ops T0 m L (k)).getD t .junk
 | 0,_=>rfl
 | n+1,h=>by
  rw [<- Nat.add_assoc]
  cases ho:ops[k+n]? with
  | none=>simp only [dsV,ho];exact dsV_last n fun j h1 h2=>h j h1 (by omega)
  | some o =>
   rw [Qak ho,Kz (by have:=h (k+n) (by omega) (by omega);simpa [Vm,ho] using this)]
   exact dsV_last n fun j h1 h2=>h j h1 (by omega)
def AtV (P:Program) (gl:Nat->AV) (orc:Nat->FuncId->List AV->AV) (ops:Array Oper) (T0:List AV) (m:AM) (L:List (Nat×AV)) (p:Nat) (listed:Array Bool) (t:Nat):AV :=
 if wr ops p listed t then (dsV P gl orc ops T0 m L (p)).getD t .junk else T0.getD t .junk
theorem seesV {L:List (Nat×AV)} (hc:Qam ops p=true) {listed:Array Bool} (hsz:listed.size=ops.size) {i:Nat} {o:Oper} (ho:ops[i]? = some o) (hip:i < p) (hu:listed.getD i true=false) (haft:∀ j∈Zv o,listed.getD j false=true)
  {t:Nat} (ht:t∈o.looksAt ops):(dsV P gl orc ops T0 m L (i)).getD t .junk=AtV P gl orc ops T0 m L p listed t:=by
 have hi:i < ops.size:=(Array.getElem?_eq_some_iff.1 ho).1
 obtain ⟨hp,hsp⟩:=Zg hc
 unfold AtV
 by_cases hex:∃ j,j < p/\Vm ops j=some t/\j≠i
 ·obtain ⟨j,hj,hd,hne⟩:=hex
  obtain ⟨hji,hja⟩:=((hsp i o ho).2.1 hip).1 t ht j hj hd hne
  have hw:wr ops p listed t=true:=by
   unfold wr
   rw [List.any_eq_true]
   exact ⟨j,List.mem_range.2 hj,by rw [haft j hja,hd];simp⟩
  rw [if_pos hw]
  have:=dsV_last (P:=P) (gl:=gl) (orc:=orc) (ops:=ops) (T0:=T0) (m:=m) (L:=L) (t:=t) (k:=i) (p - i) fun k hk1 hk2 hdk=>by
   have hk:k < ops.size:=by omega
   have hko:ops[k]? = some ops[k]:=Array.getElem?_eq_getElem hk
   have:=((hsp k _ hko).2.1 (by omega)).2 j (by omega) t hd
   simp [Vm,hko] at hdk
   exact this hdk
  rw [show i+(p - i)=p by omega] at this
  exact this.symm
 ·have hw:wr ops p listed t=false:=by
   unfold wr
   rw [List.any_eq_false]
   intro j hj
   simp only [Bool.and_eq_true,beq_iff_eq,not_and]
   intro hl hd
   by_cases hji:j=i
   ·subst hji
    rw [Xd (by omega) false true,hu] at hl;cases hl
   ·exact hex ⟨j,List.mem_range.1 hj,hd,hji⟩
  rw [hw]
  simp only [Bool.false_eq_true,if_false]
  exact Qal i fun j hj hd=>hex ⟨j,by omega,hd,by omega⟩
theorem At_setV {L:List (Nat×AV)} (hc:Qam ops p=true) {listed:Array Bool} (hsz:listed.size=ops.size) {i:Nat} {o:Oper} (ho:ops[i]? = some o) (hip:i < p) {t:Nat} :
  AtV P gl orc ops T0 m L p (listed.setIfInBounds i true) t=if o.dst=some t/\t < T0.length then Kr P gl orc ops m L i (dsV P gl orc ops T0 m L i) else AtV P gl orc ops T0 m L p listed t:=by
 have hi:i < ops.size:=(Array.getElem?_eq_some_iff.1 ho).1
 obtain ⟨hp,hsp⟩:=Zg hc
 by_cases hd:o.dst=some t
 ·have hw:wr ops p (listed.setIfInBounds i true) t=true:=by
   unfold wr
   rw [List.any_eq_true]
   exact ⟨i,List.mem_range.2 hip,by rw [Za (by omega)];simp [Vm,ho,hd]⟩
  have hl:=dsV_last (P:=P) (gl:=gl) (orc:=orc) (ops:=ops) (T0:=T0) (m:=m) (L:=L) (t:=t) (k:=i+1) (p - (i+1)) fun k hk1 hk2 hdk=>by
   have hk:k < ops.size:=by omega
   have hko:ops[k]? = some ops[k]:=Array.getElem?_eq_getElem hk
   have:=((hsp k _ hko).2.1 (by omega)).2 i (by omega) t (by simp [Vm,ho,hd])
   simp [Vm,hko] at hdk
   exact this hdk
  rw [show i+1+(p - (i+1))=p by omega] at hl
  by_cases ht:t < T0.length
  ·rw [if_pos ⟨hd,ht⟩]
   unfold AtV
   rw [if_pos hw,hl,Qak ho,hd]
   exact getD_put_same (by rw [dsV_len];exact ht)
  ·rw [if_neg (by simp [ht])]
   have h1:∀ k,(dsV P gl orc ops T0 m L (k)).getD t .junk=.junk:=fun k=>by
    have:=dsV_len (P:=P) (gl:=gl) (orc:=orc) (ops:=ops) (T0:=T0) (m:=m) (L:=L) k
    simp only [List.getD]
    rw [List.getElem?_eq_none (by omega)];rfl
   have h2:T0.getD t .junk=.junk:=h1 0
   unfold AtV
   rw [h1 p,h2]
   simp
 ·rw [if_neg (by simp [hd])]
  have hw:wr ops p (listed.setIfInBounds i true) t=wr ops p listed t:=by
   unfold wr
   congr 1
   funext j
   by_cases hj:j=i
   ·subst hj
    have hb:(o.dst==some t)=false:=by simpa using hd
    simp [Vm,ho,hb]
   ·rw [Qt hj]
  unfold AtV
  rw [hw]
structure InvE (N:Nat) (w0:Bas) (r:Option Nat) (ro0:Nat->Nat->Prop) (S:G×World) (Y:YT) (P:Program) (gl:Nat->AV) (orc:Nat->FuncId->List AV->AV) (ops:Array Oper) (T0:List AV) (m:AM) (ms:List (AV×AM)) (js:List Nat) (L:List (Nat×AV)) (p:Nat) (listed:Array Bool) (γ:G) (w:World) (a:Act):Prop where
 size:listed.size=ops.size
 tail:∀ i,p<=i->i < ops.size->listed.getD i true=false
 ch:chn listed js
 clo:∀ i o,listed.getD i false=true->ops[i]? = some o->∀ j∈Zv o,listed.getD j false=true
 mm:MSim N w0 ro0 γ w (Yz listed m js ms).B (Yz listed m js ms).L
 ls:LSim γ w (Yz listed m js ms)
 rd:Rdr r γ w
 tl:a.tmps.size=T0.length
 tt:∀ t,Rep w γ (AtV P gl orc ops T0 m L p listed t) (a.tmps.getD t undef)
 d:Dfr S.2.heap.size γ w a.defers
 g:∀ g,Rep w γ.imm (gl g) (.pointer (some ⟨g,0,none⟩))
 y:YOK N w0 ro0 P Y γ w
 e:EvR S.2 S.1 w γ
theorem lkp_none:∀ (js:List Nat) (ms:List (AV×AM)) (d:Nat),d ∉ js->lkp (Xf js ms) d=none
 | [],_,_,_=>rfl
 | _::_,[],_,_=>rfl
 | j::js,x::q,d,h=>by
  simp only [Xf,lkp]
  rw [if_neg (by rintro rfl;exact h (by simp))]
  exact lkp_none js q d fun h'=>h (by simp [h'])
theorem lkp_some:∀ (js:List Nat) (ms:List (AV×AM)) (a i:Nat) (x:AV×AM),js.Nodup->js[a]? = some i->ms[a]? = some x->lkp (Xf js ms) i=some x.1
 | [],_,_,_,_,_,h,_=>by simp at h
 | _::_,[],_,_,_,_,_,h=>by simp at h
 | j::js,y::q,0,i,x,_,h,hx=>by
  simp at h hx
  subst h;subst hx
  simp only [Xf,lkp,if_true]
 | j::js,y::q,a+1,i,x,hn,h,hx=>by
  have hn':=List.nodup_cons.1 hn
  have h':js[a]? = some i:=by simpa using h
  simp only [Xf,lkp]
  rw [if_neg (by rintro rfl;exact hn'.1 (List.mem_of_getElem? h'))]
  exact lkp_some js q a i x hn'.2 h' (by simpa using hx)
theorem valE_eff {js:List Nat} {ms:List (AV×AM)} {a i:Nat} {x:AV×AM} (hn:js.Nodup) (h:js[a]? = some i) (hx:ms[a]? = some x) (T:List AV):Kr P gl orc ops m (Xf js ms) i T=x.1:=by
 unfold Kr;rw [lkp_some js ms a i x hn h hx]
theorem valE_oth {js:List Nat} {ms:List (AV×AM)} {i:Nat} {o:Oper} (h:i ∉ js) (ho:ops[i]? = some o) (T:List AV):Kr P gl orc ops m (Xf js ms) i T=(rop P gl orc (ev gl T) m o.dst (tr P o)).2:=by
 unfold Kr;rw [lkp_none js ms i h,ho]
theorem earlyE_step {ms:List (AV×AM)} {js:List Nat} (hc:Qam ops p=true) {Q:Exit->Act->World->Prop} {listed:Array Bool} {γ:G} {w:World} {a:Act}
  (hI:InvE N w0 r ro0 S Y P gl orc ops T0 m ms js (Xf js ms) p listed γ w a) {i:Nat} {o:Oper} (ho:ops[i]? = some o) (hip:i < p) (hcalm:calmOp o=true) (hlen:js.length=ms.length) (hnd:js.Nodup)
  (hu:listed.getD i true=false) (haft:∀ j∈Zv o,listed.getD j false=true) (hchn:∀ a j,js[a]? = some j->js[a+1]? = some i->j∈Zv o)
  (hne:i ∉ js->(rop P gl orc (ev gl (dsV P gl orc ops T0 m (Xf js ms) i)) m o.dst (tr P o)).1/\(preAt ops js i=false->∀ x∈ms,rop P gl orc (ev gl (dsV P gl orc ops T0 m (Xf js ms) i)) x.2 o.dst (tr P o)=rop P gl orc (ev gl (dsV P gl orc ops T0 m (Xf js ms) i)) m o.dst (tr P o)))
  (heq:∀ k x,js[k]? = some i->ms[k]? = some x->effC P gl orc Y (ev gl (dsV P gl orc ops T0 m (Xf js ms) i)) (Uh m ms k) o.dst x.1 x.2 (tr P o)) :
  wpOpIn (FW r) 0 P ops Q i (fun a' w'=>∃ γ',InvE N w0 r ro0 S Y P gl orc ops T0 m ms js (Xf js ms) p (listed.setIfInBounds i true) γ' w' a') a w:=by
 have hi:i < ops.size:=(Array.getElem?_eq_some_iff.1 ho).1
 have hil:i < listed.size:=by rw [hI.size];exact hi
 have hsee:∀ t∈o.looksAt ops,Rep w γ ((dsV P gl orc ops T0 m (Xf js ms) i).getD t .junk) (a.tmps.getD t undef):=fun t ht=>by
  rw [seesV (P:=P) (gl:=gl) (orc:=orc) (T0:=T0) (m:=m) (L:=Xf js ms) hc hI.size ho hip hu haft ht];exact hI.tt t
 have hop:∀ x∈o.op.operands,Rep w γ (ev gl (dsV P gl orc ops T0 m (Xf js ms) i) (opd x)) (a.eval x):=fun x hx=>by
  cases x with
  | tmp t=>exact hsee t (by simp only [Oper.looksAt,List.mem_append,List.mem_filterMap];exact .inl ⟨.tmp t,by simpa using hx,rfl⟩)
  | const v=>exact Yw w γ v
  | func f=>exact .fn rfl (fun i c v h=>by simp at h) rfl fun i c v h=>by simp at h
  | global g=>exact (hI.g g).of_imm
 have hch:chn (listed.setIfInBounds i true) js:=chn_set hI.ch fun a j h1 h2=>haft j (hchn a j h1 h2)
 have hpr:Clo ops (listed.setIfInBounds i true):=Clo.set hI.clo ho hil haft
 have fin:∀ {v:Value} {w':World} {γ':G},EvR w γ w' γ'->MSim N w0 ro0 γ' w' (Yz (listed.setIfInBounds i true) m js ms).B (Yz (listed.setIfInBounds i true) m js ms).L->LSim γ' w' (Yz (listed.setIfInBounds i true) m js ms) ->
   Rep w' γ' (Kr P gl orc ops m (Xf js ms) i (dsV P gl orc ops T0 m (Xf js ms) i)) v->∃ γ',InvE N w0 r ro0 S Y P gl orc ops T0 m ms js (Xf js ms) p (listed.setIfInBounds i true) γ' w' (a.put o.dst v):=fun {v w' γ'} he hm hl hr=>by
  refine ⟨γ',by simp [hI.size],fun j hj1 hj2=>by rw [Qt (by omega)];exact hI.tail j hj1 hj2,hch,hpr,hm,hl,hI.rd.monoR he,?_,fun t=>?_,?_,fun g=>(hI.g g).monoR he.imm,hI.y.mono he,hI.e.trans he⟩
  ·cases hd:o.dst<;>simp [Act.put,hI.tl]
  ·rw [At_setV hc hI.size ho hip]
   by_cases hd:o.dst=some t
   ·by_cases ht:t < T0.length
    ·rw [if_pos ⟨hd,ht⟩,hd]
     have:(a.put (some t) v).tmps.getD t undef=v:=by simp [Act.put,hI.tl,ht]
     rw [this];exact hr
    ·rw [if_neg (by simp [ht]),hd]
     have:(a.put (some t) v).tmps.getD t undef=a.tmps.getD t undef:=by simp [Act.put,hI.tl,ht]
     rw [this];exact (hI.tt t).monoR he
   ·rw [if_neg (by simp [hd])]
    have:(a.put o.dst v).tmps.getD t undef=a.tmps.getD t undef:=by
     cases hd':o.dst with
     | none=>rfl
     | some d=>simp only [Act.put];simp;rw [Array.getElem?_setIfInBounds_ne (by rintro rfl;exact hd hd')]
    rw [this];exact (hI.tt t).monoR he
  ·cases hd:o.dst<;>exact hI.d.monoR he
 have hg:o.guard=none:=by simp only [calmOp] at hcalm;simpa using hcalm
 simp only [wpOpIn,ho]
 have hw:Region.wanted o (yielded ops a.tmps)=true:=by simp [Region.wanted,hg]
 rw [if_pos hw]
 by_cases hij:i∈js
 ·obtain ⟨k,hk⟩:=List.mem_iff_getElem?.1 hij
  have hkl:k < ms.length:=by rw [<- hlen];exact (List.getElem?_eq_some_iff.1 hk).1
  obtain ⟨x,hx⟩:∃ x,ms[k]? = some x:=⟨ms[k],List.getElem?_eq_getElem hkl⟩
  have h1:=heq k x hk hx
  have h2:=valE_eff (P:=P) (gl:=gl) (orc:=orc) (ops:=ops) (m:=m) hnd hk hx (dsV P gl orc ops T0 m (Xf js ms) i)
  have hlj:listed.getD i false=false:=by rw [Xd hil false true];exact hu
  have hbef:∀ b j,b < k->js[b]? = some j->listed.getD j false=true:=fun b j hb hj=>by
   have hb1:k - 1 < js.length:=by have:=(List.getElem?_eq_some_iff.1 hk).1;omega
   obtain ⟨j1,hj1⟩:∃ j1,js[k - 1]? = some j1:=⟨js[k - 1],List.getElem?_eq_getElem hb1⟩
   have hl1:=haft j1 (hchn (k - 1) j1 hj1 (by rw [show k - 1+1=k by omega];exact hk))
   rcases Nat.lt_or_ge b (k - 1) with h | h
   ·exact chn_down hI.ch h hj hj1 hl1
   ·obtain rfl:b=k - 1:=by omega
    rw [hj] at hj1;cases hj1;exact hl1
  have hm0:Yz listed m js ms=Uh m ms k:=Ka hlen (by have:=(List.getElem?_eq_some_iff.1 hk).1;omega) hbef (fun j hj=>by rw [hk] at hj;cases hj;exact hlj)
  have hm1:Yz (listed.setIfInBounds i true) m js ms=x.2:=by
   have:=Ka (listed:=listed.setIfInBounds i true) (m:=m) (a:=k+1) hlen (by have:=(List.getElem?_eq_some_iff.1 hk).1;omega) (fun b j hb hj=>?_) (fun j hj=>?_)
   ·rw [this];simp [Uh,List.getD,hx]
   ·rcases Nat.lt_or_ge b k with h | h
    ·have hne':j≠i:=by
      rintro rfl
      have:=Qac hnd hj hk
      omega
     rw [Qt hne'];exact hbef b j h hj
    ·obtain rfl:b=k:=by omega
     rw [hk] at hj;cases hj;exact Za hil
   ·have hne':j≠i:=by
     rintro rfl
     have:=Qac hnd hj hk
     omega
    rw [Qt hne']
    cases hl:listed.getD j false with
    | false=>rfl
    | true=>rw [chn_down hI.ch (Nat.lt_succ_self k) hk hj hl] at hlj;cases hlj
  rw [hm1,h2] at fin
  have hmm:=hI.mm
  have hls:=hI.ls
  rw [hm0] at hmm hls
  have hsim:Sim N w0 r ro0 S P gl Y γ w ⟨(List.range T0.length).map fun t=>AtV P gl orc ops T0 m (Xf js ms) p listed t,Uh m ms k⟩ a:=by
   refine ⟨hmm,hls,hI.rd,⟨by simp [hI.tl],fun t x v hx hv=>?_⟩,hI.d,hI.g,hI.y,hI.e⟩
   ·have hlt:t < T0.length:=by
     rcases Nat.lt_or_ge t T0.length with h | h
     ·exact h
     ·simp [Nat.not_lt.2 h] at hx
    simp [hlt] at hx
    have:=hI.tt t
    rw [hx] at this
    have hv':a.tmps.getD t undef=v:=by simp at hv;simp [hv]
    rwa [hv'] at this
  have mem:∀ so,tr P o=so->memEff so=true->((sop P gl orc (ev gl (dsV P gl orc ops T0 m (Xf js ms) i)) (Uh m ms k) o.dst so).1/\x.1=effV (sop P gl orc (ev gl (dsV P gl orc ops T0 m (Xf js ms) i)) (Uh m ms k) o.dst so).2.1 so/\x.2=(sop P gl orc (ev gl (dsV P gl orc ops T0 m (Xf js ms) i)) (Uh m ms k) o.dst so).2.2) ->
    o.wpIn (FW r) 0 P a w (fun a' w'=>∃ γ',InvE N w0 r ro0 S Y P gl orc ops T0 m ms js (Xf js ms) p (listed.setIfInBounds i true) γ' w' a') Q:=fun so hso _ ⟨k1,k2,k3⟩=>by
   refine sop_sound (orc:=orc) (K:=fun av' m'=>x.1=effV av' so/\m'=x.2) hmm hI.g hop ⟨by rw [hso];exact k1,by rw [hso];exact ⟨k2,k3.symm⟩⟩ r _ Q fun v w' γ' av' m' hK h3 h4 h5 h6=>?_
   obtain ⟨hK1,rfl⟩:=hK
   refine fin h4.toR h5 (hls.mono' h4 h3) ?_
   rw [hK1]
   unfold effV
   split<;>first | exact h6 | exact .junk _
  cases htr:tr P o with
  | call f args =>
   rw [htr] at h1
   have h1':Kw P gl Y (ev gl (dsV P gl orc ops T0 m (Xf js ms) i)) (Uh m ms k) (fun y m2=>y=x.1/\m2=x.2) (tr P o):=by
    rw [htr]
    simp only [effC] at h1
    simp only [Kw]
    split at h1
    ·rename_i g first cap hev;simp only [hev];exact h1
    ·exact h1.elim
   refine eff_sound hsim hop h1' fun v w' γ' av' m' hK h3 h4 h5 h6=>?_
   obtain ⟨rfl,rfl⟩:=hK
   exact fin h3 h4 h5 h6
  | _=>rw [htr] at h1;first | exact mem _ htr h1.1 h1.2 | exact absurd h1.1 (by simp [memEff])
 ·obtain ⟨h1,h2⟩:=hne hij
  have hset:Yz (listed.setIfInBounds i true) m js ms=Yz listed m js ms:=memL_same fun j hj=>Qt (by rintro rfl;exact hij hj)
  rw [hset] at fin
  have hmm:=hI.mm
  have hls:=hI.ls
  have heqL:rop P gl orc (ev gl (dsV P gl orc ops T0 m (Xf js ms) i)) (Yz listed m js ms) o.dst (tr P o)=rop P gl orc (ev gl (dsV P gl orc ops T0 m (Xf js ms) i)) m o.dst (tr P o):=by
   cases hpa:preAt ops js i with
   | false =>
    rcases memL_mem listed js ms m with h | ⟨x,hx,h⟩
    ·rw [h]
    ·rw [h];exact h2 hpa x hx
   | true =>
    have hm0:Yz listed m js ms=m:=by
     cases js with
     | nil=>cases ms<;>rfl
     | cons j0 js =>
      simp only [preAt] at hpa
      have hn:listed.getD j0 false=false:=by
       cases hl:listed.getD j0 false with
       | false=>rfl
       | true =>
        have:=cloL_ok (ops:=ops) (listed:=listed) hI.clo j0 [j0] (fun k hk=>by rw [List.mem_singleton.1 hk];exact hl) i (by simpa using hpa)
        rw [Xd hil false true,hu] at this
        cases this
      cases ms with
      | nil=>rfl
      | cons x q=>simp only [Yz,hn];rfl
    rw [hm0]
  generalize Yz listed m js ms=mL at *
  refine Ww (m:=mL) hmm (fun _ _ h=>h) hI.g hop (by rw [heqL];exact h1) r _ Q fun v w' γ' q1 q2 q3=>?_
  rw [heqL] at q3
  exact fin q1.toR q2 (hls.mono q1) (by rw [valE_oth hij ho];exact q3)
theorem chnB_ok:∀ {js:List Nat},chnB ops js=true->∀ a j j' o,js[a]? = some j->js[a+1]? = some j'->ops[j']? = some o->j∈Zv o
 | [],_,a,j,j',o,h,_,_=>by simp at h
 | [x],_,a,j,j',o,h,h',_=>by
  have:=(List.getElem?_eq_some_iff.1 h').1
  simp at this
 | x::y::r,hc,0,j,j',o,h,h',ho=>by
  simp at h h'
  subst h;subst h'
  simp only [chnB,Bool.and_eq_true,ho] at hc
  simpa using hc.1
 | x::y::r,hc,a+1,j,j',o,h,h',ho=>by
  simp only [chnB,Bool.and_eq_true] at hc
  exact chnB_ok hc.2 a j j' o (by simpa using h) (by simpa using h') ho
theorem We {js:List Nat} (h:effsAt ops p=some js):js=(List.range p).filter (opAt ops isEf)/\chnB ops js=true/\∀ i,i < p->∃ o,ops[i]? = some o/\calmOp o=true:=by
 unfold effsAt at h
 simp only at h
 split at h
 case isFalse=>cases h
 rename_i hall
 cases h
 simp only [Bool.and_eq_true] at hall
 refine ⟨rfl,hall.1.2,fun i hi=>?_⟩
 have h1:=List.all_eq_true.1 hall.2 i (List.mem_range.2 hi)
 unfold opAt at h1
 split at h1
 ·rename_i o ho
  exact ⟨o,ho,h1⟩
 ·cases h1
def cnt (ops:Array Oper) (k:Nat):Nat:=((List.range k).filter (opAt ops isEf)).length
theorem cnt_succ (k:Nat):cnt ops (k+1)=cnt ops k+(if opAt ops isEf k=true then 1 else 0):=by
 simp only [cnt,List.range_succ,List.filter_append,List.length_append]
 cases h:opAt ops isEf k<;>simp [h]
theorem cnt_at {i:Nat} (hi:i < p) (hd:opAt ops isEf i=true):((List.range p).filter (opAt ops isEf))[cnt ops i]? = some i:=by
 obtain ⟨n,rfl⟩:∃ n,p=i+(n+1):=⟨p - i - 1,by omega⟩
 rw [List.range_add,List.filter_append]
 have hl:cnt ops i=((List.range i).filter (opAt ops isEf)).length:=rfl
 rw [hl,List.getElem?_append_right (Nat.le_refl _),List.range_succ_eq_map,List.map_cons,Nat.add_zero,List.filter_cons_of_pos hd]
 simp
theorem vcE_all {ms:List (AV×AM)} {js:List Nat} (l2:List SO) (K:AS->Prop) (hp:p<=ops.size) (hj:effsAt ops p=some js):∀ (n k:Nat) (mc:AM),k+n=p->cnt ops k<=ms.length->mc=Uh m ms (cnt ops k) ->
  vcE P gl orc Y l2 K m ms (((ops.toList.take p).drop k).map (Xl P ops)) ((flags ops p js).drop k) (ms.drop (cnt ops k)) mc (dsV P gl orc ops T0 m (Xf js ms) k) ->
  js.length=ms.length /\
  (∀ i o,k<=i->i < p->ops[i]? = some o ->
   (i ∉ js->(rop P gl orc (ev gl (dsV P gl orc ops T0 m (Xf js ms) i)) m o.dst (tr P o)).1/\(preAt ops js i=false->∀ x∈ms,rop P gl orc (ev gl (dsV P gl orc ops T0 m (Xf js ms) i)) x.2 o.dst (tr P o)=rop P gl orc (ev gl (dsV P gl orc ops T0 m (Xf js ms) i)) m o.dst (tr P o))) /\
   (∀ b x,js[b]? = some i->ms[b]? = some x->effC P gl orc Y (ev gl (dsV P gl orc ops T0 m (Xf js ms) i)) (Uh m ms b) o.dst x.1 x.2 (tr P o))) /\
  Xy P gl orc Y l2 ⟨(dsV P gl orc ops T0 m (Xf js ms) p),Uh m ms ms.length⟩ K:=by
 obtain ⟨hjs,_,hothers⟩:=We hj
 have hmem:∀ j,j∈js<->j < p/\opAt ops isEf j=true:=fun j=>by rw [hjs,List.mem_filter,List.mem_range]
 have hnd:js.Nodup:=by rw [hjs];exact (List.nodup_range).filter _
 have hat:∀ i,i < p->opAt ops isEf i=true->js[cnt ops i]? = some i:=fun i h1 h2=>by rw [hjs];exact cnt_at h1 h2
 have huniq:∀ {a b i:Nat},js[a]? = some i->js[b]? = some i->a=b:=fun {a b i} h1 h2=>Qac hnd h1 h2
 intro n
 induction n with
 | zero =>
  intro k mc hk hcl hmc h
  obtain rfl:k=p:=by omega
  have e0:(ops.toList.take k).drop k=[]:=List.drop_eq_nil_of_le (by simp;omega)
  rw [e0] at h
  simp only [List.map_nil,vcE] at h
  have hc1:ms.length<=cnt ops k:=List.drop_eq_nil_iff.1 h.1
  have hc2:cnt ops k=js.length:=by rw [hjs];rfl
  have hcc:cnt ops k=ms.length:=by omega
  refine ⟨by omega,fun i o h1 h2=>by omega,?_⟩
  rw [<- hcc,<- hmc]
  exact h.2
 | succ n ih =>
  intro k mc hk hcl hmc h
  have hlt':k < ops.size:=by omega
  have ho:ops[k]? = some ops[k]:=Array.getElem?_eq_getElem hlt'
  have hd:(ops.toList.take p).drop k=ops[k]::(ops.toList.take p).drop (k+1):=by
   rw [List.drop_eq_getElem_cons (by simp;omega)];simp
  have hfl:(flags ops p js).drop k=Yq ops js k::(flags ops p js).drop (k+1):=by
   rw [List.drop_eq_getElem_cons (by simp [flags];omega)];simp [flags]
  rw [hd,hfl,List.map_cons] at h
  have hsu:=Qak (P:=P) (gl:=gl) (orc:=orc) (T0:=T0) (m:=m) (L:=Xf js ms) ho
  obtain ⟨o',ho',hcalm⟩:=hothers k (by omega)
  rw [ho] at ho'
  cases ho'
  have e2:(Xl P ops ops[k]).op=tr P ops[k]:=rfl
  have e3:(Xl P ops ops[k]).dst=ops[k].dst:=rfl
  have hcs:=cnt_succ (ops:=ops) k
  cases hck:js.contains k with
  | true =>
   have hkm:k∈js:=by simpa using hck
   have hdyn:=((hmem k).1 hkm).2
   rw [hdyn,if_pos rfl] at hcs
   rw [show Yq ops js k=.eff by simp only [Yq,hck,cond_true]] at h
   simp only [vcE,e2,e3] at h
   split at h
   ·exact h.elim
   rename_i x q hq
   have hcl':cnt ops k < ms.length:=by
    rcases Nat.lt_or_ge (cnt ops k) ms.length with h' | h'
    ·exact h'
    ·rw [List.drop_eq_nil_of_le h'] at hq;cases hq
   have hx:ms[cnt ops k]? = some x:=by
    have:(ms.drop (cnt ops k))[0]? = some x:=by rw [hq];rfl
    simpa using this
   have hq':ms.drop (cnt ops (k+1))=q:=by
    rw [hcs,<- List.drop_drop,hq];rfl
   obtain ⟨h1,h2⟩:=h
   have hjk:=hat k (by omega) hdyn
   have hval:=valE_eff (P:=P) (gl:=gl) (orc:=orc) (ops:=ops) (m:=m) hnd hjk hx (dsV P gl orc ops T0 m (Xf js ms) k)
   rw [hval] at hsu
   obtain ⟨r1,r2,r3⟩:=ih (k+1) x.2 (by omega) (by omega) (by rw [hcs];simp [Uh,List.getD,hx]) (by
    rw [hsu,hq']
    exact h2)
   refine ⟨r1,fun i o hi hip hio=>?_,r3⟩
   rcases Nat.lt_or_ge k i with hki | hki
   ·exact r2 i o hki hip hio
   ·obtain rfl:i=k:=by omega
    rw [ho] at hio
    cases hio
    refine ⟨fun h=>absurd hkm h,fun b y hb hy=>?_⟩
    obtain rfl:=huniq hb hjk
    rw [hx] at hy
    cases hy
    rw [<- hmc]
    exact h1
  | false =>
   have hkm:k ∉ js:=by simpa using hck
   have hdyn:opAt ops isEf k=false:=by
    cases hdd:opAt ops isEf k with
    | false=>rfl
    | true=>exact absurd ((hmem k).2 ⟨by omega,hdd⟩) hkm
   rw [hdyn,if_neg (by simp),Nat.add_zero] at hcs
   obtain ⟨h1,h2,h3⟩:(rop P gl orc (ev gl (dsV P gl orc ops T0 m (Xf js ms) k)) m ops[k].dst (tr P ops[k])).1/\(preAt ops js k=false->∀ x∈ms,rop P gl orc (ev gl (dsV P gl orc ops T0 m (Xf js ms) k)) x.2 ops[k].dst (tr P ops[k])=rop P gl orc (ev gl (dsV P gl orc ops T0 m (Xf js ms) k)) m ops[k].dst (tr P ops[k])) /\
     vcE P gl orc Y l2 K m ms (((ops.toList.take p).drop (k+1)).map (Xl P ops)) ((flags ops p js).drop (k+1)) (ms.drop (cnt ops k)) mc (put (dsV P gl orc ops T0 m (Xf js ms) k) ops[k].dst (rop P gl orc (ev gl (dsV P gl orc ops T0 m (Xf js ms) k)) m ops[k].dst (tr P ops[k])).2):=by
    cases hpa:preAt ops js k with
    | true =>
     rw [show Yq ops js k=.pre by simp only [Yq,hck,hpa,cond_true,cond_false]] at h
     simp only [vcE,e2,e3] at h
     exact ⟨h.1,fun h=>(by cases h),h.2⟩
    | false =>
     rw [show Yq ops js k=.oth by simp only [Yq,hck,hpa,cond_false]] at h
     simp only [vcE,e2,e3] at h
     exact ⟨h.1,fun _=>h.2.1,h.2.2⟩
   rw [valE_oth hkm ho] at hsu
   obtain ⟨r1,r2,r3⟩:=ih (k+1) mc (by omega) (by omega) (by rw [hcs];exact hmc) (by rw [hsu,hcs];exact h3)
   refine ⟨r1,fun i o hi hip hio=>?_,r3⟩
   rcases Nat.lt_or_ge k i with hki | hki
   ·exact r2 i o hki hip hio
   ·obtain rfl:i=k:=by omega
    rw [ho] at hio
    cases hio
    refine ⟨fun _=>⟨h1,h2⟩,fun b y hb=>absurd (List.mem_of_getElem? hb) hkm⟩
theorem drawE_sound {Q:Exit->Act->World->Prop} {K:AS->Prop} {γ:G} {w:World} {s:AS} {a:Act} {js:List Nat} (hQ:∀ γ w s a,K s->Sim N w0 r ro0 S P gl Y γ w s a->Q .normal a w) (hc:Qam ops p=true) (hj:effsAt ops p=some js)
  {ms:List (AV×AM)} (h:vcE P gl orc Y ((ops.toList.drop p).map (Xl P ops)) K s.m ms ((ops.toList.take p).map (Xl P ops)) (flags ops p js) ms s.m s.T) (hs:Sim N w0 r ro0 S P gl Y γ w s a) :
  wpAnyIn (FW r) 0 P .any ops Q ops.size (Array.replicate ops.size false) a { w with drawn:=w.drawn+1 }:=by
 obtain ⟨hp,hsp⟩:=Zg hc
 obtain ⟨hjs,hjc,hothers⟩:=We hj
 have hnd:js.Nodup:=by rw [hjs];exact (List.nodup_range).filter _
 have hltp:∀ j∈js,j < p:=fun j h=>by rw [hjs,List.mem_filter] at h;exact List.mem_range.1 h.1
 obtain ⟨hlen,h1,h2⟩:=vcE_all (P:=P) (gl:=gl) (orc:=orc) (T0:=s.T) (m:=s.m) ((ops.toList.drop p).map (Xl P ops)) K hp hj p 0 s.m (by simp) (by simp [cnt]) (by simp [cnt,Uh]) (by simpa [dsV,cnt] using h)
 have full:∀ (fuel:Nat) (listed:Array Bool) (γ:G) (w:World) (a:Act),InvE N w0 r ro0 S Y P gl orc ops s.T s.m ms js (Xf js ms) p listed γ w a->uc ops listed<=fuel->(∀ i,i < p->listed.getD i false=true)->wpAnyIn (FW r) 0 P .any ops Q fuel listed a w:=by
  intro fuel listed γ w a hI huc hall
  have hml:Yz listed s.m js ms=Uh s.m ms ms.length:=Ka hlen (by omega) (fun b j _ hb=>hall j (hltp j (List.mem_of_getElem? hb))) (fun j hj=>by rw [List.getElem?_eq_none (by omega)] at hj;cases hj)
  have hmm:=hI.mm
  have hls:=hI.ls
  rw [hml] at hmm hls
  refine tail_sound hQ hc fuel p listed γ w _ a (Nat.le_refl _) hp hI.size hall hI.tail huc h2 ⟨hmm,hls,hI.rd,⟨?_,fun t x v hx hv=>?_⟩,hI.d,hI.g,hI.y,hI.e⟩
  ·simp [dsV_len,hI.tl]
  ·have h1:=hI.tt t
   have hAt:AtV P gl orc ops s.T s.m (Xf js ms) p listed t=x:=by
    have hx':(dsV P gl orc ops s.T s.m (Xf js ms) p).getD t .junk=x:=by simp only at hx;simp [List.getD,hx]
    unfold AtV
    split
    ·exact hx'
    ·rename_i hw
     rw [<- hx']
     refine (Qal p fun j hj hd=>hw ?_).symm
     unfold wr
     rw [List.any_eq_true]
     exact ⟨j,List.mem_range.2 hj,by rw [hall j hj,hd];simp⟩
   rw [hAt] at h1
   have:a.tmps.getD t undef=v:=by simp at hv;simp [hv]
   rwa [this] at h1
 have main:∀ (fuel:Nat) (listed:Array Bool) (γ:G) (w:World) (a:Act),InvE N w0 r ro0 S Y P gl orc ops s.T s.m ms js (Xf js ms) p listed γ w a->uc ops listed<=fuel->wpAnyIn (FW r) 0 P .any ops Q fuel listed a w:=by
  intro fuel
  induction fuel with
  | zero =>
   intro listed γ w a hI huc
   exact full 0 listed γ w a hI huc fun i hi=>by
    rw [Xd (by rw [hI.size];omega) false true]
    exact uc_zero (Nat.le_zero.1 huc) (by omega)
  | succ fuel ih =>
   intro listed γ w a hI huc
   by_cases hall:∀ i,i < p->listed.getD i false=true
   ·exact full (fuel+1) listed γ w a hI huc hall
   ·have hex:∃ k,k < p/\listed.getD k true=false:=by
     refine Classical.byContradiction fun hn=>hall fun i hi=>?_
     rw [Xd (by rw [hI.size];omega) false true]
     cases hl:listed.getD i true with
     | true=>rfl
     | false=>exact absurd ⟨i,hi,hl⟩ hn
    obtain ⟨k,hk,hlk⟩:=hex
    refine ⟨fun hr=>?_,fun i hi=>?_⟩
    ·obtain ⟨j,hj⟩:=Je hc hI.size k k (Nat.le_refl _) (by omega) hlk
     rw [hr] at hj;cases hj
    ·obtain ⟨hlt,hu,o,ho,haft⟩:=Jf hc hi
     have hip:i < p:=by
      rcases Nat.lt_or_ge i p with h | h
      ·exact h
      ·have:=tail_all hI.clo ho ((hsp i o ho).2.2 h) haft i k (by omega) (by omega)
       rw [Xd (by rw [hI.size];omega) false true,hlk] at this;cases this
     obtain ⟨o',ho',hcalm⟩:=hothers i hip
     rw [ho] at ho'
     cases ho'
     refine wpOpIn_mono ?_ (earlyE_step hc hI ho hip hcalm hlen hnd hu haft (fun a j e1 e2=>chnB_ok hjc a j i o e1 e2 ho) (h1 i o (Nat.zero_le _) hip ho).1 (h1 i o (Nat.zero_le _) hip ho).2)
     rintro a' w' ⟨γ',hI'⟩
     refine ih _ γ' w' a' hI' ?_
     have:=uc_set hI.size hlt hu
     omega
 have hlf:∀ j,(Array.replicate ops.size false).getD j false=false:=fun j=>by
  rcases Nat.lt_or_ge j ops.size with h | h<;>simp [h]
 have hchn:∀ js':List Nat,chn (Array.replicate ops.size false) js':=fun js'=>by
  induction js' with
  | nil=>trivial
  | cons j r ih =>
   cases r with
   | nil=>trivial
   | cons j' r=>exact ⟨fun h=>(by rw [hlf] at h;cases h),ih⟩
 have hm0:Yz (Array.replicate ops.size false) s.m js ms=s.m:=Ka (a:=0) hlen (by omega) (fun b j hb=>by omega) (fun j _=>hlf j)
 refine main ops.size _ γ w.drew a ⟨by simp,fun i _ hi=>by simp [hi],hchn js,fun j o h=>(by rw [hlf] at h;cases h),?_,?_,hs.rd.monoR (Ev.drew w γ).toR,?_,fun t=>?_,hs.d.monoR (Ev.drew w γ).toR,fun g=>(hs.g g).mono (Ev.drew w γ).imm,hs.y.mono (Ev.drew w γ).toR,hs.e.trans (Ev.drew w γ).toR⟩ ?_
 ·rw [hm0];exact hs.m.drew
 ·rw [hm0];exact hs.ls.mono (Ev.drew w γ)
 ·have:=hs.t.1;simp at this;omega
 ·have hw:wr ops p (Array.replicate ops.size false) t=false:=by
   unfold wr
   rw [List.any_eq_false]
   intro j _
   rw [hlf j];simp
  unfold AtV
  rw [hw]
  simp only [Bool.false_eq_true,if_false]
  have:=(hs.t.mono (Ev.drew w γ)).get t
  simpa [List.getD] using this
 ·unfold uc
  exact Nat.le_trans (List.countP_le_length) (by simp)
end
end Go.Abs
namespace Go.Abs
open Go
def backOK (ops:Array Oper) (p:Nat) (js:List Nat):Bool:=match js.getLast? with
 | some j=>(List.range p).all fun i=>decide (i<=j)||(cloL ops i [i]).contains j
 | none=>false
def bkF (ops:Array Oper) (p:Nat) (js:List Nat):List Fg:=bif backOK ops p js then [.eff] else []
def hasN (fl:List Fg) (l:List SO):Bool:=!(fl.drop l.length).isEmpty
section
variable (P:Program) (gl:Nat->AV) (orc:Nat->FuncId->List AV->AV) (Y:YT)
def effR (e:Opd->AV) (m:AM) (R:AV->AM->Prop):SOp->Prop
 | .call f args=>(match e f with
  | .fn g first cap=>EffY P gl Y g (first++args.map e++cap) m R
  | _=>False)
 | _=>False
def vcN (R:AV->AM->Prop) (l2:List SO) (K:AS->Prop) (m:AM) (ms:List (AV×AM)):List SO->List Fg->List (AV×AM)->AM->List AV->Prop
 | [],_,q,mc,T=>q=[]/\Xy P gl orc Y l2 ⟨T,mc⟩ K
 | _::_,[],_,_,_=>False
 | o::r,.eff::fl,q,mc,T=>(match q with
  | []=>False
  | x::q=>((q=[]->effR P gl Y (ev gl T) mc R o.op)/\(q≠[]->effC P gl orc Y (ev gl T) mc o.dst x.1 x.2 o.op))/\vcN R l2 K m ms r fl q x.2 (put T o.dst x.1))
 | o::r,.pre::fl,q,mc,T=>(rop P gl orc (ev gl T) m o.dst o.op).1/\vcN R l2 K m ms r fl q mc (put T o.dst (rop P gl orc (ev gl T) m o.dst o.op).2)
 | o::r,.oth::fl,q,mc,T=>(rop P gl orc (ev gl T) m o.dst o.op).1/\(∀ x∈ms,rop P gl orc (ev gl T) x.2 o.dst o.op=rop P gl orc (ev gl T) m o.dst o.op)/\vcN R l2 K m ms r fl q mc (put T o.dst (rop P gl orc (ev gl T) m o.dst o.op).2)
theorem vcE_flag {l2:List SO} {K:AS->Prop} {m:AM} {ms:List (AV×AM)} {ex:List Fg}:∀ {l:List SO} {fl:List Fg} {q:List (AV×AM)} {mc:AM} {T:List AV},fl.length=l.length->vcE P gl orc Y l2 K m ms l (fl++ex) q mc T->vcE P gl orc Y l2 K m ms l fl q mc T
 | [],[],q,mc,T,_,h=>by simpa only [vcE] using h
 | [],_::_,_,_,_,hl,_=>by simp at hl
 | _::_,[],_,_,_,hl,_=>by simp at hl
 | o::r,.eff::fl,[],mc,T,hl,h=>by simp only [List.cons_append,vcE] at h
 | o::r,.eff::fl,x::q,mc,T,hl,h=>by
  simp only [List.cons_append,vcE] at h |-
  exact ⟨h.1,vcE_flag (by simpa using hl) h.2⟩
 | o::r,.pre::fl,q,mc,T,hl,h=>by
  simp only [List.cons_append,vcE] at h |-
  exact ⟨h.1,vcE_flag (by simpa using hl) h.2⟩
 | o::r,.oth::fl,q,mc,T,hl,h=>by
  simp only [List.cons_append,vcE] at h |-
  exact ⟨h.1,h.2.1,vcE_flag (by simpa using hl) h.2.2⟩
theorem vcN_flag {R:AV->AM->Prop} {l2:List SO} {K:AS->Prop} {m:AM} {ms:List (AV×AM)} {ex:List Fg}:∀ {l:List SO} {fl:List Fg} {q:List (AV×AM)} {mc:AM} {T:List AV},fl.length=l.length->vcN P gl orc Y R l2 K m ms l (fl++ex) q mc T->vcN P gl orc Y R l2 K m ms l fl q mc T
 | [],[],q,mc,T,_,h=>by simpa only [vcN] using h
 | [],_::_,_,_,_,hl,_=>by simp at hl
 | _::_,[],_,_,_,hl,_=>by simp at hl
 | o::r,.eff::fl,[],mc,T,hl,h=>by simp only [List.cons_append,vcN] at h
 | o::r,.eff::fl,x::q,mc,T,hl,h=>by
  simp only [List.cons_append,vcN] at h |-
  exact ⟨h.1,vcN_flag (by simpa using hl) h.2⟩
 | o::r,.pre::fl,q,mc,T,hl,h=>by
  simp only [List.cons_append,vcN] at h |-
  exact ⟨h.1,vcN_flag (by simpa using hl) h.2⟩
 | o::r,.oth::fl,q,mc,T,hl,h=>by
  simp only [List.cons_append,vcN] at h |-
  exact ⟨h.1,h.2.1,vcN_flag (by simpa using hl) h.2.2⟩
end
section
variable {N:Nat} {w0:Bas} {r:Option Nat} {ro0:Nat->Nat->Prop} {S:G×World} {Y:YT} {P:Program} {gl:Nat->AV} {orc:Nat->FuncId->List AV->AV} {ops:Array Oper} {T0:List AV} {m:AM} {p:Nat}
theorem lkp_switch {x x':AV×AM} {i:Nat}:∀ {js:List Nat} {ms:List (AV×AM)} {jl:Nat},js[ms.length]? = some jl->i≠jl->lkp (Xf js (ms++[x])) i=lkp (Xf js (ms++[x'])) i
 | [],_,_,h,_=>by simp at h
 | j::js,[],jl,h,hi=>by
  simp at h;subst h
  simp only [List.nil_append,Xf,lkp]
  rw [if_neg (Ne.symm hi),if_neg (Ne.symm hi)]
 | j::js,y::ms,jl,h,hi=>by
  simp only [List.cons_append,Xf,lkp]
  rw [lkp_switch (ms:=ms) (by simpa using h) hi]
theorem dsV_same {L L':List (Nat×AV)} {jl:Nat} (h:∀ i,i < jl->lkp L i=lkp L' i):∀ k,k<=jl->dsV P gl orc ops T0 m L k=dsV P gl orc ops T0 m L' k
 | 0,_=>rfl
 | k+1,hk=>by
  have ih:=dsV_same h k (by omega)
  simp only [dsV]
  rw [ih]
  cases ho:ops[k]? with
  | none=>rfl
  | some o =>
   simp only
   congr 1
   simp only [Kr]
   rw [h k (by omega)]
theorem AtV_switch {L L':List (Nat×AV)} (hc:Qam ops p=true) {listed:Array Bool} {jl:Nat} (hcl:Clo ops listed) (hjl:listed.getD jl false=false) (hL:∀ i,i < jl->lkp L i=lkp L' i)
  (hback:∀ k,jl < k->k < p->(cloL ops k [k]).contains jl=true) (hjp:jl < p) (t:Nat):AtV P gl orc ops T0 m L p listed t=AtV P gl orc ops T0 m L' p listed t:=by
 obtain ⟨hp,hsp⟩:=Zg hc
 unfold AtV
 cases hw:wr ops p listed t with
 | false=>simp
 | true =>
  simp only [if_true]
  unfold wr at hw
  obtain ⟨j,hj,hjd⟩:=List.any_eq_true.1 hw
  simp only [Bool.and_eq_true,beq_iff_eq] at hjd
  obtain ⟨hl,hd⟩:=hjd
  have hjp':=List.mem_range.1 hj
  have hlt:j < jl:=by
   rcases Nat.lt_trichotomy j jl with h | h | h
   ·exact h
   ·subst h;rw [hl] at hjl;cases hjl
   ·have:=cloL_ok hcl j [j] (fun k hk=>by rw [List.mem_singleton.1 hk];exact hl) jl (by simpa using hback j h hjp')
    rw [this] at hjl;cases hjl
  have hlast:∀ (L:List (Nat×AV)),(dsV P gl orc ops T0 m L p).getD t .junk=(dsV P gl orc ops T0 m L jl).getD t .junk:=fun L=>by
   have:=dsV_last (P:=P) (gl:=gl) (orc:=orc) (ops:=ops) (T0:=T0) (m:=m) (L:=L) (t:=t) (k:=jl) (p - jl) fun k hk1 hk2 hdk=>by
    have hk:k < ops.size:=by omega
    have hko:ops[k]? = some ops[k]:=Array.getElem?_eq_getElem hk
    have:=((hsp k _ hko).2.1 (by omega)).2 j (by omega) t hd
    simp [Vm,hko] at hdk
    exact this hdk
   rwa [show jl+(p - jl)=p by omega] at this
  rw [hlast L,hlast L',dsV_same hL jl (Nat.le_refl _)]
theorem lastN_step {ms:List (AV×AM)} {x:AV×AM} {js:List Nat} {R:AV->AM->Prop} (hc:Qam ops p=true) {Q:Exit->Act->World->Prop} {listed:Array Bool} {γ:G} {w:World} {a:Act}
  (hI:InvE N w0 r ro0 S Y P gl orc ops T0 m (ms++[x]) js (Xf js (ms++[x])) p listed γ w a) {i:Nat} {o:Oper} (ho:ops[i]? = some o) (hip:i < p) (hcalm:calmOp o=true) (hlen:js.length=(ms++[x]).length) (hnd:js.Nodup)
  (hk:js[ms.length]? = some i) (hu:listed.getD i true=false) (haft:∀ j∈Zv o,listed.getD j false=true) (hchn:∀ a j,js[a]? = some j->js[a+1]? = some i->j∈Zv o)
  (hback:∀ k,i < k->k < p->(cloL ops k [k]).contains i=true)
  (heq:effR P gl Y (ev gl (dsV P gl orc ops T0 m (Xf js (ms++[x])) i)) (Uh m (ms++[x]) ms.length) R (tr P o)) :
  wpOpIn (FW r) 0 P ops Q i (fun a' w'=>∃ γ' x',R x'.1 x'.2/\InvE N w0 r ro0 S Y P gl orc ops T0 m (ms++[x']) js (Xf js (ms++[x'])) p (listed.setIfInBounds i true) γ' w' a') a w:=by
 have hi:i < ops.size:=(Array.getElem?_eq_some_iff.1 ho).1
 have hil:i < listed.size:=by rw [hI.size];exact hi
 have hsee:∀ t∈o.looksAt ops,Rep w γ ((dsV P gl orc ops T0 m (Xf js (ms++[x])) i).getD t .junk) (a.tmps.getD t undef):=fun t ht=>by
  rw [seesV (P:=P) (gl:=gl) (orc:=orc) (T0:=T0) (m:=m) (L:=Xf js (ms++[x])) hc hI.size ho hip hu haft ht];exact hI.tt t
 have hop:∀ y∈o.op.operands,Rep w γ (ev gl (dsV P gl orc ops T0 m (Xf js (ms++[x])) i) (opd y)) (a.eval y):=fun y hy=>by
  cases y with
  | tmp t=>exact hsee t (by simp only [Oper.looksAt,List.mem_append,List.mem_filterMap];exact .inl ⟨.tmp t,by simpa using hy,rfl⟩)
  | const v=>exact Yw w γ v
  | func f=>exact .fn rfl (fun i c v h=>by simp at h) rfl fun i c v h=>by simp at h
  | global g=>exact (hI.g g).of_imm
 have hch:chn (listed.setIfInBounds i true) js:=chn_set hI.ch fun a j h1 h2=>haft j (hchn a j h1 h2)
 have hpr:Clo ops (listed.setIfInBounds i true):=Clo.set hI.clo ho hil haft
 have hlj:listed.getD i false=false:=by rw [Xd hil false true];exact hu
 have hbef:∀ b j,b < ms.length->js[b]? = some j->listed.getD j false=true:=fun b j hb hj=>by
  have hb1:ms.length - 1 < js.length:=by simp at hlen;omega
  obtain ⟨j1,hj1⟩:∃ j1,js[ms.length - 1]? = some j1:=⟨js[ms.length - 1],List.getElem?_eq_getElem hb1⟩
  have hl1:=haft j1 (hchn (ms.length - 1) j1 hj1 (by rw [show ms.length - 1+1=ms.length by omega];exact hk))
  rcases Nat.lt_or_ge b (ms.length - 1) with h | h
  ·exact chn_down hI.ch h hj hj1 hl1
  ·obtain rfl:b=ms.length - 1:=by omega
   rw [hj] at hj1;cases hj1;exact hl1
 have hm0:Yz listed m js (ms++[x])=Uh m (ms++[x]) ms.length:=Ka hlen (by simp at hlen;omega) hbef (fun j hj=>by rw [hk] at hj;cases hj;exact hlj)
 have hm1:∀ x':AV×AM,Yz (listed.setIfInBounds i true) m js (ms++[x'])=x'.2:=fun x'=>by
  have:=Ka (listed:=listed.setIfInBounds i true) (m:=m) (ms:=ms++[x']) (js:=js) (a:=ms.length+1) (by simp at hlen |-;omega) (by simp at hlen;omega) (fun b j hb hj=>?_) (fun j hj=>by rw [List.getElem?_eq_none (by simp at hlen;omega)] at hj;cases hj)
  ·rw [this];simp [Uh,List.getD]
  ·rcases Nat.lt_or_ge b ms.length with h | h
   ·have hne':j≠i:=by
     rintro rfl
     have:=Qac hnd hj hk
     omega
    rw [Qt hne'];exact hbef b j h hj
   ·obtain rfl:b=ms.length:=by omega
    rw [hk] at hj;cases hj;exact Za hil
 have hg:o.guard=none:=by simp only [calmOp] at hcalm;simpa using hcalm
 simp only [wpOpIn,ho]
 have hw:Region.wanted o (yielded ops a.tmps)=true:=by simp [Region.wanted,hg]
 rw [if_pos hw]
 have hmm:=hI.mm
 have hls:=hI.ls
 rw [hm0] at hmm hls
 have hsim:Sim N w0 r ro0 S P gl Y γ w ⟨(List.range T0.length).map fun t=>AtV P gl orc ops T0 m (Xf js (ms++[x])) p listed t,Uh m (ms++[x]) ms.length⟩ a:=by
  refine ⟨hmm,hls,hI.rd,⟨by simp [hI.tl],fun t x v hx hv=>?_⟩,hI.d,hI.g,hI.y,hI.e⟩
  have hlt:t < T0.length:=by
   rcases Nat.lt_or_ge t T0.length with h | h
   ·exact h
   ·simp [Nat.not_lt.2 h] at hx
  simp [hlt] at hx
  have:=hI.tt t
  rw [hx] at this
  have hv':a.tmps.getD t undef=v:=by simp at hv;simp [hv]
  rwa [hv'] at this
 have h1':Kw P gl Y (ev gl (dsV P gl orc ops T0 m (Xf js (ms++[x])) i)) (Uh m (ms++[x]) ms.length) R (tr P o):=by
  cases htr:tr P o with
  | call f args =>
   rw [htr] at heq
   simp only [effR] at heq
   simp only [Kw]
   split at heq
   ·rename_i g first cap hev;simp only [hev];exact heq
   ·exact heq.elim
  | _=>rw [htr] at heq;exact heq.elim
 refine eff_sound hsim hop h1' fun v w' γ' av' m' hK he hm hl hr=>?_
 have hval:=valE_eff (P:=P) (gl:=gl) (orc:=orc) (ops:=ops) (m:=m) (ms:=ms++[(av',m')]) (x:=(av',m')) hnd hk (by simp) (dsV P gl orc ops T0 m (Xf js (ms++[(av',m')])) i)
 have hsw:∀ t,AtV P gl orc ops T0 m (Xf js (ms++[(av',m')])) p listed t=AtV P gl orc ops T0 m (Xf js (ms++[x])) p listed t:=fun t =>
  AtV_switch hc hI.clo hlj (fun j hj=>lkp_switch hk (by omega)) hback hip t
 refine ⟨γ',(av',m'),hK,by simp [hI.size],fun j hj1 hj2=>by rw [Qt (by omega)];exact hI.tail j hj1 hj2,hch,hpr,by rw [hm1];exact hm,by rw [hm1];exact hl,hI.rd.monoR he,?_,fun t=>?_,?_,fun g=>(hI.g g).monoR he.imm,hI.y.mono he,hI.e.trans he⟩
 ·cases hd:o.dst<;>simp [Act.put,hI.tl]
 ·rw [At_setV hc hI.size ho hip,hsw]
  by_cases hd:o.dst=some t
  ·by_cases ht:t < T0.length
   ·rw [if_pos ⟨hd,ht⟩,hd]
    have:(a.put (some t) v).tmps.getD t undef=v:=by simp [Act.put,hI.tl,ht]
    rw [this,hval];exact hr
   ·rw [if_neg (by simp [ht]),hd]
    have:(a.put (some t) v).tmps.getD t undef=a.tmps.getD t undef:=by simp [Act.put,hI.tl,ht]
    rw [this];exact (hI.tt t).monoR he
  ·rw [if_neg (by simp [hd])]
   have:(a.put o.dst v).tmps.getD t undef=a.tmps.getD t undef:=by
    cases hd':o.dst with
    | none=>rfl
    | some d=>simp only [Act.put];simp;rw [Array.getElem?_setIfInBounds_ne (by rintro rfl;exact hd hd')]
   rw [this];exact (hI.tt t).monoR he
 ·cases hd:o.dst<;>exact hI.d.monoR he
theorem vcN_all {R:AV->AM->Prop} {ms:List (AV×AM)} {js:List Nat} (l2:List SO) (K:AS->Prop) (hp:p<=ops.size) (hj:effsAt ops p=some js):∀ (n k:Nat) (mc:AM),k+n=p->cnt ops k<=ms.length->mc=Uh m ms (cnt ops k) ->
  vcN P gl orc Y R l2 K m ms (((ops.toList.take p).drop k).map (Xl P ops)) ((flags ops p js).drop k) (ms.drop (cnt ops k)) mc (dsV P gl orc ops T0 m (Xf js ms) k) ->
  js.length=ms.length /\
  (∀ i o,k<=i->i < p->ops[i]? = some o ->
   (i ∉ js->(rop P gl orc (ev gl (dsV P gl orc ops T0 m (Xf js ms) i)) m o.dst (tr P o)).1/\(preAt ops js i=false->∀ x∈ms,rop P gl orc (ev gl (dsV P gl orc ops T0 m (Xf js ms) i)) x.2 o.dst (tr P o)=rop P gl orc (ev gl (dsV P gl orc ops T0 m (Xf js ms) i)) m o.dst (tr P o))) /\
   (∀ b x,js[b]? = some i->ms[b]? = some x->(b+1=ms.length->effR P gl Y (ev gl (dsV P gl orc ops T0 m (Xf js ms) i)) (Uh m ms b) R (tr P o))/\(b+1≠ms.length->effC P gl orc Y (ev gl (dsV P gl orc ops T0 m (Xf js ms) i)) (Uh m ms b) o.dst x.1 x.2 (tr P o)))) /\
  Xy P gl orc Y l2 ⟨(dsV P gl orc ops T0 m (Xf js ms) p),Uh m ms ms.length⟩ K:=by
 obtain ⟨hjs,_,hothers⟩:=We hj
 have hmem:∀ j,j∈js<->j < p/\opAt ops isEf j=true:=fun j=>by rw [hjs,List.mem_filter,List.mem_range]
 have hnd:js.Nodup:=by rw [hjs];exact (List.nodup_range).filter _
 have hat:∀ i,i < p->opAt ops isEf i=true->js[cnt ops i]? = some i:=fun i h1 h2=>by rw [hjs];exact cnt_at h1 h2
 have huniq:∀ {a b i:Nat},js[a]? = some i->js[b]? = some i->a=b:=fun {a b i} h1 h2=>Qac hnd h1 h2
 intro n
 induction n with
 | zero =>
  intro k mc hk hcl hmc h
  obtain rfl:k=p:=by omega
  have e0:(ops.toList.take k).drop k=[]:=List.drop_eq_nil_of_le (by simp;omega)
  rw [e0] at h
  simp only [List.map_nil,vcN] at h
  have hc1:ms.length<=cnt ops k:=List.drop_eq_nil_iff.1 h.1
  have hc2:cnt ops k=js.length:=by rw [hjs];rfl
  have hcc:cnt ops k=ms.length:=by omega
  refine ⟨by omega,fun i o h1 h2=>by omega,?_⟩
  rw [<- hcc,<- hmc]
  exact h.2
 | succ n ih =>
  intro k mc hk hcl hmc h
  have hlt':k < ops.size:=by omega
  have ho:ops[k]? = some ops[k]:=Array.getElem?_eq_getElem hlt'
  have hd:(ops.toList.take p).drop k=ops[k]::(ops.toList.take p).drop (k+1):=by
   rw [List.drop_eq_getElem_cons (by simp;omega)];simp
  have hfl:(flags ops p js).drop k=Yq ops js k::(flags ops p js).drop (k+1):=by
   rw [List.drop_eq_getElem_cons (by simp [flags];omega)];simp [flags]
  rw [hd,hfl,List.map_cons] at h
  have hsu:=Qak (P:=P) (gl:=gl) (orc:=orc) (T0:=T0) (m:=m) (L:=Xf js ms) ho
  obtain ⟨o',ho',hcalm⟩:=hothers k (by omega)
  rw [ho] at ho'
  cases ho'
  have e2:(Xl P ops ops[k]).op=tr P ops[k]:=rfl
  have e3:(Xl P ops ops[k]).dst=ops[k].dst:=rfl
  have hcs:=cnt_succ (ops:=ops) k
  cases hck:js.contains k with
  | true =>
   have hkm:k∈js:=by simpa using hck
   have hdyn:=((hmem k).1 hkm).2
   rw [hdyn,if_pos rfl] at hcs
   rw [show Yq ops js k=.eff by simp only [Yq,hck,cond_true]] at h
   simp only [vcN,e2,e3] at h
   split at h
   ·exact h.elim
   rename_i x q hq
   have hcl':cnt ops k < ms.length:=by
    rcases Nat.lt_or_ge (cnt ops k) ms.length with h' | h'
    ·exact h'
    ·rw [List.drop_eq_nil_of_le h'] at hq;cases hq
   have hx:ms[cnt ops k]? = some x:=by
    have:(ms.drop (cnt ops k))[0]? = some x:=by rw [hq];rfl
    simpa using this
   have hq':ms.drop (cnt ops (k+1))=q:=by
    rw [hcs,<- List.drop_drop,hq];rfl
   obtain ⟨h1,h2⟩:=h
   have hjk:=hat k (by omega) hdyn
   have hval:=valE_eff (P:=P) (gl:=gl) (orc:=orc) (ops:=ops) (m:=m) hnd hjk hx (dsV P gl orc ops T0 m (Xf js ms) k)
   rw [hval] at hsu
   obtain ⟨r1,r2,r3⟩:=ih (k+1) x.2 (by omega) (by omega) (by rw [hcs];simp [Uh,List.getD,hx]) (by
    rw [hsu,hq']
    exact h2)
   refine ⟨r1,fun i o hi hip hio=>?_,r3⟩
   rcases Nat.lt_or_ge k i with hki | hki
   ·exact r2 i o hki hip hio
   ·obtain rfl:i=k:=by omega
    rw [ho] at hio
    cases hio
    refine ⟨fun h=>absurd hkm h,fun b y hb hy=>?_⟩
    obtain rfl:=huniq hb hjk
    rw [hx] at hy
    cases hy
    rw [<- hmc]
    have hqe:q=[]<->cnt ops i+1=ms.length:=by
     rw [<- hq',hcs,List.drop_eq_nil_iff];omega
    exact ⟨fun h=>h1.1 (hqe.2 h),fun h=>h1.2 fun e=>h (hqe.1 e)⟩
  | false =>
   have hkm:k ∉ js:=by simpa using hck
   have hdyn:opAt ops isEf k=false:=by
    cases hdd:opAt ops isEf k with
    | false=>rfl
    | true=>exact absurd ((hmem k).2 ⟨by omega,hdd⟩) hkm
   rw [hdyn,if_neg (by simp),Nat.add_zero] at hcs
   obtain ⟨h1,h2,h3⟩:(rop P gl orc (ev gl (dsV P gl orc ops T0 m (Xf js ms) k)) m ops[k].dst (tr P ops[k])).1/\(preAt ops js k=false->∀ x∈ms,rop P gl orc (ev gl (dsV P gl orc ops T0 m (Xf js ms) k)) x.2 ops[k].dst (tr P ops[k])=rop P gl orc (ev gl (dsV P gl orc ops T0 m (Xf js ms) k)) m ops[k].dst (tr P ops[k])) /\
     vcN P gl orc Y R l2 K m ms (((ops.toList.take p).drop (k+1)).map (Xl P ops)) ((flags ops p js).drop (k+1)) (ms.drop (cnt ops k)) mc (put (dsV P gl orc ops T0 m (Xf js ms) k) ops[k].dst (rop P gl orc (ev gl (dsV P gl orc ops T0 m (Xf js ms) k)) m ops[k].dst (tr P ops[k])).2):=by
    cases hpa:preAt ops js k with
    | true =>
     rw [show Yq ops js k=.pre by simp only [Yq,hck,hpa,cond_true,cond_false]] at h
     simp only [vcN,e2,e3] at h
     exact ⟨h.1,fun h=>(by cases h),h.2⟩
    | false =>
     rw [show Yq ops js k=.oth by simp only [Yq,hck,hpa,cond_false]] at h
     simp only [vcN,e2,e3] at h
     exact ⟨h.1,fun _=>h.2.1,h.2.2⟩
   rw [valE_oth hkm ho] at hsu
   obtain ⟨r1,r2,r3⟩:=ih (k+1) mc (by omega) (by omega) (by rw [hcs];exact hmc) (by rw [hsu,hcs];exact h3)
   refine ⟨r1,fun i o hi hip hio=>?_,r3⟩
   rcases Nat.lt_or_ge k i with hki | hki
   ·exact r2 i o hki hip hio
   ·obtain rfl:i=k:=by omega
    rw [ho] at hio
    cases hio
    refine ⟨fun _=>⟨h1,h2⟩,fun b y hb=>absurd (List.mem_of_getElem? hb) hkm⟩
theorem drawN_sound {Q:Exit->Act->World->Prop} {K:AS->Prop} {γ:G} {w:World} {s:AS} {a:Act} {js:List Nat} (hQ:∀ γ w s a,K s->Sim N w0 r ro0 S P gl Y γ w s a->Q .normal a w) (hc:Qam ops p=true) (hj:effsAt ops p=some js)
  (hbk:backOK ops p js=true) {R:AV->AM->Prop} {ms:List (AV×AM)} (hR:∃ x:AV×AM,R x.1 x.2) (h:∀ x:AV×AM,R x.1 x.2->vcN P gl orc Y R ((ops.toList.drop p).map (Xl P ops)) K s.m (ms++[x]) ((ops.toList.take p).map (Xl P ops)) (flags ops p js) (ms++[x]) s.m s.T) (hs:Sim N w0 r ro0 S P gl Y γ w s a) :
  wpAnyIn (FW r) 0 P .any ops Q ops.size (Array.replicate ops.size false) a { w with drawn:=w.drawn+1 }:=by
 obtain ⟨hp,hsp⟩:=Zg hc
 obtain ⟨hjs,hjc,hothers⟩:=We hj
 have hnd:js.Nodup:=by rw [hjs];exact (List.nodup_range).filter _
 have hltp:∀ j∈js,j < p:=fun j h=>by rw [hjs,List.mem_filter] at h;exact List.mem_range.1 h.1
 have hall:=fun (x:AV×AM) (hx:R x.1 x.2)=>vcN_all (P:=P) (gl:=gl) (orc:=orc) (T0:=s.T) (m:=s.m) ((ops.toList.drop p).map (Xl P ops)) K hp hj p 0 s.m (by simp) (by simp [cnt]) (by simp [cnt,Uh]) (by simpa [dsV,cnt] using h x hx)
 obtain ⟨x0,hx0⟩:=hR
 have hln:js.length=ms.length+1:=by have:=(hall x0 hx0).1;simpa using this
 obtain ⟨jl,hjl⟩:∃ jl,js[ms.length]? = some jl:=⟨_,List.getElem?_eq_getElem (by omega)⟩
 have hback:∀ k,jl < k->k < p->(cloL ops k [k]).contains jl=true:=fun k hk1 hk2=>by
  unfold backOK at hbk
  have hg:js.getLast? = some jl:=by rw [List.getLast?_eq_getElem?,hln];simpa using hjl
  rw [hg] at hbk
  have:=List.all_eq_true.1 hbk k (List.mem_range.2 hk2)
  simp only [Bool.or_eq_true,decide_eq_true_eq] at this
  rcases this with h | h
  ·omega
  ·exact h
 have full:∀ (x:AV×AM),R x.1 x.2->∀ (fuel:Nat) (listed:Array Bool) (γ:G) (w:World) (a:Act),InvE N w0 r ro0 S Y P gl orc ops s.T s.m (ms++[x]) js (Xf js (ms++[x])) p listed γ w a->uc ops listed<=fuel->(∀ i,i < p->listed.getD i false=true)->wpAnyIn (FW r) 0 P .any ops Q fuel listed a w:=by
  intro x hx fuel listed γ w a hI huc hall'
  obtain ⟨hlen,h1,h2⟩:=hall x hx
  have hall:=hall'
  have hml:Yz listed s.m js (ms++[x])=Uh s.m (ms++[x]) (ms++[x]).length:=Ka hlen (by omega) (fun b j _ hb=>hall j (hltp j (List.mem_of_getElem? hb))) (fun j hj=>by rw [List.getElem?_eq_none (by omega)] at hj;cases hj)
  have hmm:=hI.mm
  have hls:=hI.ls
  rw [hml] at hmm hls
  refine tail_sound hQ hc fuel p listed γ w _ a (Nat.le_refl _) hp hI.size hall hI.tail huc h2 ⟨hmm,hls,hI.rd,⟨?_,fun t y v hy hv=>?_⟩,hI.d,hI.g,hI.y,hI.e⟩
  ·simp [dsV_len,hI.tl]
  ·have h1:=hI.tt t
   have hAt:AtV P gl orc ops s.T s.m (Xf js (ms++[x])) p listed t=y:=by
    have hx':(dsV P gl orc ops s.T s.m (Xf js (ms++[x])) p).getD t .junk=y:=by simp only at hy;simp [List.getD,hy]
    unfold AtV
    split
    ·exact hx'
    ·rename_i hw
     rw [<- hx']
     refine (Qal p fun j hj hd=>hw ?_).symm
     unfold wr
     rw [List.any_eq_true]
     exact ⟨j,List.mem_range.2 hj,by rw [hall j hj,hd];simp⟩
   rw [hAt] at h1
   have:a.tmps.getD t undef=v:=by simp at hv;simp [hv]
   rwa [this] at h1
 have main:∀ (fuel:Nat) (x:AV×AM),R x.1 x.2->∀ (listed:Array Bool) (γ:G) (w:World) (a:Act),InvE N w0 r ro0 S Y P gl orc ops s.T s.m (ms++[x]) js (Xf js (ms++[x])) p listed γ w a->uc ops listed<=fuel->wpAnyIn (FW r) 0 P .any ops Q fuel listed a w:=by
  intro fuel
  induction fuel with
  | zero =>
   intro x hx listed γ w a hI huc
   exact full x hx 0 listed γ w a hI huc fun i hi=>by
    rw [Xd (by rw [hI.size];omega) false true]
    exact uc_zero (Nat.le_zero.1 huc) (by omega)
  | succ fuel ih =>
   intro x hx listed γ w a hI huc
   by_cases hall2:∀ i,i < p->listed.getD i false=true
   ·exact full x hx (fuel+1) listed γ w a hI huc hall2
   ·have hex:∃ k,k < p/\listed.getD k true=false:=by
     refine Classical.byContradiction fun hn=>hall2 fun i hi=>?_
     rw [Xd (by rw [hI.size];omega) false true]
     cases hl:listed.getD i true with
     | true=>rfl
     | false=>exact absurd ⟨i,hi,hl⟩ hn
    obtain ⟨k,hk,hlk⟩:=hex
    refine ⟨fun hr=>?_,fun i hi=>?_⟩
    ·obtain ⟨j,hj⟩:=Je hc hI.size k k (Nat.le_refl _) (by omega) hlk
     rw [hr] at hj;cases hj
    ·obtain ⟨hlt,hu,o,ho,haft⟩:=Jf hc hi
     have hip:i < p:=by
      rcases Nat.lt_or_ge i p with h | h
      ·exact h
      ·have:=tail_all hI.clo ho ((hsp i o ho).2.2 h) haft i k (by omega) (by omega)
       rw [Xd (by rw [hI.size];omega) false true,hlk] at this;cases this
     obtain ⟨o',ho',hcalm⟩:=hothers i hip
     rw [ho] at ho'
     cases ho'
     obtain ⟨hlen,h1,_⟩:=hall x hx
     obtain ⟨h1a,h1b⟩:=h1 i o (Nat.zero_le _) hip ho
     by_cases hij:i=jl
     ·subst hij
      refine wpOpIn_mono ?_ (lastN_step hc hI ho hip hcalm hlen hnd hjl hu haft (fun a j e1 e2=>chnB_ok hjc a j i o e1 e2 ho) hback ((h1b ms.length x hjl (by simp)).1 (by simp)))
      rintro a' w' ⟨γ',x',hx',hI'⟩
      refine ih x' hx' _ γ' w' a' hI' ?_
      have:=uc_set hI.size hlt hu
      omega
     ·refine wpOpIn_mono ?_ (earlyE_step hc hI ho hip hcalm hlen hnd hu haft (fun a j e1 e2=>chnB_ok hjc a j i o e1 e2 ho) h1a (fun k y e1 e2=>(h1b k y e1 e2).2 fun e=>hij (by
       have hk:k=ms.length:=by simpa using e
       subst hk
       rw [hjl] at e1
       exact (Option.some.inj e1).symm)))
      rintro a' w' ⟨γ',hI'⟩
      refine ih x hx _ γ' w' a' hI' ?_
      have:=uc_set hI.size hlt hu
      omega
 have hlf:∀ j,(Array.replicate ops.size false).getD j false=false:=fun j=>by
  rcases Nat.lt_or_ge j ops.size with h | h<;>simp [h]
 have hchn:∀ js':List Nat,chn (Array.replicate ops.size false) js':=fun js'=>by
  induction js' with
  | nil=>trivial
  | cons j r ih =>
   cases r with
   | nil=>trivial
   | cons j' r=>exact ⟨fun h=>(by rw [hlf] at h;cases h),ih⟩
 have hm0:Yz (Array.replicate ops.size false) s.m js (ms++[x0])=s.m:=Ka (a:=0) (hall x0 hx0).1 (by omega) (fun b j hb=>by omega) (fun j _=>hlf j)
 refine main ops.size x0 hx0 _ γ w.drew a ⟨by simp,fun i _ hi=>by simp [hi],hchn js,fun j o h=>(by rw [hlf] at h;cases h),?_,?_,hs.rd.monoR (Ev.drew w γ).toR,?_,fun t=>?_,hs.d.monoR (Ev.drew w γ).toR,fun g=>(hs.g g).mono (Ev.drew w γ).imm,hs.y.mono (Ev.drew w γ).toR,hs.e.trans (Ev.drew w γ).toR⟩ ?_
 ·rw [hm0];exact hs.m.drew
 ·rw [hm0];exact hs.ls.mono (Ev.drew w γ)
 ·have:=hs.t.1;simp at this;omega
 ·have hw:wr ops p (Array.replicate ops.size false) t=false:=by
   unfold wr
   rw [List.any_eq_false]
   intro j _
   rw [hlf j];simp
  unfold AtV
  rw [hw]
  simp only [Bool.false_eq_true,if_false]
  have:=(hs.t.mono (Ev.drew w γ)).get t
  simpa [List.getD] using this
 ·unfold uc
  exact Nat.le_trans (List.countP_le_length) (by simp)
end
end Go.Abs
namespace Go.Abs
open Go Go.RowKit
inductive SC where
 | skip
 | ops (l:List SO)
 | draw (l l2:List SO)
 | drawE (fl:List Fg) (l l2:List SO)
 | seq (a b:SC)
 | cond (x:Opd) (a b:SC)
 | block (id:Nat) (c:SC)
 | loop (c:SC)
 | exit (id:Nat)
 | scope (c:SC)
 | rfunc (g:Opd) (ps:List Nat) (asg body:SC)
 | ret
 | bad
theorem flags_len {P:Program} {ops:Array Oper} {p:Nat} {js:List Nat} (hc:Qam ops p=true):(flags ops p js).length=((ops.toList.take p).map (Xl P ops)).length:=by
 have:=(Zg hc).1
 simp [flags];omega
theorem bkF_ok {P:Program} {ops:Array Oper} {p:Nat} {js:List Nat} (hc:Qam ops p=true) (h:hasN (flags ops p js++bkF ops p js) ((ops.toList.take p).map (Xl P ops))=true):backOK ops p js=true:=by
 unfold hasN at h
 rw [<- flags_len (js:=js) hc,List.drop_left] at h
 unfold bkF at h
 cases hb:backOK ops p js with
 | true=>rfl
 | false=>rw [hb] at h;simp at h
def Vi (P:Program):Code->SC
 | .skip=>.skip
 | .region _ ops false=>.ops (ops.toList.map (Xl P ops))
 | .region _ ops true=>if P.follows .mixedOrders&&Qam ops (dsplit ops) then (match effsAt ops (dsplit ops) with
  | some js=>.drawE (flags ops (dsplit ops) js++bkF ops (dsplit ops) js) ((ops.toList.take (dsplit ops)).map (Xl P ops)) ((ops.toList.drop (dsplit ops)).map (Xl P ops))
  | none=>.draw ((ops.toList.take (dsplit ops)).map (Xl P ops)) ((ops.toList.drop (dsplit ops)).map (Xl P ops))) else .bad
 | .seq a b=>.seq (Vi P a) (Vi P b)
 | .cond c a b=>.cond (opd c) (Vi P a) (Vi P b)
 | .block id c=>.block id (Vi P c)
 | .loop c=>.loop (Vi P c)
 | .exit id=>.exit id
 | .label _=>.skip
 | .scope c=>.scope (Vi P c)
 | .rangeFunc g ps asg body=>.rfunc (opd g) ps.toList (Vi P asg) (Vi P body)
 | .ret=>.ret
 | _=>.bad
def upd (st:Nat->LS) (l:Nat) (x:LS):Nat->LS:=fun i=>if i=l then x else st i
def AM.at_ (m:AM) (l:Nat) (x:LS):AM:={ m with st:=upd m.st l x }
def AM.begin_ (m:AM):AM:={ m with st:=upd m.st m.ln .ready,ln:=m.ln+1 }
def Jc (T:List AV):List Nat->List AV->List AV
 | p::ps,x::xs=>Jc (T.set p x) ps xs
 | _,_=>T
section vc
variable (P:Program) (gl:Nat->AV) (orc:Nat->FuncId->List AV->AV) (Y:YT)
def Qseq (k:AS->(Exit->AS->Prop)->Prop) (Q:Exit->AS->Prop):Exit->AS->Prop
 | .normal,s=>k s Q
 | ex,s=>Q ex s
def Qblock (id:Nat) (Q:Exit->AS->Prop):Exit->AS->Prop
 | .exit id',s=>if id'=id then Q .normal s else Q (.exit id') s
 | ex,s=>Q ex s
def Qscope (Q:Exit->AS->Prop):Exit->AS->Prop
 | .goto _,_=>False
 | ex,s=>Q ex s
def Qround (I:AS->Prop) (μ:AS->Nat) (s:AS) (Q:Exit->AS->Prop):Exit->AS->Prop
 | .normal,s'=>I s'/\μ s' < μ s
 | ex,s'=>Q ex s'
def Qrnd (l:Nat) (K:Bool->AM->Prop):Exit->AS->Prop
 | .normal,s=>K true (s.m.at_ l .ready)
 | .ret,s=>K false (s.m.at_ l (.done .ret))
 | .exit id,s=>K false (s.m.at_ l (.done (.exit id)))
 | _,_=>False
def Qasg (l:Nat) (k:AS->Prop):Exit->AS->Prop
 | .normal,s=>s.m.st l=.ready/\k ⟨s.T,s.m.at_ l .busy⟩
 | _,_=>False
def Qend (l:Nat) (T:List AV) (m:AM) (Q:Exit->AS->Prop):LS->Prop
 | .ready=>Q .normal ⟨T,m.at_ l .gone⟩
 | .done ex=>Q ex ⟨T,m.at_ l .gone⟩
 | _=>False
def Yin (l n:Nat) (k:List AV->AM->(Bool->AM->Prop)->Prop):YT:=fun l' args m K=>if l'=l then m.st l=.ready/\args.length=n/\k args m K else Y l' args m K
def vc:SC->AS->(Exit->AS->Prop)->Prop
 | .skip,s,Q=>Q .normal s
 | .ops l,s,Q=>Xy P gl orc Y l s (Q .normal)
 | .draw l l2,s,Q=>vcD P gl orc Y l2 (Q .normal) l s.T s.m []
 | .drawE fl l l2,s,Q=>vcD P gl orc Y l2 (Q .normal) l s.T s.m []\/(∃ ms,vcE P gl orc Y l2 (Q .normal) s.m ms l fl ms s.m s.T)\/(hasN fl l=true/\∃ (ms:List (AV×AM)) (R:AV->AM->Prop),(∃ x:AV×AM,R x.1 x.2)/\∀ x:AV×AM,R x.1 x.2->vcN P gl orc Y R l2 (Q .normal) s.m (ms++[x]) l fl (ms++[x]) s.m s.T)
 | .seq a b,s,Q=>vc a s (Qseq (vc b) Q)
 | .cond x a b,s,Q=>match ev gl s.T x with
  | .bool t=>(t=true->vc a s Q)/\(t=false->vc b s Q)
  | _=>False
 | .block id c,s,Q=>vc c s (Qblock id Q)
 | .loop c,s,Q=>∃ (I:AS->Prop) (μ:AS->Nat),I s/\∀ s',I s'->vc c s' (Qround I μ s' Q)
 | .exit id,s,Q=>Q (.exit id) s
 | .scope c,s,Q=>vc c s (Qscope Q)
 | .rfunc g ps asg body,s,Q=>match ev gl s.T g with
  | .fn f first cap=>s.m.st s.m.ln=.gone->EffY P gl (Yin Y s.m.ln ps.length fun args m K=>vc asg ⟨Jc s.T ps args,m⟩ (Qasg s.m.ln fun s'=>vc body s' (Qrnd s.m.ln K))) f (first++[.yld s.m.ln]++cap) (s.m.begin_)
    fun _ m'=>Qend s.m.ln s.T m' Q (m'.st s.m.ln)
  | _=>False
 | .ret,s,Q=>Q .ret s
 | .bad,_,_=>False
end vc
section
variable {N:Nat} {w0:Bas} {r:Option Nat} {ro0:Nat->Nat->Prop} {S:G×World} {Y:YT} {P:Program} {gl:Nat->AV} {orc:Nat->FuncId->List AV->AV} {γ:G} {w:World}
def lift (N:Nat) (w0:Bas) (r:Option Nat) (ro0:Nat->Nat->Prop) (S:G×World) (P:Program) (gl:Nat->AV) (Y:YT) (Q:Exit->AS->Prop):Exit->Act->World->Prop:=fun ex a w=>∃ γ s,Sim N w0 r ro0 S P gl Y γ w s a/\Q ex s
theorem MSim.newSp {B:Nat->Option (List AV)} {L:Nat->Option Nat} (hm:MSim N w0 ro0 γ w B L) (o:Obj) :
  MSim N w0 ro0 { γ with sp:=fun b=>γ.sp b\/b=w.heap.size } (w.alloc o) B L/\Ev w γ (w.alloc o) { γ with sp:=fun b=>γ.sp b\/b=w.heap.size }:=by
 have hev:Ev w γ (w.alloc o) { γ with sp:=fun b=>γ.sp b\/b=w.heap.size } :=
  ⟨by simp,fun b o' hb hr=>⟨hr,cell_of_heap (Below.heap_alloc w o b hb)⟩,fun _ _ h=>h,fun _=>Nat.le_refl _,fun _ _ h=>h,rfl,
   fun i b _ ho=>⟨ho,fun arr e he=>⟨arr,by rw [Below.heap_alloc w o b (hm.own i b ho).2.1];exact he,Nat.le_refl _⟩,fun _ h=>h⟩,
   fun b hb=>⟨.inl hb,Below.heap_alloc w o b (hm.sp b hb).2.1⟩,Sz.of_same (Below.heap_alloc w o)⟩
 refine ⟨⟨w0.st _ _ _ _ hm.bs ⟨rfl,rfl,rfl,by simp,fun b hb _=>Below.heap_alloc w _ b hb,hev.ro,fun b hb=>?_,fun _ _ h=>.inl h⟩,by have:=hm.hN;simp;omega,hm.ro0,fun b o h=>by have:=hm.robd b o h;simp;omega,
  fun id cells b hb h1=>?_,fun id b hb=>?_,hm.inj,fun id b hb=>?_,hm.oinj,fun b hb=>?_,fun id b hb=>?_,hm.minj,hm.len,hm.cur0⟩,hev⟩
 ·rcases hb with hb | hb | (hb | rfl) | hb
  ·exact .inl (.inl hb)
  ·exact .inl (.inr (.inl hb))
  ·exact .inl (.inr (.inr (.inl hb)))
  ·exact .inr (Nat.le_refl _)
  ·exact .inl (.inr (.inr (.inr hb)))
 ·obtain ⟨arr,e,h2,h3,h4⟩:=hm.box id cells b hb h1
  exact ⟨arr,e,by rw [Below.heap_alloc w _ b (lt_of_heap h2)];exact h2,h3.mono hev,h4⟩
 ·obtain ⟨h1,h2,h3⟩:=hm.β id b hb
  exact ⟨h1,by simp;omega,h3⟩
 ·obtain ⟨h1,h2,h3⟩:=hm.own id b hb
  exact ⟨h1,by simp;omega,h3⟩
 ·rcases hb with hb | rfl
  ·obtain ⟨h1,h2,h3⟩:=hm.sp b hb
   exact ⟨h1,by simp;omega,h3⟩
  ·refine ⟨hm.hN,by simp,fun o' h=>?_,fun id h=>?_,fun id h=>?_⟩
   ·have:=hm.robd _ _ h;omega
   ·have:=(hm.β id _ h).2.1;omega
   ·have:=(hm.own id _ h).2.1;omega
 ·obtain ⟨h1,h2,h3,h4,h5,h6,h8,h7⟩:=hm.mm id b hb
  refine ⟨h1,by simp;omega,h3,h4,h5,?_,h8,h7.mono hev.toR.toV (Below.heap_alloc w o b h2)⟩
  rintro (h | rfl)
  ·exact h6 h
  ·omega
theorem MSim.putSp {B:Nat->Option (List AV)} {L:Nat->Option Nat} (hm:MSim N w0 ro0 γ w B L) {D:Nat} (hD:γ.sp D) {o o0:Obj} (h0:w.heap[D]? = some o0) (hnc:∀ c e f,o0≠.cells c e f) (hnc':∀ c e f,o≠.cells c e f)
  {γ':G} (hγ:γ'=γ\/γ'={ γ with sp:=fun b=>γ.sp b/\b≠D }) (hsame:γ'=γ->SameSp (some o0) (some o)) :
  MSim N w0 ro0 γ' (w.putObj D o) B L/\EvV w γ (w.putObj D o) γ'/\(∀ wS γS,EvR wS γS w γ->(γ'=γ\/¬ γS.sp D)->EvR wS γS (w.putObj D o) γ'):=by
 have hlt:D < w.heap.size:=lt_of_heap h0
 have hother:∀ b,b≠D->(w.putObj D o).heap[b]? = w.heap[b]? := fun b hb=>World.putObj_heap_other hb
 have hthis:(w.putObj D o).heap[D]? = some o:=World.putObj_heap_same hlt
 have hcell:∀ b o',(w.putObj D o).cell? ⟨b,o',none⟩=w.cell? ⟨b,o',none⟩:=fun b o'=>by
  by_cases hb:b=D
  ·subst hb
   simp only [World.cell?,hthis,h0]
   cases o<;>cases o0<;>first | rfl | exact absurd rfl (hnc _ _ _) | exact absurd rfl (hnc' _ _ _)
  ·exact cell_of_heap (hother b hb)
 have hβ:γ'.β=γ.β:=by rcases hγ with rfl | rfl<;>rfl
 have hown:γ'.own=γ.own:=by rcases hγ with rfl | rfl<;>rfl
 have hcur:γ'.cur=γ.cur:=by rcases hγ with rfl | rfl<;>rfl
 have hro:γ'.ro=γ.ro:=by rcases hγ with rfl | rfl<;>rfl
 have hmm:γ'.mm=γ.mm:=by rcases hγ with rfl | rfl<;>rfl
 have hlp:γ'.lp=γ.lp:=by rcases hγ with rfl | rfl<;>rfl
 have hsp:∀ b,γ'.sp b->γ.sp b:=by rcases hγ with rfl | rfl;exact fun _ h=>h;exact fun _ h=>h.1
 have hsp':∀ b,γ.sp b->b≠D->γ'.sp b:=fun b hb h=>by
  rcases hγ with rfl | rfl
  ·exact hb
  ·exact ⟨hb,h⟩
 have hsz:Sz w (w.putObj D o):=fun b' arr e f h=>⟨arr,by rw [hother b' (by rintro rfl;rw [h0] at h;cases h;exact hnc _ _ _ rfl)];exact h,rfl⟩
 have hevV:EvV w γ (w.putObj D o) γ':=by
  refine ⟨by simp,fun b o' _ hr=>⟨by rw [hro];exact hr,hcell b o'⟩,fun _ _ h=>by rw [hβ];exact h,fun _=>by rw [hcur];exact Nat.le_refl _,fun _ _ h=>by rw [hmm];exact h,fun _ _ h=>by rw [hlp];exact h,fun id b _ ho=>⟨by rw [hown];exact ho,fun arr e he=>⟨arr,?_,Nat.le_refl _⟩,fun _ h=>by rw [hro] at h;exact h⟩,hsz⟩
  rw [hother b (by rintro rfl;exact (hm.sp b hD).2.2.2.2 id ho)];exact he
 refine ⟨⟨w0.st _ _ _ _ hm.bs ⟨rfl,rfl,rfl,by simp,fun b _ hno=>hother b (by rintro rfl;exact hno (.inr (.inr (.inl hD)))),hevV.ro,fun b hb=>.inl ?_,fun b o' h=>.inl (by rw [hro] at h;exact h)⟩,by simpa using hm.hN,
  fun b o' h=>hm.ro0 b o' (by rw [hro] at h;exact h),fun b o' h=>by rw [hro] at h;simpa using hm.robd b o' h,fun id cells b hb h1=>?_,fun id b hb=>?_,fun id id' b h h'=>hm.inj id id' b (by rw [hβ] at h;exact h) (by rw [hβ] at h';exact h'),
  fun id b hb=>?_,fun id id' b h h'=>hm.oinj id id' b (by rw [hown] at h;exact h) (by rw [hown] at h';exact h'),fun b hb=>?_,fun id b hb=>?_,fun id id' b h h'=>hm.minj id id' b (by rw [hmm] at h;exact h) (by rw [hmm] at h';exact h'),fun id n h=>by rw [hcur];exact hm.len id n h,fun id h=>by rw [hcur];exact hm.cur0 id h⟩,hevV,fun wS γS e hc=>?_⟩
 ·rcases hb with ⟨id,hb⟩ | ⟨id,hb⟩ | hb | ⟨F,hb⟩
  ·rw [hβ] at hb;exact .inl ⟨id,hb⟩
  ·rw [hown] at hb;exact .inr (.inl ⟨id,hb⟩)
  ·exact .inr (.inr (.inl (hsp b hb)))
  ·rw [hmm] at hb;exact .inr (.inr (.inr ⟨F,hb⟩))
 ·rw [hβ] at h1
  obtain ⟨arr,e,h2,h3,h4⟩:=hm.box id cells b hb h1
  exact ⟨arr,e,by rw [hother b (by rintro rfl;exact (hm.sp b hD).2.2.2.1 id h1)];exact h2,h3.monoV hevV,h4⟩
 ·rw [hβ] at hb
  obtain ⟨h1,h2,h3,h4,h5⟩:=hm.β id b hb
  exact ⟨h1,by simpa using h2,by rw [hro];exact h3,by rw [hown];exact h4,h5⟩
 ·rw [hown] at hb
  simpa using hm.own id b hb
 ·obtain ⟨h1,h2,h3,h4,h5⟩:=hm.sp b (hsp b hb)
  exact ⟨h1,by simpa using h2,by rw [hro];exact h3,by rw [hβ];exact h4,by rw [hown];exact h5⟩
 ·rw [hmm] at hb
  obtain ⟨h1,h2,h3,h4,h5,h6,h8,h7⟩:=hm.mm id b hb
  exact ⟨h1,by simpa using h2,by rw [hro];exact h3,by rw [hβ];exact h4,by rw [hown];exact h5,fun h=>h6 (hsp b h),by rw [hβ];exact h8,h7.mono hevV (hother b (by rintro rfl;exact h6 hD))⟩
 ·refine ⟨by simpa using e.size,fun b o' hb hr=>⟨by rw [hro];exact (e.ro b o' hb hr).1,(hcell b o').trans (e.ro b o' hb hr).2⟩,fun id b h=>by rw [hβ];exact e.β id b h,fun id=>by rw [hcur];exact e.cur id,fun b F h=>by rw [hmm];exact e.mm b F h,fun i l h=>by rw [hlp];exact e.lp i l h,fun id b hc' ho=>?_,fun b hb=>?_,e.ss.trans hsz⟩
  ·rw [hcur] at hc'
   obtain ⟨g1,g2,g3⟩:=e.own id b hc' ho
   refine ⟨by rw [hown];exact g1,fun arr te he=>?_,fun o' h=>g3 o' (by rw [hro] at h;exact h)⟩
   obtain ⟨arr',k1,k2⟩:=g2 arr te he
   exact ⟨arr',by rw [hother b (by rintro rfl;exact (hm.sp b hD).2.2.2.2 id g1)];exact k1,k2⟩
  ·obtain ⟨g1,g2⟩:=e.sp b hb
   by_cases hbD:b=D
   ·subst hbD
    rcases hc with rfl | hc
    ·refine ⟨g1,g2.trans ?_⟩
     rw [h0,hthis];exact hsame rfl
    ·exact absurd hb hc
   ·exact ⟨hsp' b g1 hbD,by rw [hother b hbD];exact g2⟩
theorem Yv {b:Frame} {a:Act} {k:List Item} {cs:List Frame} {w:World} {c:Code}:step P (lone (b.atR a (.code (.scope c)::k)) cs w)=.next (lone (b.atR a (.code c::.inScope c::k)) cs w) :=
 step_lone_go (by simp [stepG,stepG.exec,Frame.atR])
theorem stepR_inScope {b:Frame} {a:Act} {k:List Item} {cs:List Frame} {w:World} {c:Code}:step P (lone (b.atR a (.inScope c::k)) cs w)=.next (lone (b.atR a k) cs w) :=
 step_lone_go (by simp [stepG,stepG.exec,Frame.atR])
theorem wpIn_scope_straight {c:Code} {Q:Exit->Act->World->Prop} {a:Act} {w:World} (h:c.wpIn (FW r) 0 P (Exit.noGoto Q) a w):(Code.scope c).wpIn (FW r) 0 P Q a w:=by
 intro b k cs hro hb hr
 obtain ⟨e,a₁,w₁,hq,harr⟩:=h b (.inScope c::k) cs hro hb hr
 have h0:(lone (b.atR a (.code (.scope c)::k)) cs w).fenced P (FW r):=fenced_calm hb hr rfl
 cases e with
 | normal=>exact ⟨.normal,a₁,w₁,hq,.head h0 Yv (StepsIn.trans harr (.one (fenced_calm hb hr rfl) stepR_inScope))⟩
 | exit id =>
  refine ⟨.exit id,a₁,w₁,hq,fun k' hk=>.head h0 Yv (harr.1 k' (by simp [exitTo,hk])),fun hr' hk=>?_⟩
  obtain ⟨k₁,h1,h2⟩:=harr.2 hr' (by simp [exitTo,hk])
  exact ⟨k₁,h1,.head h0 Yv h2⟩
 | goto l=>exact hq.elim
 | ret=>exact ⟨_,a₁,w₁,hq,.of_steps (.one h0 Yv) harr⟩
 | panic ch=>exact ⟨_,a₁,w₁,hq,.of_steps (.one h0 Yv) harr⟩
 | outgrown=>exact ⟨_,a₁,w₁,hq,.of_steps (.one h0 Yv) harr⟩
theorem foldl_setPs {γ:G} {w:World}:∀ (ps:List Nat) (args:List AV) (vs:List Value) (T:List AV) (arr:Array Value),args.length=ps.length->RepL w γ args vs->RepL w γ T arr.toList ->
  RepL w γ (Jc T ps args) ((ps.toArray.zip vs.toArray).foldl (fun (tmps:Array Value) (p:Nat×Value)=>tmps.setIfInBounds p.1 p.2) arr).toList:=by
 intro ps args vs T arr hl hr ht
 have e:(ps.toArray.zip vs.toArray).foldl (fun (tmps:Array Value) (p:Nat×Value)=>tmps.setIfInBounds p.1 p.2) arr=(ps.zip vs).foldl (fun (tmps:Array Value) (p:Nat×Value)=>tmps.setIfInBounds p.1 p.2) arr:=by
  rw [<- Array.foldl_toList]
  simp
 rw [e]
 clear e
 induction ps generalizing args vs T arr with
 | nil =>
  cases args with
  | nil=>simpa [Jc] using ht
  | cons x xs=>simp at hl
 | cons p ps ih =>
  cases args with
  | nil=>simp at hl
  | cons x xs =>
   cases vs with
   | nil=>have:=hr.1;simp at this
   | cons v vs =>
    have h0:Rep w γ x v:=hr.2 0 x v rfl rfl
    have hs:RepL w γ xs vs:=⟨by have:=hr.1;simpa using this,fun i x y h1 h2=>hr.2 (i+1) x y (by simpa using h1) (by simpa using h2)⟩
    simp only [List.zip_cons_cons,List.foldl_cons,Jc]
    refine ih xs vs _ _ (by simpa using hl) hs ?_
    rw [Array.toList_setIfInBounds]
    exact ht.set p h0
theorem LSim.put {m:AM} {i l:Nat} {rc:Loop} {x:LS} (h:LSim γ w m) (hi:γ.lp i=some l) (hsp:γ.sp l) (hl:l < w.heap.size) (hx:LMatch x rc):LSim γ (w.putObj l (.loop rc)) (m.at_ i x):=by
 refine ⟨fun i'=>?_,h.2.1,h.2.2.1,fun i' l' hl'=>?_⟩
 rotate_left
 ·obtain ⟨q1,r,q2⟩:=h.2.2.2 i' l' hl'
  by_cases hll:l'=l
  ·subst hll;exact ⟨q1,rc,World.putObj_heap_same hl⟩
  ·exact ⟨q1,r,(World.putObj_heap_other hll).trans q2⟩
 by_cases hi':i'=i
 ·subst hi'
  exact .inr ⟨l,hi,hsp,rc,World.putObj_heap_same hl,by simpa [AM.at_,upd] using hx⟩
 ·rcases h.1 i' with h' | ⟨l',h0,h1,r,h2,h3⟩
  ·exact .inl (by simp [AM.at_,upd,hi',h'])
  ·have hl':l'≠l:=by rintro rfl;exact hi' (h.2.2.1 _ _ _ h0 hi)
   exact .inr ⟨l',h0,h1,r,(World.putObj_heap_other hl').trans h2,by simpa [AM.at_,upd,hi'] using h3⟩
def G.newlp (γ:G) (i l:Nat):G:={ γ with lp:=fun j=>if j=i then some l else γ.lp j }
theorem ev_newlp (w:World) {γ:G} {i l:Nat} (h:γ.lp i=none):EvR w γ w (γ.newlp i l) :=
 ⟨Nat.le_refl _,fun _ _ _ h=>⟨h,rfl⟩,fun _ _ h=>h,fun _=>Nat.le_refl _,fun _ _ h=>h,fun j l' hj=>by
  have:j≠i:=by rintro rfl;rw [h] at hj;cases hj
  simp [G.newlp,this,hj],fun _ _ _ h=>⟨h,fun arr _ h=>⟨arr,h,Nat.le_refl _⟩,fun _ h=>h⟩,fun _ h=>⟨h,.inl rfl⟩,Sz.refl w⟩
theorem MSim.newlp {B:Nat->Option (List AV)} {L:Nat->Option Nat} (hm:MSim N w0 ro0 γ w B L) {i l:Nat} (h:γ.lp i=none):MSim N w0 ro0 (γ.newlp i l) w B L:=by
 have hev:=(ev_newlp w h (l:=l)).toV
 refine ⟨w0.st _ _ _ _ hm.bs ⟨rfl,rfl,rfl,Nat.le_refl _,fun _ _ _=>rfl,fun _ _ _ h=>⟨h,rfl⟩,fun _ hb=>.inl hb,fun _ _ h=>.inl h⟩,hm.hN,hm.ro0,hm.robd,fun id cells b hb h1=>?_,hm.β,hm.inj,hm.own,hm.oinj,hm.sp,fun id b hb=>?_,hm.minj,hm.len,hm.cur0⟩
 ·obtain ⟨arr,e,h2,h3,h4⟩:=hm.box id cells b hb h1
  exact ⟨arr,e,h2,h3.monoV hev,h4⟩
 ·obtain ⟨h1,h2,h3,h4,h5,h6,h8,h7⟩:=hm.mm id b hb
  exact ⟨h1,h2,h3,h4,h5,h6,h8,h7.mono hev rfl⟩
theorem putLoop {B:Nat->Option (List AV)} {L:Nat->Option Nat} (hm:MSim N w0 ro0 γ w B L) {l:Nat} (hl:γ.sp l) {rc:Loop} (h0:w.heap[l]? = some (.loop rc)) (st:LoopState) (pd:Option Code) :
  MSim N w0 ro0 γ (w.putObj l (.loop { rc with state:=st,pending:=pd })) B L/\EvR w γ (w.putObj l (.loop { rc with state:=st,pending:=pd })) γ:=by
 obtain ⟨h1,_,h3⟩:=hm.putSp hl (o:=.loop { rc with state:=st,pending:=pd }) h0 (fun _ _ _ h=>by cases h) (fun _ _ _ h=>by cases h) (.inl rfl) (fun _=>.inr ⟨rc,st,pd,rfl,rfl⟩)
 exact ⟨h1,h3 w γ (Ev.refl w γ).toR (.inl rfl)⟩
theorem rfunc_sound {g:Operand} {ps:Array Tmp} {asg body:Code}
  (ihA:∀ (l:Nat) (S:G×World) (γ:G) (w:World) (s:AS) (a:Act) (Q:Exit->AS->Prop),vc P gl orc Y (Vi P asg) s Q->Sim N w0 (some l) ro0 S P gl Y γ w s a->asg.wpIn (FW (some l)) 0 P (lift N w0 (some l) ro0 S P gl Y Q) a w)
  (ihB:∀ (l:Nat) (S:G×World) (γ:G) (w:World) (s:AS) (a:Act) (Q:Exit->AS->Prop),vc P gl orc Y (Vi P body) s Q->Sim N w0 (some l) ro0 S P gl Y γ w s a->body.wpIn (FW (some l)) 0 P (lift N w0 (some l) ro0 S P gl Y Q) a w)
  {s:AS} {a:Act} {Q:Exit->AS->Prop} (h:vc P gl orc Y (Vi P (.rangeFunc g ps asg body)) s Q) (hs:Sim N w0 r ro0 S P gl Y γ w s a) :
  (Code.rangeFunc g ps asg body).wpIn (FW r) 0 P (lift N w0 r ro0 S P gl Y Q) a w:=by
 simp only [Vi,vc] at h
 have hg:=hs.ev g
 split at h
 case h_2=>exact h.elim
 rename_i f first cap e1
 rw [e1] at hg
 obtain ⟨fa,ca,hv,r1,r2⟩:=hg.inv_fn
 refine wpIn_rangeFunc fun fn _=>?_
 obtain ⟨l,mark,w1,γ1',rc,he,hrc,hsp1',hm1',hev1',hd1',hfresh⟩:∃ (l:Nat) (mark:List Deferred) (w1:World) (γ1:G) (df:Nat),
   (Instr.enterLoop fn a.tmps ps asg body (FW r).round).run P w=.ok (l,mark) w1/\w1.heap[l]? = some (.loop { state:=.ready,pending:=none,fn,tmps:=a.tmps,params:=ps,assign:=asg,body,defers:=df })/\γ1.sp l /\
   MSim N w0 ro0 γ1 w1 s.m.B s.m.L/\Ev w γ w1 γ1/\Dfr S.2.heap.size γ1 w1 (mark++a.defers)/\w.heap.size<=l:=by
  cases r with
  | none =>
   obtain ⟨hm1,hev1⟩:=hs.m.newSp (.deferred (some []))
   obtain ⟨hm2,hev2⟩:=hm1.newSp (.loop { state:=.ready,pending:=none,fn,tmps:=a.tmps,params:=ps,assign:=asg,body,defers:=w.heap.size })
   refine ⟨w.heap.size+1,_,_,_,w.heap.size,run_enterLoop_outer fn a.tmps ps asg body,?_,Or.inr (by simp),hm2,hev1.trans hev2,?_,by omega⟩
   ·have:=World.alloc_heap_new (w.alloc (.deferred (some []))) (.loop { state:=.ready,pending:=none,fn,tmps:=a.tmps,params:=ps,assign:=asg,body,defers:=w.heap.size })
    simpa using this
   ·have hd:=hs.d.monoR (hev1.trans hev2).toR
    have hold:∀ x∈a.defers,∀ D,x.target=.collected D->D < w.heap.size:=fun x hx D hD=>by
     obtain ⟨D',q1,_,_,q4⟩:=hs.d.2.1 x hx
     rw [hD] at q1
     cases q1
     exact lt_of_heap q4
    refine ⟨hd.1,fun x hx=>?_,?_⟩
    ·simp only [List.cons_append,List.nil_append,List.mem_cons] at hx
     rcases hx with rfl | hx
     ·refine ⟨w.heap.size,rfl,hs.d.1,.inl (.inr rfl),?_⟩
      rw [Below.heap_alloc _ _ _ (by simp)]
      exact World.alloc_heap_new w _
     ·exact hd.2.1 x hx
    ·simp only [List.cons_append,List.nil_append,List.pairwise_cons]
     refine ⟨fun x hx D hD hx'=>?_,hd.2.2⟩
     simp at hD
     have:=hold x hx D hx'
     omega
  | some l0 =>
   obtain ⟨hl0,rec0,hrec0⟩:=hs.rd l0 rfl
   obtain ⟨hm1,hev1⟩:=hs.m.newSp (.loop { state:=.ready,pending:=none,fn,tmps:=a.tmps,params:=ps,assign:=asg,body,defers:=rec0.defers })
   exact ⟨w.heap.size,[],_,_,rec0.defers,run_enterLoop_inner hrec0 fn a.tmps ps asg body,World.alloc_heap_new w _,Or.inr rfl,hm1,hev1,hs.d.monoR hev1.toR,Nat.le_refl _⟩
 have hl1:l < w1.heap.size:=lt_of_heap hrc
 generalize hln:s.m.ln=i at h
 have hlsE:=hs.ls.mono hev1'
 have hnone:γ1'.lp i=none:=hlsE.2.1 i (by omega)
 have hnew:∀ j,γ1'.lp j≠some l:=fun j hj=>by
  rw [hev1'.lp] at hj
  have:=(hs.m.sp l (hs.ls.2.2.2 j l hj).1).2.1;omega
 let γ1:=γ1'.newlp i l
 have hevN:EvR w1 γ1' w1 γ1:=ev_newlp w1 hnone
 have hev1:EvR w γ w1 γ1:=hev1'.toR.trans hevN
 have hm1:MSim N w0 ro0 γ1 w1 s.m.B s.m.L:=hm1'.newlp hnone
 have hsp1:γ1.sp l:=hsp1'
 have hlp1:γ1.lp i=some l:=by simp [γ1,G.newlp]
 have hd1:=hd1'.monoR hevN
 have hE:=h (by
  rcases hs.ls.1 i with h | ⟨l',h0,_⟩
  ·exact h
  ·rw [hs.ls.2.1 i (by omega)] at h0;cases h0)
 have hargs:RepL w1 γ1 (first++[.yld i]++cap) (fa.toList++[.func (.yield l) #[] #[]]++ca.toList):=((r1.monoR hev1).append (RepL.cons (.yld hlp1) RepL.nil)).append (r2.monoR hev1)
 have hls1:LSim γ1 w1 s.m.begin_:=by
  refine ⟨fun j=>?_,fun j hj=>?_,fun j j' l' h1 h2=>?_,fun j l' h1=>?_⟩
  ·by_cases hj:j=i
   ·subst hj;exact .inr ⟨l,hlp1,hsp1,_,hrc,by simp [AM.begin_,upd,hln,LMatch]⟩
   ·rcases hlsE.1 j with h | ⟨l',h0,h1,r',h2,h3⟩
    ·exact .inl (by simp [AM.begin_,upd,hln,hj,h])
    ·exact .inr ⟨l',by simp [γ1,G.newlp,hj,h0],h1,r',h2,by simpa [AM.begin_,upd,hln,hj] using h3⟩
  ·have hj':i+1<=j:=by simpa [AM.begin_,hln] using hj
   have:j≠i:=by omega
   simp [γ1,G.newlp,this,hlsE.2.1 j (by omega)]
  ·by_cases hj:j=i<;>by_cases hj':j'=i
   ·rw [hj,hj']
   ·simp [γ1,G.newlp,hj] at h1
    simp [γ1,G.newlp,hj'] at h2
    subst h1
    exact absurd h2 (hnew j')
   ·simp [γ1,G.newlp,hj] at h1
    simp [γ1,G.newlp,hj'] at h2
    subst h2
    exact absurd h1 (hnew j)
   ·simp [γ1,G.newlp,hj] at h1
    simp [γ1,G.newlp,hj'] at h2
    exact hlsE.2.2.1 j j' l' h1 h2
  ·by_cases hj:j=i
   ·simp [γ1,G.newlp,hj] at h1
    subst h1
    exact ⟨hsp1,_,hrc⟩
   ·simp [γ1,G.newlp,hj] at h1
    exact hlsE.2.2.2 j l' h1
 refine ⟨l,mark,w1,{ target:=.fn (.func f) ca,args:=fa++#[.func (.yield l) #[] #[]] },w1,f,(fa.toList++[Value.func (.yield l) #[] #[]]++ca.toList).toArray,w1,he,?_,fun _ _=>trivial,?_,fun h=>by simp [FW,Fence.wide] at h,?_⟩
 ·have hc:a.eval (.const (.func (.yield l) #[] #[]))=.func (.yield l) #[] #[]:=rfl
  simp [resolve,hv,hc,Deferred.ofValue,rangeCall]
 ·simp [invoke,Qat hE.1]
 have hcall:=hE.2 N w0 ro0 γ1 w1 _ hm1 hls1 (fun g=>(hs.g g).monoR hev1.imm) ?_ hargs
 ·refine CallsIn.mono (F:=FW r) (n:=0) (show CallsIn (FW r) 0 P f _ w1 _ from hcall) ?_
  rintro en w3 ⟨v,γ3,r',m',rfl,g1,g2,g3,g4,g5⟩
  have hsp3:=(g1.sp l hsp1).1
  have fin:∀ (rc3:Loop) (pd:Option Code),w3.heap[l]? = some (.loop rc3)->(∀ ex,ex=Exit.normal/\pd=none\/pd=exCode ex/\pd.isSome=true->rc3.state≠.busy->rc3.pending=pd->Q ex ⟨s.T,m'.at_ i .gone⟩->rangePost (FW r) 0 P l (lift N w0 r ro0 S P gl Y Q) { a with defers:=mark++a.defers } (.returned v) w3):=by
   intro rc3 pd hrc3 ex hex hnb hpd hQ
   obtain ⟨hm4,hev4⟩:=putLoop g2 hsp3 hrc3 .exhausted rc3.pending
   refine ⟨rc3.pending,_,run_endLoop hrc3 hnb,?_⟩
   have hev:EvR w γ (w3.putObj l (.loop { rc3 with state:=.exhausted })) γ3:=(hev1.trans g1).trans hev4
   have hsim:Sim N w0 r ro0 S P gl Y γ3 (w3.putObj l (.loop { rc3 with state:=.exhausted })) ⟨s.T,m'.at_ i .gone⟩ { a with defers:=mark++a.defers }:=by
    have hlp3:=g1.lp i l hlp1
    refine ⟨hm4,?_,hs.rd.monoR hev,hs.t.monoR hev,hd1.monoR (g1.trans hev4),fun g=>(hs.g g).monoR hev.imm,hs.y.mono hev,hs.e.trans hev⟩
    refine ⟨fun j=>?_,g3.2.1,g3.2.2.1,fun j l' hl'=>?_⟩
    rotate_left
    ·obtain ⟨q1,r,q2⟩:=g3.2.2.2 j l' hl'
     by_cases hll:l'=l
     ·subst hll;exact ⟨q1,_,World.putObj_heap_same (lt_of_heap q2)⟩
     ·exact ⟨q1,r,(World.putObj_heap_other hll).trans q2⟩
    by_cases hj:j=i
    ·exact .inl (by simp [AM.at_,upd,hj])
    ·rcases g3.1 j with h | ⟨l',h0,h1,r',h2,h3⟩
     ·exact .inl (by simp [AM.at_,upd,hj,h])
     ·have hl':l'≠l:=by rintro rfl;exact hj (g3.2.2.1 _ _ _ h0 hlp3)
      exact .inr ⟨l',h0,h1,r',(World.putObj_heap_other hl').trans h2,by simpa [AM.at_,upd,hj] using h3⟩
   generalize w3.putObj l (.loop { rc3 with state:=.exhausted })=w4 at hsim
   rw [hpd]
   rcases hex with ⟨rfl,rfl⟩ | ⟨hex,hsome⟩
   ·exact ⟨γ3,_,hsim,hQ⟩
   ·cases ex with
    | ret=>simp only [exCode] at hex;subst hex;exact wpIn_ret ⟨γ3,_,hsim,hQ⟩
    | exit id=>simp only [exCode] at hex;subst hex;exact wpIn_exit ⟨γ3,_,hsim,hQ⟩
    | _=>simp only [exCode] at hex;subst hex;cases hsome
  have hl3:=g3.1 i
  have hlp3:=g1.lp i l hlp1
  cases hst:m'.st i with
  | gone=>rw [hst] at g5;exact g5.elim
  | busy=>rw [hst] at g5;exact g5.elim
  | ready =>
   rw [hst] at g5 hl3
   rcases hl3 with hl3 | ⟨l',q0,_,rc3,q1,q2⟩
   ·cases hl3
   ·obtain rfl:l'=l:=Option.some.inj (q0.symm.trans hlp3)
    exact fin rc3 none q1 .normal (.inl ⟨rfl,rfl⟩) (by rw [q2.1];simp) q2.2 g5
  | done ex =>
   rw [hst] at g5 hl3
   rcases hl3 with hl3 | ⟨l',q0,_,rc3,q1,q2⟩
   ·cases hl3
   ·obtain rfl:l'=l:=Option.some.inj (q0.symm.trans hlp3)
    exact fin rc3 _ q1 ex (.inr ⟨rfl,q2.2.2⟩) (by rw [q2.1];simp) q2.2.1 g5
 intro γ' w' hev' i' args m K vs hm' hls' hr' hY l' hlp'
 unfold Yin at hY
 split at hY
 case isFalse=>exact hs.y γ' w' (hev1.trans hev') i' args m K vs hm' hls' hr' hY l' hlp'
 rename_i hi'
 subst hi'
 obtain rfl:l'=l:=Option.some.inj (hlp'.symm.trans (hev'.lp _ _ hlp1))
 obtain ⟨hrd,hlen,hY⟩:=hY
 have hrec':∃ st pd,w'.heap[l']? = some (.loop { state:=st,pending:=pd,fn,tmps:=a.tmps,params:=ps,assign:=asg,body,defers:=rc }):=by
  rcases (hev'.sp l' hsp1).2 with h | ⟨r0,st,pd,h,h'⟩
  ·rw [hrc] at h;exact ⟨_,_,h⟩
  ·rw [hrc] at h;cases h;exact ⟨st,pd,h'⟩
 obtain ⟨st,pd,hrec'⟩:=hrec'
 have hsp':=(hev'.sp l' hsp1).1
 have hevw:=hev1.trans hev'
 have hps:vs.toArray.size=ps.size:=by have:=hr'.1;simp at this hlen |-;omega
 refine ⟨fn,_,asg,body,run_yield hrec' hps,roundIn_of_wpIn (F:=FW none) trivial ?_⟩
 have hsim0:Sim N w0 (some l') ro0 (γ',w') P gl Y γ' w' ⟨Jc s.T ps.toList args,m⟩ { tmps:=(ps.zip vs.toArray).foldl (fun (tmps:Array Value) (p:Nat×Value)=>tmps.setIfInBounds p.1 p.2) a.tmps,defers:=[] }:=by
  refine ⟨hm',hls',fun l hl=>?_,?_,⟨Nat.le_refl _,fun x hx=>(by cases hx),List.Pairwise.nil⟩,fun g=>(hs.g g).monoR hevw.imm,hs.y.mono hevw,(Ev.refl w' γ').toR⟩
  ·cases hl;exact ⟨hsp',_,hrec'⟩
  ·have:=foldl_setPs ps.toList args vs s.T a.tmps hlen hr' (hs.t.monoR hevw)
   simpa using this
 refine wpIn_mono (ihA l' (γ',w') γ' w' _ _ _ hY hsim0) ?_
 rintro ex a2 w2 ⟨γ2,s2,hs2,hq2⟩
 cases ex with
 | normal =>
  obtain ⟨hrd2,hq2⟩:=hq2
  have hl2:=hs2.ls.1 i'
  rw [hrd2] at hl2
  have hlp2:=hs2.e.lp _ _ hlp'
  rcases hl2 with hl2 | ⟨l2,q0,hsp2,rc2,q1,q2⟩
  ·cases hl2
  obtain rfl:l'=l2:=Option.some.inj (hlp2.symm.trans q0)
  obtain ⟨hm3,hev3⟩:=putLoop hs2.m hsp2 q1 .busy rc2.pending
  refine ⟨_,run_beginRound q1 q2.1,?_⟩
  have hsim3:Sim N w0 (some l') ro0 (γ',w') P gl Y γ2 (w2.putObj l' (.loop { rc2 with state:=.busy })) ⟨s2.T,s2.m.at_ i' .busy⟩ a2 :=
   ⟨hm3,hs2.ls.put hlp2 hsp2 (lt_of_heap q1) rfl,hs2.rd.monoR hev3,hs2.t.monoR hev3,hs2.d.monoR hev3,fun g=>(hs2.g g).monoR hev3.imm,hs2.y.mono hev3,hs2.e.trans hev3⟩
  refine wpIn_mono (ihB l' (γ',w') γ2 _ _ _ _ hq2 hsim3) ?_
  rintro ex a4 w4 ⟨γ4,s4,hs4,hq4⟩
  obtain ⟨hsp4,rc4,q4⟩:=hs4.rd _ rfl
  have hlp4:=hs4.e.lp _ _ hlp'
  cases ex with
  | normal =>
   obtain ⟨hm5,hev5⟩:=putLoop hs4.m hsp4 q4 .ready none
   exact ⟨_,_,run_endRound none q4,true,γ4,s4.m.at_ i' .ready,rfl,hs4.e.trans hev5,hm5,hs4.ls.put hlp4 hsp4 (lt_of_heap q4) ⟨rfl,rfl⟩,hq4⟩
  | ret =>
   obtain ⟨hm5,hev5⟩:=putLoop hs4.m hsp4 q4 .done (some .ret)
   exact ⟨_,_,run_endRound (some .ret) q4,false,γ4,s4.m.at_ i' (.done .ret),rfl,hs4.e.trans hev5,hm5,hs4.ls.put hlp4 hsp4 (lt_of_heap q4) ⟨rfl,rfl,rfl⟩,hq4⟩
  | exit id =>
   obtain ⟨hm5,hev5⟩:=putLoop hs4.m hsp4 q4 .done (some (.exit id))
   exact ⟨_,_,run_endRound (some (.exit id)) q4,false,γ4,s4.m.at_ i' (.done (.exit id)),rfl,hs4.e.trans hev5,hm5,hs4.ls.put hlp4 hsp4 (lt_of_heap q4) ⟨rfl,rfl,rfl⟩,hq4⟩
  | _=>exact hq4.elim
 | _=>exact hq2.elim
theorem Ym:∀ (c:Code) (r:Option Nat) (S:G×World) (γ:G) (w:World) (s:AS) (a:Act) (Q:Exit->AS->Prop),vc P gl orc Y (Vi P c) s Q->Sim N w0 r ro0 S P gl Y γ w s a->c.wpIn (FW r) 0 P (lift N w0 r ro0 S P gl Y Q) a w
 | .skip,r,S,γ,w,s,a,Q,h,hs=>wpIn_skip ⟨γ,s,hs,h⟩
 | .label _,r,S,γ,w,s,a,Q,h,hs=>wpIn_label ⟨γ,s,hs,h⟩
 | .region id ops false,r,S,γ,w,s,a,Q,h,hs=>by
  refine wpIn_region ?_
  have:=vcOps_sound (P:=P) (orc:=orc) (ops:=ops) (Q:=lift N w0 r ro0 S P gl Y Q) (K:=Q .normal) (fun γ w s a hK hs=>⟨γ,s,hs,hK⟩) ops.size 0 γ w s a (by simp) (by simpa [Vi,vc] using h) hs
  rwa [List.range_eq_range']
 | .region id ops true,r,S,γ,w,s,a,Q,h,hs=>by
  simp only [Vi] at h
  split at h
  case isFalse=>exact h.elim
  rename_i hc
  simp only [Bool.and_eq_true] at hc
  split at h
  ·rename_i j hj
   rcases h with h | ⟨ms,h⟩ | ⟨hb,ms,R,hR,h⟩
   ·exact wpIn_region_any hc.1 (draw_sound (Q:=lift N w0 r ro0 S P gl Y Q) (K:=Q .normal) (fun γ w s a hK hs=>⟨γ,s,hs,hK⟩) hc.2 h hs)
   ·exact wpIn_region_any hc.1 (drawE_sound (Q:=lift N w0 r ro0 S P gl Y Q) (K:=Q .normal) (fun γ w s a hK hs=>⟨γ,s,hs,hK⟩) hc.2 hj (vcE_flag _ _ _ _ (flags_len hc.2) h) hs)
   ·exact wpIn_region_any hc.1 (drawN_sound (Q:=lift N w0 r ro0 S P gl Y Q) (K:=Q .normal) (fun γ w s a hK hs=>⟨γ,s,hs,hK⟩) hc.2 hj (bkF_ok hc.2 hb) hR (fun x hx=>vcN_flag _ _ _ _ (flags_len hc.2) (h x hx)) hs)
  ·exact wpIn_region_any hc.1 (draw_sound (Q:=lift N w0 r ro0 S P gl Y Q) (K:=Q .normal) (fun γ w s a hK hs=>⟨γ,s,hs,hK⟩) hc.2 h hs)
 | .seq x y,r,S,γ,w,s,a,Q,h,hs=>by
  refine wpIn_seq (wpIn_mono (Ym x r S γ w s a _ h hs) ?_)
  rintro ex a' w' ⟨γ',s',hs',h'⟩
  cases ex with
  | normal=>exact Ym y r S γ' w' s' a' Q h' hs'
  | _=>exact ⟨γ',s',hs',h'⟩
 | .cond c x y,r,S,γ,w,s,a,Q,h,hs=>by
  simp only [Vi,vc] at h
  have hr:=hs.ev c
  split at h
  case h_2=>exact h.elim
  rename_i t ht
  rw [ht] at hr
  exact wpIn_cond_split hr.inv_bool (fun e=>Ym x r S γ w s a Q (h.1 e) hs) fun e=>Ym y r S γ w s a Q (h.2 e) hs
 | .block id c,r,S,γ,w,s,a,Q,h,hs=>by
  refine wpIn_block (wpIn_mono (Ym c r S γ w s a _ h hs) ?_)
  rintro ex a' w' ⟨γ',s',hs',h'⟩
  cases ex with
  | exit id' =>
   simp only [Exit.inBlock,Qblock] at h' |-
   split
   ·rename_i hid;rw [if_pos hid] at h';exact ⟨γ',s',hs',h'⟩
   ·rename_i hid;rw [if_neg hid] at h';exact ⟨γ',s',hs',h'⟩
  | _=>exact ⟨γ',s',hs',h'⟩
 | .loop c,r,S,γ,w,s,a,Q,h,hs=>by
  obtain ⟨I,μ,h0,hr'⟩:=h
  intro b k cs hro hb hr
  have key:∀ j γ w s a,μ s=j->I s->Sim N w0 r ro0 S P gl Y γ w s a->∃ e a' w',lift N w0 r ro0 S P gl Y Q e a' w'/\ArrivesIn (Machine.fenced P (FW r)) P (lone (b.atR a (.code c::.inLoop c::k)) cs w) b k cs e a' w':=by
   intro j
   induction j using Nat.strongRecOn with
   | _ j ih =>
    intro γ w s a hn hI hs
    obtain ⟨e,a₁,w₁,⟨γ₁,s₁,hs₁,hq⟩,harr⟩:=Ym c r S γ w s a _ (hr' s hI) hs b (.inLoop c::k) cs hro hb hr
    cases e with
    | normal =>
     obtain ⟨hI₁,hlt⟩:=hq
     obtain ⟨e₂,a₂,w₂,hq₂,harr₂⟩:=ih (μ s₁) (hn ▸ hlt) γ₁ w₁ s₁ a₁ rfl hI₁ hs₁
     exact ⟨e₂,a₂,w₂,hq₂,.of_steps (StepsIn.trans harr (.one (fenced_calm hb hr rfl) stepR_inLoop)) harr₂⟩
    | exit id=>exact ⟨_,a₁,w₁,⟨γ₁,s₁,hs₁,hq⟩,.pass (x:=.inLoop c) rfl (fun _ _=>.inl (by simp)) harr⟩
    | goto l=>exact ⟨_,a₁,w₁,⟨γ₁,s₁,hs₁,hq⟩,.pass (x:=.inLoop c) rfl (fun _ _=>.inl (by simp)) harr⟩
    | ret=>exact ⟨_,a₁,w₁,⟨γ₁,s₁,hs₁,hq⟩,.pass (x:=.inLoop c) rfl (fun _ _=>.inl (by simp)) harr⟩
    | panic ch=>exact ⟨_,a₁,w₁,⟨γ₁,s₁,hs₁,hq⟩,.pass (x:=.inLoop c) rfl (fun _ _=>.inl (by simp)) harr⟩
    | outgrown=>exact ⟨_,a₁,w₁,⟨γ₁,s₁,hs₁,hq⟩,.pass (x:=.inLoop c) rfl (fun _ _=>.inl (by simp)) harr⟩
  obtain ⟨e,a',w',hq,harr⟩:=key _ γ w s a rfl h0 hs
  exact ⟨e,a',w',hq,.of_steps (.one (fenced_calm hb hr rfl) stepR_loop) harr⟩
 | .exit id,r,S,γ,w,s,a,Q,h,hs=>wpIn_exit ⟨γ,s,hs,h⟩
 | .ret,r,S,γ,w,s,a,Q,h,hs=>wpIn_ret ⟨γ,s,hs,h⟩
 | .scope c,r,S,γ,w,s,a,Q,h,hs=>by
  refine wpIn_scope_straight (wpIn_mono (Ym c r S γ w s a _ h hs) ?_)
  rintro ex a' w' ⟨γ',s',hs',h'⟩
  cases ex with
  | goto l=>exact h'.elim
  | _=>exact ⟨γ',s',hs',h'⟩
 | .rangeFunc g ps asg body,r,S,γ,w,s,a,Q,h,hs=>rfunc_sound (fun l S γ w s a Q h hs=>Ym asg (some l) S γ w s a Q h hs) (fun l S γ w s a Q h hs=>Ym body (some l) S γ w s a Q h hs) h hs
 | .goto l,r,S,γ,w,s,a,Q,h,hs=>h.elim
 | .refuse why,r,S,γ,w,s,a,Q,h,hs=>h.elim
end
end Go.Abs
namespace Go.Abs
open Go Go.RowKit
section
variable {N:Nat} {w0:Bas} {ro0:Nat->Nat->Prop} {γ:G} {w:World} {B:Nat->Option (List AV)} {L:Nat->Option Nat} {P:Program} {gl:Nat->AV} {orc:Nat->FuncId->List AV->AV} {e:Opd->AV} {m:AM}
def ldOp (P:Program) (t:TypeId) (x:Opd):SOp :=
 (match P.info? t,P.underlying t with | some i,some _=>if Ub P t then .load true i.size x else .load false 1 x | _,_=>.bad)
theorem load_val (hm:MSim N w0 ro0 γ w B L) (hB:∀ id cells,m.boxes[id]? = some cells->B id=some cells) {t:TypeId} {x:Opd} {v0:Value} (h1:Rep w γ (e x) v0)
  (hc:(rop P gl orc e m none (ldOp P t x)).1):∃ b o v,v0=.pointer (some ⟨b,o,none⟩)/\(loadVar t ⟨b,o,none⟩).run P w=.ok v w/\Rep w γ (rop P gl orc e m none (ldOp P t x)).2 v:=by
 unfold ldOp at hc |-
 split at hc
 case h_2=>exact hc.elim
 rename_i i d hi hd
 have main:∀ (agg:Bool) (n:Nat),Ub P t=agg->(agg=true->n=i.size)->(rop P gl orc e m none (.load agg n x)).1 ->
   ∃ b o v,v0=.pointer (some ⟨b,o,none⟩)/\(loadVar t ⟨b,o,none⟩).run P w=.ok v w/\Rep w γ (rop P gl orc e m none (.load agg n x)).2 v:=by
  intro agg n hagg hn hc
  have conv:∀ b o v,(Instr.loadAt t (.pointer (some ⟨b,o,none⟩))).run P w=.ok v w->(loadVar t ⟨b,o,none⟩).run P w=.ok v w:=fun b o v h=>by
   simpa [Instr.loadAt,Instr.sureAddr] using h
  simp only [rop] at hc |-
  split at hc
  ·rename_i id o' he
   try simp only [he]
   rw [he] at h1
   obtain ⟨b,hb,hv⟩:=h1.inv_ptr
   cases hmb:m.boxes[id]? with
   | none =>
    have e0:m.boxes.getD id []=[]:=by simp [List.getD,hmb]
    rw [e0] at hc |-
    obtain ⟨v,h2,h3⟩:=Qan (P:=P) (w:=w) (γ:=γ) (b:=b) (o:=o') (cv:=fun _=>undef) hi hd hagg hn (fun j c hj=>by simp at hj) (fun j c hj=>by simp at hj) hc
    exact ⟨b,o',v,hv,conv _ _ _ h2,h3⟩
   | some cells =>
    have e0:m.boxes.getD id []=cells:=by simp [List.getD,hmb]
    rw [e0] at hc |-
    obtain ⟨arr,te,g2,g3,g4⟩:=hm.box id cells b (hB id cells hmb) hb
    have hget:∀ (j:Nat) (c:AV),(cells.drop o')[j]? = some c->arr[o'+j]? = some (arr.getD (o'+j) undef)/\Rep w γ c (arr.getD (o'+j) undef):=fun j c hj=>by
     rw [List.getElem?_drop] at hj
     have hlt:o'+j < arr.size:=by
      have:=(List.getElem?_eq_some_iff.1 hj).1
      have h0:=g3.1
      simp at h0
      omega
     have hu:arr[o'+j]? = some (arr.getD (o'+j) undef):=by simp [hlt]
     exact ⟨hu,g3.2 _ _ _ hj (by simpa using hu)⟩
    obtain ⟨v,h2,h3⟩:=Qan (P:=P) (w:=w) (γ:=γ) (b:=b) (o:=o') (cv:=fun j=>arr.getD (o'+j) undef) hi hd hagg hn (fun j c hj=>by rw [cell_of_block g2];exact (hget j c hj).1) (fun j c hj=>(hget j c hj).2) hc
    exact ⟨b,o',v,hv,conv _ _ _ h2,h3⟩
  ·rename_i row o' he
   try simp only [he]
   rw [he] at h1
   obtain ⟨b,off,cv,hv,hb,hcell,hrep⟩:=h1.inv_ep
   have hget:∀ (j:Nat) (c:AV),(row.drop o')[j]? = some c->row[o'+j]? = some c:=fun j c hj=>by rw [List.getElem?_drop] at hj;exact hj
   obtain ⟨v,h2,h3⟩:=Qan (P:=P) (w:=w) (γ:=γ) (b:=b) (o:=off+o') (cv:=fun j=>cv (o'+j)) hi hd hagg hn
    (fun j c hj=>by rw [Nat.add_assoc];exact (hcell _ _ (hget j c hj)).1) (fun j c hj=>(hrep _ _ (hget j c hj)).of_imm) hc
   exact ⟨b,off+o',v,hv,conv _ _ _ h2,h3⟩
  ·exact hc.elim
 cases hagg:Ub P t with
 | true=>simp only [hagg,if_true] at hc |-;exact main true _ hagg (fun _=>rfl) hc
 | false=>simp only [hagg] at hc |-;exact main false 1 hagg (fun h=>by cases h) hc
end
def resOf (P:Program) (rs:List ResultVar):List SOp:=rs.map fun
 | .tmp t=>.mv (.tmp t)
 | .cell a t=>ldOp P t (.tmp a)
def Yo (P:Program) (gl:Nat->AV) (orc:Nat->FuncId->List AV->AV) (s:AS):List SOp->Prop×List AV
 | []=>(True,[])
 | o::r=>((rop P gl orc (ev gl s.T) s.m none o).1/\(Yo P gl orc s r).1,(rop P gl orc (ev gl s.T) s.m none o).2::(Yo P gl orc s r).2)
def oneOf:List AV->AV
 | [a]=>a
 | l=>.tup l
section
variable {N:Nat} {w0:Bas} {r:Option Nat} {ro0:Nat->Nat->Prop} {S:G×World} {Y:YT} {γ:G} {w:World} {P:Program} {gl:Nat->AV} {orc:Nat->FuncId->List AV->AV} {s:AS} {a:Act}
theorem res_run (hs:Sim N w0 r ro0 S P gl Y γ w s a):∀ (rs:List ResultVar),(Yo P gl orc s (resOf P rs)).1 ->
  ∃ vs:List Value,(rs.mapM fun (r:ResultVar)=>(match r with | .tmp t=>pure (a.tmps.getD t undef) | .cell x t=>do loadVar t (<- asAddr (a.tmps.getD x undef)):Sem Value)).run P w=.ok vs w /\
   RepL w γ (Yo P gl orc s (resOf P rs)).2 vs
 | [],_=>⟨[],by simp,RepL.nil⟩
 | r::rs,hc=>by
  obtain ⟨h1,h2⟩:=hc
  obtain ⟨vs,g1,g2⟩:=res_run hs rs h2
  have key:∃ v,(match r with | .tmp t=>pure (a.tmps.getD t undef) | .cell x t=>do loadVar t (<- asAddr (a.tmps.getD x undef)):Sem Value).run P w=.ok v w /\
    Rep w γ (rop P gl orc (ev gl s.T) s.m none ((fun (r:ResultVar)=>match r with | .tmp t=>SOp.mv (.tmp t) | .cell a t=>ldOp P t (.tmp a)) r)).2 v:=by
   cases r with
   | tmp t=>exact ⟨a.tmps.getD t undef,by simp,hs.ev (.tmp t)⟩
   | cell x t =>
    obtain ⟨b,o,v,e1,e2,e3⟩:=load_val (P:=P) (gl:=gl) (orc:=orc) (e:=ev gl s.T) (m:=s.m) hs.m (fun _ _ h=>h) (t:=t) (x:=.tmp x) (v0:=a.tmps.getD x undef) (hs.ev (.tmp x)) h1
    refine ⟨v,?_,e3⟩
    simp only [e1,Sem.run_bind,asAddr,Sem.run_pure,Result.andThen_ok,e2]
  obtain ⟨v,k1,k2⟩:=key
  refine ⟨v::vs,?_,RepL.cons k2 g2⟩
  simp only [List.mapM_cons,Sem.run_bind,k1,Result.andThen_ok,g1,Sem.run_pure]
theorem results_run (hs:Sim N w0 r ro0 S P gl Y γ w s a) {fn:Func} (hc:(Yo P gl orc s (resOf P fn.results.toList)).1):∃ v,(results fn a.tmps).run P w=.ok v w/\Rep w γ (oneOf (Yo P gl orc s (resOf P fn.results.toList)).2) v:=by
 obtain ⟨vs,h1,h2⟩:=res_run (P:=P) (orc:=orc) hs fn.results.toList hc
 have hrun:(results fn a.tmps).run P w=.ok (if h:vs.toArray.size=1 then vs.toArray[0] else .tuple vs.toArray) w:=by
  simp only [results,Sem.run_bind,Array.mapM_eq_mapM_toList,Sem.run_map]
  exact congrArg (fun (z:Result (List Value))=>(z.andThen fun a w'=>Result.ok a.toArray w').andThen fun (a:Array Value) w'=>Sem.run P (pure (if h:a.size=1 then a[0] else Value.tuple a):Sem Value) w') h1
 refine ⟨_,hrun,?_⟩
 generalize (Yo P gl orc s (resOf P fn.results.toList)).2=as at h2
 match as,vs,h2 with
 | [],[],h2=>exact .tup rfl fun i c v h=>by simp at h
 | [],_::_,h2=>have:=h2.1;simp at this
 | _::_,[],h2=>have:=h2.1;simp at this
 | [x],[v],h2=>exact h2.2 0 x v rfl rfl
 | [x],_::_::_,h2=>have:=h2.1;simp at this
 | _::_::_,[v],h2=>have:=h2.1;simp at this
 | x::y::as,v::u::vs,h2 =>
  simp only [oneOf]
  rw [dif_neg (by simp)]
  exact .tup (by simpa using h2.1) fun i c v' g1 g2=>h2.2 i c v' g1 (by simpa using g2)
def post (P:Program) (gl:Nat->AV) (orc:Nat->FuncId->List AV->AV) (rs:List SOp) (r:AV):Exit->AS->Prop
 | .normal,s=>(Yo P gl orc s rs).1/\cvn s.m 6 (oneOf (Yo P gl orc s rs).2)=r
 | .ret,s=>(Yo P gl orc s rs).1/\cvn s.m 6 (oneOf (Yo P gl orc s rs).2)=r
 | _,_=>False
def postE (P:Program) (gl:Nat->AV) (orc:Nat->FuncId->List AV->AV) (rs:List SOp) (K:AV->AM->Prop):Exit->AS->Prop
 | .normal,s=>(Yo P gl orc s rs).1/\K (oneOf (Yo P gl orc s rs).2) s.m
 | .ret,s=>(Yo P gl orc s rs).1/\K (oneOf (Yo P gl orc s rs).2) s.m
 | _,_=>False
def Y0:YT:=fun _ _ _ _=>False
theorem Sim.y0 (h:Sim N w0 r ro0 S P gl Y γ w s a):Sim N w0 r ro0 S P gl Y0 γ w s a:=⟨h.m,h.ls,h.rd,h.t,h.d,h.g,fun _ _ _ _ _ _ _ _ _ _ _ hY _ _=>hY.elim,h.e⟩
theorem leave_sound {fn:Func} {R:Ending->World->Prop} (hS:∀ b,S.1.sp b->b < S.2.heap.size):∀ (ds:List Deferred) (γ:G) (w:World) (s:AS) (a:Act),a.defers=ds->Sim N w0 none ro0 S P gl Y0 γ w s a ->
  (Yo P gl orc s (resOf P fn.results.toList)).1 ->
  (∀ v w' γ',EvR S.2 S.1 w' γ'->MSim N w0 ro0 γ' w' s.m.B s.m.L->LSim γ' w' s.m->Rep w' γ' (oneOf (Yo P gl orc s (resOf P fn.results.toList)).2) v->R (.returned v) w')->LeavesInM (FW none) 0 P fn a.tmps R ds .returning w
 | [],γ,w,s,a,_,hs,h1,hR=>by
  obtain ⟨v,g1,g2⟩:=results_run (P:=P) (orc:=orc) hs h1
  exact ⟨v,g1,hR v w γ hs.e hs.m hs.ls g2⟩
 | d::ds,γ,w,s,a,hd,hs,hc,hR=>by
  obtain ⟨D,e1,e0,e2,e3⟩:=hs.d.2.1 d (by rw [hd];simp)
  refine ⟨by simp,.inl ⟨D,w.putObj D (.deferred none),e1,run_takeDeferred e3,?_⟩⟩
  have hDS:¬ S.1.sp D:=fun h=>by have:=hS D h;omega
  obtain ⟨hm',hev,hevS⟩:=hs.m.putSp e2 (o:=.deferred none) e3 (fun _ _ _ h=>by cases h) (fun _ _ _ h=>by cases h) (γ':={ γ with sp:=fun b=>γ.sp b/\b≠D }) (.inr rfl) (fun h=>by
   have:=congrFun (congrArg G.sp h) D
   simp [e2] at this)
  have hpw:=hs.d.2.2
  rw [hd,List.pairwise_cons] at hpw
  refine leave_sound hS ds { γ with sp:=fun b=>γ.sp b/\b≠D } (w.putObj D (.deferred none)) s { a with defers:=ds } rfl ⟨hm',⟨fun i=>?_,hs.ls.2.1,hs.ls.2.2.1,fun i l hl=>?_⟩,fun l h=>(by cases h),hs.t.monoV hev,⟨by simpa using hs.d.1,fun x hx=>?_,hpw.2⟩,fun g=>(hs.g g).monoV hev.imm,fun _ _ _ _ _ _ _ _ _ _ _ hY _ _=>hY.elim,hevS _ _ hs.e (.inr hDS)⟩ hc hR
  ·rcases hs.ls.1 i with h | ⟨l,h0,h1,rc,h2,h3⟩
   ·exact .inl h
   ·have hne:l≠D:=by rintro rfl;rw [e3] at h2;cases h2
    exact .inr ⟨l,h0,⟨h1,hne⟩,rc,(World.putObj_heap_other hne).trans h2,h3⟩
  ·obtain ⟨h1,rc,h2⟩:=hs.ls.2.2.2 i l hl
   have hne:l≠D:=by rintro rfl;rw [e3] at h2;cases h2
   exact ⟨⟨h1,hne⟩,rc,(World.putObj_heap_other hne).trans h2⟩
  ·obtain ⟨D',q1,q0,q2,q3⟩:=hs.d.2.1 x (by rw [hd];simp [hx])
   have hne:D'≠D:=by rintro rfl;exact hpw.1 x hx D' e1 q1
   exact ⟨D',q1,q0,⟨q2,hne⟩,(World.putObj_heap_other hne).trans q3⟩
def pureBas (w0:World):Bas where
 p γ w:=Below w0.heap.size w0 w/\∀ b,OI γ b->w0.heap.size<=b
 st γ w γ' w' h hc:=by
  refine ⟨h.1.trans ⟨hc.os,hc.tape,hc.output,hc.size,fun b hb=>hc.same b (Nat.lt_of_lt_of_le hb h.1.size) fun ho=>?_⟩,fun b hb=>?_⟩
  ·have:=h.2 b ho;omega
  ·rcases hc.oi b hb with hb | hb
   ·exact h.2 b hb
   ·exact Nat.le_trans h.1.size hb
theorem junk_rest {as:List AV} {vs:List Value} {k:Nat} (h:RepL w γ as vs):RepL w γ (as++List.replicate (k - as.length) .junk) (vs.toArray++Array.replicate (k - vs.toArray.size) undef).toList:=by
 have hlen:=h.1
 have h2:RepL w γ (List.replicate (k - as.length) .junk) (List.replicate (k - vs.length) undef):=⟨by simp [hlen],fun i x v hx _=>by
  rw [List.getElem?_replicate] at hx
  split at hx
  ·cases hx;exact .junk _
  ·cases hx⟩
 simpa using h.append h2
def FCode (P:Program) (f:FuncId) (sc:SC) (rs:List SOp) (n:Nat):Prop :=
 ∃ fn c, P.funcs[f]? = some fn /\ fn.body = some c /\ (fn.name == "runtime.NumGoroutine") = false /\ Vi P c = sc /\ resOf P fn.results.toList = rs /\ fn.ntmps = n
theorem fco {P : Program} {f : FuncId} {fn : Func} {c : Code} {sc : SC} {rs : List SOp} {n : Nat} (h : P.funcs[f]? = some fn) (hb : fn.body = some c) (hk : ((fn.name == "runtime.NumGoroutine"), Vi P c, resOf P fn.results.toList, fn.ntmps) = (false, sc, rs, n)) : FCode P f sc rs n := by
 obtain ⟨h1,h2⟩:=Prod.mk.inj hk
 obtain ⟨h2,h3⟩:=Prod.mk.inj h2
 obtain ⟨h3,h4⟩:=Prod.mk.inj h3
 exact ⟨fn,c,h,hb,h1,h2,h3,h4⟩
theorem run_of {f:FuncId} {sc:SC} {rs:List SOp} {n:Nat} (hc:FCode P f sc rs n) (orc:Nat->FuncId->List AV->AV) {as:List AV} {m:AM} {K:AV->AM->Prop}
  (h:vc P gl orc Y sc ⟨as++List.replicate (n - as.length) .junk,m⟩ (postE P gl orc rs K)) {vs:List Value} (hm:MSim N w0 ro0 γ w m.B m.L) (hl:LSim γ w m) (hg:∀ g,Rep w γ.imm (gl g) (.pointer (some ⟨g,0,none⟩)))
  (hy:YOK N w0 ro0 P Y γ w) (hr:RepL w γ as vs) :
  CallsIn (FW none) 0 P f vs.toArray w fun e w'=>∃ v γ' r m',e=.returned v/\EvR w γ w' γ'/\MSim N w0 ro0 γ' w' m'.B m'.L/\LSim γ' w' m'/\Rep w' γ' r v/\K r m':=by
 obtain ⟨fn,c,hf,hb,hname,rfl,rfl,rfl⟩:=hc
 refine callsIn_of_wp_marks (F:=FW none) hf hb trivial ?_
 have hs:Sim N w0 none ro0 (γ,w) P gl Y γ w ⟨as++List.replicate (fn.ntmps - as.length) .junk,m⟩ { tmps:=vs.toArray++Array.replicate (fn.ntmps - vs.toArray.size) undef,defers:=[] } :=
  ⟨hm,hl,fun l h=>(by cases h),junk_rest hr,⟨Nat.le_refl _,fun x hx=>(by cases hx),List.Pairwise.nil⟩,hg,hy,(Ev.refl w γ).toR⟩
 refine wpIn_mono (Ym c none (γ,w) γ w _ _ _ h hs) ?_
 have fin:∀ γ' w' s a,Sim N w0 none ro0 (γ,w) P gl Y γ' w' s a->(Yo P gl orc s (resOf P fn.results.toList)).1/\K (oneOf (Yo P gl orc s (resOf P fn.results.toList)).2) s.m ->
   LeavesInM (FW none) 0 P fn a.tmps (fun e w'=>∃ v γ' r m',e=.returned v/\EvR w γ w' γ'/\MSim N w0 ro0 γ' w' m'.B m'.L/\LSim γ' w' m'/\Rep w' γ' r v/\K r m') a.defers .returning w' :=
  fun γ' w' s a hs' hc=>leave_sound (S:=(γ,w)) (fun b hb=>(hm.sp b hb).2.1) a.defers γ' w' s a rfl hs'.y0 hc.1 fun v w'' γ'' q1 q2 q3 q4=>⟨v,γ'',_,_,rfl,q1,q2,q3,q4,hc.2⟩
 rintro ex a w' ⟨γ',s,hs',h'⟩
 cases ex with
 | normal=>exact fin γ' w' s a hs' h'
 | ret=>exact fin γ' w' s a hs' h'
 | _=>exact h'.elim
theorem FCode.callable {f:FuncId} {sc:SC} {rs:List SOp} {n:Nat} (hc:FCode P f sc rs n):callable P f:=by
 obtain ⟨fn,c,hf,hb,hname,_⟩:=hc
 exact ⟨fn,hf,by simp [hb],hname⟩
theorem eff_of {f:FuncId} {sc:SC} {rs:List SOp} {n:Nat} (hc:FCode P f sc rs n) (orc:Nat->FuncId->List AV->AV) {as:List AV} {m:AM} {K:AV->AM->Prop}
  (h:vc P gl orc Y sc ⟨as++List.replicate (n - as.length) .junk,m⟩ (postE P gl orc rs K)):EffY P gl Y f as m K :=
 ⟨hc.callable,fun _ _ _ _ _ _ hm hl hg hy hr=>run_of hc orc h hm hl hg hy hr⟩
def AM.none:AM:=⟨[],[],fun _=>.gone,0⟩
theorem pure_of_eff {f:FuncId} {as:List AV} {r:AV} (h:EffY P gl Y0 f as ⟨[],[],fun _=>.gone,0⟩ fun x m'=>cvn m' 6 x=r):Pure P gl f as r:=by
 refine ⟨h.1,fun ro w vs hgl hr=>?_⟩
 refine (callsIn_wide (n:=0)).1 ?_
 let γ0:G:=G0 fun b o=>ro b o/\b < w.heap.size
 have hev:Ev w (G0 ro) w γ0:=⟨Nat.le_refl _,fun b o hb h=>⟨⟨h,hb⟩,rfl⟩,fun _ _ h=>(by cases h),fun _=>Nat.le_refl _,fun _ _ h=>(by cases h),rfl,fun _ _ _ h=>(by cases h),fun _ h=>h.elim,Sz.refl w⟩
 have hm:MSim w.heap.size (pureBas w) ro γ0 w (⟨[],[],fun _=>.gone,0⟩:AM).B (⟨[],[],fun _=>.gone,0⟩:AM).L:=by
  refine ⟨⟨Below.refl _ _,fun b hb=>?_⟩,Nat.le_refl _,fun b o h=>.inl h.1,fun b o h=>h.2,fun id cells b h=>by simp [AM.B] at h,fun id b h=>(by cases h),fun id id' b h=>(by cases h),fun id b h=>(by cases h),fun id id' b h=>(by cases h),fun b h=>h.elim,fun id b h=>(by cases h),fun id id' b h=>(by cases h),fun id n h=>by simp [AM.L] at h,fun _ _=>rfl⟩
  rcases hb with ⟨_,hb⟩ | ⟨_,hb⟩ | hb | ⟨_,hb⟩
  ·cases hb
  ·cases hb
  ·exact hb.elim
  ·cases hb
 refine CallsIn.mono (h.2 _ _ _ _ _ _ hm ⟨fun _=>.inl rfl,fun _ _=>rfl,fun _ _ _ h=>(by cases h),fun _ _ h=>(by cases h)⟩ (fun g=>(hgl g).mono hev) (fun _ _ _ _ _ _ _ _ _ _ _ hY _ _=>hY.elim) (hr.mono hev)) ?_
 rintro e w' ⟨v,γ',x,m',rfl,_,h2,_,h4,h5⟩
 refine ⟨v,rfl,h2.bs.1,?_⟩
 rw [<- h5]
 exact cvn_rep h2 (fun _ _ h=>h) h2.ro0 6 _ v h4 fun _ id b hb o=>.inr (h2.β id b hb).1
theorem pure_of {f:FuncId} {sc:SC} {rs:List SOp} {n:Nat} (hc:FCode P f sc rs n) (orc:Nat->FuncId->List AV->AV) {as:List AV} {r:AV}
  (h:vc P gl orc Y0 sc ⟨as++List.replicate (n - as.length) .junk,⟨[],[],fun _=>.gone,0⟩⟩ (post P gl orc rs r)):Pure P gl f as r:=by
 have hpost:post P gl orc rs r=postE P gl orc rs fun x m'=>cvn m' 6 x=r:=by
  funext ex s
  cases ex<;>rfl
 rw [hpost] at h
 exact pure_of_eff (eff_of hc orc h)
end
end Go.Abs
