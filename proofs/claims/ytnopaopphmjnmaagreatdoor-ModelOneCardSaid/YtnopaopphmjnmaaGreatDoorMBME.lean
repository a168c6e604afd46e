import Derived.Test.YtnopaopphmjnmaaGreatDoorMBMD
import Derived.RangeFuncNested
set_option linter.all false
namespace Go.Abs
open Go Go.RowKit
def Vq(o:Oper):List Nat:=(o.after.toList.filter fun e=>Region.binds .any e).map (·.on)
def vF(ops:Array Oper)(i j:Nat):Bool:=
 match ops[i]? with
 |some o=>(Vq o).contains j
 |none=>false
def Ci(ops:Array Oper)(i:Nat):Bool:=(List.range i).all fun j=>(List.range (i-j)).any fun d=>vF ops (i-d) j
def vG(ops:Array Oper):Nat->Nat
 |0=>0
 |k+1=>if Ci ops k then vG ops k else k+1
def iW(ops:Array Oper):Nat:=vG ops ops.size
def Yn(ops:Array Oper)(i:Nat):Option Nat:=(ops[i]?).bind (·.dst)
def Ar(ops:Array Oper)(p:Nat):Bool:=
 decide (p<=ops.size)&&(List.range ops.size).all fun i=>
  match ops[i]? with
  |none=>false
  |some o=>(Vq o).all (fun j=>decide (j<i))&&
   (
    if i<p then
    ((o.looksAt ops).all fun t=>(List.range p).all fun j=>!(Yn ops j==some t)||j==i||(decide (j<i)&&(Vq o).contains j))&&
    ((List.range i).all fun j=>(Yn ops j).isNone||!(Yn ops j==o.dst))
   else Ci ops i)
section
variable (P:Program) (gl:Nat->AV) (orc:Nat->FuncId->List AV->AV)
def dop(o:SO)(T:List AV)(m:AM)(nb:List (List AV)):Prop×AV×List (List AV):=
 match o.guard with
 |none=>match o.op with
  |.alloc zs=>(zs.all Qv=true,.ptr (m.boxes.length+nb.length) 0,nb++[zs])
  |.box x=>(bare (ev gl T x)=true/\(cellsOf (ev gl T x)).all Qv=true,.ptr (m.boxes.length+nb.length) 0,nb++[cellsOf (ev gl T x)])
  |.mks sz bytes zs l c=>(match ev gl T l,ev gl T c with
   |.int _ l,.int _ c=>((0<=l/\l<=c/\bytes*c<=281474976710656/\c<=9223372036854775807)/\zs.length=sz/\zs.all Qv=true,.bs (m.boxes.length+nb.length) 0 l.toNat sz,nb++[bG c.toNat zs])
   |_,_=>(False,.junk,nb))
  |op=>((rop P gl orc (ev gl T) m o.dst op).1,(rop P gl orc (ev gl T) m o.dst op).2,nb)
 |some (some t,want)=>match Ij want (T.getD t .junk)with
  |some gw=>(gok gl T gw (gxs o.op o.xs)/\(gw=true->(rop P gl orc (evG gl T o.op) m o.dst o.op).1),.gd gw (rop P gl orc (evG gl T o.op) m o.dst o.op).2,nb)
  |none=>(False,.junk,nb)
 |some (none,_)=>(False,.junk,nb)
def vcD(Y:YT)(l2:List SO)(K:AS->Prop):List SO->List AV->AM->List (List AV)->Prop
 |[],T,m,nb=>Zz P gl orc Y l2 ⟨T,{m with boxes:=m.boxes++nb}⟩ K
 |o::r,T,m,nb=>(dop P gl orc o T m nb).1/\vcD Y l2 K r (put T o.dst (dop P gl orc o T m nb).2.1) m (dop P gl orc o T m nb).2.2
def Xe(ops:Array Oper)(T0:List AV)(m:AM):Nat->List AV×List (List AV)
 |0=>(T0,[])
 |k+1=>match ops[k]? with
  |some o=>(put (Xe ops T0 m k).1 o.dst (dop P gl orc (Xu P ops o) (Xe ops T0 m k).1 m (Xe ops T0 m k).2).2.1,(dop P gl orc (Xu P ops o) (Xe ops T0 m k).1 m (Xe ops T0 m k).2).2.2)
  |none=>Xe ops T0 m k
end
section
variable {N:Nat} {w0:gY} {r:Option Nat} {aq:Nat->Nat->Prop} {S:G×World} {Y:YT} {P:Program} {gl:Nat->AV} {orc:Nat->FuncId->List AV->AV} {ops:Array Oper} {T0:List AV} {m:AM} {p:Nat}
def Kw{k:Nat}{o:Oper}(h:ops[k]?=some o):Xe P gl orc ops T0 m (k+1)=
  (put (Xe P gl orc ops T0 m k).1 o.dst (dop P gl orc (Xu P ops o) (Xe P gl orc ops T0 m k).1 m (Xe P gl orc ops T0 m k).2).2.1,(dop P gl orc (Xu P ops o) (Xe P gl orc ops T0 m k).1 m (Xe P gl orc ops T0 m k).2).2.2):=by
 simp only[Xe,h]
def NC(l2:List SO)(K:AS->Prop)(hp:p<=ops.size):∀(n k:Nat),k+n=p->vcD P gl orc Y l2 K (((ops.toList.take p).drop k).map (Xu P ops)) (Xe P gl orc ops T0 m k).1 m (Xe P gl orc ops T0 m k).2->
  (∀i o,k<=i->i<p->ops[i]?=some o->(dop P gl orc (Xu P ops o) (Xe P gl orc ops T0 m i).1 m (Xe P gl orc ops T0 m i).2).1)/\
  Zz P gl orc Y l2 ⟨(Xe P gl orc ops T0 m p).1,{m with boxes:=m.boxes++(Xe P gl orc ops T0 m p).2}⟩ K
 |0,k,hk,h=>by
  obtain rfl:k=p:=by omega
  have:(ops.toList.take k).drop k=[]:=zzan (by simp;omega);rw[this]at h;exact⟨fun i o h1 h2=>by omega,h⟩
 |n+1,k,hk,h=>by
  have ai:k<ops.size:=by omega
  have ho:ops[k]?=some ops[k]:=zzaj ai
  have hd:(ops.toList.take p).drop k=ops[k]::(ops.toList.take p).drop (k+1):=by
   rw[zzaf (by simp;omega)];simp
  rw[hd,zzaw]at h;obtain⟨h1,h2⟩:=h;have Wb:=Kw (P:=P) (gl:=gl) (orc:=orc) (T0:=T0) (m:=m) ho;have:=NC l2 K hp n (k+1) (by omega) (by rw[Wb];exact h2);refine⟨fun i o hi eE Cj=>?_,this.2⟩;rcases zzaa k i with fL|fL
  ·exact this.1 i o fL eE Cj
  obtain rfl:i=k:=by omega
  rw[ho]at Cj;cases Cj;exact h1
def vH(T:List AV)(d:Option Nat)(x:AV):(put T d x).length=T.length:=by cases d<;>simp[put]
def iX:∀k,(Xe P gl orc ops T0 m k).1.length=T0.length
 |0=>rfl
 |k+1=>by
  cases h:ops[k]? with
  |none=>simp only[Xe,h];exact iX k
  |some o=>rw[Kw h,vH];exact iX k
def Qbt{T:List AV}{d:Option Nat}{x:AV}{t:Nat}(h:d≠some t):(put T d x).getD t .junk=T.getD t .junk:=by
 cases d with
 |none=>rfl
 |some d=>simp only[put,List.getD];rw[zzbd (by rintro rfl;exact h rfl)]
def lY{T:List AV}{t:Nat}{x:AV}(h:t<T.length):(put T (some t) x).getD t .junk=x:=by
 simp[put,List.getD,h]
def Qds{t:Nat}:∀k,(∀j,j<k->Yn ops j≠some t)->(Xe P gl orc ops T0 m k).1.getD t .junk=T0.getD t .junk
 |0,_=>rfl
 |k+1,h=>by
  cases ho:ops[k]? with
  |none=>simp only[Xe,ho];exact Qds k fun j hj=>h j (by omega)
  |some o=>
   rw[Kw ho,Qbt (by have:=h k (by omega);simpa[Yn,ho]using this)];exact Qds k fun j hj=>h j (by omega)
def kH{t k:Nat}:∀n,(∀j,k<=j->j<k+n->Yn ops j≠some t)->(Xe P gl orc ops T0 m (k+n)).1.getD t .junk=(Xe P gl orc ops T0 m k).1.getD t .junk
 |0,_=>rfl
 |n+1,h=>by
  rw[<- zzao];cases ho:ops[k+n]? with
  |none=>simp only[Xe,ho];exact kH n fun j h1 h2=>h j h1 (by omega)
  |some o=>
   rw[Kw ho,Qbt (by have:=h (k+n) (by omega) (by omega);simpa[Yn,ho]using this)];exact kH n fun j h1 h2=>h j h1 (by omega)
def alg{o:Oper}{T:List AV}{nb:List (List AV)}:
  ((dop P gl orc (Xu P ops o) T m nb).2.2=nb)\/(∃cells,(dop P gl orc (Xu P ops o) T m nb).2.2=nb++[cells]):=by
 unfold dop;split
 ·split
  ·exact .inr ⟨_,rfl⟩
  ·exact .inr ⟨_,rfl⟩
  ·split
   ·exact .inr ⟨_,rfl⟩
   exact .inl rfl
  exact .inl rfl
 ·split
  ·exact .inl rfl
  exact .inl rfl
 exact .inl rfl
def kJ(P:Program)(gl:Nat->AV)(orc:Nat->FuncId->List AV->AV)(ops:Array Oper)(T0:List AV)(m:AM)(k:Nat):Nat:=(Xe P gl orc ops T0 m k).2.length
def ND(k:Nat):(Xe P gl orc ops T0 m (k+1)).2=(Xe P gl orc ops T0 m k).2\/∃cells,(Xe P gl orc ops T0 m (k+1)).2=(Xe P gl orc ops T0 m k).2++[cells]:=by
 cases ho:ops[k]? with
 |none=>exact .inl (by simp only[Xe,ho])
 |some o=>rw[Kw ho];exact alg
def ES(k:Nat):kJ P gl orc ops T0 m (k+1)=kJ P gl orc ops T0 m k\/kJ P gl orc ops T0 m (k+1)=kJ P gl orc ops T0 m k+1:=by
 unfold kJ;rcases ND (P:=P) (gl:=gl) (orc:=orc) (ops:=ops) (T0:=T0) (m:=m) k with h|⟨c,h⟩
 ·rw[h];exact .inl rfl
 rw[h];exact .inr (by simp)
def ET{j:Nat}:∀n,kJ P gl orc ops T0 m j<=kJ P gl orc ops T0 m (j+n)
 |0=>zzab _
 |n+1=>by
  have:=ET (j:=j) n;rcases ES (P:=P) (gl:=gl) (orc:=orc) (ops:=ops) (T0:=T0) (m:=m) (j+n)with h|h<;>rw[<- zzao]<;>omega
def Wc{i j:Nat}(h:i<=j):kJ P gl orc ops T0 m i<=kJ P gl orc ops T0 m j:=by
 have:=ET (P:=P) (gl:=gl) (orc:=orc) (ops:=ops) (T0:=T0) (m:=m) (j:=i) (j-i);rwa [show i+(j-i)=j by omega]at this
def Wf{i:Nat}:∀n{q:Nat}{c:List AV},(Xe P gl orc ops T0 m i).2[q]?=some c->(Xe P gl orc ops T0 m (i+n)).2[q]?=some c
 |0,_,_,h=>h
 |n+1,q,c,h=>by
  have ih:=Wf n h;rw[<- zzao];rcases ND (P:=P) (gl:=gl) (orc:=orc) (ops:=ops) (T0:=T0) (m:=m) (i+n)with e|⟨c',e⟩
  ·rw[e];exact ih
  rw[e,zzah (zza.1 ih).1];exact ih
def Ik(P:Program)(gl:Nat->AV)(orc:Nat->FuncId->List AV->AV)(ops:Array Oper)(T0:List AV)(m:AM)(i:Nat):Bool:=kJ P gl orc ops T0 m (i+1)==kJ P gl orc ops T0 m i+1
def EU{q:Nat}:∀k,q<kJ P gl orc ops T0 m k->∃i,i<k/\Ik P gl orc ops T0 m i=true/\kJ P gl orc ops T0 m i=q
 |0,h=>by simp[kJ,Xe]at h
 |k+1,h=>by
  rcases zzaa q (kJ P gl orc ops T0 m k)with h'|h'
  ·obtain⟨i,h1,h2,h3⟩:=EU k h';exact⟨i,by omega,h2,h3⟩
  rcases ES (P:=P) (gl:=gl) (orc:=orc) (ops:=ops) (T0:=T0) (m:=m) k with e|e
  ·omega
  exact⟨k,by omega,by simp[Ik,e],by omega⟩
def As(P:Program)(gl:Nat->AV)(orc:Nat->FuncId->List AV->AV)(ops:Array Oper)(T0:List AV)(m:AM)(p:Nat)(listed:Array Bool)(id:Nat):Option (List AV):=
 if id<m.boxes.length then m.boxes[id]?
 else if(List.range p).any fun i=>listed.getD i false&&(Ik P gl orc ops T0 m i&&decide (m.boxes.length+kJ P gl orc ops T0 m i=id))then(Xe P gl orc ops T0 m p).2[id-m.boxes.length]? else none
def wr(ops:Array Oper)(p:Nat)(listed:Array Bool)(t:Nat):Bool:=(List.range p).any fun i=>listed.getD i false&&(Yn ops i==some t)
def At(P:Program)(gl:Nat->AV)(orc:Nat->FuncId->List AV->AV)(ops:Array Oper)(T0:List AV)(m:AM)(p:Nat)(listed:Array Bool)(t:Nat):AV:=
 if wr ops p listed t then(Xe P gl orc ops T0 m p).1.getD t .junk else T0.getD t .junk
structure P7 (N:Nat) (w0:gY) (r:Option Nat) (aq:Nat->Nat->Prop) (S:G×World) (Y:YT) (P:Program) (gl:Nat->AV) (orc:Nat->FuncId->List AV->AV) (ops:Array Oper) (T0:List AV) (m:AM) (p:Nat) (listed:Array Bool) (γ:G) (w:World) (a:Act):Prop where
 size:listed.size=ops.size
 tail:∀i,p<=i->i<ops.size->listed.getD i true=false
 clo:∀i o,listed.getD i false=true->ops[i]?=some o->∀j∈Vq o,listed.getD j false=true
 mm:au N w0 aq γ w (As P gl orc ops T0 m p listed) m.L
 ls:cQ γ w m
 rd:Rdr r γ w
 tl:a.tmps.size=T0.length
 tt:∀t,aB w γ (At P gl orc ops T0 m p listed t) (a.tmps.getD t undef)
 d:Dfr S.2.heap.size γ w a.defers
 g:∀g,aB w γ.cT (gl g) (.pointer (some ⟨g,0,none⟩))
 y:YOK N w0 aq P Y γ w
 e:eD S.2 S.1 w γ
def Zw{listed:Array Bool}{i:Nat}{b:Bool}(h:i<listed.size):(listed.setIfInBounds i true).getD i b=true:=by
 simp[h]
def Qx{listed:Array Bool}{i j:Nat}{b:Bool}(h:j≠i):(listed.setIfInBounds i true).getD j b=listed.getD j b:=by
 simp[zzdd (Ne.symm h)]
def aee{listed:Array Bool}{id:Nat}{cells:List AV}(h:m.boxes[id]?=some cells):As P gl orc ops T0 m p listed id=some cells:=by
 unfold As;rw[if_pos (zza.1 h).1];exact h
def Wg{listed:Array Bool}{i:Nat}(hn:Ik P gl orc ops T0 m i=false):As P gl orc ops T0 m p (listed.setIfInBounds i true)=As P gl orc ops T0 m p listed:=by
 funext id;unfold As;congr 1
 have:((List.range p).any fun j=>(listed.setIfInBounds i true).getD j false&&(Ik P gl orc ops T0 m j&&decide (m.boxes.length+kJ P gl orc ops T0 m j=id)))=
   ((List.range p).any fun j=>listed.getD j false&&(Ik P gl orc ops T0 m j&&decide (m.boxes.length+kJ P gl orc ops T0 m j=id))):=by
  congr 1;funext j;by_cases hj:j=i
  ·subst hj;simp[hn]
  rw[Qx hj]
 rw[this]
def aef{i j:Nat}(hi:Ik P gl orc ops T0 m i=true)(hj:Ik P gl orc ops T0 m j=true)(h:kJ P gl orc ops T0 m i=kJ P gl orc ops T0 m j):i=j:=by
 simp only[Ik,beq_iff_eq]at hi hj;rcases zzfj i j with h'|h'|h'
 ·have:=Wc (P:=P) (gl:=gl) (orc:=orc) (ops:=ops) (T0:=T0) (m:=m) (i:=i+1) (j:=j) h';omega
 ·exact h'
 have:=Wc (P:=P) (gl:=gl) (orc:=orc) (ops:=ops) (T0:=T0) (m:=m) (i:=j+1) (j:=i) h';omega
def Au{listed:Array Bool}{i:Nat}(hn:Ik P gl orc ops T0 m i=true)(hl:listed.getD i false=false):As P gl orc ops T0 m p listed (m.boxes.length+kJ P gl orc ops T0 m i)=none:=by
 unfold As;rw[if_neg (by omega),if_neg];intro h;obtain⟨j,_,h⟩:=zzbz.1 h;simp only[zzak,decide_eq_true_eq]at h;obtain⟨h1,h2,h3⟩:=h;have:=aef h2 hn (by omega);subst this;rw[hl]at h1;cases h1
def NF{listed:Array Bool}{i:Nat}{cells:List AV}(eE:i<p)(hsz:i<listed.size)(hn:Ik P gl orc ops T0 m i=true)(hc:(Xe P gl orc ops T0 m p).2[kJ P gl orc ops T0 m i]?=some cells):
  As P gl orc ops T0 m p (listed.setIfInBounds i true)=fun id=>if id=m.boxes.length+kJ P gl orc ops T0 m i then some cells else As P gl orc ops T0 m p listed id:=by
 funext id;by_cases aO:id=m.boxes.length+kJ P gl orc ops T0 m i
 ·rw[if_pos aO];unfold As;rw[if_neg (by omega),if_pos]
  ·rw[aO,zzdm];exact hc
  rw[zzbz];exact⟨i,zzbf.2 eE,by rw[Zw hsz,hn];simp[aO]⟩
 rw[if_neg aO];unfold As;congr 1
 have:((List.range p).any fun j=>(listed.setIfInBounds i true).getD j false&&(Ik P gl orc ops T0 m j&&decide (m.boxes.length+kJ P gl orc ops T0 m j=id)))=
   ((List.range p).any fun j=>listed.getD j false&&(Ik P gl orc ops T0 m j&&decide (m.boxes.length+kJ P gl orc ops T0 m j=id))):=by
  congr 1;funext j;by_cases hj:j=i
  ·subst hj;have:decide (m.boxes.length+kJ P gl orc ops T0 m j=id)=false:=by simp;omega
   simp[this]
  rw[Qx hj]
 rw[this]
def aeg{listed:Array Bool}(bS:∀i,i<p->listed.getD i false=true):As P gl orc ops T0 m p listed=({m with boxes:=m.boxes++(Xe P gl orc ops T0 m p).2}:AM).B:=by
 funext id;unfold As;simp only[AM.B];split
 ·rename_i h;rw[zzah h]
 rename_i h;rw[zzap (by omega)];split
 ·rfl
 rename_i hn;rcases zzaa (id-m.boxes.length) (Xe P gl orc ops T0 m p).2.length with hq|hq
 ·obtain⟨i,h1,h2,h3⟩:=EU (P:=P) (gl:=gl) (orc:=orc) (ops:=ops) (T0:=T0) (m:=m) (q:=id-m.boxes.length) p hq;exfalso;apply hn;rw[zzbz];exact⟨i,zzbf.2 h1,by rw[bS i h1,h2];simp;omega⟩
 rw[zzax hq]
def Av{α:Type}{f g:α->Bool}:∀{l:List α}{x:α},(∀y,f y=true->g y=true)->x∈l->g x=true->f x=false->l.countP f<l.countP g
 |y::l,x,hfg,hx,hg,hf=>by
  have cc:l.countP f<=l.countP g:=List.countP_mono_left fun y _=>hfg y;rw[List.countP_cons,List.countP_cons];rcases zzau.1 hx with rfl|hx
  ·rw[hg,hf];simp;omega
  have:=Av hfg hx hg hf;by_cases h1:f y=true
  ·rw[h1,hfg y h1];simp;omega
  have qv:f y=false:=by simpa using h1
  rw[qv];simp only[zzbs,if_false,zzcm];exact zzbb this (zzgp _ _)
def uc(ops:Array Oper)(listed:Array Bool):Nat:=(List.range ops.size).countP fun i=>!listed.getD i true
def vI{listed:Array Bool}{i:Nat}(hsz:listed.size=ops.size)(hi:i<ops.size)(hl:listed.getD i true=false):uc ops (listed.setIfInBounds i true)<uc ops listed:=by
 unfold uc;refine Av (x:=i) (fun j hj=>?_) (zzbf.2 hi) (by rw[hl];rfl) (by rw[Zw (by omega)];rfl);by_cases z6:j=i
 ·subst z6;rw[hl];rfl
 rw[Qx z6]at hj;exact hj
def oB{listed:Array Bool}(h:uc ops listed=0){i:Nat}(hi:i<ops.size):listed.getD i true=true:=by
 unfold uc at h;have:=List.countP_eq_zero.1 h i (zzbf.2 hi);simpa using this
def Xm{listed:Array Bool}{i:Nat}(hi:i<listed.size)(b b':Bool):listed.getD i b=listed.getD i b':=by simp[hi]
def Vd(h:Ar ops p=true):p<=ops.size/\∀i o,ops[i]?=some o->(∀j∈Vq o,j<i)/\
  (i<p->(∀t∈o.looksAt ops,∀j,j<p->Yn ops j=some t->j≠i->j<i/\j∈Vq o)/\(∀j,j<i->∀t,Yn ops j=some t->o.dst≠some t))/\
  (p<=i->Ci ops i=true):=by
 unfold Ar at h;simp only[zzak,decide_eq_true_eq,zzbg]at h;obtain⟨hp,h⟩:=h;refine⟨hp,fun i o ho=>?_⟩;have hi:i<ops.size:=(zzbu.1 ho).1;have:=h i (zzbf.2 hi);simp only[ho,zzak,zzbg,decide_eq_true_eq]at this;obtain⟨h1,h2⟩:=this;refine⟨h1,fun eE=>?_,fun eE=>?_⟩
 ·rw[if_pos eE]at h2;simp only[zzak,zzbg]at h2;obtain⟨h3,h4⟩:=h2;refine⟨fun t ht j hj hd aJ=>?_,fun j hj t hd cB=>?_⟩
  ·have:=h3 t ht j (zzbf.2 hj);simp[hd,aJ]at this;exact⟨this.1,this.2⟩
  have:=h4 j (zzbf.2 hj);simp[hd,cB]at this
 rw[if_neg (by omega)]at h2;exact h2
def SP(ops:Array Oper)(listed:Array Bool):Prop:=∀i o,listed.getD i false=true->ops[i]?=some o->∀j∈Vq o,listed.getD j false=true
def SP.set{listed:Array Bool}(h:SP ops listed){i:Nat}{o:Oper}(ho:ops[i]?=some o)(hsz:i<listed.size)(cN:∀j∈Vq o,listed.getD j false=true):SP ops (listed.setIfInBounds i true):=by
 have aiX:∀k,listed.getD k false=true->(listed.setIfInBounds i true).getD k false=true:=fun k hk=>by
  by_cases qD:i=k
  ·subst qD;exact Zw hsz
  rw[Qx (Ne.symm qD)];exact hk
 intro k o' hk cB j hj;by_cases qD:i=k
 ·subst qD;rw[ho]at cB;cases cB;exact aiX j (cN j hj)
 rw[Qx (Ne.symm qD)]at hk;exact aiX j (h k o' hk cB j hj)
def iY{listed:Array Bool}(aeh:SP ops listed){i:Nat}{o:Oper}(ho:ops[i]?=some o)(ht:Ci ops i=true)(cN:∀j∈Vq o,listed.getD j false=true):∀(n j:Nat),j<i->i-j<=n->listed.getD j false=true
 |0,j,h1,h2=>by omega
 |n+1,j,h1,h2=>by
  obtain⟨d,hd,hw⟩:=zzbz.1 (zzbg.1 ht j (zzbf.2 h1));have hdl:=zzbf.1 hd;unfold vF at hw;split at hw
  ·rename_i o' cB;have hm:j∈Vq o':=by simpa using hw
   by_cases h0:d=0
   ·subst h0;rw[zzfb,ho]at cB;cases cB;exact cN j hm
   exact aeh (i-d) o' (iY aeh ho ht cN n (i-d) (by omega) (by omega)) cB j hm
  cases hw
def mX{o:Oper}{j:Nat}:j∈Vq o<->∃e∈o.after,Region.binds .any e=true/\e.on=j:=by
 simp[Vq];constructor
 ·rintro⟨e,⟨h1,h2⟩,rfl⟩;exact⟨e,h1,h2,rfl⟩
 rintro⟨e,h1,h2,rfl⟩;exact⟨e,⟨h1,h2⟩,rfl⟩
def Wn(hc:Ar ops p=true){listed:Array Bool}(hsz:listed.size=ops.size):∀(n i:Nat),i<=n->i<ops.size->listed.getD i true=false->∃j,j∈Region.ready .any ops listed
 |0,i,bI,hi,hl=>by
  obtain rfl:i=0:=by omega
  have ho:ops[0]?=some ops[0]:=zzaj hi;refine⟨0,mem_ready.2 ⟨hl,ops[0],ho,fun e he hb=>?_⟩⟩;have:=((Vd hc).2 0 _ ho).1 e.on (mX.2 ⟨e,he,hb,rfl⟩);omega
 |n+1,i,bI,hi,hl=>by
  by_cases hex:∃j,j<i/\listed.getD j true=false
  ·obtain⟨j,hj,NG⟩:=hex;exact Wn hc hsz n j (by omega) (by omega) NG
  have ho:ops[i]?=some ops[i]:=zzaj hi;refine⟨i,mem_ready.2 ⟨hl,ops[i],ho,fun e he hb=>?_⟩⟩;have ai:=((Vd hc).2 i _ ho).1 e.on (mX.2 ⟨e,he,hb,rfl⟩)
  have:listed.getD e.on true=true:=by
   cases h:listed.getD e.on true with
   |true=>rfl
   |false=>exact absurd ⟨e.on,ai,h⟩ hex
  rw[Xm (by omega) false true];exact this
def Wo(hc:Ar ops p=true){listed:Array Bool}{i:Nat}(hr:i∈Region.ready .any ops listed):i<ops.size/\listed.getD i true=false/\∃o,ops[i]?=some o/\∀j∈Vq o,listed.getD j false=true:=by
 obtain⟨h1,o,ho,h2⟩:=mem_ready.1 hr;refine⟨(zzbu.1 ho).1,h1,o,ho,fun j hj=>?_⟩;obtain⟨e,he,hb,rfl⟩:=mX.1 hj;exact h2 e he hb
def mY{Q:Exit->Act->World->Prop}{K:AS->Prop}(hQ:∀γ w s a,K s->fK N w0 r aq S P gl Y γ w s a->Q .normal a w)(hc:Ar ops p=true):
  ∀(bw k:Nat)(listed:Array Bool)(γ:G)(w:World)(s:AS)(a:Act),p<=k->k<=ops.size->listed.size=ops.size->(∀j,j<k->listed.getD j false=true)->(∀j,k<=j->j<ops.size->listed.getD j true=false)->
   uc ops listed<=bw->Zz P gl orc Y ((ops.toList.drop k).map (Xu P ops)) s K->fK N w0 r aq S P gl Y γ w s a->wpAnyIn (FW r) 0 P .any ops Q bw listed a w:=by
 intro bw;induction bw with
 |zero=>
  intro k listed γ w s a EV hk hsz NH hhi tP h hs
  have DM:k=ops.size:=by
   rcases zzaa k ops.size with h'|h'
   ·have:=oB (zzg.1 tP) h';rw[hhi k (zzab _) h']at this;cases this
   omega
  have hd:ops.toList.drop k=[]:=zzan (by simp;omega);rw[hd]at h;refine⟨?_,hQ γ w s a h hs⟩;rw[List.eq_nil_iff_forall_not_mem];intro i hi;obtain⟨ai,hu,_⟩:=Wo hc hi;have:=oB (zzg.1 tP) ai;rw[hu]at this;cases this
 |succ bw ih=>
  intro k listed γ w s a EV hk hsz NH hhi tP h hs;refine⟨fun hr=>?_,fun i hi=>?_⟩
  ·have DM:k=ops.size:=by
    rcases zzaa k ops.size with h'|h'
    ·obtain⟨j,hj⟩:=Wn hc hsz k k (zzab _) h' (hhi k (zzab _) h');rw[hr]at hj;cases hj
    omega
   have hd:ops.toList.drop k=[]:=zzan (by simp;omega);rw[hd]at h;exact hQ γ w s a h hs
  obtain⟨ai,hu,o,ho,cN⟩:=Wo hc hi
  have fL:k<=i:=by
   rcases zzaa i k with h'|h'
   ·have:=NH i h';rw[Xm (by omega) false true,hu]at this;cases this
   exact h'
  have qD:i=k:=by
   rcases zzaa k i with h'|h'
   ·have aeh:SP ops listed:=fun x ox hx hox j hj=>by
     have hxk:x<k:=by
      rcases zzaa x k with h1|h1
      ·exact h1
      have hxs:x<ops.size:=(zzbu.1 hox).1;rw[Xm (by omega) false true,hhi x h1 hxs]at hx;cases hx
     have:=((Vd hc).2 x ox hox).1 j hj;exact NH j (by omega)
    have:=iY aeh ho (((Vd hc).2 i o ho).2.2 (by omega)) cN i k h' (by omega);rw[Xm (by omega) false true,hhi k (zzab _) (by omega)]at this;cases this
   omega
  subst qD;refine wpOpIn_mono ?_ (vE ai hs h);rintro a' w' ⟨γ',s',iz,h'⟩;refine ih (i+1) _ γ' w' s' a' (by omega) ai (by simp[hsz]) (fun j hj=>?_) (fun j ek pY=>?_) ?_ h' iz
  ·rcases zzaa j i with h'|h'
   ·rw[Qx (by omega)];exact NH j h'
   obtain rfl:j=i:=by omega
   exact Zw (by omega)
  ·rw[Qx (by omega)];exact hhi j (by omega) pY
  have:=vI hsz ai hu;omega
def aei{P:Program}{w:World}{γ:G}{te:TypeId}{zs:List AV}{i:TypeInfo}{z:Value}{n:Nat}(JM:ak w γ zs z.cells.toList)(g5:zs.all Qv=true)(g4:zs.length=i.size):
  cD w γ (bG n zs) (madeCells z.cells (n*i.size)).toList/\∀v∈(madeCells z.cells (n*i.size)).toList,v.oneCell'=true:=by
 have lB:=Ua JM g5;have EM:z.cells.size=zs.length:=by have:=JM.1;simp at this;omega
 refine⟨⟨by simp[Kh,size_madeCells,g4],fun k c v j1 j2=>?_⟩,fun v hv=>?_⟩
 ·obtain⟨q1,q2⟩:=ku j1
  have h0:0<zs.length:=by
   rcases zzcj zs.length with h0|h0
   ·simp[h0]at q1
   exact h0
  have ai:k%zs.length<z.cells.size:=by rw[EM];exact zzdx _ h0
  have EI:v=z.cells[k%zs.length]:=by
   simp only[madeCells,zzcb,zzga]at j2;rw[zzaj (by simp;rw[<- g4];exact q1)]at j2;simp[EM]at j2;rw[<- j2,getElem!_pos z.cells _ ai]
  subst EI;exact JM.2 _ c _ q2 (by simp[ai])
 simp[madeCells]at hv;obtain⟨k,hk,rfl⟩:=hv
 have h0:0<z.cells.size:=by
  rcases zzcj z.cells.size with h0|h0
  ·rw[h0]at EM;rw[<- g4,<- EM]at hk;simp at hk
  exact h0
 have ai:k%z.cells.size<z.cells.size:=zzdx _ h0;rw[getElem!_pos z.cells _ ai];exact lB _ (by simp)
def alh{o:Oper}{sz bytes:Nat}{zs:List AV}{x y:bN}(h:tr P o=.mks sz bytes zs x y):∃t l c te i,o.op=.makeSlice t l c/\x=aA l/\y=aA c/\P.underlying t=some (.slice te)/\P.info? te=some i/\sz=i.size/\bytes=i.bytes/\zc P te=some zs:=by
 obtain⟨dst,op,ty,pos,after,guard⟩:=o;cases op
 case makeSlice t l c=>
  simp only[tr]at h;split at h
  ·rename_i te hu;split at h
   ·split at h<;>cases h
   ·rename_i i hi _;split at h
    ·rename_i zs' hz;cases h;exact⟨t,_,_,te,i,rfl,rfl,rfl,hu,hi,rfl,rfl,hz⟩
    cases h
   cases h
  cases h
 case call c=>
  simp only[tr,Zr]at h;repeat' split at h
  all_goals cases h
 case build t parts=>
  simp only[tr,We]at h;repeat' split at h
  all_goals cases h
 case slice t x lo hi mx=>cases mx<;>simp only[tr]at h<;>(repeat' split at h)<;>cases h
 case makeFunc fn a b=>cases fn<;>cases h
 case next x s=>cases s<;>cases h
 case makeMap t r=>cases r<;>simp only[tr]at h<;>(repeat' split at h)<;>cases h
 case binOp op t x y t'=>
  simp only[tr,lV,Qca,yS]at h;repeat' split at h
  all_goals cases h
 all_goals first|(cases h;done)|(
  simp only[tr]at h;repeat' split at h
  all_goals cases h)
def vJ(c:Call)(zs:List AV):Zr P c≠.alloc zs:=by
 intro h;obtain⟨callee,args,ts⟩:=c;cases callee with
 |builtin b=>cases b<;>simp only[Zr]at h<;>(repeat' split at h)<;>cases h
 |_=>cases h
def Ck(c:Call)(x:bN):Zr P c≠.box x:=by
 intro h;obtain⟨callee,args,ts⟩:=c;cases callee with
 |builtin b=>cases b<;>simp only[Zr]at h<;>(repeat' split at h)<;>cases h
 |_=>cases h
def Wr{o:Oper}{zs:List AV}(h:tr P o=.alloc zs):∃t,o.op=.alloc t/\zc P t=some zs:=by
 obtain⟨dst,op,ty,pos,after,guard⟩:=o;cases op
 case alloc t=>
  simp only[tr]at h;split at h
  ·rename_i zs' hz;cases h;exact⟨t,rfl,hz⟩
  cases h
 case call c=>exact absurd h (vJ c zs)
 case build t parts=>
  simp only[tr,We]at h;repeat' split at h
  all_goals cases h
 case slice t x lo hi mx=>cases mx<;>simp only[tr]at h<;>(repeat' split at h)<;>cases h
 case makeFunc fn a b=>cases fn<;>cases h
 case next x s=>cases s<;>cases h
 case makeMap t r=>cases r<;>simp only[tr]at h<;>(repeat' split at h)<;>cases h
 case binOp op t x y t'=>
  simp only[tr,lV,Qca,yS]at h;repeat' split at h
  all_goals cases h
 all_goals first|(cases h;done)|(
  simp only[tr]at h;repeat' split at h
  all_goals cases h)
def ali{o:Oper}{x:bN}(h:tr P o=.box x):∃t y,o.op=.box t y/\x=aA y:=by
 obtain⟨dst,op,ty,pos,after,guard⟩:=o;cases op
 case box t y=>cases h;exact⟨t,y,rfl,rfl⟩
 case call c=>exact absurd h (Ck c x)
 case build t parts=>
  simp only[tr,We]at h;repeat' split at h
  all_goals cases h
 case slice t x lo hi mx=>cases mx<;>simp only[tr]at h<;>(repeat' split at h)<;>cases h
 case makeFunc fn a b=>cases fn<;>cases h
 case next x s=>cases s<;>cases h
 case makeMap t r=>cases r<;>simp only[tr]at h<;>(repeat' split at h)<;>cases h
 case binOp op t x y t'=>
  simp only[tr,lV,Qca,yS]at h;repeat' split at h
  all_goals cases h
 all_goals first|(cases h;done)|(
  simp only[tr]at h;repeat' split at h
  all_goals cases h)
def avf(hc:Ar ops p=true){listed:Array Bool}(hsz:listed.size=ops.size){i:Nat}{o:Oper}(ho:ops[i]?=some o)(eE:i<p)(hu:listed.getD i true=false)(cN:∀j∈Vq o,listed.getD j false=true)
  {t:Nat}(ht:t∈o.looksAt ops):(Xe P gl orc ops T0 m i).1.getD t .junk=At P gl orc ops T0 m p listed t:=by
 have hi:i<ops.size:=(zzbu.1 ho).1;obtain⟨hp,dy⟩:=Vd hc;unfold At;by_cases hex:∃j,j<p/\Yn ops j=some t/\j≠i
 ·obtain⟨j,hj,hd,aJ⟩:=hex;obtain⟨z6,hja⟩:=((dy i o ho).2.1 eE).1 t ht j hj hd aJ
  have hw:wr ops p listed t=true:=by
   unfold wr;rw[zzbz];exact⟨j,zzbf.2 hj,by rw[cN j hja,hd];simp⟩
  rw[if_pos hw]
  have:=kH (P:=P) (gl:=gl) (orc:=orc) (ops:=ops) (T0:=T0) (m:=m) (t:=t) (k:=i) (p-i) fun k cV di NI=>by
   have hk:k<ops.size:=by omega
   have NJ:ops[k]?=some ops[k]:=zzaj hk;have:=((dy k _ NJ).2.1 (by omega)).2 j (by omega) t hd;simp[Yn,NJ]at NI;exact this NI
  rw[show i+(p-i)=p by omega]at this;exact this.symm
 have hw:wr ops p listed t=false:=by
  unfold wr;rw[zzek];intro j hj;simp only[zzak,beq_iff_eq,not_and];intro hl hd;by_cases z6:j=i
  ·subst z6;rw[Xm (by omega) false true,hu]at hl;cases hl
  exact hex ⟨j,zzbf.1 hj,hd,z6⟩
 rw[hw];simp only[zzbs,if_false];exact Qds i fun j hj hd=>hex ⟨j,by omega,hd,by omega⟩
def alj(hc:Ar ops p=true){listed:Array Bool}(hsz:listed.size=ops.size){i:Nat}{o:Oper}(ho:ops[i]?=some o)(eE:i<p){t:Nat}:
  At P gl orc ops T0 m p (listed.setIfInBounds i true) t=if o.dst=some t/\t<T0.length then(dop P gl orc (Xu P ops o) (Xe P gl orc ops T0 m i).1 m (Xe P gl orc ops T0 m i).2).2.1 else At P gl orc ops T0 m p listed t:=by
 have hi:i<ops.size:=(zzbu.1 ho).1;obtain⟨hp,dy⟩:=Vd hc;by_cases hd:o.dst=some t
 ·have hw:wr ops p (listed.setIfInBounds i true) t=true:=by
   unfold wr;rw[zzbz];exact⟨i,zzbf.2 eE,by rw[Zw (by omega)];simp[Yn,ho,hd]⟩
  have hl:=kH (P:=P) (gl:=gl) (orc:=orc) (ops:=ops) (T0:=T0) (m:=m) (t:=t) (k:=i+1) (p-(i+1)) fun k cV di NI=>by
   have hk:k<ops.size:=by omega
   have NJ:ops[k]?=some ops[k]:=zzaj hk;have:=((dy k _ NJ).2.1 (by omega)).2 i (by omega) t (by simp[Yn,ho,hd]);simp[Yn,NJ]at NI;exact this NI
  rw[show i+1+(p-(i+1))=p by omega]at hl;by_cases ht:t<T0.length
  ·rw[if_pos ⟨hd,ht⟩];unfold At;rw[if_pos hw,hl,Kw ho,hd];exact lY (by rw[iX];exact ht)
  rw[if_neg (by simp[ht])]
  have h1:∀k,(Xe P gl orc ops T0 m k).1.getD t .junk=.junk:=fun k=>by
   have:=iX (P:=P) (gl:=gl) (orc:=orc) (ops:=ops) (T0:=T0) (m:=m) k;simp only[List.getD];rw[zzax (by omega)];rfl
  have h2:T0.getD t .junk=.junk:=h1 0;unfold At;rw[h1 p,h2];simp
 rw[if_neg (by simp[hd])]
 have hw:wr ops p (listed.setIfInBounds i true) t=wr ops p listed t:=by
  unfold wr;congr 1;funext j;by_cases hj:j=i
  ·subst hj;have hb:(o.dst==some t)=false:=by simpa using hd
   simp[Yn,ho,hb]
  rw[Qx hj]
 unfold At;rw[hw]
def JX(hc:Ar ops p=true){Q:Exit->Act->World->Prop}{listed:Array Bool}{γ:G}{w:World}{a:Act}(hI:P7 N w0 r aq S Y P gl orc ops T0 m p listed γ w a){i:Nat}{o:Oper}(ho:ops[i]?=some o)(eE:i<p)
  (hu:listed.getD i true=false)(cN:∀j∈Vq o,listed.getD j false=true)(bQ:(dop P gl orc (Xu P ops o) (Xe P gl orc ops T0 m i).1 m (Xe P gl orc ops T0 m i).2).1):
  wpOpIn (FW r) 0 P ops Q i (fun a' w'=>∃γ',P7 N w0 r aq S Y P gl orc ops T0 m p (listed.setIfInBounds i true) γ' w' a') a w:=by
 have hi:i<ops.size:=(zzbu.1 ho).1
 have P8:∀t∈o.looksAt ops,aB w γ ((Xe P gl orc ops T0 m i).1.getD t .junk) (a.tmps.getD t undef):=fun t ht=>by
  rw[avf (P:=P) (gl:=gl) (orc:=orc) (T0:=T0) (m:=m) hc hI.size ho eE hu cN ht];exact hI.tt t
 have gp:∀x∈o.op.operands,aB w γ (ev gl (Xe P gl orc ops T0 m i).1 (aA x)) (a.eval x):=fun x hx=>by
  cases x with
  |tmp t=>exact P8 t (by simp only[Oper.looksAt,zzal,zzfc];exact .inl ⟨.tmp t,by simpa using hx,rfl⟩)
  |const v=>exact Js w γ v
  |func f=>exact .fn rfl (fun i c v h=>by simp at h) rfl fun i c v h=>by simp at h
  |global g=>exact(hI.g g).gh
 have hB:∀id cells,m.boxes[id]?=some cells->As P gl orc ops T0 m p listed id=some cells:=fun id cells h=>aee h
 have fin:∀{v:Value}{w':World}{γ':G},Ev w γ w' γ'->au N w0 aq γ' w' (As P gl orc ops T0 m p (listed.setIfInBounds i true)) m.L->
   aB w' γ' (dop P gl orc (Xu P ops o) (Xe P gl orc ops T0 m i).1 m (Xe P gl orc ops T0 m i).2).2.1 v->∃γ',P7 N w0 r aq S Y P gl orc ops T0 m p (listed.setIfInBounds i true) γ' w' (a.put o.dst v):=fun{v w' γ'}he hm hr=>by
  refine⟨γ',by simp[hI.size],fun j ek pY=>by rw[Qx (by omega)];exact hI.tail j ek pY,SP.set hI.clo ho (by rw[hI.size];exact hi) cN,hm,hI.ls.mono he,hI.rd.bh he.dB,?_,fun t=>?_,?_,fun g=>(hI.g g).mono he.cT,hI.y.mono he.dB,hI.e.trans he.dB⟩
  ·cases hd:o.dst<;>simp[Act.put,hI.tl]
  ·rw[alj hc hI.size ho eE];by_cases hd:o.dst=some t
   ·by_cases ht:t<T0.length
    ·rw[if_pos ⟨hd,ht⟩,hd];have:(a.put (some t) v).tmps.getD t undef=v:=by simp[Act.put,hI.tl,ht]
     rw[this];exact hr
    rw[if_neg (by simp[ht]),hd];have:(a.put (some t) v).tmps.getD t undef=a.tmps.getD t undef:=by simp[Act.put,hI.tl,ht]
    rw[this];exact(hI.tt t).mono he
   rw[if_neg (by simp[hd])]
   have:(a.put o.dst v).tmps.getD t undef=a.tmps.getD t undef:=by
    cases ED:o.dst with
    |none=>rfl
    |some d=>simp only[Act.put];simp;rw[zzdd (by rintro rfl;exact hd ED)]
   rw[this];exact(hI.tt t).mono he
  cases hd:o.dst<;>exact hI.d.bh he.dB
 have dJ:=Kw (P:=P) (gl:=gl) (orc:=orc) (T0:=T0) (m:=m) ho
 have EW:∀cells,(dop P gl orc (Xu P ops o) (Xe P gl orc ops T0 m i).1 m (Xe P gl orc ops T0 m i).2).2.2=(Xe P gl orc ops T0 m i).2++[cells]->Ik P gl orc ops T0 m i=true/\(Xe P gl orc ops T0 m p).2[kJ P gl orc ops T0 m i]?=some cells:=fun cells h=>by
  refine⟨by simp only[Ik,kJ,dJ,h];simp,?_⟩;have:=Wf (P:=P) (gl:=gl) (orc:=orc) (ops:=ops) (T0:=T0) (m:=m) (i:=i+1) (p-(i+1)) (q:=kJ P gl orc ops T0 m i) (c:=cells) (by rw[dJ];simp only[h,kJ];simp);rwa [show i+1+(p-(i+1))=p by omega]at this
 have oA:(dop P gl orc (Xu P ops o) (Xe P gl orc ops T0 m i).1 m (Xe P gl orc ops T0 m i).2).2.2=(Xe P gl orc ops T0 m i).2->As P gl orc ops T0 m p (listed.setIfInBounds i true)=As P gl orc ops T0 m p listed:=fun h=>
  Wg (by simp only[Ik,kJ,dJ,h];simp)
 have Aw:listed.getD i false=false:=by rw[Xm (by rw[hI.size];exact hi) false true];exact hu
 have box:∀{cells:List AV}{arr:Array Value}{te:TypeId},ak w γ cells arr.toList->cells.all Qv=true->
   (dop P gl orc (Xu P ops o) (Xe P gl orc ops T0 m i).1 m (Xe P gl orc ops T0 m i).2).2=(.ptr (m.boxes.length+(Xe P gl orc ops T0 m i).2.length) 0,(Xe P gl orc ops T0 m i).2++[cells])->
   (execOp a.eval o).run P w=.ok (.value (.pointer (some ⟨w.heap.size,0,none⟩))) (w.alloc (.cells arr te))->
   o.wpIn (FW r) 0 P a w (fun a' w'=>∃γ',P7 N w0 r aq S Y P gl orc ops T0 m p (listed.setIfInBounds i true) γ' w' a') Q:=fun{cells arr te}hr bK hd aY=>by
  obtain⟨qs,rO⟩:=EW cells (by rw[hd]);have aO:=Au (p:=p) qs Aw;refine Zo aY (fin (hI.mm.dh _ aO _) ?_ ?_)
  ·rw[NF eE (by rw[hI.size];exact hi) qs rO];exact hI.mm.eX _ aO hr.toP (Ua hr bK)
  rw[hd];exact .ptr (by simp[G.box,kJ])
 simp only[wpOpIn,ho];cases hg:o.guard with
 |none=>
  have hw:Region.wanted o (yielded ops a.tmps)=true:=by simp[Region.wanted,hg]
  rw[if_pos hw];have e1:(Xu P ops o).guard=none:=by simp[Xu,hg]
  cases WA:tr P o with
  |alloc zs=>
   have hd:dop P gl orc (Xu P ops o) (Xe P gl orc ops T0 m i).1 m (Xe P gl orc ops T0 m i).2=(zs.all Qv=true,.ptr (m.boxes.length+(Xe P gl orc ops T0 m i).2.length) 0,(Xe P gl orc ops T0 m i).2++[zs]):=by
    have e2:(Xu P ops o).op=.alloc zs:=WA;simp only[dop,e1,e2]
   rw[hd]at bQ;obtain⟨t,WB,hz⟩:=Wr WA;obtain⟨i',z,dV,iS,hr⟩:=qw (w:=w) (γ:=γ) hz;refine box (te:=t) hr bQ (by rw[hd]) ?_;obtain⟨d',op',ty',aqg,af',gu'⟩:=o;simp only at WB;subst WB;simp[execOp,Instr.alloc,zeroValue,typeInfo,dV,iS,newVar,newRow]
  |box x=>
   have hd:dop P gl orc (Xu P ops o) (Xe P gl orc ops T0 m i).1 m (Xe P gl orc ops T0 m i).2=(bare (ev gl (Xe P gl orc ops T0 m i).1 x)=true/\(cellsOf (ev gl (Xe P gl orc ops T0 m i).1 x)).all Qv=true,
     .ptr (m.boxes.length+(Xe P gl orc ops T0 m i).2.length) 0,(Xe P gl orc ops T0 m i).2++[cellsOf (ev gl (Xe P gl orc ops T0 m i).1 x)]):=by
    have e2:(Xu P ops o).op=.box x:=WA;simp only[dop,e1,e2]
   rw[hd]at bQ;obtain⟨t,y,WB,rfl⟩:=ali WA;have hry:=gp y (by rw[WB];simp[Op.operands]);refine box (te:=t) (j9 hry bQ.1) bQ.2 (by rw[hd]) ?_;obtain⟨d',op',ty',aqg,af',gu'⟩:=o;simp only at WB;subst WB;simp[execOp,Instr.box,newVar,newRow]
  |mks sz bytes zs x y=>
   obtain⟨t,l,c,te,i',WB,rfl,rfl,hu,dV,rfl,rfl,BY⟩:=alh WA;have e2:(Xu P ops o).op=.mks i'.size i'.bytes zs (aA l) (aA c):=WA;simp only[dop,e1,e2]at bQ EW;have hl:=gp l (by rw[WB];simp[Op.operands]);have hc:=gp c (by rw[WB];simp[Op.operands]);split at bQ
   case h_2=>exact bQ.elim
   rename_i k1 n1 k2 n2 q1 q2;rw[q1]at hl;rw[q2]at hc;obtain⟨⟨g0,g1,g2,g3⟩,g4,g5⟩:=bQ;obtain⟨i2,z,hi2,hz,JM⟩:=qw (w:=w) (γ:=γ) BY;rw[dV]at hi2;cases hi2
   have hd:dop P gl orc (Xu P ops o) (Xe P gl orc ops T0 m i).1 m (Xe P gl orc ops T0 m i).2=((0<=n1/\n1<=n2/\i'.bytes*n2<=281474976710656/\n2<=9223372036854775807)/\zs.length=i'.size/\zs.all Qv=true,.bs (m.boxes.length+(Xe P gl orc ops T0 m i).2.length) 0 n1.toNat i'.size,(Xe P gl orc ops T0 m i).2++[bG n2.toNat zs]):=by
    simp only[dop,e1,e2,q1,q2]
   have aY:=run_make (P:=P) w t te i' z hu dV hz k1 k2 n1 n2 g0 (by omega) g2 g3;obtain⟨yJ,gZ⟩:=aei (P:=P) (te:=te) (n:=n2.toNat) JM g5 g4;obtain⟨qs,rO⟩:=EW (bG n2.toNat zs) (by simp only[q1,q2]);have aO:=Au (p:=p) qs Aw
   have aqh:(execOp a.eval o).run P w=.ok (.value (.slice (some ⟨w.heap.size,0,none⟩) n1.toNat n2.toNat)) (w.alloc (.cells (madeCells z.cells (n2.toNat*i'.size)) te)):=by
    obtain⟨d',op',ty',aqg,af',gu'⟩:=o;simp only at WB;subst WB;simp[execOp,hl.aG,hc.aG,aY]
   refine Zo aqh (fin (hI.mm.dh _ aO _) ?_ ?_)
   ·rw[NF eE (by rw[hI.size];exact hi) qs rO];exact hI.mm.eX _ aO yJ gZ
   rw[hd];exact .bs (arr:=madeCells z.cells (n2.toNat*i'.size)) (e:=te) (by simp[G.box,kJ]) (by omega) (by show(w.heap.push _)[w.heap.size]?=_;simp) (by rw[zzbt,size_madeCells];exact zzab _)
  |_=>
   have hd:dop P gl orc (Xu P ops o) (Xe P gl orc ops T0 m i).1 m (Xe P gl orc ops T0 m i).2=((rop P gl orc (ev gl (Xe P gl orc ops T0 m i).1) m o.dst (tr P o)).1,(rop P gl orc (ev gl (Xe P gl orc ops T0 m i).1) m o.dst (tr P o)).2,(Xe P gl orc ops T0 m i).2):=by
    have e2:(Xu P ops o).op=tr P o:=rfl;rw[WA]at e2;simp only[dop,e1,e2,WA];rfl
   rw[hd]at bQ;have td:=oA (by rw[hd]);rw[hd,td]at fin;exact Qcl hI.mm hB hI.g gp bQ r _ Q fun v w' γ' h1 h2 h3=>fin h1 h2 h3
 |some q=>
  obtain⟨j,want⟩:=q;have e1:(Xu P ops o).guard=some ((ops[j]?).bind (·.dst),want):=by simp[Xu,hg]
  cases hj:(ops[j]?).bind (·.dst)with
  |none=>
   rw[hj]at e1;simp only[dop,e1]at bQ
  |some t=>
   rw[hj]at e1;have qE:t∈o.looksAt ops:=by simp[Oper.looksAt,hg,hj]
   have aT:=P8 t qE;cases tc:Ij want ((Xe P gl orc ops T0 m i).1.getD t .junk)with
   |none=>simp only[dop,e1,tc]at bQ
   |some gw=>
    have hd:dop P gl orc (Xu P ops o) (Xe P gl orc ops T0 m i).1 m (Xe P gl orc ops T0 m i).2=(gok gl (Xe P gl orc ops T0 m i).1 gw (gxs (tr P o) (Xu P ops o).xs)/\(gw=true->(rop P gl orc (evG gl (Xe P gl orc ops T0 m i).1 (tr P o)) m o.dst (tr P o)).1),
      .gd gw (rop P gl orc (evG gl (Xe P gl orc ops T0 m i).1 (tr P o)) m o.dst (tr P o)).2,(Xe P gl orc ops T0 m i).2):=by
     simp only[dop,e1,tc];rfl
    rw[hd]at bQ;have td:=oA (by rw[hd]);rw[hd,td]at fin
    have V9:Region.wanted o (yielded ops a.tmps)=gw:=by
     have hyv:∀b,a.tmps.getD t undef=.bool b->yielded ops a.tmps j=some b:=fun b hb=>by
      have cU:t<a.tmps.size:=by
       rcases zzaa t a.tmps.size with h|h
       ·exact h
       simp[zzcy h,undef]at hb
      simp[cU]at hb;simp only[yielded,hj,zzcz,zzaj cU,hb]
     have hyu:a.tmps.getD t undef=undef->yielded ops a.tmps j=none:=fun hb=>by
      rcases zzaa t a.tmps.size with cU|h
      ·simp[cU]at hb;simp only[yielded,hj,zzcz,zzaj cU,hb];rfl
      simp only[yielded,hj,zzcz,zzcy h]
     generalize(Xe P gl orc ops T0 m i).1.getD t .junk=gv at tc aT;cases gv with
     |bool g=>
      simp only[Ij,Option.some.injEq]at tc;subst tc;simp only[Region.wanted,hg,hyv g aT.bA];cases g<;>cases want<;>rfl
     |gd d x=>
      cases d with
      |false=>
       simp only[Region.wanted,hg,hyu aT.Nv];cases x<;>simp[Ij]at tc<;>subst tc<;>cases want<;>rfl
      |true=>
       cases x<;>simp[Ij]at tc;rename_i b;subst tc;simp only[Region.wanted,hg,hyv b (aT.BV rfl).bA];cases b<;>cases want<;>rfl
     |_=>simp[Ij]at tc
    rw[V9];obtain⟨h1,h2⟩:=bQ;cases SN:gw with
    |true=>
     rw[SN]at h1 h2 fin;simp only[if_true];refine Qcl (e:=evG gl (Xe P gl orc ops T0 m i).1 (tr P o)) hI.mm hB hI.g (fun x hx=>?_) (h2 rfl) r _ Q fun v w' γ' q1 q2 q3=>fin q1 q2 (.gd (fun _=>q3) (fun h=>by cases h));unfold evG;cases lD:rawOp (tr P o)with
     |true=>exact gp x hx
     |false=>
      refine Aq (gp x hx) fun g' b hgb=>Ch h1 (aA x) ?_ g' b hgb rfl;simp only[gxs,lD,cond_false];simp[Xu,hg];exact⟨x,by simpa using hx,rfl⟩
    |false=>
     rw[SN]at fin;simp only[zzbs,if_false];exact⟨fun _ _=>trivial,fin (Ev.refl _ _) hI.mm (.gd (fun h=>by cases h) (fun _=>rfl))⟩
def EX{Q:Exit->Act->World->Prop}{K:AS->Prop}(hQ:∀γ w s a,K s->fK N w0 r aq S P gl Y γ w s a->Q .normal a w)(hc:Ar ops p=true)
  (alk:∀i o,i<p->ops[i]?=some o->(dop P gl orc (Xu P ops o) (Xe P gl orc ops T0 m i).1 m (Xe P gl orc ops T0 m i).2).1)
  (gH:Zz P gl orc Y ((ops.toList.drop p).map (Xu P ops)) ⟨(Xe P gl orc ops T0 m p).1,{m with boxes:=m.boxes++(Xe P gl orc ops T0 m p).2}⟩ K):
  ∀(bw:Nat)(listed:Array Bool)(γ:G)(w:World)(a:Act),P7 N w0 r aq S Y P gl orc ops T0 m p listed γ w a->uc ops listed<=bw->wpAnyIn (FW r) 0 P .any ops Q bw listed a w:=by
 obtain⟨hp,dy⟩:=Vd hc
 have full:∀(bw:Nat)(listed:Array Bool)(γ:G)(w:World)(a:Act),P7 N w0 r aq S Y P gl orc ops T0 m p listed γ w a->uc ops listed<=bw->(∀i,i<p->listed.getD i false=true)->wpAnyIn (FW r) 0 P .any ops Q bw listed a w:=by
  intro bw listed γ w a hI tP bS;refine mY hQ hc bw p listed γ w _ a (zzab _) hp hI.size bS hI.tail tP gH ⟨?_,hI.ls,hI.rd,⟨?_,fun t x v hx hv=>?_⟩,hI.d,hI.g,hI.y,hI.e⟩
  ·have:=hI.mm;rw[aeg bS]at this;exact this
  ·simp[iX,hI.tl]
  have h1:=hI.tt t
  have hAt:At P gl orc ops T0 m p listed t=x:=by
   have ov:(Xe P gl orc ops T0 m p).1.getD t .junk=x:=by simp only at hx;simp[List.getD,hx]
   unfold At;split
   ·exact ov
   rename_i hw;rw[<- ov];refine(Qds p fun j hj hd=>hw ?_).symm;unfold wr;rw[zzbz];exact⟨j,zzbf.2 hj,by rw[bS j hj,hd];simp⟩
  rw[hAt]at h1;have:a.tmps.getD t undef=v:=by simp at hv;simp[hv]
  rwa [this]at h1
 intro bw;induction bw with
 |zero=>
  intro listed γ w a hI tP
  exact full 0 listed γ w a hI tP fun i hi=>by
   rw[Xm (by rw[hI.size];omega) false true];exact oB (zzg.1 tP) (by omega)
 |succ bw ih=>
  intro listed γ w a hI tP;by_cases bS:∀i,i<p->listed.getD i false=true
  ·exact full (bw+1) listed γ w a hI tP bS
  have hex:∃k,k<p/\listed.getD k true=false:=by
   refine Classical.byContradiction fun hn=>bS fun i hi=>?_;rw[Xm (by rw[hI.size];omega) false true];cases hl:listed.getD i true with
   |true=>rfl
   |false=>exact absurd ⟨i,hi,hl⟩ hn
  obtain⟨k,hk,hlk⟩:=hex;refine⟨fun hr=>?_,fun i hi=>?_⟩
  ·obtain⟨j,hj⟩:=Wn hc hI.size k k (zzab _) (by omega) hlk;rw[hr]at hj;cases hj
  obtain⟨ai,hu,o,ho,cN⟩:=Wo hc hi
  have eE:i<p:=by
   rcases zzaa i p with h|h
   ·exact h
   have:=iY hI.clo ho ((dy i o ho).2.2 h) cN i k (by omega) (by omega);rw[Xm (by rw[hI.size];omega) false true,hlk]at this;cases this
  refine wpOpIn_mono ?_ (JX hc hI ho eE hu cN (alk i o eE ho));rintro a' w' ⟨γ',yZ⟩;refine ih _ γ' w' a' yZ ?_;have:=vI hI.size ai hu;omega
def vK{Q:Exit->Act->World->Prop}{K:AS->Prop}{γ:G}{w:World}{s:AS}{a:Act}(hQ:∀γ w s a,K s->fK N w0 r aq S P gl Y γ w s a->Q .normal a w)(hc:Ar ops p=true)
  (h:vcD P gl orc Y ((ops.toList.drop p).map (Xu P ops)) K ((ops.toList.take p).map (Xu P ops)) s.T s.m [])(hs:fK N w0 r aq S P gl Y γ w s a):
  wpAnyIn (FW r) 0 P .any ops Q ops.size (Array.replicate ops.size false) a {w with drawn:=w.drawn+1}:=by
 have hp:=(Vd hc).1;obtain⟨h1,h2⟩:=NC (P:=P) (gl:=gl) (orc:=orc) (T0:=s.T) (m:=s.m) ((ops.toList.drop p).map (Xu P ops)) K hp p 0 (by simp) (by rw[zzde];exact h);refine EX (T0:=s.T) (m:=s.m) hQ hc (fun i o hi ho=>h1 i o (zzcc _) hi ho) h2 ops.size _ γ w.drew a ⟨by simp,fun i _ hi=>by simp[hi],fun i o h=>(by rcases zzaa i ops.size with h'|h'<;>simp[h']at h),?_,hs.ls.mono (Ev.drew w γ),hs.rd.bh (Ev.drew w γ).dB,?_,fun t=>?_,hs.d.bh (Ev.drew w γ).dB,fun g=>(hs.g g).mono (Ev.drew w γ).cT,hs.y.mono (Ev.drew w γ).dB,hs.e.trans (Ev.drew w γ).dB⟩ ?_
 ·have hB:As P gl orc ops s.T s.m p (Array.replicate ops.size false)=s.m.B:=by
   funext id;unfold As;simp only[AM.B];split
   ·rfl
   rename_i aO;rw[if_neg,zzax (by omega)];rw[zzbz];rintro⟨j,_,hj⟩
   have:(Array.replicate ops.size false).getD j false=false:=by
    rcases zzaa j ops.size with h|h<;>simp[h]
   rw[this]at hj;cases hj
  rw[hB];exact hs.m.drew
 ·have:=hs.t.1;simp at this;omega
 ·have hw:wr ops p (Array.replicate ops.size false) t=false:=by
   unfold wr;rw[zzek];intro j _
   have:(Array.replicate ops.size false).getD j false=false:=by
    rcases zzaa j ops.size with h|h<;>simp[h]
   rw[this];simp
  unfold At;rw[hw];simp only[zzbs,if_false];have:=(hs.t.mono (Ev.drew w γ)).get t;simpa[List.getD]using this
 unfold uc;exact zzbq (zzfl) (by simp)
end
open Go Go.RowKit
def qF(o:Oper):Bool:=o.guard.isNone
def aqi(f:FuncId):Bool:=f==276||f==198||f==122||f==179
def aiY(o:Oper):Bool:=match o.op with
 |.call ⟨.value (.tmp _),_,_⟩=>o.dst.isSome
 |.call ⟨.value (.func f),_,_⟩=>o.dst.isSome&&aqi f
 |.call ⟨.builtin .copy,_,_⟩=>true
 |.call ⟨.builtin .append,_,_⟩=>o.dst.isSome
 |.store _ _ _=>true
 |.mapUpdate _ _ _ _=>true
 |.mapEntry _ _ _=>true
 |.entryStore _ _ _ _=>true
 |_=>false
def lE(o:Oper):Bool:=aiY o||(match o.op with
 |.alloc _|.box _ _|.makeMap _ _|.range _ _=>true
 |_=>false)
def gz(ops:Array Oper)(p:Oper->Bool)(i:Nat):Bool:=match ops[i]? with
 |some o=>p o
 |none=>false
def P9(ops:Array Oper):List Nat->Bool
 |j::j'::r=>(match ops[j']? with|some o=>(Vq o).contains j|none=>false)&&P9 ops (j'::r)
 |_=>true
def mZ(ops:Array Oper)(p:Nat):Option (List Nat):=
 let js:=(List.range p).filter (gz ops lE)
 if(List.range p).any (gz ops aiY)&&P9 ops js&&(List.range p).all (gz ops qF)then some js else none
inductive Fg
 |eff
 |pre
 |oth
def Cm(ops:Array Oper):Nat->List Nat->List Nat
 |0,s=>s
 |k+1,s=>bif s.any fun i=>vF ops i k then Cm ops k (k::s)else Cm ops k s
def tQ{ops:Array Oper}{listed:Array Bool}(h:SP ops listed):∀(k:Nat)(s:List Nat),(∀i∈s,listed.getD i false=true)->∀i∈Cm ops k s,listed.getD i false=true
 |0,_,hs,i,hi=>hs i hi
 |k+1,s,hs,i,hi=>by
  simp only[Cm]at hi;cases hc:s.any fun i=>vF ops i k with
  |false=>rw[hc]at hi;exact tQ h k s hs i hi
  |true=>
   rw[hc]at hi;refine tQ h k (k::s) (fun j hj=>?_) i hi;rcases zzau.1 hj with rfl|hj
   ·obtain⟨x,hx,hw⟩:=zzbz.1 hc;unfold vF at hw;split at hw
    ·rename_i o ho;exact h x o (hs x hx) ho j (by simpa using hw)
    cases hw
   exact hs j hj
def lZ(ops:Array Oper)(js:List Nat)(i:Nat):Bool:=match js with
 |j::_=>(Cm ops j [j]).contains i
 |[]=>false
def Jm(ops:Array Oper)(js:List Nat)(i:Nat):Fg:=bif js.contains i then .eff else bif lZ ops js i then .pre else .oth
def flags(ops:Array Oper)(p:Nat)(js:List Nat):List Fg:=(List.range p).map (Jm ops js)
section
variable (P:Program) (gl:Nat->AV) (orc:Nat->FuncId->List AV->AV) (Y:YT)
def memEff:aF->Bool
 |.store _ _ _|.cpy _ _ _|.mupd _ _ _ _|.ment _ _ _ _|.esto _ _ _|.alloc _|.box _|.mkmap _|.rng _|.app _ _ _ _=>true
 |_=>false
def effV(v:AV):aF->AV
 |.alloc _|.box _|.mkmap _|.rng _|.ment _ _ _ _|.app _ _ _ _=>v
 |_=>.junk
def effC(e:bN->AV)(m:AM)(dst:Option Nat)(av:AV)(m1:AM):aF->Prop
 |.call f args=>(match e f with
  |.fn g first cap=>an P gl Y g (first++args.map e++cap) m (fun x m2=>x=av/\m2=m1)
  |_=>False)
 |so=>memEff so=true/\(sop P gl orc e m dst so).1/\av=effV (sop P gl orc e m dst so).2.1 so/\m1=(sop P gl orc e m dst so).2.2
def nc(l2:List SO)(K:AS->Prop)(m:AM)(ms:List (AV×AM)):List SO->List Fg->List (AV×AM)->AM->List AV->Prop
 |[],_,q,mc,T=>q=[]/\Zz P gl orc Y l2 ⟨T,mc⟩ K
 |_::_,[],_,_,_=>False
 |o::r,.eff::fl,q,mc,T=>(match q with
  |[]=>False
  |x::q=>effC P gl orc Y (ev gl T) mc o.dst x.1 x.2 o.op/\nc l2 K m ms r fl q x.2 (put T o.dst x.1))
 |o::r,.pre::fl,q,mc,T=>(rop P gl orc (ev gl T) m o.dst o.op).1/\nc l2 K m ms r fl q mc (put T o.dst (rop P gl orc (ev gl T) m o.dst o.op).2)
 |o::r,.oth::fl,q,mc,T=>(rop P gl orc (ev gl T) m o.dst o.op).1/\(∀x∈ms,rop P gl orc (ev gl T) x.2 o.dst o.op=rop P gl orc (ev gl T) m o.dst o.op)/\nc l2 K m ms r fl q mc (put T o.dst (rop P gl orc (ev gl T) m o.dst o.op).2)
end
def JY:List (Nat×AV)->Nat->Option AV
 |[],_=>none
 |(k,a)::r,d=>if k=d then some a else JY r d
def Xn:List Nat->List (AV×AM)->List (Nat×AV)
 |j::js,x::q=>(j,x.1)::Xn js q
 |_,_=>[]
def Jv(listed:Array Bool):AM->List Nat->List (AV×AM)->AM
 |m,j::js,x::q=>if listed.getD j false then Jv listed x.2 js q else m
 |m,_,_=>m
def Kg(m:AM)(ms:List (AV×AM)):Nat->AM
 |0=>m
 |a+1=>(ms.getD a (.junk,m)).2
def chn(listed:Array Bool):List Nat->Prop
 |j::j'::r=>(listed.getD j' false=true->listed.getD j false=true)/\chn listed (j'::r)
 |_=>True
section
variable {N:Nat} {w0:gY} {r:Option Nat} {aq:Nat->Nat->Prop} {S:G×World} {Y:YT} {P:Program} {gl:Nat->AV} {orc:Nat->FuncId->List AV->AV} {ops:Array Oper} {T0:List AV} {m:AM} {p:Nat}
def EY(listed:Array Bool):∀(js:List Nat)(ms:List (AV×AM))(m:AM),Jv listed m js ms=m\/∃x∈ms,Jv listed m js ms=x.2
 |[],ms,m=>.inl (by cases ms<;>rfl)
 |j::js,[],m=>.inl rfl
 |j::js,x::q,m=>by
  simp only[Jv];split
  ·rcases EY listed js q x.2 with h|⟨y,hy,h⟩
   ·exact .inr ⟨x,by simp,h⟩
   exact .inr ⟨y,by simp[hy],h⟩
  exact .inl rfl
def Qas{listed:Array Bool}:∀{js:List Nat}{ms:List (AV×AM)}{m:AM}{a:Nat},js.length=ms.length->a<=js.length->(∀b j,b<a->js[b]?=some j->listed.getD j false=true)->(∀j,js[a]?=some j->listed.getD j false=false)->
  Jv listed m js ms=Kg m ms a
 |[],[],m,a,_,ha,_,_=>by
  have:a=0:=by simpa using ha
  subst this;rfl
 |[],_::_,_,_,h,_,_,_=>by simp at h
 |_::_,[],_,_,h,_,_,_=>by simp at h
 |j::js,x::q,m,0,_,_,_,h=>by
  simp only[Jv,Kg];rw[h j rfl];rfl
 |j::js,x::q,m,a+1,hl,ha,h1,h2=>by
  simp only[Jv];rw[h1 0 j (by omega) rfl,if_pos rfl];rw[Qas (a:=a) (by simpa using hl) (by simpa using ha) (fun b j hb hj=>h1 (b+1) j (by omega) (by simpa using hj)) (fun j hj=>h2 j (by simpa using hj))];cases a with
  |zero=>rfl
  |succ a=>
   simp only[Kg,List.getD_cons_succ];have:a<q.length:=by simp at ha hl;omega
   simp[List.getD,this]
def Ay{listed NK:Array Bool}:∀{js:List Nat}{ms:List (AV×AM)}{m:AM},(∀j∈js,NK.getD j false=listed.getD j false)->Jv NK m js ms=Jv listed m js ms
 |[],_,_,_=>rfl
 |_::_,[],_,_=>rfl
 |j::js,x::q,m,h=>by
  simp only[Jv];rw[h j (by simp),Ay fun j hj=>h j (by simp[hj])]
def iZ{listed:Array Bool}:∀{js:List Nat},chn listed js->∀{a b j j':Nat},a<b->js[a]?=some j->js[b]?=some j'->listed.getD j' false=true->listed.getD j false=true
 |[],_,a,b,j,j',_,h,_,_=>by simp at h
 |[x],_,a,b,j,j',WC,h,h',_=>by
  have:=(zza.1 h').1;simp at this;omega
 |x::y::r,hc,0,1,j,j',_,h,h',hl=>by
  simp at h h';subst h;subst h';exact hc.1 hl
 |x::y::r,hc,0,b+2,j,j',_,h,h',hl=>by
  simp at h;subst h;exact hc.1 (iZ hc.2 (a:=0) (b:=b+1) (by omega) rfl (by simpa using h') hl)
 |x::y::r,hc,a+1,b+1,j,j',WC,h,h',hl=>iZ hc.2 (a:=a) (b:=b) (by omega) (by simpa using h) (by simpa using h') hl
def Cn{listed:Array Bool}{i:Nat}:∀{js:List Nat},chn listed js->(∀a j,js[a]?=some j->js[a+1]?=some i->listed.getD j false=true)->chn (listed.setIfInBounds i true) js
 |[],_,_=>trivial
 |[_],_,_=>trivial
 |j::j'::r,hc,h=>by
  refine⟨fun hl=>?_,Cn hc.2 fun a x hx ov=>h (a+1) x (by simpa using hx) (by simpa using ov)⟩
  have mono:∀k,listed.getD k false=true->(listed.setIfInBounds i true).getD k false=true:=fun k hk=>by
   by_cases qD:i=k
   ·subst qD
    have:i<listed.size:=by
     rcases zzaa i listed.size with h|h
     ·exact h
     simp[zzds.2 h]at hk
    exact Zw this
   rw[Qx (Ne.symm qD)];exact hk
  by_cases eM:i=j'
  ·subst eM;exact mono j (h 0 j rfl rfl)
  rw[Qx (Ne.symm eM)]at hl;exact mono j (hc.1 hl)
def Qco{l:List Nat}(h:l.Nodup){a b i:Nat}(h1:l[a]?=some i)(h2:l[b]?=some i):a=b:=by
 obtain⟨ha,ea⟩:=zza.1 h1;obtain⟨hb,eb⟩:=zza.1 h2;rcases zzfj a b with h'|h'|h'
 ·exact absurd (ea.trans eb.symm) (zzd.1 h a b ha hb h')
 ·exact h'
 exact absurd (eb.trans ea.symm) (zzd.1 h b a hb ha h')
def Co(P:Program)(gl:Nat->AV)(orc:Nat->FuncId->List AV->AV)(ops:Array Oper)(m:AM)(L:List (Nat×AV))(i:Nat)(T:List AV):AV:=match JY L i with
 |some av=>av
 |none=>match ops[i]? with
  |some o=>(rop P gl orc (ev gl T) m o.dst (tr P o)).2
  |none=>.junk
def cz(P:Program)(gl:Nat->AV)(orc:Nat->FuncId->List AV->AV)(ops:Array Oper)(T0:List AV)(m:AM)(L:List (Nat×AV)):Nat->List AV
 |0=>T0
 |k+1=>match ops[k]? with
  |some o=>put (cz P gl orc ops T0 m L k) o.dst (Co P gl orc ops m L k (cz P gl orc ops T0 m L k))
  |none=>cz P gl orc ops T0 m L k
def Qct{L:List (Nat×AV)}{k:Nat}{o:Oper}(h:ops[k]?=some o):cz P gl orc ops T0 m L (k+1)=put (cz P gl orc ops T0 m L k) o.dst (Co P gl orc ops m L k (cz P gl orc ops T0 m L k)):=by
 simp only[cz,h]
def kK{L:List (Nat×AV)}:∀k,(cz P gl orc ops T0 m L k).length=T0.length
 |0=>rfl
 |k+1=>by
  cases h:ops[k]? with
  |none=>simp only[cz,h];exact kK k
  |some o=>rw[Qct h,vH];exact kK k
def Qcu{L:List (Nat×AV)}{t:Nat}:∀k,(∀j,j<k->Yn ops j≠some t)->(cz P gl orc ops T0 m L (k)).getD t .junk=T0.getD t .junk
 |0,_=>rfl
 |k+1,h=>by
  cases ho:ops[k]? with
  |none=>simp only[cz,ho];exact Qcu k fun j hj=>h j (by omega)
  |some o=>
   rw[Qct ho,Qbt (by have:=h k (by omega);simpa[Yn,ho]using this)];exact Qcu k fun j hj=>h j (by omega)
def ja{L:List (Nat×AV)}{t k:Nat}:∀n,(∀j,k<=j->j<k+n->Yn ops j≠some t)->(cz P gl orc ops T0 m L (k+n)).getD t .junk=(cz P gl orc ops T0 m L (k)).getD t .junk
 |0,_=>rfl
 |n+1,h=>by
  rw[<- zzao];cases ho:ops[k+n]? with
  |none=>simp only[cz,ho];exact ja n fun j h1 h2=>h j h1 (by omega)
  |some o=>
   rw[Qct ho,Qbt (by have:=h (k+n) (by omega) (by omega);simpa[Yn,ho]using this)];exact ja n fun j h1 h2=>h j h1 (by omega)
def y4(P:Program)(gl:Nat->AV)(orc:Nat->FuncId->List AV->AV)(ops:Array Oper)(T0:List AV)(m:AM)(L:List (Nat×AV))(p:Nat)(listed:Array Bool)(t:Nat):AV:=
 if wr ops p listed t then(cz P gl orc ops T0 m L (p)).getD t .junk else T0.getD t .junk
def aiZ{L:List (Nat×AV)}(hc:Ar ops p=true){listed:Array Bool}(hsz:listed.size=ops.size){i:Nat}{o:Oper}(ho:ops[i]?=some o)(eE:i<p)(hu:listed.getD i true=false)(cN:∀j∈Vq o,listed.getD j false=true)
  {t:Nat}(ht:t∈o.looksAt ops):(cz P gl orc ops T0 m L (i)).getD t .junk=y4 P gl orc ops T0 m L p listed t:=by
 have hi:i<ops.size:=(zzbu.1 ho).1;obtain⟨hp,dy⟩:=Vd hc;unfold y4;by_cases hex:∃j,j<p/\Yn ops j=some t/\j≠i
 ·obtain⟨j,hj,hd,aJ⟩:=hex;obtain⟨z6,hja⟩:=((dy i o ho).2.1 eE).1 t ht j hj hd aJ
  have hw:wr ops p listed t=true:=by
   unfold wr;rw[zzbz];exact⟨j,zzbf.2 hj,by rw[cN j hja,hd];simp⟩
  rw[if_pos hw]
  have:=ja (P:=P) (gl:=gl) (orc:=orc) (ops:=ops) (T0:=T0) (m:=m) (L:=L) (t:=t) (k:=i) (p-i) fun k cV di NI=>by
   have hk:k<ops.size:=by omega
   have NJ:ops[k]?=some ops[k]:=zzaj hk;have:=((dy k _ NJ).2.1 (by omega)).2 j (by omega) t hd;simp[Yn,NJ]at NI;exact this NI
  rw[show i+(p-i)=p by omega]at this;exact this.symm
 have hw:wr ops p listed t=false:=by
  unfold wr;rw[zzek];intro j hj;simp only[zzak,beq_iff_eq,not_and];intro hl hd;by_cases z6:j=i
  ·subst z6;rw[Xm (by omega) false true,hu]at hl;cases hl
  exact hex ⟨j,zzbf.1 hj,hd,z6⟩
 rw[hw];simp only[zzbs,if_false];exact Qcu i fun j hj hd=>hex ⟨j,by omega,hd,by omega⟩
def NL{L:List (Nat×AV)}(hc:Ar ops p=true){listed:Array Bool}(hsz:listed.size=ops.size){i:Nat}{o:Oper}(ho:ops[i]?=some o)(eE:i<p){t:Nat}:
  y4 P gl orc ops T0 m L p (listed.setIfInBounds i true) t=if o.dst=some t/\t<T0.length then Co P gl orc ops m L i (cz P gl orc ops T0 m L i)else y4 P gl orc ops T0 m L p listed t:=by
 have hi:i<ops.size:=(zzbu.1 ho).1;obtain⟨hp,dy⟩:=Vd hc;by_cases hd:o.dst=some t
 ·have hw:wr ops p (listed.setIfInBounds i true) t=true:=by
   unfold wr;rw[zzbz];exact⟨i,zzbf.2 eE,by rw[Zw (by omega)];simp[Yn,ho,hd]⟩
  have hl:=ja (P:=P) (gl:=gl) (orc:=orc) (ops:=ops) (T0:=T0) (m:=m) (L:=L) (t:=t) (k:=i+1) (p-(i+1)) fun k cV di NI=>by
   have hk:k<ops.size:=by omega
   have NJ:ops[k]?=some ops[k]:=zzaj hk;have:=((dy k _ NJ).2.1 (by omega)).2 i (by omega) t (by simp[Yn,ho,hd]);simp[Yn,NJ]at NI;exact this NI
  rw[show i+1+(p-(i+1))=p by omega]at hl;by_cases ht:t<T0.length
  ·rw[if_pos ⟨hd,ht⟩];unfold y4;rw[if_pos hw,hl,Qct ho,hd];exact lY (by rw[kK];exact ht)
  rw[if_neg (by simp[ht])]
  have h1:∀k,(cz P gl orc ops T0 m L (k)).getD t .junk=.junk:=fun k=>by
   have:=kK (P:=P) (gl:=gl) (orc:=orc) (ops:=ops) (T0:=T0) (m:=m) (L:=L) k;simp only[List.getD];rw[zzax (by omega)];rfl
  have h2:T0.getD t .junk=.junk:=h1 0;unfold y4;rw[h1 p,h2];simp
 rw[if_neg (by simp[hd])]
 have hw:wr ops p (listed.setIfInBounds i true) t=wr ops p listed t:=by
  unfold wr;congr 1;funext j;by_cases hj:j=i
  ·subst hj;have hb:(o.dst==some t)=false:=by simpa using hd
   simp[Yn,ho,hb]
  rw[Qx hj]
 unfold y4;rw[hw]
structure y5 (N:Nat) (w0:gY) (r:Option Nat) (aq:Nat->Nat->Prop) (S:G×World) (Y:YT) (P:Program) (gl:Nat->AV) (orc:Nat->FuncId->List AV->AV) (ops:Array Oper) (T0:List AV) (m:AM) (ms:List (AV×AM)) (js:List Nat) (L:List (Nat×AV)) (p:Nat) (listed:Array Bool) (γ:G) (w:World) (a:Act):Prop where
 size:listed.size=ops.size
 tail:∀i,p<=i->i<ops.size->listed.getD i true=false
 ch:chn listed js
 clo:∀i o,listed.getD i false=true->ops[i]?=some o->∀j∈Vq o,listed.getD j false=true
 mm:au N w0 aq γ w (Jv listed m js ms).B (Jv listed m js ms).L
 ls:cQ γ w (Jv listed m js ms)
 rd:Rdr r γ w
 tl:a.tmps.size=T0.length
 tt:∀t,aB w γ (y4 P gl orc ops T0 m L p listed t) (a.tmps.getD t undef)
 d:Dfr S.2.heap.size γ w a.defers
 g:∀g,aB w γ.cT (gl g) (.pointer (some ⟨g,0,none⟩))
 y:YOK N w0 aq P Y γ w
 e:eD S.2 S.1 w γ
def EZ:∀(js:List Nat)(ms:List (AV×AM))(d:Nat),d ∉ js->JY (Xn js ms) d=none
 |[],_,_,_=>rfl
 |_::_,[],_,_=>rfl
 |j::js,x::q,d,h=>by
  simp only[Xn,JY];rw[if_neg (by rintro rfl;exact h (by simp))];exact EZ js q d fun h'=>h (by simp[h'])
def E3:∀(js:List Nat)(ms:List (AV×AM))(a i:Nat)(x:AV×AM),js.Nodup->js[a]?=some i->ms[a]?=some x->JY (Xn js ms) i=some x.1
 |[],_,_,_,_,_,h,_=>by simp at h
 |_::_,[],_,_,_,_,_,h=>by simp at h
 |j::js,y::q,0,i,x,_,h,hx=>by
  simp at h hx;subst h;subst hx;simp only[Xn,JY,if_true]
 |j::js,y::q,a+1,i,x,hn,h,hx=>by
  have rR:=List.nodup_cons.1 hn;have h':js[a]?=some i:=by simpa using h
  simp only[Xn,JY];rw[if_neg (by rintro rfl;exact rR.1 (zzac h'))];exact E3 js q a i x rR.2 h' (by simpa using hx)
def oC{js:List Nat}{ms:List (AV×AM)}{a i:Nat}{x:AV×AM}(hn:js.Nodup)(h:js[a]?=some i)(hx:ms[a]?=some x)(T:List AV):Co P gl orc ops m (Xn js ms) i T=x.1:=by
 unfold Co;rw[E3 js ms a i x hn h hx]
def vL{js:List Nat}{ms:List (AV×AM)}{i:Nat}{o:Oper}(h:i ∉ js)(ho:ops[i]?=some o)(T:List AV):Co P gl orc ops m (Xn js ms) i T=(rop P gl orc (ev gl T) m o.dst (tr P o)).2:=by
 unfold Co;rw[EZ js ms i h,ho]
def rX{ms:List (AV×AM)}{js:List Nat}(hc:Ar ops p=true){Q:Exit->Act->World->Prop}{listed:Array Bool}{γ:G}{w:World}{a:Act}
  (hI:y5 N w0 r aq S Y P gl orc ops T0 m ms js (Xn js ms) p listed γ w a){i:Nat}{o:Oper}(ho:ops[i]?=some o)(eE:i<p)(gI:qF o=true)(aH:js.length=ms.length)(Aj:js.Nodup)
  (hu:listed.getD i true=false)(cN:∀j∈Vq o,listed.getD j false=true)(Cp:∀a j,js[a]?=some j->js[a+1]?=some i->j∈Vq o)
  (aJ:i ∉ js->(rop P gl orc (ev gl (cz P gl orc ops T0 m (Xn js ms) i)) m o.dst (tr P o)).1/\(lZ ops js i=false->∀x∈ms,rop P gl orc (ev gl (cz P gl orc ops T0 m (Xn js ms) i)) x.2 o.dst (tr P o)=rop P gl orc (ev gl (cz P gl orc ops T0 m (Xn js ms) i)) m o.dst (tr P o)))
  (Nz:∀k x,js[k]?=some i->ms[k]?=some x->effC P gl orc Y (ev gl (cz P gl orc ops T0 m (Xn js ms) i)) (Kg m ms k) o.dst x.1 x.2 (tr P o)):
  wpOpIn (FW r) 0 P ops Q i (fun a' w'=>∃γ',y5 N w0 r aq S Y P gl orc ops T0 m ms js (Xn js ms) p (listed.setIfInBounds i true) γ' w' a') a w:=by
 have hi:i<ops.size:=(zzbu.1 ho).1;have fR:i<listed.size:=by rw[hI.size];exact hi
 have P8:∀t∈o.looksAt ops,aB w γ ((cz P gl orc ops T0 m (Xn js ms) i).getD t .junk) (a.tmps.getD t undef):=fun t ht=>by
  rw[aiZ (P:=P) (gl:=gl) (orc:=orc) (T0:=T0) (m:=m) (L:=Xn js ms) hc hI.size ho eE hu cN ht];exact hI.tt t
 have gp:∀x∈o.op.operands,aB w γ (ev gl (cz P gl orc ops T0 m (Xn js ms) i) (aA x)) (a.eval x):=fun x hx=>by
  cases x with
  |tmp t=>exact P8 t (by simp only[Oper.looksAt,zzal,zzfc];exact .inl ⟨.tmp t,by simpa using hx,rfl⟩)
  |const v=>exact Js w γ v
  |func f=>exact .fn rfl (fun i c v h=>by simp at h) rfl fun i c v h=>by simp at h
  |global g=>exact(hI.g g).gh
 have lF:chn (listed.setIfInBounds i true) js:=Cn hI.ch fun a j h1 h2=>cN j (Cp a j h1 h2);have hpr:SP ops (listed.setIfInBounds i true):=SP.set hI.clo ho fR cN
 have fin:∀{v:Value}{w':World}{γ':G},eD w γ w' γ'->au N w0 aq γ' w' (Jv (listed.setIfInBounds i true) m js ms).B (Jv (listed.setIfInBounds i true) m js ms).L->cQ γ' w' (Jv (listed.setIfInBounds i true) m js ms)->
   aB w' γ' (Co P gl orc ops m (Xn js ms) i (cz P gl orc ops T0 m (Xn js ms) i)) v->∃γ',y5 N w0 r aq S Y P gl orc ops T0 m ms js (Xn js ms) p (listed.setIfInBounds i true) γ' w' (a.put o.dst v):=fun{v w' γ'}he hm hl hr=>by
  refine⟨γ',by simp[hI.size],fun j ek pY=>by rw[Qx (by omega)];exact hI.tail j ek pY,lF,hpr,hm,hl,hI.rd.bh he,?_,fun t=>?_,?_,fun g=>(hI.g g).bh he.cT,hI.y.mono he,hI.e.trans he⟩
  ·cases hd:o.dst<;>simp[Act.put,hI.tl]
  ·rw[NL hc hI.size ho eE];by_cases hd:o.dst=some t
   ·by_cases ht:t<T0.length
    ·rw[if_pos ⟨hd,ht⟩,hd];have:(a.put (some t) v).tmps.getD t undef=v:=by simp[Act.put,hI.tl,ht]
     rw[this];exact hr
    rw[if_neg (by simp[ht]),hd];have:(a.put (some t) v).tmps.getD t undef=a.tmps.getD t undef:=by simp[Act.put,hI.tl,ht]
    rw[this];exact(hI.tt t).bh he
   rw[if_neg (by simp[hd])]
   have:(a.put o.dst v).tmps.getD t undef=a.tmps.getD t undef:=by
    cases ED:o.dst with
    |none=>rfl
    |some d=>simp only[Act.put];simp;rw[zzdd (by rintro rfl;exact hd ED)]
   rw[this];exact(hI.tt t).bh he
  cases hd:o.dst<;>exact hI.d.bh he
 have hg:o.guard=none:=by simp only[qF]at gI;simpa using gI
 simp only[wpOpIn,ho];have hw:Region.wanted o (yielded ops a.tmps)=true:=by simp[Region.wanted,hg]
 rw[if_pos hw];by_cases eM:i∈js
 ·obtain⟨k,hk⟩:=zzby.1 eM;have DQ:k<ms.length:=by rw[<- aH];exact(zza.1 hk).1
  obtain⟨x,hx⟩:∃x,ms[k]?=some x:=⟨ms[k],zzad DQ⟩;have h1:=Nz k x hk hx;have h2:=oC (P:=P) (gl:=gl) (orc:=orc) (ops:=ops) (m:=m) Aj hk hx (cz P gl orc ops T0 m (Xn js ms) i);have NG:listed.getD i false=false:=by rw[Xm fR false true];exact hu
  have WD:∀b j,b<k->js[b]?=some j->listed.getD j false=true:=fun b j hb hj=>by
   have jb:k-1<js.length:=by have:=(zza.1 hk).1;omega
   obtain⟨j1,ek⟩:∃j1,js[k-1]?=some j1:=⟨js[k-1],zzad jb⟩;have dZ:=cN j1 (Cp (k-1) j1 ek (by rw[show k-1+1=k by omega];exact hk));rcases zzaa b (k-1)with h|h
   ·exact iZ hI.ch h hj ek dZ
   obtain rfl:b=k-1:=by omega
   rw[hj]at ek;cases ek;exact dZ
  have SQ:Jv listed m js ms=Kg m ms k:=Qas aH (by have:=(zza.1 hk).1;omega) WD (fun j hj=>by rw[hk]at hj;cases hj;exact NG)
  have p7:Jv (listed.setIfInBounds i true) m js ms=x.2:=by
   have:=Qas (listed:=listed.setIfInBounds i true) (m:=m) (a:=k+1) aH (by have:=(zza.1 hk).1;omega) (fun b j hb hj=>?_) (fun j hj=>?_)
   ·rw[this];simp[Kg,List.getD,hx]
   ·rcases zzaa b k with h|h
    ·have ei:j≠i:=by
      rintro rfl;have:=Qco Aj hj hk;omega
     rw[Qx ei];exact WD b j h hj
    obtain rfl:b=k:=by omega
    rw[hk]at hj;cases hj;exact Zw fR
   have ei:j≠i:=by
    rintro rfl;have:=Qco Aj hj hk;omega
   rw[Qx ei];cases hl:listed.getD j false with
   |false=>rfl
   |true=>rw[iZ hI.ch (Nat.lt_succ_self k) hk hj hl]at NG;cases NG
  rw[p7,h2]at fin;have me:=hI.mm;have mU:=hI.ls;rw[SQ]at me mU
  have E4:fK N w0 r aq S P gl Y γ w ⟨(List.range T0.length).map fun t=>y4 P gl orc ops T0 m (Xn js ms) p listed t,Kg m ms k⟩ a:=by
   refine⟨me,mU,hI.rd,⟨by simp[hI.tl],fun t x v hx hv=>?_⟩,hI.d,hI.g,hI.y,hI.e⟩
   ·have ai:t<T0.length:=by
     rcases zzaa t T0.length with h|h
     ·exact h
     simp[zzds.2 h]at hx
    simp[ai]at hx;have:=hI.tt t;rw[hx]at this;have EI:a.tmps.getD t undef=v:=by simp at hv;simp[hv]
    rwa [EI]at this
  have mem:∀so,tr P o=so->memEff so=true->((sop P gl orc (ev gl (cz P gl orc ops T0 m (Xn js ms) i)) (Kg m ms k) o.dst so).1/\x.1=effV (sop P gl orc (ev gl (cz P gl orc ops T0 m (Xn js ms) i)) (Kg m ms k) o.dst so).2.1 so/\x.2=(sop P gl orc (ev gl (cz P gl orc ops T0 m (Xn js ms) i)) (Kg m ms k) o.dst so).2.2)->
    o.wpIn (FW r) 0 P a w (fun a' w'=>∃γ',y5 N w0 r aq S Y P gl orc ops T0 m ms js (Xn js ms) p (listed.setIfInBounds i true) γ' w' a') Q:=fun so WA _⟨k1,k2,k3⟩=>by
   refine Ap (orc:=orc) (K:=fun av' m'=>x.1=effV av' so/\m'=x.2) me hI.g gp ⟨by rw[WA];exact k1,by rw[WA];exact⟨k2,k3.symm⟩⟩ r _ Q fun v w' γ' av' m' hK h3 h4 h5 h6=>?_;obtain⟨hK1,rfl⟩:=hK;refine fin h4.dB h5 (mU.mono' h4 h3) ?_;rw[hK1];unfold effV;split<;>first|exact h6|exact .junk _
  cases htr:tr P o with
  |call f args=>
   rw[htr]at h1
   have qv:vcEff P gl Y (ev gl (cz P gl orc ops T0 m (Xn js ms) i)) (Kg m ms k) (fun y m2=>y=x.1/\m2=x.2) (tr P o):=by
    rw[htr];simp only[effC]at h1;simp only[vcEff];split at h1
    ·rename_i g first cap cr;simp only[cr];exact h1
    exact h1.elim
   refine kz E4 gp qv fun v w' γ' av' m' hK h3 h4 h5 h6=>?_;obtain⟨rfl,rfl⟩:=hK;exact fin h3 h4 h5 h6
  |_=>rw[htr]at h1;first|exact mem _ htr h1.1 h1.2|exact absurd h1.1 (by simp[memEff])
 obtain⟨h1,h2⟩:=aJ eM;have bZ:Jv (listed.setIfInBounds i true) m js ms=Jv listed m js ms:=Ay fun j hj=>Qx (by rintro rfl;exact eM hj);rw[bZ]at fin;have me:=hI.mm;have mU:=hI.ls
 have aqj:rop P gl orc (ev gl (cz P gl orc ops T0 m (Xn js ms) i)) (Jv listed m js ms) o.dst (tr P o)=rop P gl orc (ev gl (cz P gl orc ops T0 m (Xn js ms) i)) m o.dst (tr P o):=by
  cases iP:lZ ops js i with
  |false=>
   rcases EY listed js ms m with h|⟨x,hx,h⟩
   ·rw[h]
   rw[h];exact h2 iP x hx
  |true=>
   have SQ:Jv listed m js ms=m:=by
    cases js with
    |nil=>cases ms<;>rfl
    |cons j0 js=>
     simp only[lZ]at iP
     have hn:listed.getD j0 false=false:=by
      cases hl:listed.getD j0 false with
      |false=>rfl
      |true=>
       have:=tQ (ops:=ops) (listed:=listed) hI.clo j0 [j0] (fun k hk=>by rw[zzbk.1 hk];exact hl) i (by simpa using iP);rw[Xm fR false true,hu]at this;cases this
     cases ms with
     |nil=>rfl
     |cons x q=>simp only[Jv,hn];rfl
   rw[SQ]
 generalize Jv listed m js ms=mL at*
 refine Qcl (m:=mL) me (fun _ _ h=>h) hI.g gp (by rw[aqj];exact h1) r _ Q fun v w' γ' q1 q2 q3=>?_;rw[aqj]at q3;exact fin q1.dB q2 (mU.mono q1) (by rw[vL eM ho];exact q3)
def tT:∀{js:List Nat},P9 ops js=true->∀a j j' o,js[a]?=some j->js[a+1]?=some j'->ops[j']?=some o->j∈Vq o
 |[],_,a,j,j',o,h,_,_=>by simp at h
 |[x],_,a,j,j',o,h,h',_=>by
  have:=(zza.1 h').1;simp at this
 |x::y::r,hc,0,j,j',o,h,h',ho=>by
  simp at h h';subst h;subst h';simp only[P9,zzak,ho]at hc;simpa using hc.1
 |x::y::r,hc,a+1,j,j',o,h,h',ho=>by
  simp only[P9,zzak]at hc;exact tT hc.2 a j j' o (by simpa using h) (by simpa using h') ho
def Qbw{js:List Nat}(h:mZ ops p=some js):js=(List.range p).filter (gz ops lE)/\P9 ops js=true/\∀i,i<p->∃o,ops[i]?=some o/\qF o=true:=by
 unfold mZ at h;simp only at h;split at h
 case isFalse=>cases h
 rename_i bS;cases h;simp only[zzak]at bS;refine⟨rfl,bS.1.2,fun i hi=>?_⟩;have h1:=zzbg.1 bS.2 i (zzbf.2 hi);unfold gz at h1;split at h1
 ·rename_i o ho;exact⟨o,ho,h1⟩
 cases h1
def gJ(ops:Array Oper)(k:Nat):Nat:=((List.range k).filter (gz ops lE)).length
def E5(k:Nat):gJ ops (k+1)=gJ ops k+(if gz ops lE k=true then 1 else 0):=by
 simp only[gJ,zzex,zzcp,zzag];cases h:gz ops lE k<;>simp[h]
def WE{i:Nat}(hi:i<p)(hd:gz ops lE i=true):((List.range p).filter (gz ops lE))[gJ ops i]?=some i:=by
 obtain⟨n,rfl⟩:∃n,p=i+(n+1):=⟨p-i-1,by omega⟩;rw[List.range_add,zzcp];have hl:gJ ops i=((List.range i).filter (gz ops lE)).length:=rfl;rw[hl,zzap (zzab _),zzgz,zzaw,zzcm,zzdn hd];simp
def aej{ms:List (AV×AM)}{js:List Nat}(l2:List SO)(K:AS->Prop)(hp:p<=ops.size)(hj:mZ ops p=some js):∀(n k:Nat)(mc:AM),k+n=p->gJ ops k<=ms.length->mc=Kg m ms (gJ ops k)->
  nc P gl orc Y l2 K m ms (((ops.toList.take p).drop k).map (Xu P ops)) ((flags ops p js).drop k) (ms.drop (gJ ops k)) mc (cz P gl orc ops T0 m (Xn js ms) k)->
  js.length=ms.length/\
  (
   ∀i o,k<=i->i<p->ops[i]?=some o->
   (i ∉ js->(rop P gl orc (ev gl (cz P gl orc ops T0 m (Xn js ms) i)) m o.dst (tr P o)).1/\(lZ ops js i=false->∀x∈ms,rop P gl orc (ev gl (cz P gl orc ops T0 m (Xn js ms) i)) x.2 o.dst (tr P o)=rop P gl orc (ev gl (cz P gl orc ops T0 m (Xn js ms) i)) m o.dst (tr P o)))/\
   (∀b x,js[b]?=some i->ms[b]?=some x->effC P gl orc Y (ev gl (cz P gl orc ops T0 m (Xn js ms) i)) (Kg m ms b) o.dst x.1 x.2 (tr P o)))/\
  Zz P gl orc Y l2 ⟨(cz P gl orc ops T0 m (Xn js ms) p),Kg m ms ms.length⟩ K:=by
 obtain⟨yK,_,gA⟩:=Qbw hj;have dH:∀j,j∈js<->j<p/\gz ops lE j=true:=fun j=>by rw[yK,zzcx,zzbf]
 have Aj:js.Nodup:=by rw[yK];exact(zzdp).filter _
 have SL:∀i,i<p->gz ops lE i=true->js[gJ ops i]?=some i:=fun i h1 h2=>by rw[yK];exact WE h1 h2
 have WG:∀{a b i:Nat},js[a]?=some i->js[b]?=some i->a=b:=fun{a b i}h1 h2=>Qco Aj h1 h2;intro n;induction n with
 |zero=>
  intro k mc hk p6 V6 h;obtain rfl:k=p:=by omega
  have e0:(ops.toList.take k).drop k=[]:=zzan (by simp;omega);rw[e0]at h;simp only[zzce,nc]at h;have fh:ms.length<=gJ ops k:=zzfo.1 h.1;have B7:gJ ops k=js.length:=by rw[yK];rfl
  have hcc:gJ ops k=ms.length:=by omega
  refine⟨by omega,fun i o h1 h2=>by omega,?_⟩;rw[<- hcc,<- V6];exact h.2
 |succ n ih=>
  intro k mc hk p6 V6 h;have cU:k<ops.size:=by omega
  have ho:ops[k]?=some ops[k]:=zzaj cU
  have hd:(ops.toList.take p).drop k=ops[k]::(ops.toList.take p).drop (k+1):=by
   rw[zzaf (by simp;omega)];simp
  have gj:(flags ops p js).drop k=Jm ops js k::(flags ops p js).drop (k+1):=by
   rw[zzaf (by simp[flags];omega)];simp[flags]
  rw[hd,gj,zzaw]at h;have Wb:=Qct (P:=P) (gl:=gl) (orc:=orc) (T0:=T0) (m:=m) (L:=Xn js ms) ho;obtain⟨o',cB,gI⟩:=gA k (by omega);rw[ho]at cB;cases cB;have e2:(Xu P ops ops[k]).op=tr P ops[k]:=rfl;have e3:(Xu P ops ops[k]).dst=ops[k].dst:=rfl;have qx:=E5 (ops:=ops) k;cases ko:js.contains k with
  |true=>
   have QA:k∈js:=by simpa using ko
   have Cq:=((dH k).1 QA).2;rw[Cq,if_pos rfl]at qx;rw[show Jm ops js k=.eff by simp only[Jm,ko,cond_true]]at h;simp only[nc,e2,e3]at h;split at h
   ·exact h.elim
   rename_i x q hq
   have avg:gJ ops k<ms.length:=by
    rcases zzaa (gJ ops k) ms.length with h'|h'
    ·exact h'
    rw[zzan h']at hq;cases hq
   have hx:ms[gJ ops k]?=some x:=by
    have:(ms.drop (gJ ops k))[0]?=some x:=by rw[hq];rfl
    simpa using this
   have hq':ms.drop (gJ ops (k+1))=q:=by
    rw[qx,<- zzdo,hq];rfl
   obtain⟨h1,h2⟩:=h;have yL:=SL k (by omega) Cq;have cG:=oC (P:=P) (gl:=gl) (orc:=orc) (ops:=ops) (m:=m) Aj yL hx (cz P gl orc ops T0 m (Xn js ms) k);rw[cG]at Wb
   obtain⟨r1,r2,r3⟩:=ih (k+1) x.2 (by omega) (by omega) (by rw[qx];simp[Kg,List.getD,hx]) (by
    rw[Wb,hq'];exact h2)
   refine⟨r1,fun i o hi eE Cj=>?_,r3⟩;rcases zzaa k i with fL|fL
   ·exact r2 i o fL eE Cj
   obtain rfl:i=k:=by omega
   rw[ho]at Cj;cases Cj;refine⟨fun h=>absurd QA h,fun b y hb hy=>?_⟩;obtain rfl:=WG hb yL;rw[hx]at hy;cases hy;rw[<- V6];exact h1
  |false=>
   have QA:k ∉ js:=by simpa using ko
   have Cq:gz ops lE k=false:=by
    cases SR:gz ops lE k with
    |false=>rfl
    |true=>exact absurd ((dH k).2 ⟨by omega,SR⟩) QA
   rw[Cq,if_neg (by simp),zzcm]at qx
   obtain⟨h1,h2,h3⟩:(rop P gl orc (ev gl (cz P gl orc ops T0 m (Xn js ms) k)) m ops[k].dst (tr P ops[k])).1/\(lZ ops js k=false->∀x∈ms,rop P gl orc (ev gl (cz P gl orc ops T0 m (Xn js ms) k)) x.2 ops[k].dst (tr P ops[k])=rop P gl orc (ev gl (cz P gl orc ops T0 m (Xn js ms) k)) m ops[k].dst (tr P ops[k]))/\
     nc P gl orc Y l2 K m ms (((ops.toList.take p).drop (k+1)).map (Xu P ops)) ((flags ops p js).drop (k+1)) (ms.drop (gJ ops k)) mc (put (cz P gl orc ops T0 m (Xn js ms) k) ops[k].dst (rop P gl orc (ev gl (cz P gl orc ops T0 m (Xn js ms) k)) m ops[k].dst (tr P ops[k])).2):=by
    cases iP:lZ ops js k with
    |true=>
     rw[show Jm ops js k=.pre by simp only[Jm,ko,iP,cond_true,cond_false]]at h;simp only[nc,e2,e3]at h;exact⟨h.1,fun h=>(by cases h),h.2⟩
    |false=>
     rw[show Jm ops js k=.oth by simp only[Jm,ko,iP,cond_false]]at h;simp only[nc,e2,e3]at h;exact⟨h.1,fun _=>h.2.1,h.2.2⟩
   rw[vL QA ho]at Wb;obtain⟨r1,r2,r3⟩:=ih (k+1) mc (by omega) (by omega) (by rw[qx];exact V6) (by rw[Wb,qx];exact h3);refine⟨r1,fun i o hi eE Cj=>?_,r3⟩;rcases zzaa k i with fL|fL
   ·exact r2 i o fL eE Cj
   obtain rfl:i=k:=by omega
   rw[ho]at Cj;cases Cj;refine⟨fun _=>⟨h1,h2⟩,fun b y hb=>absurd (zzac hb) QA⟩
def E6{Q:Exit->Act->World->Prop}{K:AS->Prop}{γ:G}{w:World}{s:AS}{a:Act}{js:List Nat}(hQ:∀γ w s a,K s->fK N w0 r aq S P gl Y γ w s a->Q .normal a w)(hc:Ar ops p=true)(hj:mZ ops p=some js)
  {ms:List (AV×AM)}(h:nc P gl orc Y ((ops.toList.drop p).map (Xu P ops)) K s.m ms ((ops.toList.take p).map (Xu P ops)) (flags ops p js) ms s.m s.T)(hs:fK N w0 r aq S P gl Y γ w s a):
  wpAnyIn (FW r) 0 P .any ops Q ops.size (Array.replicate ops.size false) a {w with drawn:=w.drawn+1}:=by
 obtain⟨hp,dy⟩:=Vd hc;obtain⟨yK,hjc,gA⟩:=Qbw hj;have Aj:js.Nodup:=by rw[yK];exact(zzdp).filter _
 have alm:∀j∈js,j<p:=fun j h=>by rw[yK,zzcx]at h;exact zzbf.1 h.1
 obtain⟨aH,h1,h2⟩:=aej (P:=P) (gl:=gl) (orc:=orc) (T0:=s.T) (m:=s.m) ((ops.toList.drop p).map (Xu P ops)) K hp hj p 0 s.m (by simp) (by simp[gJ]) (by simp[gJ,Kg]) (by simpa[cz,gJ]using h)
 have full:∀(bw:Nat)(listed:Array Bool)(γ:G)(w:World)(a:Act),y5 N w0 r aq S Y P gl orc ops s.T s.m ms js (Xn js ms) p listed γ w a->uc ops listed<=bw->(∀i,i<p->listed.getD i false=true)->wpAnyIn (FW r) 0 P .any ops Q bw listed a w:=by
  intro bw listed γ w a hI tP bS;have hml:Jv listed s.m js ms=Kg s.m ms ms.length:=Qas aH (by omega) (fun b j _ hb=>bS j (alm j (zzac hb))) (fun j hj=>by rw[zzax (by omega)]at hj;cases hj);have me:=hI.mm;have mU:=hI.ls;rw[hml]at me mU;refine mY hQ hc bw p listed γ w _ a (zzab _) hp hI.size bS hI.tail tP h2 ⟨me,mU,hI.rd,⟨?_,fun t x v hx hv=>?_⟩,hI.d,hI.g,hI.y,hI.e⟩
  ·simp[kK,hI.tl]
  have h1:=hI.tt t
  have hAt:y4 P gl orc ops s.T s.m (Xn js ms) p listed t=x:=by
   have ov:(cz P gl orc ops s.T s.m (Xn js ms) p).getD t .junk=x:=by simp only at hx;simp[List.getD,hx]
   unfold y4;split
   ·exact ov
   rename_i hw;rw[<- ov];refine(Qcu p fun j hj hd=>hw ?_).symm;unfold wr;rw[zzbz];exact⟨j,zzbf.2 hj,by rw[bS j hj,hd];simp⟩
  rw[hAt]at h1;have:a.tmps.getD t undef=v:=by simp at hv;simp[hv]
  rwa [this]at h1
 have main:∀(bw:Nat)(listed:Array Bool)(γ:G)(w:World)(a:Act),y5 N w0 r aq S Y P gl orc ops s.T s.m ms js (Xn js ms) p listed γ w a->uc ops listed<=bw->wpAnyIn (FW r) 0 P .any ops Q bw listed a w:=by
  intro bw;induction bw with
  |zero=>
   intro listed γ w a hI tP
   exact full 0 listed γ w a hI tP fun i hi=>by
    rw[Xm (by rw[hI.size];omega) false true];exact oB (zzg.1 tP) (by omega)
  |succ bw ih=>
   intro listed γ w a hI tP;by_cases bS:∀i,i<p->listed.getD i false=true
   ·exact full (bw+1) listed γ w a hI tP bS
   have hex:∃k,k<p/\listed.getD k true=false:=by
    refine Classical.byContradiction fun hn=>bS fun i hi=>?_;rw[Xm (by rw[hI.size];omega) false true];cases hl:listed.getD i true with
    |true=>rfl
    |false=>exact absurd ⟨i,hi,hl⟩ hn
   obtain⟨k,hk,hlk⟩:=hex;refine⟨fun hr=>?_,fun i hi=>?_⟩
   ·obtain⟨j,hj⟩:=Wn hc hI.size k k (zzab _) (by omega) hlk;rw[hr]at hj;cases hj
   obtain⟨ai,hu,o,ho,cN⟩:=Wo hc hi
   have eE:i<p:=by
    rcases zzaa i p with h|h
    ·exact h
    have:=iY hI.clo ho ((dy i o ho).2.2 h) cN i k (by omega) (by omega);rw[Xm (by rw[hI.size];omega) false true,hlk]at this;cases this
   obtain⟨o',cB,gI⟩:=gA i eE;rw[ho]at cB;cases cB;refine wpOpIn_mono ?_ (rX hc hI ho eE gI aH Aj hu cN (fun a j e1 e2=>tT hjc a j i o e1 e2 ho) (h1 i o (zzcc _) eE ho).1 (h1 i o (zzcc _) eE ho).2);rintro a' w' ⟨γ',yZ⟩;refine ih _ γ' w' a' yZ ?_;have:=vI hI.size ai hu;omega
 have Aw:∀j,(Array.replicate ops.size false).getD j false=false:=fun j=>by
  rcases zzaa j ops.size with h|h<;>simp[h]
 have Cp:∀js':List Nat,chn (Array.replicate ops.size false) js':=fun js'=>by
  induction js' with
  |nil=>trivial
  |cons j r ih=>
   cases r with
   |nil=>trivial
   |cons j' r=>exact⟨fun h=>(by rw[Aw]at h;cases h),ih⟩
 have SQ:Jv (Array.replicate ops.size false) s.m js ms=s.m:=Qas (a:=0) aH (by omega) (fun b j hb=>by omega) (fun j _=>Aw j);refine main ops.size _ γ w.drew a ⟨by simp,fun i _ hi=>by simp[hi],Cp js,fun j o h=>(by rw[Aw]at h;cases h),?_,?_,hs.rd.bh (Ev.drew w γ).dB,?_,fun t=>?_,hs.d.bh (Ev.drew w γ).dB,fun g=>(hs.g g).mono (Ev.drew w γ).cT,hs.y.mono (Ev.drew w γ).dB,hs.e.trans (Ev.drew w γ).dB⟩ ?_
 ·rw[SQ];exact hs.m.drew
 ·rw[SQ];exact hs.ls.mono (Ev.drew w γ)
 ·have:=hs.t.1;simp at this;omega
 ·have hw:wr ops p (Array.replicate ops.size false) t=false:=by
   unfold wr;rw[zzek];intro j _;rw[Aw j];simp
  unfold y4;rw[hw];simp only[zzbs,if_false];have:=(hs.t.mono (Ev.drew w γ)).get t;simpa[List.getD]using this
 unfold uc;exact zzbq (zzfl) (by simp)
end
open Go
def vM(ops:Array Oper)(p:Nat)(js:List Nat):Bool:=match js.getLast? with
 |some j=>(List.range p).all fun i=>decide (i<=j)||(Cm ops i [i]).contains j
 |none=>false
def bkF(ops:Array Oper)(p:Nat)(js:List Nat):List Fg:=bif vM ops p js then[.eff]else[]
def aek(fl:List Fg)(l:List SO):Bool:=!(fl.drop l.length).isEmpty
section
variable (P:Program) (gl:Nat->AV) (orc:Nat->FuncId->List AV->AV) (Y:YT)
def effR(e:bN->AV)(m:AM)(R:AV->AM->Prop):aF->Prop
 |.call f args=>(match e f with
  |.fn g first cap=>an P gl Y g (first++args.map e++cap) m R
  |_=>False)
 |_=>False
def lG(R:AV->AM->Prop)(l2:List SO)(K:AS->Prop)(m:AM)(ms:List (AV×AM)):List SO->List Fg->List (AV×AM)->AM->List AV->Prop
 |[],_,q,mc,T=>q=[]/\Zz P gl orc Y l2 ⟨T,mc⟩ K
 |_::_,[],_,_,_=>False
 |o::r,.eff::fl,q,mc,T=>(match q with
  |[]=>False
  |x::q=>((q=[]->effR P gl Y (ev gl T) mc R o.op)/\(q≠[]->effC P gl orc Y (ev gl T) mc o.dst x.1 x.2 o.op))/\lG R l2 K m ms r fl q x.2 (put T o.dst x.1))
 |o::r,.pre::fl,q,mc,T=>(rop P gl orc (ev gl T) m o.dst o.op).1/\lG R l2 K m ms r fl q mc (put T o.dst (rop P gl orc (ev gl T) m o.dst o.op).2)
 |o::r,.oth::fl,q,mc,T=>(rop P gl orc (ev gl T) m o.dst o.op).1/\(∀x∈ms,rop P gl orc (ev gl T) x.2 o.dst o.op=rop P gl orc (ev gl T) m o.dst o.op)/\lG R l2 K m ms r fl q mc (put T o.dst (rop P gl orc (ev gl T) m o.dst o.op).2)
def oD{l2:List SO}{K:AS->Prop}{m:AM}{ms:List (AV×AM)}{ex:List Fg}:∀{l:List SO}{fl:List Fg}{q:List (AV×AM)}{mc:AM}{T:List AV},fl.length=l.length->nc P gl orc Y l2 K m ms l (fl++ex) q mc T->nc P gl orc Y l2 K m ms l fl q mc T
 |[],[],q,mc,T,_,h=>by simpa only[nc]using h
 |[],_::_,_,_,_,hl,_=>by simp at hl
 |_::_,[],_,_,_,hl,_=>by simp at hl
 |o::r,.eff::fl,[],mc,T,hl,h=>by simp only[zzae,nc]at h
 |o::r,.eff::fl,x::q,mc,T,hl,h=>by
  simp only[zzae,nc]at h |-
  exact⟨h.1,oD (by simpa using hl) h.2⟩
 |o::r,.pre::fl,q,mc,T,hl,h=>by
  simp only[zzae,nc]at h |-
  exact⟨h.1,oD (by simpa using hl) h.2⟩
 |o::r,.oth::fl,q,mc,T,hl,h=>by
  simp only[zzae,nc]at h |-
  exact⟨h.1,h.2.1,oD (by simpa using hl) h.2.2⟩
def oE{R:AV->AM->Prop}{l2:List SO}{K:AS->Prop}{m:AM}{ms:List (AV×AM)}{ex:List Fg}:∀{l:List SO}{fl:List Fg}{q:List (AV×AM)}{mc:AM}{T:List AV},fl.length=l.length->lG P gl orc Y R l2 K m ms l (fl++ex) q mc T->lG P gl orc Y R l2 K m ms l fl q mc T
 |[],[],q,mc,T,_,h=>by simpa only[lG]using h
 |[],_::_,_,_,_,hl,_=>by simp at hl
 |_::_,[],_,_,_,hl,_=>by simp at hl
 |o::r,.eff::fl,[],mc,T,hl,h=>by simp only[zzae,lG]at h
 |o::r,.eff::fl,x::q,mc,T,hl,h=>by
  simp only[zzae,lG]at h |-
  exact⟨h.1,oE (by simpa using hl) h.2⟩
 |o::r,.pre::fl,q,mc,T,hl,h=>by
  simp only[zzae,lG]at h |-
  exact⟨h.1,oE (by simpa using hl) h.2⟩
 |o::r,.oth::fl,q,mc,T,hl,h=>by
  simp only[zzae,lG]at h |-
  exact⟨h.1,h.2.1,oE (by simpa using hl) h.2.2⟩
end
section
variable {N:Nat} {w0:gY} {r:Option Nat} {aq:Nat->Nat->Prop} {S:G×World} {Y:YT} {P:Program} {gl:Nat->AV} {orc:Nat->FuncId->List AV->AV} {ops:Array Oper} {T0:List AV} {m:AM} {p:Nat}
def vN{x x':AV×AM}{i:Nat}:∀{js:List Nat}{ms:List (AV×AM)}{jl:Nat},js[ms.length]?=some jl->i≠jl->JY (Xn js (ms++[x])) i=JY (Xn js (ms++[x'])) i
 |[],_,_,h,_=>by simp at h
 |j::js,[],jl,h,hi=>by
  simp at h;subst h;simp only[zzai,Xn,JY];rw[if_neg (Ne.symm hi),if_neg (Ne.symm hi)]
 |j::js,y::ms,jl,h,hi=>by
  simp only[zzae,Xn,JY];rw[vN (ms:=ms) (by simpa using h) hi]
def E7{L L':List (Nat×AV)}{jl:Nat}(h:∀i,i<jl->JY L i=JY L' i):∀k,k<=jl->cz P gl orc ops T0 m L k=cz P gl orc ops T0 m L' k
 |0,_=>rfl
 |k+1,hk=>by
  have ih:=E7 h k (by omega);simp only[cz];rw[ih];cases ho:ops[k]? with
  |none=>rfl
  |some o=>
   simp only;congr 1;simp only[Co];rw[h k (by omega)]
def JZ{L L':List (Nat×AV)}(hc:Ar ops p=true){listed:Array Bool}{jl:Nat}(p6:SP ops listed)(Ao:listed.getD jl false=false)(hL:∀i,i<jl->JY L i=JY L' i)
  (E8:∀k,jl<k->k<p->(Cm ops k [k]).contains jl=true)(hjp:jl<p)(t:Nat):y4 P gl orc ops T0 m L p listed t=y4 P gl orc ops T0 m L' p listed t:=by
 obtain⟨hp,dy⟩:=Vd hc;unfold y4;cases hw:wr ops p listed t with
 |false=>simp
 |true=>
  simp only[if_true];unfold wr at hw;obtain⟨j,hj,hjd⟩:=zzbz.1 hw;simp only[zzak,beq_iff_eq]at hjd;obtain⟨hl,hd⟩:=hjd;have avh:=zzbf.1 hj
  have ai:j<jl:=by
   rcases zzfj j jl with h|h|h
   ·exact h
   ·subst h;rw[hl]at Ao;cases Ao
   have:=tQ p6 j [j] (fun k hk=>by rw[zzbk.1 hk];exact hl) jl (by simpa using E8 j h avh);rw[this]at Ao;cases Ao
  have rY:∀(L:List (Nat×AV)),(cz P gl orc ops T0 m L p).getD t .junk=(cz P gl orc ops T0 m L jl).getD t .junk:=fun L=>by
   have:=ja (P:=P) (gl:=gl) (orc:=orc) (ops:=ops) (T0:=T0) (m:=m) (L:=L) (t:=t) (k:=jl) (p-jl) fun k cV di NI=>by
    have hk:k<ops.size:=by omega
    have NJ:ops[k]?=some ops[k]:=zzaj hk;have:=((dy k _ NJ).2.1 (by omega)).2 j (by omega) t hd;simp[Yn,NJ]at NI;exact this NI
   rwa [show jl+(p-jl)=p by omega]at this
  rw[rY L,rY L',E7 hL jl (zzab _)]
def J1{ms:List (AV×AM)}{x:AV×AM}{js:List Nat}{R:AV->AM->Prop}(hc:Ar ops p=true){Q:Exit->Act->World->Prop}{listed:Array Bool}{γ:G}{w:World}{a:Act}
  (hI:y5 N w0 r aq S Y P gl orc ops T0 m (ms++[x]) js (Xn js (ms++[x])) p listed γ w a){i:Nat}{o:Oper}(ho:ops[i]?=some o)(eE:i<p)(gI:qF o=true)(aH:js.length=(ms++[x]).length)(Aj:js.Nodup)
  (hk:js[ms.length]?=some i)(hu:listed.getD i true=false)(cN:∀j∈Vq o,listed.getD j false=true)(Cp:∀a j,js[a]?=some j->js[a+1]?=some i->j∈Vq o)
  (E8:∀k,i<k->k<p->(Cm ops k [k]).contains i=true)
  (Nz:effR P gl Y (ev gl (cz P gl orc ops T0 m (Xn js (ms++[x])) i)) (Kg m (ms++[x]) ms.length) R (tr P o)):
  wpOpIn (FW r) 0 P ops Q i (fun a' w'=>∃γ' x',R x'.1 x'.2/\y5 N w0 r aq S Y P gl orc ops T0 m (ms++[x']) js (Xn js (ms++[x'])) p (listed.setIfInBounds i true) γ' w' a') a w:=by
 have hi:i<ops.size:=(zzbu.1 ho).1;have fR:i<listed.size:=by rw[hI.size];exact hi
 have P8:∀t∈o.looksAt ops,aB w γ ((cz P gl orc ops T0 m (Xn js (ms++[x])) i).getD t .junk) (a.tmps.getD t undef):=fun t ht=>by
  rw[aiZ (P:=P) (gl:=gl) (orc:=orc) (T0:=T0) (m:=m) (L:=Xn js (ms++[x])) hc hI.size ho eE hu cN ht];exact hI.tt t
 have gp:∀y∈o.op.operands,aB w γ (ev gl (cz P gl orc ops T0 m (Xn js (ms++[x])) i) (aA y)) (a.eval y):=fun y hy=>by
  cases y with
  |tmp t=>exact P8 t (by simp only[Oper.looksAt,zzal,zzfc];exact .inl ⟨.tmp t,by simpa using hy,rfl⟩)
  |const v=>exact Js w γ v
  |func f=>exact .fn rfl (fun i c v h=>by simp at h) rfl fun i c v h=>by simp at h
  |global g=>exact(hI.g g).gh
 have lF:chn (listed.setIfInBounds i true) js:=Cn hI.ch fun a j h1 h2=>cN j (Cp a j h1 h2);have hpr:SP ops (listed.setIfInBounds i true):=SP.set hI.clo ho fR cN;have NG:listed.getD i false=false:=by rw[Xm fR false true];exact hu
 have WD:∀b j,b<ms.length->js[b]?=some j->listed.getD j false=true:=fun b j hb hj=>by
  have jb:ms.length-1<js.length:=by simp at aH;omega
  obtain⟨j1,ek⟩:∃j1,js[ms.length-1]?=some j1:=⟨js[ms.length-1],zzad jb⟩;have dZ:=cN j1 (Cp (ms.length-1) j1 ek (by rw[show ms.length-1+1=ms.length by omega];exact hk));rcases zzaa b (ms.length-1)with h|h
  ·exact iZ hI.ch h hj ek dZ
  obtain rfl:b=ms.length-1:=by omega
  rw[hj]at ek;cases ek;exact dZ
 have SQ:Jv listed m js (ms++[x])=Kg m (ms++[x]) ms.length:=Qas aH (by simp at aH;omega) WD (fun j hj=>by rw[hk]at hj;cases hj;exact NG)
 have p7:∀x':AV×AM,Jv (listed.setIfInBounds i true) m js (ms++[x'])=x'.2:=fun x'=>by
  have:=Qas (listed:=listed.setIfInBounds i true) (m:=m) (ms:=ms++[x']) (js:=js) (a:=ms.length+1) (by simp at aH |-;omega) (by simp at aH;omega) (fun b j hb hj=>?_) (fun j hj=>by rw[zzax (by simp at aH;omega)]at hj;cases hj)
  ·rw[this];simp[Kg,List.getD]
  rcases zzaa b ms.length with h|h
  ·have ei:j≠i:=by
    rintro rfl;have:=Qco Aj hj hk;omega
   rw[Qx ei];exact WD b j h hj
  obtain rfl:b=ms.length:=by omega
  rw[hk]at hj;cases hj;exact Zw fR
 have hg:o.guard=none:=by simp only[qF]at gI;simpa using gI
 simp only[wpOpIn,ho];have hw:Region.wanted o (yielded ops a.tmps)=true:=by simp[Region.wanted,hg]
 rw[if_pos hw];have me:=hI.mm;have mU:=hI.ls;rw[SQ]at me mU
 have E4:fK N w0 r aq S P gl Y γ w ⟨(List.range T0.length).map fun t=>y4 P gl orc ops T0 m (Xn js (ms++[x])) p listed t,Kg m (ms++[x]) ms.length⟩ a:=by
  refine⟨me,mU,hI.rd,⟨by simp[hI.tl],fun t x v hx hv=>?_⟩,hI.d,hI.g,hI.y,hI.e⟩
  have ai:t<T0.length:=by
   rcases zzaa t T0.length with h|h
   ·exact h
   simp[zzds.2 h]at hx
  simp[ai]at hx;have:=hI.tt t;rw[hx]at this;have EI:a.tmps.getD t undef=v:=by simp at hv;simp[hv]
  rwa [EI]at this
 have qv:vcEff P gl Y (ev gl (cz P gl orc ops T0 m (Xn js (ms++[x])) i)) (Kg m (ms++[x]) ms.length) R (tr P o):=by
  cases htr:tr P o with
  |call f args=>
   rw[htr]at Nz;simp only[effR]at Nz;simp only[vcEff];split at Nz
   ·rename_i g first cap cr;simp only[cr];exact Nz
   exact Nz.elim
  |_=>rw[htr]at Nz;exact Nz.elim
 refine kz E4 gp qv fun v w' γ' av' m' hK he hm hl hr=>?_;have cG:=oC (P:=P) (gl:=gl) (orc:=orc) (ops:=ops) (m:=m) (ms:=ms++[(av',m')]) (x:=(av',m')) Aj hk (by simp) (cz P gl orc ops T0 m (Xn js (ms++[(av',m')])) i)
 have hsw:∀t,y4 P gl orc ops T0 m (Xn js (ms++[(av',m')])) p listed t=y4 P gl orc ops T0 m (Xn js (ms++[x])) p listed t:=fun t=>
  JZ hc hI.clo NG (fun j hj=>vN hk (by omega)) E8 eE t
 refine⟨γ',(av',m'),hK,by simp[hI.size],fun j ek pY=>by rw[Qx (by omega)];exact hI.tail j ek pY,lF,hpr,by rw[p7];exact hm,by rw[p7];exact hl,hI.rd.bh he,?_,fun t=>?_,?_,fun g=>(hI.g g).bh he.cT,hI.y.mono he,hI.e.trans he⟩
 ·cases hd:o.dst<;>simp[Act.put,hI.tl]
 ·rw[NL hc hI.size ho eE,hsw];by_cases hd:o.dst=some t
  ·by_cases ht:t<T0.length
   ·rw[if_pos ⟨hd,ht⟩,hd];have:(a.put (some t) v).tmps.getD t undef=v:=by simp[Act.put,hI.tl,ht]
    rw[this,cG];exact hr
   rw[if_neg (by simp[ht]),hd];have:(a.put (some t) v).tmps.getD t undef=a.tmps.getD t undef:=by simp[Act.put,hI.tl,ht]
   rw[this];exact(hI.tt t).bh he
  rw[if_neg (by simp[hd])]
  have:(a.put o.dst v).tmps.getD t undef=a.tmps.getD t undef:=by
   cases ED:o.dst with
   |none=>rfl
   |some d=>simp only[Act.put];simp;rw[zzdd (by rintro rfl;exact hd ED)]
  rw[this];exact(hI.tt t).bh he
 cases hd:o.dst<;>exact hI.d.bh he
def ael{R:AV->AM->Prop}{ms:List (AV×AM)}{js:List Nat}(l2:List SO)(K:AS->Prop)(hp:p<=ops.size)(hj:mZ ops p=some js):∀(n k:Nat)(mc:AM),k+n=p->gJ ops k<=ms.length->mc=Kg m ms (gJ ops k)->
  lG P gl orc Y R l2 K m ms (((ops.toList.take p).drop k).map (Xu P ops)) ((flags ops p js).drop k) (ms.drop (gJ ops k)) mc (cz P gl orc ops T0 m (Xn js ms) k)->
  js.length=ms.length/\
  (
   ∀i o,k<=i->i<p->ops[i]?=some o->
   (i ∉ js->(rop P gl orc (ev gl (cz P gl orc ops T0 m (Xn js ms) i)) m o.dst (tr P o)).1/\(lZ ops js i=false->∀x∈ms,rop P gl orc (ev gl (cz P gl orc ops T0 m (Xn js ms) i)) x.2 o.dst (tr P o)=rop P gl orc (ev gl (cz P gl orc ops T0 m (Xn js ms) i)) m o.dst (tr P o)))/\
   (∀b x,js[b]?=some i->ms[b]?=some x->(b+1=ms.length->effR P gl Y (ev gl (cz P gl orc ops T0 m (Xn js ms) i)) (Kg m ms b) R (tr P o))/\(b+1≠ms.length->effC P gl orc Y (ev gl (cz P gl orc ops T0 m (Xn js ms) i)) (Kg m ms b) o.dst x.1 x.2 (tr P o))))/\
  Zz P gl orc Y l2 ⟨(cz P gl orc ops T0 m (Xn js ms) p),Kg m ms ms.length⟩ K:=by
 obtain⟨yK,_,gA⟩:=Qbw hj;have dH:∀j,j∈js<->j<p/\gz ops lE j=true:=fun j=>by rw[yK,zzcx,zzbf]
 have Aj:js.Nodup:=by rw[yK];exact(zzdp).filter _
 have SL:∀i,i<p->gz ops lE i=true->js[gJ ops i]?=some i:=fun i h1 h2=>by rw[yK];exact WE h1 h2
 have WG:∀{a b i:Nat},js[a]?=some i->js[b]?=some i->a=b:=fun{a b i}h1 h2=>Qco Aj h1 h2;intro n;induction n with
 |zero=>
  intro k mc hk p6 V6 h;obtain rfl:k=p:=by omega
  have e0:(ops.toList.take k).drop k=[]:=zzan (by simp;omega);rw[e0]at h;simp only[zzce,lG]at h;have fh:ms.length<=gJ ops k:=zzfo.1 h.1;have B7:gJ ops k=js.length:=by rw[yK];rfl
  have hcc:gJ ops k=ms.length:=by omega
  refine⟨by omega,fun i o h1 h2=>by omega,?_⟩;rw[<- hcc,<- V6];exact h.2
 |succ n ih=>
  intro k mc hk p6 V6 h;have cU:k<ops.size:=by omega
  have ho:ops[k]?=some ops[k]:=zzaj cU
  have hd:(ops.toList.take p).drop k=ops[k]::(ops.toList.take p).drop (k+1):=by
   rw[zzaf (by simp;omega)];simp
  have gj:(flags ops p js).drop k=Jm ops js k::(flags ops p js).drop (k+1):=by
   rw[zzaf (by simp[flags];omega)];simp[flags]
  rw[hd,gj,zzaw]at h;have Wb:=Qct (P:=P) (gl:=gl) (orc:=orc) (T0:=T0) (m:=m) (L:=Xn js ms) ho;obtain⟨o',cB,gI⟩:=gA k (by omega);rw[ho]at cB;cases cB;have e2:(Xu P ops ops[k]).op=tr P ops[k]:=rfl;have e3:(Xu P ops ops[k]).dst=ops[k].dst:=rfl;have qx:=E5 (ops:=ops) k;cases ko:js.contains k with
  |true=>
   have QA:k∈js:=by simpa using ko
   have Cq:=((dH k).1 QA).2;rw[Cq,if_pos rfl]at qx;rw[show Jm ops js k=.eff by simp only[Jm,ko,cond_true]]at h;simp only[lG,e2,e3]at h;split at h
   ·exact h.elim
   rename_i x q hq
   have avg:gJ ops k<ms.length:=by
    rcases zzaa (gJ ops k) ms.length with h'|h'
    ·exact h'
    rw[zzan h']at hq;cases hq
   have hx:ms[gJ ops k]?=some x:=by
    have:(ms.drop (gJ ops k))[0]?=some x:=by rw[hq];rfl
    simpa using this
   have hq':ms.drop (gJ ops (k+1))=q:=by
    rw[qx,<- zzdo,hq];rfl
   obtain⟨h1,h2⟩:=h;have yL:=SL k (by omega) Cq;have cG:=oC (P:=P) (gl:=gl) (orc:=orc) (ops:=ops) (m:=m) Aj yL hx (cz P gl orc ops T0 m (Xn js ms) k);rw[cG]at Wb
   obtain⟨r1,r2,r3⟩:=ih (k+1) x.2 (by omega) (by omega) (by rw[qx];simp[Kg,List.getD,hx]) (by
    rw[Wb,hq'];exact h2)
   refine⟨r1,fun i o hi eE Cj=>?_,r3⟩;rcases zzaa k i with fL|fL
   ·exact r2 i o fL eE Cj
   obtain rfl:i=k:=by omega
   rw[ho]at Cj;cases Cj;refine⟨fun h=>absurd QA h,fun b y hb hy=>?_⟩;obtain rfl:=WG hb yL;rw[hx]at hy;cases hy;rw[<- V6]
   have hqe:q=[]<->gJ ops i+1=ms.length:=by
    rw[<- hq',qx,zzfo];omega
   exact⟨fun h=>h1.1 (hqe.2 h),fun h=>h1.2 fun e=>h (hqe.1 e)⟩
  |false=>
   have QA:k ∉ js:=by simpa using ko
   have Cq:gz ops lE k=false:=by
    cases SR:gz ops lE k with
    |false=>rfl
    |true=>exact absurd ((dH k).2 ⟨by omega,SR⟩) QA
   rw[Cq,if_neg (by simp),zzcm]at qx
   obtain⟨h1,h2,h3⟩:(rop P gl orc (ev gl (cz P gl orc ops T0 m (Xn js ms) k)) m ops[k].dst (tr P ops[k])).1/\(lZ ops js k=false->∀x∈ms,rop P gl orc (ev gl (cz P gl orc ops T0 m (Xn js ms) k)) x.2 ops[k].dst (tr P ops[k])=rop P gl orc (ev gl (cz P gl orc ops T0 m (Xn js ms) k)) m ops[k].dst (tr P ops[k]))/\
     lG P gl orc Y R l2 K m ms (((ops.toList.take p).drop (k+1)).map (Xu P ops)) ((flags ops p js).drop (k+1)) (ms.drop (gJ ops k)) mc (put (cz P gl orc ops T0 m (Xn js ms) k) ops[k].dst (rop P gl orc (ev gl (cz P gl orc ops T0 m (Xn js ms) k)) m ops[k].dst (tr P ops[k])).2):=by
    cases iP:lZ ops js k with
    |true=>
     rw[show Jm ops js k=.pre by simp only[Jm,ko,iP,cond_true,cond_false]]at h;simp only[lG,e2,e3]at h;exact⟨h.1,fun h=>(by cases h),h.2⟩
    |false=>
     rw[show Jm ops js k=.oth by simp only[Jm,ko,iP,cond_false]]at h;simp only[lG,e2,e3]at h;exact⟨h.1,fun _=>h.2.1,h.2.2⟩
   rw[vL QA ho]at Wb;obtain⟨r1,r2,r3⟩:=ih (k+1) mc (by omega) (by omega) (by rw[qx];exact V6) (by rw[Wb,qx];exact h3);refine⟨r1,fun i o hi eE Cj=>?_,r3⟩;rcases zzaa k i with fL|fL
   ·exact r2 i o fL eE Cj
   obtain rfl:i=k:=by omega
   rw[ho]at Cj;cases Cj;refine⟨fun _=>⟨h1,h2⟩,fun b y hb=>absurd (zzac hb) QA⟩
def E9{Q:Exit->Act->World->Prop}{K:AS->Prop}{γ:G}{w:World}{s:AS}{a:Act}{js:List Nat}(hQ:∀γ w s a,K s->fK N w0 r aq S P gl Y γ w s a->Q .normal a w)(hc:Ar ops p=true)(hj:mZ ops p=some js)
  (hbk:vM ops p js=true){R:AV->AM->Prop}{ms:List (AV×AM)}(hR:∃x:AV×AM,R x.1 x.2)(h:∀x:AV×AM,R x.1 x.2->lG P gl orc Y R ((ops.toList.drop p).map (Xu P ops)) K s.m (ms++[x]) ((ops.toList.take p).map (Xu P ops)) (flags ops p js) (ms++[x]) s.m s.T)(hs:fK N w0 r aq S P gl Y γ w s a):
  wpAnyIn (FW r) 0 P .any ops Q ops.size (Array.replicate ops.size false) a {w with drawn:=w.drawn+1}:=by
 obtain⟨hp,dy⟩:=Vd hc;obtain⟨yK,hjc,gA⟩:=Qbw hj;have Aj:js.Nodup:=by rw[yK];exact(zzdp).filter _
 have alm:∀j∈js,j<p:=fun j h=>by rw[yK,zzcx]at h;exact zzbf.1 h.1
 have bS:=fun(x:AV×AM)(hx:R x.1 x.2)=>ael (P:=P) (gl:=gl) (orc:=orc) (T0:=s.T) (m:=s.m) ((ops.toList.drop p).map (Xu P ops)) K hp hj p 0 s.m (by simp) (by simp[gJ]) (by simp[gJ,Kg]) (by simpa[cz,gJ]using h x hx);obtain⟨x0,hx0⟩:=hR;have dm:js.length=ms.length+1:=by have:=(bS x0 hx0).1;simpa using this
 obtain⟨jl,Ao⟩:∃jl,js[ms.length]?=some jl:=⟨_,zzad (by omega)⟩
 have E8:∀k,jl<k->k<p->(Cm ops k [k]).contains jl=true:=fun k cV di=>by
  unfold vM at hbk;have hg:js.getLast?=some jl:=by rw[zzey,dm];simpa using Ao
  rw[hg]at hbk;have:=zzbg.1 hbk k (zzbf.2 di);simp only[zzfp,decide_eq_true_eq]at this;obtain h|h:=this
  ·omega
  exact h
 have full:∀(x:AV×AM),R x.1 x.2->∀(bw:Nat)(listed:Array Bool)(γ:G)(w:World)(a:Act),y5 N w0 r aq S Y P gl orc ops s.T s.m (ms++[x]) js (Xn js (ms++[x])) p listed γ w a->uc ops listed<=bw->(∀i,i<p->listed.getD i false=true)->wpAnyIn (FW r) 0 P .any ops Q bw listed a w:=by
  intro x hx bw listed γ w a hI tP aqk;obtain⟨aH,h1,h2⟩:=bS x hx;have bS:=aqk;have hml:Jv listed s.m js (ms++[x])=Kg s.m (ms++[x]) (ms++[x]).length:=Qas aH (by omega) (fun b j _ hb=>bS j (alm j (zzac hb))) (fun j hj=>by rw[zzax (by omega)]at hj;cases hj);have me:=hI.mm;have mU:=hI.ls;rw[hml]at me mU;refine mY hQ hc bw p listed γ w _ a (zzab _) hp hI.size bS hI.tail tP h2 ⟨me,mU,hI.rd,⟨?_,fun t y v hy hv=>?_⟩,hI.d,hI.g,hI.y,hI.e⟩
  ·simp[kK,hI.tl]
  have h1:=hI.tt t
  have hAt:y4 P gl orc ops s.T s.m (Xn js (ms++[x])) p listed t=y:=by
   have ov:(cz P gl orc ops s.T s.m (Xn js (ms++[x])) p).getD t .junk=y:=by simp only at hy;simp[List.getD,hy]
   unfold y4;split
   ·exact ov
   rename_i hw;rw[<- ov];refine(Qcu p fun j hj hd=>hw ?_).symm;unfold wr;rw[zzbz];exact⟨j,zzbf.2 hj,by rw[bS j hj,hd];simp⟩
  rw[hAt]at h1;have:a.tmps.getD t undef=v:=by simp at hv;simp[hv]
  rwa [this]at h1
 have main:∀(bw:Nat)(x:AV×AM),R x.1 x.2->∀(listed:Array Bool)(γ:G)(w:World)(a:Act),y5 N w0 r aq S Y P gl orc ops s.T s.m (ms++[x]) js (Xn js (ms++[x])) p listed γ w a->uc ops listed<=bw->wpAnyIn (FW r) 0 P .any ops Q bw listed a w:=by
  intro bw;induction bw with
  |zero=>
   intro x hx listed γ w a hI tP
   exact full x hx 0 listed γ w a hI tP fun i hi=>by
    rw[Xm (by rw[hI.size];omega) false true];exact oB (zzg.1 tP) (by omega)
  |succ bw ih=>
   intro x hx listed γ w a hI tP;by_cases hall2:∀i,i<p->listed.getD i false=true
   ·exact full x hx (bw+1) listed γ w a hI tP hall2
   have hex:∃k,k<p/\listed.getD k true=false:=by
    refine Classical.byContradiction fun hn=>hall2 fun i hi=>?_;rw[Xm (by rw[hI.size];omega) false true];cases hl:listed.getD i true with
    |true=>rfl
    |false=>exact absurd ⟨i,hi,hl⟩ hn
   obtain⟨k,hk,hlk⟩:=hex;refine⟨fun hr=>?_,fun i hi=>?_⟩
   ·obtain⟨j,hj⟩:=Wn hc hI.size k k (zzab _) (by omega) hlk;rw[hr]at hj;cases hj
   obtain⟨ai,hu,o,ho,cN⟩:=Wo hc hi
   have eE:i<p:=by
    rcases zzaa i p with h|h
    ·exact h
    have:=iY hI.clo ho ((dy i o ho).2.2 h) cN i k (by omega) (by omega);rw[Xm (by rw[hI.size];omega) false true,hlk]at this;cases this
   obtain⟨o',cB,gI⟩:=gA i eE;rw[ho]at cB;cases cB;obtain⟨aH,h1,_⟩:=bS x hx;obtain⟨h1a,h1b⟩:=h1 i o (zzcc _) eE ho;by_cases eM:i=jl
   ·subst eM;refine wpOpIn_mono ?_ (J1 hc hI ho eE gI aH Aj Ao hu cN (fun a j e1 e2=>tT hjc a j i o e1 e2 ho) E8 ((h1b ms.length x Ao (by simp)).1 (by simp)));rintro a' w' ⟨γ',x',ov,yZ⟩;refine ih x' ov _ γ' w' a' yZ ?_;have:=vI hI.size ai hu;omega
   refine wpOpIn_mono ?_ (rX hc hI ho eE gI aH Aj hu cN (fun a j e1 e2=>tT hjc a j i o e1 e2 ho) h1a (fun k y e1 e2=>(h1b k y e1 e2).2 fun e=>eM (by
    have hk:k=ms.length:=by simpa using e
    subst hk;rw[Ao]at e1;exact(Option.some.inj e1).symm)))
   rintro a' w' ⟨γ',yZ⟩;refine ih x hx _ γ' w' a' yZ ?_;have:=vI hI.size ai hu;omega
 have Aw:∀j,(Array.replicate ops.size false).getD j false=false:=fun j=>by
  rcases zzaa j ops.size with h|h<;>simp[h]
 have Cp:∀js':List Nat,chn (Array.replicate ops.size false) js':=fun js'=>by
  induction js' with
  |nil=>trivial
  |cons j r ih=>
   cases r with
   |nil=>trivial
   |cons j' r=>exact⟨fun h=>(by rw[Aw]at h;cases h),ih⟩
 have SQ:Jv (Array.replicate ops.size false) s.m js (ms++[x0])=s.m:=Qas (a:=0) (bS x0 hx0).1 (by omega) (fun b j hb=>by omega) (fun j _=>Aw j);refine main ops.size x0 hx0 _ γ w.drew a ⟨by simp,fun i _ hi=>by simp[hi],Cp js,fun j o h=>(by rw[Aw]at h;cases h),?_,?_,hs.rd.bh (Ev.drew w γ).dB,?_,fun t=>?_,hs.d.bh (Ev.drew w γ).dB,fun g=>(hs.g g).mono (Ev.drew w γ).cT,hs.y.mono (Ev.drew w γ).dB,hs.e.trans (Ev.drew w γ).dB⟩ ?_
 ·rw[SQ];exact hs.m.drew
 ·rw[SQ];exact hs.ls.mono (Ev.drew w γ)
 ·have:=hs.t.1;simp at this;omega
 ·have hw:wr ops p (Array.replicate ops.size false) t=false:=by
   unfold wr;rw[zzek];intro j _;rw[Aw j];simp
  unfold y4;rw[hw];simp only[zzbs,if_false];have:=(hs.t.mono (Ev.drew w γ)).get t;simpa[List.getD]using this
 unfold uc;exact zzbq (zzfl) (by simp)
end
open Go Go.RowKit
inductive SC where
 |skip
 |ops (l:List SO)
 |draw (l l2:List SO)
 |drawE (fl:List Fg) (l l2:List SO)
 |seq (a b:SC)
 |cond (x:bN) (a b:SC)
 |block (id:Nat) (c:SC)
 |loop (c:SC)
 |exit (id:Nat)
 |scope (c:SC)
 |rfunc (g:bN) (ps:List Nat) (lH body:SC)
 |ret
 |bad
def tf:List Nat->SC->SC
 |[],c=>c
 |0::p,.seq x _=>tf p x
 |_::p,.seq _ x=>tf p x
 |0::p,.cond _ x _=>tf p x
 |_::p,.cond _ _ x=>tf p x
 |_::p,.block _ x=>tf p x
 |_::p,.loop x=>tf p x
 |_::p,.scope x=>tf p x
 |0::p,.rfunc _ _ x _=>tf p x
 |_::p,.rfunc _ _ _ x=>tf p x
 |_,c=>c
def y6:List Nat->SC->SC->SC
 |[],_,t=>t
 |0::p,.seq x y,t=>.seq (y6 p x t) y
 |_::p,.seq y x,t=>.seq y (y6 p x t)
 |0::p,.cond c x y,t=>.cond c (y6 p x t) y
 |_::p,.cond c y x,t=>.cond c y (y6 p x t)
 |_::p,.block n x,t=>.block n (y6 p x t)
 |_::p,.loop x,t=>.loop (y6 p x t)
 |_::p,.scope x,t=>.scope (y6 p x t)
 |0::p,.rfunc g l x y,t=>.rfunc g l (y6 p x t) y
 |_::p,.rfunc g l y x,t=>.rfunc g l y (y6 p x t)
 |_,c,_=>c
def aln(n:Nat):List Nat->List Nat
 |[]=>[n]
 |k::l=>bif n.ble k then(bif n.beq k then k::l else n::k::l)else k::aln n l
def J2(r:List Nat):List SO->List Nat
 |[]=>r
 |o::l=>match o.dst with|some n=>aln n (J2 r l)|none=>J2 r l
def aql(r:List Nat):List Nat->List Nat
 |[]=>r
 |n::l=>aln n (aql r l)
def rW(r:List Nat):SC->List Nat
 |.ops l=>J2 r l
 |.draw l k=>J2 (J2 r k) l
 |.drawE _ l k=>J2 (J2 r k) l
 |.seq x y=>rW (rW r y) x
 |.cond _ x y=>rW (rW r y) x
 |.block _ x=>rW r x
 |.loop x=>rW r x
 |.scope x=>rW r x
 |.rfunc _ l x y=>rW (rW (aql r l) y) x
 |_=>r
abbrev vO(p:List Nat)(c:SC):={x:SC // x=tf p c}
abbrev vP(p:List Nat)(c:SC):={x:SC->SC // ∀t,x t=y6 p c t}
abbrev wT(p:List Nat)(c:SC):={x:List Nat // x=rW [] (tf p c)}
def qG{P:Program}{ops:Array Oper}{p:Nat}{js:List Nat}(hc:Ar ops p=true):(flags ops p js).length=((ops.toList.take p).map (Xu P ops)).length:=by
 have:=(Vd hc).1;simp[flags];omega
def alo{P:Program}{ops:Array Oper}{p:Nat}{js:List Nat}(hc:Ar ops p=true)(h:aek (flags ops p js++bkF ops p js) ((ops.toList.take p).map (Xu P ops))=true):vM ops p js=true:=by
 unfold aek at h;rw[<- qG (js:=js) hc,zzfg]at h;unfold bkF at h;cases hb:vM ops p js with
 |true=>rfl
 |false=>rw[hb]at h;simp at h
def Yi(P:Program):Code->SC
 |.skip=>.skip
 |.region _ ops false=>.ops (ops.toList.map (Xu P ops))
 |.region _ ops true=>if P.follows .mixedOrders&&Ar ops (iW ops)then(match mZ ops (iW ops)with
  |some js=>.drawE (flags ops (iW ops) js++bkF ops (iW ops) js) ((ops.toList.take (iW ops)).map (Xu P ops)) ((ops.toList.drop (iW ops)).map (Xu P ops))
  |none=>.draw ((ops.toList.take (iW ops)).map (Xu P ops)) ((ops.toList.drop (iW ops)).map (Xu P ops)))else .bad
 |.seq a b=>.seq (Yi P a) (Yi P b)
 |.cond c a b=>.cond (aA c) (Yi P a) (Yi P b)
 |.block id c=>.block id (Yi P c)
 |.loop c=>.loop (Yi P c)
 |.exit id=>.exit id
 |.label _=>.skip
 |.scope c=>.scope (Yi P c)
 |.rangeFunc g ps lH body=>.rfunc (aA g) ps.toList (Yi P lH) (Yi P body)
 |.ret=>.ret
 |_=>.bad
def p8(st:Nat->LS)(l:Nat)(x:LS):Nat->LS:=fun i=>if i=l then x else st i
def AM.at_(m:AM)(l:Nat)(x:LS):AM:={m with st:=p8 m.st l x}
def AM.aX(m:AM):AM:={m with st:=p8 m.st m.ln .ready,ln:=m.ln+1}
def Qaj(T:List AV):List Nat->List AV->List AV
 |p::ps,x::xs=>Qaj (T.set p x) ps xs
 |_,_=>T
section vc
variable (P:Program) (gl:Nat->AV) (orc:Nat->FuncId->List AV->AV) (Y:YT)
def WH(k:AS->(Exit->AS->Prop)->Prop)(Q:Exit->AS->Prop):Exit->AS->Prop
 |.normal,s=>k s Q
 |ex,s=>Q ex s
def qH(id:Nat)(Q:Exit->AS->Prop):Exit->AS->Prop
 |.exit id',s=>if id'=id then Q .normal s else Q (.exit id') s
 |ex,s=>Q ex s
def vQ(Q:Exit->AS->Prop):Exit->AS->Prop
 |.goto _,_=>False
 |ex,s=>Q ex s
def ng(I:AS->Prop)(μ:AS->Nat)(s:AS)(Q:Exit->AS->Prop):Exit->AS->Prop
 |.normal,s'=>I s'/\μ s'<μ s
 |ex,s'=>Q ex s'
def J3(l:Nat)(K:Bool->AM->Prop):Exit->AS->Prop
 |.normal,s=>K true (s.m.at_ l .ready)
 |.ret,s=>K false (s.m.at_ l (.done .ret))
 |.exit id,s=>K false (s.m.at_ l (.done (.exit id)))
 |_,_=>False
def Fa(l:Nat)(k:AS->Prop):Exit->AS->Prop
 |.normal,s=>s.m.st l=.ready/\k ⟨s.T,s.m.at_ l .busy⟩
 |_,_=>False
def y7(l:Nat)(T:List AV)(m:AM)(Q:Exit->AS->Prop):LS->Prop
 |.ready=>Q .normal ⟨T,m.at_ l .gone⟩
 |.done ex=>Q ex ⟨T,m.at_ l .gone⟩
 |_=>False
def Yin(l n:Nat)(k:List AV->AM->(Bool->AM->Prop)->Prop):YT:=fun l' args m K=>if l'=l then m.st l=.ready/\args.length=n/\k args m K else Y l' args m K
def vc:SC->AS->(Exit->AS->Prop)->Prop
 |.skip,s,Q=>Q .normal s
 |.ops l,s,Q=>Zz P gl orc Y l s (Q .normal)
 |.draw l l2,s,Q=>vcD P gl orc Y l2 (Q .normal) l s.T s.m []
 |.drawE fl l l2,s,Q=>vcD P gl orc Y l2 (Q .normal) l s.T s.m []\/(∃ms,nc P gl orc Y l2 (Q .normal) s.m ms l fl ms s.m s.T)\/(aek fl l=true/\∃(ms:List (AV×AM))(R:AV->AM->Prop),(∃x:AV×AM,R x.1 x.2)/\∀x:AV×AM,R x.1 x.2->lG P gl orc Y R l2 (Q .normal) s.m (ms++[x]) l fl (ms++[x]) s.m s.T)
 |.seq a b,s,Q=>vc a s (WH (vc b) Q)
 |.cond x a b,s,Q=>match ev gl s.T x with
  |.bool t=>(t=true->vc a s Q)/\(t=false->vc b s Q)
  |_=>False
 |.block id c,s,Q=>vc c s (qH id Q)
 |.loop c,s,Q=>∃(I:AS->Prop)(μ:AS->Nat),I s/\∀s',I s'->vc c s' (ng I μ s' Q)
 |.exit id,s,Q=>Q (.exit id) s
 |.scope c,s,Q=>vc c s (vQ Q)
 |.rfunc g ps lH body,s,Q=>match ev gl s.T g with
  |.fn f first cap=>s.m.st s.m.ln=.gone->an P gl (Yin Y s.m.ln ps.length fun args m K=>vc lH ⟨Qaj s.T ps args,m⟩ (Fa s.m.ln fun s'=>vc body s' (J3 s.m.ln K))) f (first++[.yld s.m.ln]++cap) (s.m.aX)
    fun _ m'=>y7 s.m.ln s.T m' Q (m'.st s.m.ln)
  |_=>False
 |.ret,s,Q=>Q .ret s
 |.bad,_,_=>False
end vc
section
variable {N:Nat} {w0:gY} {r:Option Nat} {aq:Nat->Nat->Prop} {S:G×World} {Y:YT} {P:Program} {gl:Nat->AV} {orc:Nat->FuncId->List AV->AV} {γ:G} {w:World}
def lift(N:Nat)(w0:gY)(r:Option Nat)(aq:Nat->Nat->Prop)(S:G×World)(P:Program)(gl:Nat->AV)(Y:YT)(Q:Exit->AS->Prop):Exit->Act->World->Prop:=fun ex a w=>∃γ s,fK N w0 r aq S P gl Y γ w s a/\Q ex s
def au.WI{B:Nat->Option (List AV)}{L:Nat->Option Nat}(hm:au N w0 aq γ w B L)(o:Obj):
  au N w0 aq {γ with sp:=fun b=>γ.sp b\/b=w.heap.size} (w.alloc o) B L/\Ev w γ (w.alloc o) {γ with sp:=fun b=>γ.sp b\/b=w.heap.size}:=by
 have cr:Ev w γ (w.alloc o) {γ with sp:=fun b=>γ.sp b\/b=w.heap.size}:=
  ⟨by simp,fun b o' hb hr=>⟨hr,cell_of_heap (Below.heap_alloc w o b hb)⟩,fun _ _ h=>h,fun _=>zzab _,fun _ _ h=>h,rfl,
   fun i b _ ho=>⟨ho,fun arr e he=>⟨arr,by rw[Below.heap_alloc w o b (hm.own i b ho).2.1];exact he,zzab _⟩,fun _ h=>h⟩,
   fun b hb=>⟨.inl hb,Below.heap_alloc w o b (hm.sp b hb).2.1⟩,Sz.of_same (Below.heap_alloc w o)⟩
 refine⟨⟨w0.st _ _ _ _ hm.bs ⟨rfl,rfl,rfl,by simp,fun b hb _=>Below.heap_alloc w _ b hb,cr.ro,fun b hb=>?_,fun _ _ h=>.inl h⟩,by have:=hm.hN;simp;omega,hm.aq,fun b o h=>by have:=hm.robd b o h;simp;omega,
  fun id cells b hb h1=>?_,fun id b hb=>?_,hm.inj,fun id b hb=>?_,hm.oinj,fun b hb=>?_,fun id b hb=>?_,hm.minj,hm.len,hm.cur0⟩,cr⟩
 ·obtain hb|hb|(hb|rfl)|hb:=hb
  ·exact .inl (.inl hb)
  ·exact .inl (.inr (.inl hb))
  ·exact .inl (.inr (.inr (.inl hb)))
  ·exact .inr (zzab _)
  exact .inl (.inr (.inr (.inr hb)))
 ·obtain⟨arr,e,h2,h3,h4⟩:=hm.box id cells b hb h1;exact⟨arr,e,by rw[Below.heap_alloc w _ b (aS h2)];exact h2,h3.mono cr,h4⟩
 ·obtain⟨h1,h2,h3⟩:=hm.β id b hb;exact⟨h1,by simp;omega,h3⟩
 ·obtain⟨h1,h2,h3⟩:=hm.own id b hb;exact⟨h1,by simp;omega,h3⟩
 ·obtain hb|rfl:=hb
  ·obtain⟨h1,h2,h3⟩:=hm.sp b hb;exact⟨h1,by simp;omega,h3⟩
  refine⟨hm.hN,by simp,fun o' h=>?_,fun id h=>?_,fun id h=>?_⟩
  ·have:=hm.robd _ _ h;omega
  ·have:=(hm.β id _ h).2.1;omega
  have:=(hm.own id _ h).2.1;omega
 obtain⟨h1,h2,h3,h4,h5,h6,h8,h7⟩:=hm.mm id b hb;refine⟨h1,by simp;omega,h3,h4,h5,?_,h8,h7.mono cr.dB.DL (Below.heap_alloc w o b h2)⟩;rintro(h|rfl)
 ·exact h6 h
 omega
def au.ai0{B:Nat->Option (List AV)}{L:Nat->Option Nat}(hm:au N w0 aq γ w B L){D:Nat}(hD:γ.sp D){o o0:Obj}(h0:w.heap[D]?=some o0)(hnc:∀c e f,o0≠.cells c e f)(avi:∀c e f,o≠.cells c e f)
  {γ':G}(hγ:γ'=γ\/γ'={γ with sp:=fun b=>γ.sp b/\b≠D})(aqm:γ'=γ->qo (some o0) (some o)):
  au N w0 aq γ' (w.putObj D o) B L/\Nt w γ (w.putObj D o) γ'/\(∀wS γS,eD wS γS w γ->(γ'=γ\/¬γS.sp D)->eD wS γS (w.putObj D o) γ'):=by
 have ai:D<w.heap.size:=aS h0;have cM:∀b,b≠D->(w.putObj D o).heap[b]?=w.heap[b]?:=fun b hb=>World.putObj_heap_other hb;have EP:(w.putObj D o).heap[D]?=some o:=World.putObj_heap_same ai
 have bK:∀b o',(w.putObj D o).cell? ⟨b,o',none⟩=w.cell? ⟨b,o',none⟩:=fun b o'=>by
  by_cases hb:b=D
  ·subst hb;simp only[World.cell?,EP,h0];cases o<;>cases o0<;>first|rfl|exact absurd rfl (hnc _ _ _)|exact absurd rfl (avi _ _ _)
  exact cell_of_heap (cM b hb)
 have hβ:γ'.β=γ.β:=by rcases hγ with rfl|rfl<;>rfl
 have eN:γ'.own=γ.own:=by rcases hγ with rfl|rfl<;>rfl
 have dw:γ'.cur=γ.cur:=by rcases hγ with rfl|rfl<;>rfl
 have dG:γ'.ro=γ.ro:=by rcases hγ with rfl|rfl<;>rfl
 have me:γ'.mm=γ.mm:=by rcases hγ with rfl|rfl<;>rfl
 have hlp:γ'.lp=γ.lp:=by rcases hγ with rfl|rfl<;>rfl
 have dy:∀b,γ'.sp b->γ.sp b:=by obtain rfl|rfl:=hγ;exact fun _ h=>h;exact fun _ h=>h.1
 have alp:∀b,γ.sp b->b≠D->γ'.sp b:=fun b hb h=>by
  obtain rfl|rfl:=hγ
  ·exact hb
  exact⟨hb,h⟩
 have hsz:Sz w (w.putObj D o):=fun b' arr e f h=>⟨arr,by rw[cM b' (by rintro rfl;rw[h0]at h;cases h;exact hnc _ _ _ rfl)];exact h,rfl⟩
 have aem:Nt w γ (w.putObj D o) γ':=by
  refine⟨by simp,fun b o' _ hr=>⟨by rw[dG];exact hr,bK b o'⟩,fun _ _ h=>by rw[hβ];exact h,fun _=>by rw[dw];exact zzab _,fun _ _ h=>by rw[me];exact h,fun _ _ h=>by rw[hlp];exact h,fun id b _ ho=>⟨by rw[eN];exact ho,fun arr e he=>⟨arr,?_,zzab _⟩,fun _ h=>by rw[dG]at h;exact h⟩,hsz⟩;rw[cM b (by rintro rfl;exact(hm.sp b hD).2.2.2.2 id ho)];exact he
 refine⟨⟨w0.st _ _ _ _ hm.bs ⟨rfl,rfl,rfl,by simp,fun b _ BT=>cM b (by rintro rfl;exact BT (.inr (.inr (.inl hD)))),aem.ro,fun b hb=>.inl ?_,fun b o' h=>.inl (by rw[dG]at h;exact h)⟩,by simpa using hm.hN,
  fun b o' h=>hm.aq b o' (by rw[dG]at h;exact h),fun b o' h=>by rw[dG]at h;simpa using hm.robd b o' h,fun id cells b hb h1=>?_,fun id b hb=>?_,fun id id' b h h'=>hm.inj id id' b (by rw[hβ]at h;exact h) (by rw[hβ]at h';exact h'),
  fun id b hb=>?_,fun id id' b h h'=>hm.oinj id id' b (by rw[eN]at h;exact h) (by rw[eN]at h';exact h'),fun b hb=>?_,fun id b hb=>?_,fun id id' b h h'=>hm.minj id id' b (by rw[me]at h;exact h) (by rw[me]at h';exact h'),fun id n h=>by rw[dw];exact hm.len id n h,fun id h=>by rw[dw];exact hm.cur0 id h⟩,aem,fun wS γS e hc=>?_⟩
 ·obtain⟨id,hb⟩|⟨id,hb⟩|hb|⟨F,hb⟩:=hb
  ·rw[hβ]at hb;exact .inl ⟨id,hb⟩
  ·rw[eN]at hb;exact .inr (.inl ⟨id,hb⟩)
  ·exact .inr (.inr (.inl (dy b hb)))
  rw[me]at hb;exact .inr (.inr (.inr ⟨F,hb⟩))
 ·rw[hβ]at h1;obtain⟨arr,e,h2,h3,h4⟩:=hm.box id cells b hb h1;exact⟨arr,e,by rw[cM b (by rintro rfl;exact(hm.sp b hD).2.2.2.1 id h1)];exact h2,h3.eS aem,h4⟩
 ·rw[hβ]at hb;obtain⟨h1,h2,h3,h4,h5⟩:=hm.β id b hb;exact⟨h1,by simpa using h2,by rw[dG];exact h3,by rw[eN];exact h4,h5⟩
 ·rw[eN]at hb;simpa using hm.own id b hb
 ·obtain⟨h1,h2,h3,h4,h5⟩:=hm.sp b (dy b hb);exact⟨h1,by simpa using h2,by rw[dG];exact h3,by rw[hβ];exact h4,by rw[eN];exact h5⟩
 ·rw[me]at hb;obtain⟨h1,h2,h3,h4,h5,h6,h8,h7⟩:=hm.mm id b hb;exact⟨h1,by simpa using h2,by rw[dG];exact h3,by rw[hβ];exact h4,by rw[eN];exact h5,fun h=>h6 (dy b h),by rw[hβ];exact h8,h7.mono aem (cM b (by rintro rfl;exact h6 hD))⟩
 refine⟨by simpa using e.size,fun b o' hb hr=>⟨by rw[dG];exact(e.ro b o' hb hr).1,(bK b o').trans (e.ro b o' hb hr).2⟩,fun id b h=>by rw[hβ];exact e.β id b h,fun id=>by rw[dw];exact e.cur id,fun b F h=>by rw[me];exact e.mm b F h,fun i l h=>by rw[hlp];exact e.lp i l h,fun id b p5 ho=>?_,fun b hb=>?_,e.ss.trans hsz⟩
 ·rw[dw]at p5;obtain⟨g1,g2,g3⟩:=e.own id b p5 ho;refine⟨by rw[eN];exact g1,fun arr te he=>?_,fun o' h=>g3 o' (by rw[dG]at h;exact h)⟩;obtain⟨bR,k1,k2⟩:=g2 arr te he;exact⟨bR,by rw[cM b (by rintro rfl;exact(hm.sp b hD).2.2.2.2 id g1)];exact k1,k2⟩
 obtain⟨g1,g2⟩:=e.sp b hb;by_cases hbD:b=D
 ·subst hbD;obtain rfl|hc:=hc
  ·refine⟨g1,g2.trans ?_⟩;rw[h0,EP];exact aqm rfl
  exact absurd hb hc
 exact⟨alp b g1 hbD,by rw[cM b hbD];exact g2⟩
def Jq{b:Frame}{a:Act}{k:List Item}{cs:List Frame}{w:World}{c:Code}:step P (lone (b.atR a (.code (.scope c)::k)) cs w)=.next (lone (b.atR a (.code c::.inScope c::k)) cs w):=
 step_lone_go (by simp[stepG,stepG.exec,Frame.atR])
def y8{b:Frame}{a:Act}{k:List Item}{cs:List Frame}{w:World}{c:Code}:step P (lone (b.atR a (.inScope c::k)) cs w)=.next (lone (b.atR a k) cs w):=
 step_lone_go (by simp[stepG,stepG.exec,Frame.atR])
def lI{c:Code}{Q:Exit->Act->World->Prop}{a:Act}{w:World}(h:c.wpIn (FW r) 0 P (Exit.noGoto Q) a w):(Code.scope c).wpIn (FW r) 0 P Q a w:=by
 intro b k cs dG hb hr;obtain⟨e,a₁,w₁,hq,eZ⟩:=h b (.inScope c::k) cs dG hb hr;have h0:(lone (b.atR a (.code (.scope c)::k)) cs w).fenced P (FW r):=fenced_calm hb hr rfl;cases e with
 |normal=>exact⟨.normal,a₁,w₁,hq,.head h0 Jq (StepsIn.trans eZ (.one (fenced_calm hb hr rfl) y8))⟩
 |exit id=>
  refine⟨.exit id,a₁,w₁,hq,fun k' hk=>.head h0 Jq (eZ.1 k' (by simp[exitTo,hk])),fun Af hk=>?_⟩;obtain⟨k₁,h1,h2⟩:=eZ.2 Af (by simp[exitTo,hk]);exact⟨k₁,h1,.head h0 Jq h2⟩
 |goto l=>exact hq.elim
 |ret=>exact⟨_,a₁,w₁,hq,.of_steps (.one h0 Jq) eZ⟩
 |panic ch=>exact⟨_,a₁,w₁,hq,.of_steps (.one h0 Jq) eZ⟩
 |outgrown=>exact⟨_,a₁,w₁,hq,.of_steps (.one h0 Jq) eZ⟩
def Fb{γ:G}{w:World}:∀(ps:List Nat)(args:List AV)(vs:List Value)(T:List AV)(arr:Array Value),args.length=ps.length->ak w γ args vs->ak w γ T arr.toList->
  ak w γ (Qaj T ps args) ((ps.toArray.zip vs.toArray).foldl (fun(tmps:Array Value)(p:Nat×Value)=>tmps.setIfInBounds p.1 p.2) arr).toList:=by
 intro ps args vs T arr hl hr ht
 have e:(ps.toArray.zip vs.toArray).foldl (fun(tmps:Array Value)(p:Nat×Value)=>tmps.setIfInBounds p.1 p.2) arr=(ps.zip vs).foldl (fun(tmps:Array Value)(p:Nat×Value)=>tmps.setIfInBounds p.1 p.2) arr:=by
  rw[<- Array.foldl_toList];simp
 rw[e];clear e;induction ps generalizing args vs T arr with
 |nil=>
  cases args with
  |nil=>simpa[Qaj]using ht
  |cons x xs=>simp at hl
 |cons p ps ih=>
  cases args with
  |nil=>simp at hl
  |cons x xs=>
   cases vs with
   |nil=>have:=hr.1;simp at this
   |cons v vs=>
    have h0:aB w γ x v:=hr.2 0 x v rfl rfl;have hs:ak w γ xs vs:=⟨by have:=hr.1;simpa using this,fun i x y h1 h2=>hr.2 (i+1) x y (by simpa using h1) (by simpa using h2)⟩;simp only[zzdg,zzcw,Qaj];refine ih xs vs _ _ (by simpa using hl) hs ?_;rw[zzdi];exact ht.set p h0
def cQ.put{m:AM}{i l:Nat}{rc:Loop}{x:LS}(h:cQ γ w m)(hi:γ.lp i=some l)(dy:γ.sp l)(hl:l<w.heap.size)(hx:JW x rc):cQ γ (w.putObj l (.loop rc)) (m.at_ i x):=by
 refine⟨fun i'=>?_,h.2.1,h.2.2.1,fun i' l' ew=>?_⟩
 rotate_left
 ·obtain⟨q1,r,q2⟩:=h.2.2.2 i' l' ew;by_cases y9:l'=l
  ·subst y9;exact⟨q1,rc,World.putObj_heap_same hl⟩
  exact⟨q1,r,(World.putObj_heap_other y9).trans q2⟩
 by_cases dV:i'=i
 ·subst dV;exact .inr ⟨l,hi,dy,rc,World.putObj_heap_same hl,by simpa[AM.at_,p8]using hx⟩
 rcases h.1 i' with h'|⟨l',h0,h1,r,h2,h3⟩
 ·exact .inl (by simp[AM.at_,p8,dV,h'])
 have ew:l'≠l:=by rintro rfl;exact dV (h.2.2.1 _ _ _ h0 hi)
 exact .inr ⟨l',h0,h1,r,(World.putObj_heap_other ew).trans h2,by simpa[AM.at_,p8,dV]using h3⟩
def G.dK(γ:G)(i l:Nat):G:={γ with lp:=fun j=>if j=i then some l else γ.lp j}
def Fc(w:World){γ:G}{i l:Nat}(h:γ.lp i=none):eD w γ w (γ.dK i l):=
 ⟨zzab _,fun _ _ _ h=>⟨h,rfl⟩,fun _ _ h=>h,fun _=>zzab _,fun _ _ h=>h,fun j l' hj=>by
  have:j≠i:=by rintro rfl;rw[h]at hj;cases hj
  simp[G.dK,this,hj],fun _ _ _ h=>⟨h,fun arr _ h=>⟨arr,h,zzab _⟩,fun _ h=>h⟩,fun _ h=>⟨h,.inl rfl⟩,Sz.refl w⟩
def au.dK{B:Nat->Option (List AV)}{L:Nat->Option Nat}(hm:au N w0 aq γ w B L){i l:Nat}(h:γ.lp i=none):au N w0 aq (γ.dK i l) w B L:=by
 have cr:=(Fc w h (l:=l)).DL;refine⟨w0.st _ _ _ _ hm.bs ⟨rfl,rfl,rfl,zzab _,fun _ _ _=>rfl,fun _ _ _ h=>⟨h,rfl⟩,fun _ hb=>.inl hb,fun _ _ h=>.inl h⟩,hm.hN,hm.aq,hm.robd,fun id cells b hb h1=>?_,hm.β,hm.inj,hm.own,hm.oinj,hm.sp,fun id b hb=>?_,hm.minj,hm.len,hm.cur0⟩
 ·obtain⟨arr,e,h2,h3,h4⟩:=hm.box id cells b hb h1;exact⟨arr,e,h2,h3.eS cr,h4⟩
 obtain⟨h1,h2,h3,h4,h5,h6,h8,h7⟩:=hm.mm id b hb;exact⟨h1,h2,h3,h4,h5,h6,h8,h7.mono cr rfl⟩
def oF{B:Nat->Option (List AV)}{L:Nat->Option Nat}(hm:au N w0 aq γ w B L){l:Nat}(hl:γ.sp l){rc:Loop}(h0:w.heap[l]?=some (.loop rc))(st:LoopState)(pd:Option Code):
  au N w0 aq γ (w.putObj l (.loop {rc with state:=st,pending:=pd})) B L/\eD w γ (w.putObj l (.loop {rc with state:=st,pending:=pd})) γ:=by
 obtain⟨h1,_,h3⟩:=hm.ai0 hl (o:=.loop {rc with state:=st,pending:=pd}) h0 (fun _ _ _ h=>by cases h) (fun _ _ _ h=>by cases h) (.inl rfl) (fun _=>.inr ⟨rc,st,pd,rfl,rfl⟩);exact⟨h1,h3 w γ (Ev.refl w γ).dB (.inl rfl)⟩
def Fe{g:Operand}{ps:Array Tmp}{lH body:Code}
  (ihA:∀(l:Nat)(S:G×World)(γ:G)(w:World)(s:AS)(a:Act)(Q:Exit->AS->Prop),vc P gl orc Y (Yi P lH) s Q->fK N w0 (some l) aq S P gl Y γ w s a->lH.wpIn (FW (some l)) 0 P (lift N w0 (some l) aq S P gl Y Q) a w)
  (ihB:∀(l:Nat)(S:G×World)(γ:G)(w:World)(s:AS)(a:Act)(Q:Exit->AS->Prop),vc P gl orc Y (Yi P body) s Q->fK N w0 (some l) aq S P gl Y γ w s a->body.wpIn (FW (some l)) 0 P (lift N w0 (some l) aq S P gl Y Q) a w)
  {s:AS}{a:Act}{Q:Exit->AS->Prop}(h:vc P gl orc Y (Yi P (.rangeFunc g ps lH body)) s Q)(hs:fK N w0 r aq S P gl Y γ w s a):
  (Code.rangeFunc g ps lH body).wpIn (FW r) 0 P (lift N w0 r aq S P gl Y Q) a w:=by
 simp only[Yi,vc]at h;have hg:=hs.ev g;split at h
 case h_2=>exact h.elim
 rename_i f first cap e1
 rw[e1]at hg;obtain⟨fa,ca,hv,r1,r2⟩:=hg.qq;refine wpIn_rangeFunc fun fn _=>?_
 obtain⟨l,mark,w1,γ1',rc,he,nW,hsp1',hm1',hev1',hd1',U5⟩:∃(l:Nat)(mark:List Deferred)(w1:World)(γ1:G)(df:Nat),
   (Instr.enterLoop fn a.tmps ps lH body (FW r).round).run P w=.ok (l,mark) w1/\w1.heap[l]?=some (.loop {state:=.ready,pending:=none,fn,tmps:=a.tmps,params:=ps,assign:=lH,body,defers:=df})/\γ1.sp l/\
   au N w0 aq γ1 w1 s.m.B s.m.L/\Ev w γ w1 γ1/\Dfr S.2.heap.size γ1 w1 (mark++a.defers)/\w.heap.size<=l:=by
  cases r with
  |none=>
   obtain⟨p7,fc⟩:=hs.m.WI (.deferred (some []));obtain⟨Cd,aqn⟩:=p7.WI (.loop {state:=.ready,pending:=none,fn,tmps:=a.tmps,params:=ps,assign:=lH,body,defers:=w.heap.size});refine⟨w.heap.size+1,_,_,_,w.heap.size,run_enterLoop_outer fn a.tmps ps lH body,?_,Or.inr (by simp),Cd,fc.trans aqn,?_,by omega⟩
   ·have:=World.alloc_heap_new (w.alloc (.deferred (some []))) (.loop {state:=.ready,pending:=none,fn,tmps:=a.tmps,params:=ps,assign:=lH,body,defers:=w.heap.size});simpa using this
   have hd:=hs.d.bh (fc.trans aqn).dB
   have oA:∀x∈a.defers,∀D,x.target=.collected D->D<w.heap.size:=fun x hx D hD=>by
    obtain⟨D',q1,_,_,q4⟩:=hs.d.2.1 x hx;rw[hD]at q1;cases q1;exact aS q4
   refine⟨hd.1,fun x hx=>?_,?_⟩
   ·simp only[zzae,zzai,zzau]at hx;obtain rfl|hx:=hx
    ·refine⟨w.heap.size,rfl,hs.d.1,.inl (.inr rfl),?_⟩;rw[Below.heap_alloc _ _ _ (by simp)];exact World.alloc_heap_new w _
    exact hd.2.1 x hx
   simp only[zzae,zzai,zzbw];refine⟨fun x hx D hD ov=>?_,hd.2.2⟩;simp at hD;have:=oA x hx D ov;omega
  |some l0=>
   obtain⟨nX,aqo,aqp⟩:=hs.rd l0 rfl;obtain⟨p7,fc⟩:=hs.m.WI (.loop {state:=.ready,pending:=none,fn,tmps:=a.tmps,params:=ps,assign:=lH,body,defers:=aqo.defers});exact⟨w.heap.size,[],_,_,aqo.defers,run_enterLoop_inner aqp fn a.tmps ps lH body,World.alloc_heap_new w _,Or.inr rfl,p7,fc,hs.d.bh fc.dB,zzab _⟩
 have dZ:l<w1.heap.size:=aS nW;generalize dm:s.m.ln=i at h;have WJ:=hs.ls.mono hev1';have ai1:γ1'.lp i=none:=WJ.2.1 i (by omega)
 have EW:∀j,γ1'.lp j≠some l:=fun j hj=>by
  rw[hev1'.lp]at hj;have:=(hs.m.sp l (hs.ls.2.2.2 j l hj).1).2.1;omega
 let γ1:=γ1'.dK i l
 have aqq:eD w1 γ1' w1 γ1:=Fc w1 ai1;have fc:eD w γ w1 γ1:=hev1'.dB.trans aqq;have p7:au N w0 aq γ1 w1 s.m.B s.m.L:=hm1'.dK ai1;have WK:γ1.sp l:=hsp1';have WL:γ1.lp i=some l:=by simp[γ1,G.dK]
 have hd1:=hd1'.bh aqq
 have hE:=h (by
  rcases hs.ls.1 i with h|⟨l',h0,_⟩
  ·exact h
  rw[hs.ls.2.1 i (by omega)]at h0;cases h0)
 have oo:ak w1 γ1 (first++[.yld i]++cap) (fa.toList++[.func (.yield l) #[] #[]]++ca.toList):=((r1.bh fc).append (ak.cons (.yld WL) ak.nil)).append (r2.bh fc)
 have avj:cQ γ1 w1 s.m.aX:=by
  refine⟨fun j=>?_,fun j hj=>?_,fun j j' l' h1 h2=>?_,fun j l' h1=>?_⟩
  ·by_cases hj:j=i
   ·subst hj;exact .inr ⟨l,WL,WK,_,nW,by simp[AM.aX,p8,dm,JW]⟩
   rcases WJ.1 j with h|⟨l',h0,h1,r',h2,h3⟩
   ·exact .inl (by simp[AM.aX,p8,dm,hj,h])
   exact .inr ⟨l',by simp[γ1,G.dK,hj,h0],h1,r',h2,by simpa[AM.aX,p8,dm,hj]using h3⟩
  ·have Nw:i+1<=j:=by simpa[AM.aX,dm]using hj
   have:j≠i:=by omega
   simp[γ1,G.dK,this,WJ.2.1 j (by omega)]
  ·by_cases hj:j=i<;>by_cases Nw:j'=i
   ·rw[hj,Nw]
   ·simp[γ1,G.dK,hj]at h1;simp[γ1,G.dK,Nw]at h2;subst h1;exact absurd h2 (EW j')
   ·simp[γ1,G.dK,hj]at h1;simp[γ1,G.dK,Nw]at h2;subst h2;exact absurd h1 (EW j)
   simp[γ1,G.dK,hj]at h1;simp[γ1,G.dK,Nw]at h2;exact WJ.2.2.1 j j' l' h1 h2
  by_cases hj:j=i
  ·simp[γ1,G.dK,hj]at h1;subst h1;exact⟨WK,_,nW⟩
  simp[γ1,G.dK,hj]at h1;exact WJ.2.2.2 j l' h1
 refine⟨l,mark,w1,{target:=.fn (.func f) ca,args:=fa++#[.func (.yield l) #[] #[]]},w1,f,(fa.toList++[Value.func (.yield l) #[] #[]]++ca.toList).toArray,w1,he,?_,fun _ _=>trivial,?_,fun h=>by simp[FW,Fence.wide]at h,?_⟩
 ·have hc:a.eval (.const (.func (.yield l) #[] #[]))=.func (.yield l) #[] #[]:=rfl;simp[resolve,hv,hc,Deferred.ofValue,rangeCall]
 ·simp[invoke,Qdi hE.1]
 have WM:=hE.2 N w0 aq γ1 w1 _ p7 avj (fun g=>(hs.g g).bh fc.cT) ?_ oo
 ·refine CallsIn.mono (F:=FW r) (n:=0) (show CallsIn (FW r) 0 P f _ w1 _ from WM) ?_;rintro en w3 ⟨v,γ3,r',m',rfl,g1,g2,g3,g4,g5⟩;have avk:=(g1.sp l WK).1
  have fin:∀(QB:Loop)(pd:Option Code),w3.heap[l]?=some (.loop QB)->(∀ex,ex=Exit.normal/\pd=none\/pd=qC ex/\pd.isSome=true->QB.state≠.busy->QB.pending=pd->Q ex ⟨s.T,m'.at_ i .gone⟩->rangePost (FW r) 0 P l (lift N w0 r aq S P gl Y Q) {a with defers:=mark++a.defers} (.returned v) w3):=by
   intro QB pd aqr ex hex hnb hpd hQ;obtain⟨hm4,aqs⟩:=oF g2 avk aqr .exhausted QB.pending;refine⟨QB.pending,_,run_endLoop aqr hnb,?_⟩;have cr:eD w γ (w3.putObj l (.loop {QB with state:=.exhausted})) γ3:=(fc.trans g1).trans aqs
   have E4:fK N w0 r aq S P gl Y γ3 (w3.putObj l (.loop {QB with state:=.exhausted})) ⟨s.T,m'.at_ i .gone⟩ {a with defers:=mark++a.defers}:=by
    have aen:=g1.lp i l WL;refine⟨hm4,?_,hs.rd.bh cr,hs.t.bh cr,hd1.bh (g1.trans aqs),fun g=>(hs.g g).bh cr.cT,hs.y.mono cr,hs.e.trans cr⟩;refine⟨fun j=>?_,g3.2.1,g3.2.2.1,fun j l' ew=>?_⟩
    rotate_left
    ·obtain⟨q1,r,q2⟩:=g3.2.2.2 j l' ew;by_cases y9:l'=l
     ·subst y9;exact⟨q1,_,World.putObj_heap_same (aS q2)⟩
     exact⟨q1,r,(World.putObj_heap_other y9).trans q2⟩
    by_cases hj:j=i
    ·exact .inl (by simp[AM.at_,p8,hj])
    rcases g3.1 j with h|⟨l',h0,h1,r',h2,h3⟩
    ·exact .inl (by simp[AM.at_,p8,hj,h])
    have ew:l'≠l:=by rintro rfl;exact hj (g3.2.2.1 _ _ _ h0 aen)
    exact .inr ⟨l',h0,h1,r',(World.putObj_heap_other ew).trans h2,by simpa[AM.at_,p8,hj]using h3⟩
   generalize w3.putObj l (.loop {QB with state:=.exhausted})=w4 at E4;rw[hpd];obtain⟨rfl,rfl⟩|⟨hex,WN⟩:=hex
   ·exact⟨γ3,_,E4,hQ⟩
   cases ex with
   |ret=>simp only[qC]at hex;subst hex;exact wpIn_ret ⟨γ3,_,E4,hQ⟩
   |exit id=>simp only[qC]at hex;subst hex;exact wpIn_exit ⟨γ3,_,E4,hQ⟩
   |_=>simp only[qC]at hex;subst hex;cases WN
  have hl3:=g3.1 i;have aen:=g1.lp i l WL;cases bU:m'.st i with
  |gone=>rw[bU]at g5;exact g5.elim
  |busy=>rw[bU]at g5;exact g5.elim
  |ready=>
   rw[bU]at g5 hl3;obtain hl3|⟨l',q0,_,QB,q1,q2⟩:=hl3
   ·cases hl3
   obtain rfl:l'=l:=Option.some.inj (q0.symm.trans aen);exact fin QB none q1 .normal (.inl ⟨rfl,rfl⟩) (by rw[q2.1];simp) q2.2 g5
  |done ex=>
   rw[bU]at g5 hl3;obtain hl3|⟨l',q0,_,QB,q1,q2⟩:=hl3
   ·cases hl3
   obtain rfl:l'=l:=Option.some.inj (q0.symm.trans aen);exact fin QB _ q1 ex (.inr ⟨rfl,q2.2.2⟩) (by rw[q2.1];simp) q2.2.1 g5
 intro γ' w' WO i' args m K vs fG aqt Af hY l' aeo;unfold Yin at hY;split at hY
 case isFalse=>exact hs.y γ' w' (fc.trans WO) i' args m K vs fG aqt Af hY l' aeo
 rename_i dV;subst dV;obtain rfl:l'=l:=Option.some.inj (aeo.symm.trans (WO.lp _ _ WL));obtain⟨gC,aH,hY⟩:=hY
 have NM:∃st pd,w'.heap[l']?=some (.loop {state:=st,pending:=pd,fn,tmps:=a.tmps,params:=ps,assign:=lH,body,defers:=rc}):=by
  rcases(WO.sp l' WK).2 with h|⟨r0,st,pd,h,h'⟩
  ·rw[nW]at h;exact⟨_,_,h⟩
  rw[nW]at h;cases h;exact⟨st,pd,h'⟩
 obtain⟨st,pd,NM⟩:=NM;have alp:=(WO.sp l' WK).1;have alq:=fc.trans WO;have hps:vs.toArray.size=ps.size:=by have:=Af.1;simp at this aH |-;omega
 refine⟨fn,_,lH,body,run_yield NM hps,roundIn_of_wpIn (F:=FW none) trivial ?_⟩
 have aqu:fK N w0 (some l') aq (γ',w') P gl Y γ' w' ⟨Qaj s.T ps.toList args,m⟩ {tmps:=(ps.zip vs.toArray).foldl (fun(tmps:Array Value)(p:Nat×Value)=>tmps.setIfInBounds p.1 p.2) a.tmps,defers:=[]}:=by
  refine⟨fG,aqt,fun l hl=>?_,?_,⟨zzab _,fun x hx=>(by cases hx),List.Pairwise.nil⟩,fun g=>(hs.g g).bh alq.cT,hs.y.mono alq,(Ev.refl w' γ').dB⟩
  ·cases hl;exact⟨alp,_,NM⟩
  have:=Fb ps.toList args vs s.T a.tmps aH Af (hs.t.bh alq);simpa using this
 refine wpIn_mono (ihA l' (γ',w') γ' w' _ _ _ hY aqu) ?_;rintro ex a2 w2 ⟨γ2,s2,J4,hq2⟩;cases ex with
 |normal=>
  obtain⟨avl,hq2⟩:=hq2;have Az:=J4.ls.1 i';rw[avl]at Az;have aqv:=J4.e.lp _ _ aeo;obtain Az|⟨l2,q0,hsp2,rc2,q1,q2⟩:=Az
  ·cases Az
  obtain rfl:l'=l2:=Option.some.inj (aqv.symm.trans q0);obtain⟨hm3,QC⟩:=oF J4.m hsp2 q1 .busy rc2.pending;refine⟨_,run_beginRound q1 q2.1,?_⟩
  have aqw:fK N w0 (some l') aq (γ',w') P gl Y γ2 (w2.putObj l' (.loop {rc2 with state:=.busy})) ⟨s2.T,s2.m.at_ i' .busy⟩ a2:=
   ⟨hm3,J4.ls.put aqv hsp2 (aS q1) rfl,J4.rd.bh QC,J4.t.bh QC,J4.d.bh QC,fun g=>(J4.g g).bh QC.cT,J4.y.mono QC,J4.e.trans QC⟩
  refine wpIn_mono (ihB l' (γ',w') γ2 _ _ _ _ hq2 aqw) ?_;rintro ex a4 w4 ⟨γ4,s4,hs4,hq4⟩;obtain⟨QD,rc4,q4⟩:=hs4.rd _ rfl;have alr:=hs4.e.lp _ _ aeo;cases ex with
  |normal=>
   obtain⟨hm5,WQ⟩:=oF hs4.m QD q4 .ready none;exact⟨_,_,run_endRound none q4,true,γ4,s4.m.at_ i' .ready,rfl,hs4.e.trans WQ,hm5,hs4.ls.put alr QD (aS q4) ⟨rfl,rfl⟩,hq4⟩
  |ret=>
   obtain⟨hm5,WQ⟩:=oF hs4.m QD q4 .done (some .ret);exact⟨_,_,run_endRound (some .ret) q4,false,γ4,s4.m.at_ i' (.done .ret),rfl,hs4.e.trans WQ,hm5,hs4.ls.put alr QD (aS q4) ⟨rfl,rfl,rfl⟩,hq4⟩
  |exit id=>
   obtain⟨hm5,WQ⟩:=oF hs4.m QD q4 .done (some (.exit id));exact⟨_,_,run_endRound (some (.exit id)) q4,false,γ4,s4.m.at_ i' (.done (.exit id)),rfl,hs4.e.trans WQ,hm5,hs4.ls.put alr QD (aS q4) ⟨rfl,rfl,rfl⟩,hq4⟩
  |_=>exact hq4.elim
 |_=>exact hq2.elim
def Jc:∀(c:Code)(r:Option Nat)(S:G×World)(γ:G)(w:World)(s:AS)(a:Act)(Q:Exit->AS->Prop),vc P gl orc Y (Yi P c) s Q->fK N w0 r aq S P gl Y γ w s a->c.wpIn (FW r) 0 P (lift N w0 r aq S P gl Y Q) a w
 |.skip,r,S,γ,w,s,a,Q,h,hs=>wpIn_skip ⟨γ,s,hs,h⟩
 |.label _,r,S,γ,w,s,a,Q,h,hs=>wpIn_label ⟨γ,s,hs,h⟩
 |.region id ops false,r,S,γ,w,s,a,Q,h,hs=>by
  refine wpIn_region ?_;have:=rV (P:=P) (orc:=orc) (ops:=ops) (Q:=lift N w0 r aq S P gl Y Q) (K:=Q .normal) (fun γ w s a hK hs=>⟨γ,s,hs,hK⟩) ops.size 0 γ w s a (by simp) (by simpa[Yi,vc]using h) hs;rwa [zzfq]
 |.region id ops true,r,S,γ,w,s,a,Q,h,hs=>by
  simp only[Yi]at h;split at h
  case isFalse=>exact h.elim
  rename_i hc;simp only[zzak]at hc;split at h
  ·rename_i j hj;obtain h|⟨ms,h⟩|⟨hb,ms,R,hR,h⟩:=h
   ·exact wpIn_region_any hc.1 (vK (Q:=lift N w0 r aq S P gl Y Q) (K:=Q .normal) (fun γ w s a hK hs=>⟨γ,s,hs,hK⟩) hc.2 h hs)
   ·exact wpIn_region_any hc.1 (E6 (Q:=lift N w0 r aq S P gl Y Q) (K:=Q .normal) (fun γ w s a hK hs=>⟨γ,s,hs,hK⟩) hc.2 hj (oD _ _ _ _ (qG hc.2) h) hs)
   exact wpIn_region_any hc.1 (E9 (Q:=lift N w0 r aq S P gl Y Q) (K:=Q .normal) (fun γ w s a hK hs=>⟨γ,s,hs,hK⟩) hc.2 hj (alo hc.2 hb) hR (fun x hx=>oE _ _ _ _ (qG hc.2) (h x hx)) hs)
  exact wpIn_region_any hc.1 (vK (Q:=lift N w0 r aq S P gl Y Q) (K:=Q .normal) (fun γ w s a hK hs=>⟨γ,s,hs,hK⟩) hc.2 h hs)
 |.seq x y,r,S,γ,w,s,a,Q,h,hs=>by
  refine wpIn_seq (wpIn_mono (Jc x r S γ w s a _ h hs) ?_);rintro ex a' w' ⟨γ',s',iz,h'⟩;cases ex with
  |normal=>exact Jc y r S γ' w' s' a' Q h' iz
  |_=>exact⟨γ',s',iz,h'⟩
 |.cond c x y,r,S,γ,w,s,a,Q,h,hs=>by
  simp only[Yi,vc]at h;have hr:=hs.ev c;split at h
  case h_2=>exact h.elim
  rename_i t ht;rw[ht]at hr;exact wpIn_cond_split hr.bA (fun e=>Jc x r S γ w s a Q (h.1 e) hs) fun e=>Jc y r S γ w s a Q (h.2 e) hs
 |.block id c,r,S,γ,w,s,a,Q,h,hs=>by
  refine wpIn_block (wpIn_mono (Jc c r S γ w s a _ h hs) ?_);rintro ex a' w' ⟨γ',s',iz,h'⟩;cases ex with
  |exit id'=>
   simp only[Exit.inBlock,qH]at h' |-
   split
   ·rename_i aO;rw[if_pos aO]at h';exact⟨γ',s',iz,h'⟩
   rename_i aO;rw[if_neg aO]at h';exact⟨γ',s',iz,h'⟩
  |_=>exact⟨γ',s',iz,h'⟩
 |.loop c,r,S,γ,w,s,a,Q,h,hs=>by
  obtain⟨I,μ,h0,Af⟩:=h;intro b k cs dG hb hr
  have key:∀j γ w s a,μ s=j->I s->fK N w0 r aq S P gl Y γ w s a->∃e a' w',lift N w0 r aq S P gl Y Q e a' w'/\ArrivesIn (Machine.fenced P (FW r)) P (lone (b.atR a (.code c::.inLoop c::k)) cs w) b k cs e a' w':=by
   intro j;induction j using Nat.strongRecOn with
   |_ j ih=>
    intro γ w s a hn hI hs;obtain⟨e,a₁,w₁,⟨γ₁,s₁,hs₁,hq⟩,eZ⟩:=Jc c r S γ w s a _ (Af s hI) hs b (.inLoop c::k) cs dG hb hr;cases e with
    |normal=>
     obtain⟨hI₁,ai⟩:=hq;obtain⟨e₂,a₂,w₂,hq₂,aqx⟩:=ih (μ s₁) (hn ▸ ai) γ₁ w₁ s₁ a₁ rfl hI₁ hs₁;exact⟨e₂,a₂,w₂,hq₂,.of_steps (StepsIn.trans eZ (.one (fenced_calm hb hr rfl) stepR_inLoop)) aqx⟩
    |exit id=>exact⟨_,a₁,w₁,⟨γ₁,s₁,hs₁,hq⟩,.pass (x:=.inLoop c) rfl (fun _ _=>.inl (by simp)) eZ⟩
    |goto l=>exact⟨_,a₁,w₁,⟨γ₁,s₁,hs₁,hq⟩,.pass (x:=.inLoop c) rfl (fun _ _=>.inl (by simp)) eZ⟩
    |ret=>exact⟨_,a₁,w₁,⟨γ₁,s₁,hs₁,hq⟩,.pass (x:=.inLoop c) rfl (fun _ _=>.inl (by simp)) eZ⟩
    |panic ch=>exact⟨_,a₁,w₁,⟨γ₁,s₁,hs₁,hq⟩,.pass (x:=.inLoop c) rfl (fun _ _=>.inl (by simp)) eZ⟩
    |outgrown=>exact⟨_,a₁,w₁,⟨γ₁,s₁,hs₁,hq⟩,.pass (x:=.inLoop c) rfl (fun _ _=>.inl (by simp)) eZ⟩
  obtain⟨e,a',w',hq,eZ⟩:=key _ γ w s a rfl h0 hs;exact⟨e,a',w',hq,.of_steps (.one (fenced_calm hb hr rfl) stepR_loop) eZ⟩
 |.exit id,r,S,γ,w,s,a,Q,h,hs=>wpIn_exit ⟨γ,s,hs,h⟩
 |.ret,r,S,γ,w,s,a,Q,h,hs=>wpIn_ret ⟨γ,s,hs,h⟩
 |.scope c,r,S,γ,w,s,a,Q,h,hs=>by
  refine lI (wpIn_mono (Jc c r S γ w s a _ h hs) ?_);rintro ex a' w' ⟨γ',s',iz,h'⟩;cases ex with
  |goto l=>exact h'.elim
  |_=>exact⟨γ',s',iz,h'⟩
 |.rangeFunc g ps lH body,r,S,γ,w,s,a,Q,h,hs=>Fe (fun l S γ w s a Q h hs=>Jc lH (some l) S γ w s a Q h hs) (fun l S γ w s a Q h hs=>Jc body (some l) S γ w s a Q h hs) h hs
 |.goto l,r,S,γ,w,s,a,Q,h,hs=>h.elim
 |.refuse why,r,S,γ,w,s,a,Q,h,hs=>h.elim
end
open Go Go.RowKit
section
variable {N:Nat} {w0:gY} {aq:Nat->Nat->Prop} {γ:G} {w:World} {B:Nat->Option (List AV)} {L:Nat->Option Nat} {P:Program} {gl:Nat->AV} {orc:Nat->FuncId->List AV->AV} {e:bN->AV} {m:AM}
def WR(P:Program)(t:TypeId)(x:bN):aF:=
 (match P.info? t,P.underlying t with|some i,some _=>if Ui P t then .load true i.size x else .load false 1 x|_,_=>.bad)
def WS(hm:au N w0 aq γ w B L)(hB:∀id cells,m.boxes[id]?=some cells->B id=some cells){t:TypeId}{x:bN}{v0:Value}(h1:aB w γ (e x) v0)
  (hc:(rop P gl orc e m none (WR P t x)).1):∃b o v,v0=.pointer (some ⟨b,o,none⟩)/\(loadVar t ⟨b,o,none⟩).run P w=.ok v w/\aB w γ (rop P gl orc e m none (WR P t x)).2 v:=by
 unfold WR at hc |-
 split at hc
 case h_2=>exact hc.elim
 rename_i i d hi hd
 have main:∀(agg:Bool)(n:Nat),Ui P t=agg->(agg=true->n=i.size)->(rop P gl orc e m none (.load agg n x)).1->
   ∃b o v,v0=.pointer (some ⟨b,o,none⟩)/\(loadVar t ⟨b,o,none⟩).run P w=.ok v w/\aB w γ (rop P gl orc e m none (.load agg n x)).2 v:=by
  intro agg n bD hn hc
  have conv:∀b o v,(Instr.loadAt t (.pointer (some ⟨b,o,none⟩))).run P w=.ok v w->(loadVar t ⟨b,o,none⟩).run P w=.ok v w:=fun b o v h=>by
   simpa[Instr.loadAt,Instr.sureAddr]using h
  simp only[rop]at hc |-
  split at hc
  ·rename_i id o' he;try simp only[he]
   rw[he]at h1;obtain⟨b,hb,hv⟩:=h1.dD;cases gi:m.boxes[id]? with
   |none=>
    have e0:m.boxes.getD id []=[]:=by simp[List.getD,gi]
    rw[e0]at hc |-
    obtain⟨v,h2,h3⟩:=Qcw (P:=P) (w:=w) (γ:=γ) (b:=b) (o:=o') (cv:=fun _=>undef) hi hd bD hn (fun j c hj=>by simp at hj) (fun j c hj=>by simp at hj) hc;exact⟨b,o',v,hv,conv _ _ _ h2,h3⟩
   |some cells=>
    have e0:m.boxes.getD id []=cells:=by simp[List.getD,gi]
    rw[e0]at hc |-
    obtain⟨arr,te,g2,g3,g4⟩:=hm.box id cells b (hB id cells gi) hb
    have cm:∀(j:Nat)(c:AV),(cells.drop o')[j]?=some c->arr[o'+j]?=some (arr.getD (o'+j) undef)/\aB w γ c (arr.getD (o'+j) undef):=fun j c hj=>by
     rw[zzbj]at hj
     have ai:o'+j<arr.size:=by
      have:=(zza.1 hj).1;have h0:=g3.1;simp at h0;omega
     have hu:arr[o'+j]?=some (arr.getD (o'+j) undef):=by simp[ai]
     exact⟨hu,g3.2 _ _ _ hj (by simpa using hu)⟩
    obtain⟨v,h2,h3⟩:=Qcw (P:=P) (w:=w) (γ:=γ) (b:=b) (o:=o') (cv:=fun j=>arr.getD (o'+j) undef) hi hd bD hn (fun j c hj=>by rw[aL g2];exact(cm j c hj).1) (fun j c hj=>(cm j c hj).2) hc;exact⟨b,o',v,hv,conv _ _ _ h2,h3⟩
  ·rename_i row o' he;try simp only[he]
   rw[he]at h1;obtain⟨b,off,cv,hv,hb,bK,yT⟩:=h1.iO;have cm:∀(j:Nat)(c:AV),(row.drop o')[j]?=some c->row[o'+j]?=some c:=fun j c hj=>by rw[zzbj]at hj;exact hj
   obtain⟨v,h2,h3⟩:=Qcw (P:=P) (w:=w) (γ:=γ) (b:=b) (o:=off+o') (cv:=fun j=>cv (o'+j)) hi hd bD hn
    (fun j c hj=>by rw[zzao];exact(bK _ _ (cm j c hj)).1) (fun j c hj=>(yT _ _ (cm j c hj)).gh) hc
   exact⟨b,off+o',v,hv,conv _ _ _ h2,h3⟩
  exact hc.elim
 cases bD:Ui P t with
 |true=>simp only[bD,if_true]at hc |-;exact main true _ bD (fun _=>rfl) hc
 |false=>simp only[bD]at hc |-;exact main false 1 bD (fun h=>by cases h) hc
end
def fM(P:Program)(rs:List ResultVar):List aF:=rs.map fun
 |.tmp t=>.mv (.tmp t)
 |.cell a t=>WR P t (.tmp a)
def Kk(P:Program)(gl:Nat->AV)(orc:Nat->FuncId->List AV->AV)(s:AS):List aF->Prop×List AV
 |[]=>(True,[])
 |o::r=>((rop P gl orc (ev gl s.T) s.m none o).1/\(Kk P gl orc s r).1,(rop P gl orc (ev gl s.T) s.m none o).2::(Kk P gl orc s r).2)
def oneOf:List AV->AV
 |[a]=>a
 |l=>.aV l
section
variable {N:Nat} {w0:gY} {r:Option Nat} {aq:Nat->Nat->Prop} {S:G×World} {Y:YT} {γ:G} {w:World} {P:Program} {gl:Nat->AV} {orc:Nat->FuncId->List AV->AV} {s:AS} {a:Act}
def NN(hs:fK N w0 r aq S P gl Y γ w s a):∀(rs:List ResultVar),(Kk P gl orc s (fM P rs)).1->
  ∃vs:List Value,(rs.mapM fun(r:ResultVar)=>(match r with|.tmp t=>pure (a.tmps.getD t undef)|.cell x t=>do loadVar t (<- asAddr (a.tmps.getD x undef)):Sem Value)).run P w=.ok vs w/\
   ak w γ (Kk P gl orc s (fM P rs)).2 vs
 |[],_=>⟨[],by simp,ak.nil⟩
 |r::rs,hc=>by
  obtain⟨h1,h2⟩:=hc;obtain⟨vs,g1,g2⟩:=NN hs rs h2
  have key:∃v,(match r with|.tmp t=>pure (a.tmps.getD t undef)|.cell x t=>do loadVar t (<- asAddr (a.tmps.getD x undef)):Sem Value).run P w=.ok v w/\
    aB w γ (rop P gl orc (ev gl s.T) s.m none ((fun(r:ResultVar)=>match r with|.tmp t=>aF.mv (.tmp t)|.cell a t=>WR P t (.tmp a)) r)).2 v:=by
   cases r with
   |tmp t=>exact⟨a.tmps.getD t undef,by simp,hs.ev (.tmp t)⟩
   |cell x t=>
    obtain⟨b,o,v,e1,e2,e3⟩:=WS (P:=P) (gl:=gl) (orc:=orc) (e:=ev gl s.T) (m:=s.m) hs.m (fun _ _ h=>h) (t:=t) (x:=.tmp x) (v0:=a.tmps.getD x undef) (hs.ev (.tmp x)) h1;refine⟨v,?_,e3⟩;simp only[e1,Sem.run_bind,asAddr,Sem.run_pure,Result.andThen_ok,e2]
  obtain⟨v,k1,k2⟩:=key;refine⟨v::vs,?_,ak.cons k2 g2⟩;simp only[zzhd,Sem.run_bind,k1,Result.andThen_ok,g1,Sem.run_pure]
def Ff(hs:fK N w0 r aq S P gl Y γ w s a){fn:Func}(hc:(Kk P gl orc s (fM P fn.results.toList)).1):∃v,(results fn a.tmps).run P w=.ok v w/\aB w γ (oneOf (Kk P gl orc s (fM P fn.results.toList)).2) v:=by
 obtain⟨vs,h1,h2⟩:=NN (P:=P) (orc:=orc) hs fn.results.toList hc
 have aY:(results fn a.tmps).run P w=.ok (if h:vs.toArray.size=1 then vs.toArray[0]else .tuple vs.toArray) w:=by
  simp only[results,Sem.run_bind,Array.mapM_eq_mapM_toList,Sem.run_map];exact congrArg (fun(z:Result (List Value))=>(z.andThen fun a w'=>Result.ok a.toArray w').andThen fun(a:Array Value)w'=>Sem.run P (pure (if h:a.size=1 then a[0]else Value.tuple a):Sem Value) w') h1
 refine⟨_,aY,?_⟩;generalize(Kk P gl orc s (fM P fn.results.toList)).2=as at h2
 match as,vs,h2 with
 |[],[],h2=>exact .aV rfl fun i c v h=>by simp at h
 |[],_::_,h2=>have:=h2.1;simp at this
 |_::_,[],h2=>have:=h2.1;simp at this
 |[x],[v],h2=>exact h2.2 0 x v rfl rfl
 |[x],_::_::_,h2=>have:=h2.1;simp at this
 |_::_::_,[v],h2=>have:=h2.1;simp at this
 |x::y::as,v::u::vs,h2=>
  simp only[oneOf];rw[dif_neg (by simp)];exact .aV (by simpa using h2.1) fun i c v' g1 g2=>h2.2 i c v' g1 (by simpa using g2)
def post(P:Program)(gl:Nat->AV)(orc:Nat->FuncId->List AV->AV)(rs:List aF)(r:AV):Exit->AS->Prop
 |.normal,s=>(Kk P gl orc s rs).1/\bF s.m 6 (oneOf (Kk P gl orc s rs).2)=r
 |.ret,s=>(Kk P gl orc s rs).1/\bF s.m 6 (oneOf (Kk P gl orc s rs).2)=r
 |_,_=>False
def vR(P:Program)(gl:Nat->AV)(orc:Nat->FuncId->List AV->AV)(rs:List aF)(K:AV->AM->Prop):Exit->AS->Prop
 |.normal,s=>(Kk P gl orc s rs).1/\K (oneOf (Kk P gl orc s rs).2) s.m
 |.ret,s=>(Kk P gl orc s rs).1/\K (oneOf (Kk P gl orc s rs).2) s.m
 |_,_=>False
def Y0:YT:=fun _ _ _ _=>False
def fK.y0(h:fK N w0 r aq S P gl Y γ w s a):fK N w0 r aq S P gl Y0 γ w s a:=⟨h.m,h.ls,h.rd,h.t,h.d,h.g,fun _ _ _ _ _ _ _ _ _ _ _ hY _ _=>hY.elim,h.e⟩
def rZ{fn:Func}{R:Ending->World->Prop}(hS:∀b,S.1.sp b->b<S.2.heap.size):∀(ds:List Deferred)(γ:G)(w:World)(s:AS)(a:Act),a.defers=ds->fK N w0 none aq S P gl Y0 γ w s a->
  (Kk P gl orc s (fM P fn.results.toList)).1->
  (∀v w' γ',eD S.2 S.1 w' γ'->au N w0 aq γ' w' s.m.B s.m.L->cQ γ' w' s.m->aB w' γ' (oneOf (Kk P gl orc s (fM P fn.results.toList)).2) v->R (.returned v) w')->LeavesInM (FW none) 0 P fn a.tmps R ds .returning w
 |[],γ,w,s,a,_,hs,h1,hR=>by
  obtain⟨v,g1,g2⟩:=Ff (P:=P) (orc:=orc) hs h1;exact⟨v,g1,hR v w γ hs.e hs.m hs.ls g2⟩
 |d::ds,γ,w,s,a,hd,hs,hc,hR=>by
  obtain⟨D,e1,e0,e2,e3⟩:=hs.d.2.1 d (by rw[hd];simp);refine⟨by simp,.inl ⟨D,w.putObj D (.deferred none),e1,run_takeDeferred e3,?_⟩⟩;have hDS:¬S.1.sp D:=fun h=>by have:=hS D h;omega
  obtain⟨fG,cr,avm⟩:=hs.m.ai0 e2 (o:=.deferred none) e3 (fun _ _ _ h=>by cases h) (fun _ _ _ h=>by cases h) (γ':={γ with sp:=fun b=>γ.sp b/\b≠D}) (.inr rfl) (fun h=>by
   have:=congrFun (congrArg G.sp h) D;simp[e2]at this)
  have hpw:=hs.d.2.2;rw[hd,zzbw]at hpw;refine rZ hS ds {γ with sp:=fun b=>γ.sp b/\b≠D} (w.putObj D (.deferred none)) s {a with defers:=ds} rfl ⟨fG,⟨fun i=>?_,hs.ls.2.1,hs.ls.2.2.1,fun i l hl=>?_⟩,fun l h=>(by cases h),hs.t.eS cr,⟨by simpa using hs.d.1,fun x hx=>?_,hpw.2⟩,fun g=>(hs.g g).eS cr.cT,fun _ _ _ _ _ _ _ _ _ _ _ hY _ _=>hY.elim,avm _ _ hs.e (.inr hDS)⟩ hc hR
  ·rcases hs.ls.1 i with h|⟨l,h0,h1,rc,h2,h3⟩
   ·exact .inl h
   have aJ:l≠D:=by rintro rfl;rw[e3]at h2;cases h2
   exact .inr ⟨l,h0,⟨h1,aJ⟩,rc,(World.putObj_heap_other aJ).trans h2,h3⟩
  ·obtain⟨h1,rc,h2⟩:=hs.ls.2.2.2 i l hl;have aJ:l≠D:=by rintro rfl;rw[e3]at h2;cases h2
   exact⟨⟨h1,aJ⟩,rc,(World.putObj_heap_other aJ).trans h2⟩
  obtain⟨D',q1,q0,q2,q3⟩:=hs.d.2.1 x (by rw[hd];simp[hx]);have aJ:D'≠D:=by rintro rfl;exact hpw.1 x hx D' e1 q1
  exact⟨D',q1,q0,⟨q2,aJ⟩,(World.putObj_heap_other aJ).trans q3⟩
def aep(w0:World):gY where
 p γ w:=Below w0.heap.size w0 w/\∀b,OI γ b->w0.heap.size<=b
 st γ w γ' w' h hc:=by
  refine⟨h.1.trans ⟨hc.os,hc.tape,hc.output,hc.size,fun b hb=>hc.same b (zzbb hb h.1.size) fun ho=>?_⟩,fun b hb=>?_⟩
  ·have:=h.2 b ho;omega
  rcases hc.oi b hb with hb|hb
  ·exact h.2 b hb
  exact zzbq h.1.size hb
def QE{as:List AV}{vs:List Value}{k:Nat}(h:ak w γ as vs):ak w γ (as++List.replicate (k-as.length) .junk) (vs.toArray++Array.replicate (k-vs.toArray.size) undef).toList:=by
 have aH:=h.1
 have h2:ak w γ (List.replicate (k-as.length) .junk) (List.replicate (k-vs.length) undef):=⟨by simp[aH],fun i x v hx _=>by
  rw[zzcl]at hx;split at hx
  ·cases hx;exact .junk _
  cases hx⟩
 simpa using h.append h2
def c9(P:Program)(f:FuncId)(sc:SC)(rs:List aF)(n:Nat):Prop:=
 ∃fn c,P.funcs[f]?=some fn/\fn.body=some c/\(fn.name== "runtime.NumGoroutine")=false/\Yi P c=sc/\fM P fn.results.toList=rs/\fn.ntmps=n
def fco{P:Program}{f:FuncId}{fn:Func}{c:Code}{sc:SC}{rs:List aF}{n:Nat}(h:P.funcs[f]?=some fn)(hb:fn.body=some c)(hk:((fn.name== "runtime.NumGoroutine"),Yi P c,fM P fn.results.toList,fn.ntmps)=(false,sc,rs,n)):c9 P f sc rs n:=by
 obtain⟨h1,h2⟩:=Prod.mk.inj hk;obtain⟨h2,h3⟩:=Prod.mk.inj h2;obtain⟨h3,h4⟩:=Prod.mk.inj h3;exact⟨fn,c,h,hb,h1,h2,h3,h4⟩
def aI{P:Program}{f:FuncId}{fn:Func}{c:Code}{sc:SC}{rs:List aF}{n:Nat}(h:P.funcs[f]?=some fn)(hb:fn.body=some c:=by rfl)(hk:((fn.name== "runtime.NumGoroutine"),Yi P c,fM P fn.results.toList,fn.ntmps)=(false,sc,rs,n):=by kernel_rfl):c9 P f sc rs n:=fco h hb hk
def alu{f:FuncId}{sc:SC}{rs:List aF}{n:Nat}(hc:c9 P f sc rs n)(orc:Nat->FuncId->List AV->AV){as:List AV}{m:AM}{K:AV->AM->Prop}
  (h:vc P gl orc Y sc ⟨as++List.replicate (n-as.length) .junk,m⟩ (vR P gl orc rs K)){vs:List Value}(hm:au N w0 aq γ w m.B m.L)(hl:cQ γ w m)(hg:∀g,aB w γ.cT (gl g) (.pointer (some ⟨g,0,none⟩)))
  (hy:YOK N w0 aq P Y γ w)(hr:ak w γ as vs):
  CallsIn (FW none) 0 P f vs.toArray w fun e w'=>∃v γ' r m',e=.returned v/\eD w γ w' γ'/\au N w0 aq γ' w' m'.B m'.L/\cQ γ' w' m'/\aB w' γ' r v/\K r m':=by
 obtain⟨fn,c,hf,hb,ai2,rfl,rfl,rfl⟩:=hc;refine callsIn_of_wp_marks (F:=FW none) hf hb trivial ?_
 have hs:fK N w0 none aq (γ,w) P gl Y γ w ⟨as++List.replicate (fn.ntmps-as.length) .junk,m⟩ {tmps:=vs.toArray++Array.replicate (fn.ntmps-vs.toArray.size) undef,defers:=[]}:=
  ⟨hm,hl,fun l h=>(by cases h),QE hr,⟨zzab _,fun x hx=>(by cases hx),List.Pairwise.nil⟩,hg,hy,(Ev.refl w γ).dB⟩
 refine wpIn_mono (Jc c none (γ,w) γ w _ _ _ h hs) ?_
 have fin:∀γ' w' s a,fK N w0 none aq (γ,w) P gl Y γ' w' s a->(Kk P gl orc s (fM P fn.results.toList)).1/\K (oneOf (Kk P gl orc s (fM P fn.results.toList)).2) s.m->
   LeavesInM (FW none) 0 P fn a.tmps (fun e w'=>∃v γ' r m',e=.returned v/\eD w γ w' γ'/\au N w0 aq γ' w' m'.B m'.L/\cQ γ' w' m'/\aB w' γ' r v/\K r m') a.defers .returning w':=
  fun γ' w' s a iz hc=>rZ (S:=(γ,w)) (fun b hb=>(hm.sp b hb).2.1) a.defers γ' w' s a rfl iz.y0 hc.1 fun v yR JE q1 q2 q3 q4=>⟨v,JE,_,_,rfl,q1,q2,q3,q4,hc.2⟩
 rintro ex a w' ⟨γ',s,iz,h'⟩;cases ex with
 |normal=>exact fin γ' w' s a iz h'
 |ret=>exact fin γ' w' s a iz h'
 |_=>exact h'.elim
def c9.bC{f:FuncId}{sc:SC}{rs:List aF}{n:Nat}(hc:c9 P f sc rs n):bC P f:=by
 obtain⟨fn,c,hf,hb,ai2,_⟩:=hc;exact⟨fn,hf,by simp[hb],ai2⟩
def WT{f:FuncId}{sc:SC}{rs:List aF}{n:Nat}(hc:c9 P f sc rs n)(orc:Nat->FuncId->List AV->AV){as:List AV}{m:AM}{K:AV->AM->Prop}
  (h:vc P gl orc Y sc ⟨as++List.replicate (n-as.length) .junk,m⟩ (vR P gl orc rs K)):an P gl Y f as m K:=
 ⟨hc.bC,fun _ _ _ _ _ _ hm hl hg hy hr=>alu hc orc h hm hl hg hy hr⟩
def AM.none:AM:=⟨[],[],fun _=>.gone,0⟩
def Fh{f:FuncId}{as:List AV}{r:AV}(h:an P gl Y0 f as ⟨[],[],fun _=>.gone,0⟩ fun x m'=>bF m' 6 x=r):Pure P gl f as r:=by
 refine⟨h.1,fun ro w vs iQ hr=>?_⟩;refine(callsIn_wide (n:=0)).1 ?_
 let γ0:G:=G0 fun b o=>ro b o/\b<w.heap.size
 have cr:Ev w (G0 ro) w γ0:=⟨zzab _,fun b o hb h=>⟨⟨h,hb⟩,rfl⟩,fun _ _ h=>(by cases h),fun _=>zzab _,fun _ _ h=>(by cases h),rfl,fun _ _ _ h=>(by cases h),fun _ h=>h.elim,Sz.refl w⟩
 have hm:au w.heap.size (aep w) ro γ0 w (⟨[],[],fun _=>.gone,0⟩:AM).B (⟨[],[],fun _=>.gone,0⟩:AM).L:=by
  refine⟨⟨Below.refl _ _,fun b hb=>?_⟩,zzab _,fun b o h=>.inl h.1,fun b o h=>h.2,fun id cells b h=>by simp[AM.B]at h,fun id b h=>(by cases h),fun id id' b h=>(by cases h),fun id b h=>(by cases h),fun id id' b h=>(by cases h),fun b h=>h.elim,fun id b h=>(by cases h),fun id id' b h=>(by cases h),fun id n h=>by simp[AM.L]at h,fun _ _=>rfl⟩;obtain⟨_,hb⟩|⟨_,hb⟩|hb|⟨_,hb⟩:=hb
  ·cases hb
  ·cases hb
  ·exact hb.elim
  cases hb
 refine CallsIn.mono (h.2 _ _ _ _ _ _ hm ⟨fun _=>.inl rfl,fun _ _=>rfl,fun _ _ _ h=>(by cases h),fun _ _ h=>(by cases h)⟩ (fun g=>(iQ g).mono cr) (fun _ _ _ _ _ _ _ _ _ _ _ hY _ _=>hY.elim) (hr.mono cr)) ?_;rintro e w' ⟨v,γ',x,m',rfl,_,h2,_,h4,h5⟩;refine⟨v,rfl,h2.bs.1,?_⟩;rw[<- h5];exact j8 h2 (fun _ _ h=>h) h2.aq 6 _ v h4 fun _ id b hb o=>.inr (h2.β id b hb).1
def aeq{f:FuncId}{sc:SC}{rs:List aF}{n:Nat}(hc:c9 P f sc rs n)(orc:Nat->FuncId->List AV->AV){as:List AV}{r:AV}
  (h:vc P gl orc Y0 sc ⟨as++List.replicate (n-as.length) .junk,⟨[],[],fun _=>.gone,0⟩⟩ (post P gl orc rs r)):Pure P gl f as r:=by
 have aqy:post P gl orc rs r=vR P gl orc rs fun x m'=>bF m' 6 x=r:=by
  funext ex s;cases ex<;>rfl
 rw[aqy]at h;exact Fh (WT hc orc h)
end
end Go.Abs
