import Derived.Test.YtnopaopphmjnmaaGreatDoorMDMD
import Derived.RangeFuncNested
set_option linter.all false
namespace Go.Abs
open Go Go.RowKit
def Vo(o:Oper):List Nat:=(o.after.toList.filter fun e=>Region.binds .any e).map (·.on)
def vS(ops:Array Oper)(i j:Nat):Bool:=
 match ops[i]? with
 |some o=>(Vo o).contains j
 |none=>false
def Cz(ops:Array Oper)(i:Nat):Bool:=(List.range i).all fun j=>(List.range (i-j)).any fun d=>vS ops (i-d) j
def vT(ops:Array Oper):Nat->Nat
 |0=>0
 |k+1=>if Cz ops k then vT ops k else k+1
def jb(ops:Array Oper):Nat:=vT ops ops.size
def Yo(ops:Array Oper)(i:Nat):Option Nat:=(ops[i]?).bind (·.dst)
def AG(ops:Array Oper)(p:Nat):Bool:=
 decide (p<=ops.size)&&(List.range ops.size).all fun i=>
  match ops[i]? with
  |none=>false
  |some o=>(Vo o).all (fun j=>decide (j<i))&&
   (
    if i<p then
    ((o.looksAt ops).all fun t=>(List.range p).all fun j=>!(Yo ops j==some t)||j==i||(decide (j<i)&&(Vo o).contains j))&&
    ((List.range i).all fun j=>(Yo ops j).isNone||!(Yo ops j==o.dst))
   else Cz ops i)
section
variable (P:Program) (gl:Nat->AV) (orc:Nat->FuncId->List AV->AV)
def dop(o:SO)(T:List AV)(m:AM)(nb:List (List AV)):Prop×AV×List (List AV):=
 match o.guard with
 |none=>match o.op with
  |.alloc zs=>(zs.all Qv=true,.ptr (m.boxes.length+nb.length) 0,nb++[zs])
  |.box x=>(bare (ev gl T x)=true/\(cellsOf (ev gl T x)).all Qv=true,.ptr (m.boxes.length+nb.length) 0,nb++[cellsOf (ev gl T x)])
  |.mks sz bytes zs l c=>(match ev gl T l,ev gl T c with
   |.int _ l,.int _ c=>((0<=l/\l<=c/\bytes*c<=281474976710656/\c<=9223372036854775807)/\zs.length=sz/\zs.all Qv=true,.bs (m.boxes.length+nb.length) 0 l.toNat sz,nb++[bG c.toNat zs])
   |_,_=>(False,.junk,nb))
  |op=>((rop P gl orc (ev gl T) m o.dst op).1,(rop P gl orc (ev gl T) m o.dst op).2,nb)
 |some (some t,want)=>match Iq want (T.getD t .junk)with
  |some gw=>(gok gl T gw (gxs o.op o.xs)/\(gw=true->(rop P gl orc (evG gl T o.op) m o.dst o.op).1),.gd gw (rop P gl orc (evG gl T o.op) m o.dst o.op).2,nb)
  |none=>(False,.junk,nb)
 |some (none,_)=>(False,.junk,nb)
def vcD(Y:YT)(l2:List SO)(K:AS->Prop):List SO->List AV->AM->List (List AV)->Prop
 |[],T,m,nb=>Zx P gl orc Y l2 ⟨T,{m with boxes:=m.boxes++nb}⟩ K
 |o::r,T,m,nb=>(dop P gl orc o T m nb).1/\vcD Y l2 K r (put T o.dst (dop P gl orc o T m nb).2.1) m (dop P gl orc o T m nb).2.2
def Xf(ops:Array Oper)(T0:List AV)(m:AM):Nat->List AV×List (List AV)
 |0=>(T0,[])
 |k+1=>match ops[k]? with
  |some o=>(put (Xf ops T0 m k).1 o.dst (dop P gl orc (Xu P ops o) (Xf ops T0 m k).1 m (Xf ops T0 m k).2).2.1,(dop P gl orc (Xu P ops o) (Xf ops T0 m k).1 m (Xf ops T0 m k).2).2.2)
  |none=>Xf ops T0 m k
end
section
variable {N:Nat} {w0:iu} {r:Option Nat} {au:Nat->Nat->Prop} {S:G×World} {Y:YT} {P:Program} {gl:Nat->AV} {orc:Nat->FuncId->List AV->AV} {ops:Array Oper} {T0:List AV} {m:AM} {p:Nat}
def Ky{k:Nat}{o:Oper}(h:ops[k]?=some o):Xf P gl orc ops T0 m (k+1)=
  (put (Xf P gl orc ops T0 m k).1 o.dst (dop P gl orc (Xu P ops o) (Xf P gl orc ops T0 m k).1 m (Xf P gl orc ops T0 m k).2).2.1,(dop P gl orc (Xu P ops o) (Xf P gl orc ops T0 m k).1 m (Xf P gl orc ops T0 m k).2).2.2):=by
 simp only[Xf,h]
def N0(l2:List SO)(K:AS->Prop)(hp:p<=ops.size):∀(n k:Nat),k+n=p->vcD P gl orc Y l2 K (((ops.toList.take p).drop k).map (Xu P ops)) (Xf P gl orc ops T0 m k).1 m (Xf P gl orc ops T0 m k).2->
  (∀i o,k<=i->i<p->ops[i]?=some o->(dop P gl orc (Xu P ops o) (Xf P gl orc ops T0 m i).1 m (Xf P gl orc ops T0 m i).2).1)/\
  Zx P gl orc Y l2 ⟨(Xf P gl orc ops T0 m p).1,{m with boxes:=m.boxes++(Xf P gl orc ops T0 m p).2}⟩ K
 |0,k,hk,h=>by
  obtain rfl:k=p:=by omega
  have:(ops.toList.take k).drop k=[]:=zzan (by simp;omega);rw[this]at h;exact⟨fun i o h1 h2=>by omega,h⟩
 |n+1,k,hk,h=>by
  have ai:k<ops.size:=by omega
  have ho:ops[k]?=some ops[k]:=zzaj ai
  have hd:(ops.toList.take p).drop k=ops[k]::(ops.toList.take p).drop (k+1):=by
   rw[zzaf (by simp;omega)];simp
  rw[hd,zzay]at h;obtain⟨h1,h2⟩:=h;have W6:=Ky (P:=P) (gl:=gl) (orc:=orc) (T0:=T0) (m:=m) ho;have:=N0 l2 K hp n (k+1) (by omega) (by rw[W6];exact h2);refine⟨fun i o hi eH CA=>?_,this.2⟩;rcases zzaa k i with eT|eT
  ·exact this.1 i o eT eH CA
  obtain rfl:i=k:=by omega
  rw[ho]at CA;cases CA;exact h1
def vU(T:List AV)(d:Option Nat)(x:AV):(put T d x).length=T.length:=by cases d<;>simp[put]
def jc:∀k,(Xf P gl orc ops T0 m k).1.length=T0.length
 |0=>rfl
 |k+1=>by
  cases h:ops[k]? with
  |none=>simp only[Xf,h];exact jc k
  |some o=>rw[Ky h,vU];exact jc k
def Qbs{T:List AV}{d:Option Nat}{x:AV}{t:Nat}(h:d≠some t):(put T d x).getD t .junk=T.getD t .junk:=by
 cases d with
 |none=>rfl
 |some d=>simp only[put,List.getD];rw[zzbe (by rintro rfl;exact h rfl)]
def mj{T:List AV}{t:Nat}{x:AV}(h:t<T.length):(put T (some t) x).getD t .junk=x:=by
 simp[put,List.getD,h]
def Qdu{t:Nat}:∀k,(∀j,j<k->Yo ops j≠some t)->(Xf P gl orc ops T0 m k).1.getD t .junk=T0.getD t .junk
 |0,_=>rfl
 |k+1,h=>by
  cases ho:ops[k]? with
  |none=>simp only[Xf,ho];exact Qdu k fun j hj=>h j (by omega)
  |some o=>
   rw[Ky ho,Qbs (by have:=h k (by omega);simpa[Yo,ho]using this)];exact Qdu k fun j hj=>h j (by omega)
def kN{t k:Nat}:∀n,(∀j,k<=j->j<k+n->Yo ops j≠some t)->(Xf P gl orc ops T0 m (k+n)).1.getD t .junk=(Xf P gl orc ops T0 m k).1.getD t .junk
 |0,_=>rfl
 |n+1,h=>by
  rw[<- zzao];cases ho:ops[k+n]? with
  |none=>simp only[Xf,ho];exact kN n fun j h1 h2=>h j h1 (by omega)
  |some o=>
   rw[Ky ho,Qbs (by have:=h (k+n) (by omega) (by omega);simpa[Yo,ho]using this)];exact kN n fun j h1 h2=>h j h1 (by omega)
def amu{o:Oper}{T:List AV}{nb:List (List AV)}:
  ((dop P gl orc (Xu P ops o) T m nb).2.2=nb)\/(∃cells,(dop P gl orc (Xu P ops o) T m nb).2.2=nb++[cells]):=by
 unfold dop;split
 ·split
  ·exact .inr ⟨_,rfl⟩
  ·exact .inr ⟨_,rfl⟩
  ·split
   ·exact .inr ⟨_,rfl⟩
   exact .inl rfl
  exact .inl rfl
 ·split
  ·exact .inl rfl
  exact .inl rfl
 exact .inl rfl
def kP(P:Program)(gl:Nat->AV)(orc:Nat->FuncId->List AV->AV)(ops:Array Oper)(T0:List AV)(m:AM)(k:Nat):Nat:=(Xf P gl orc ops T0 m k).2.length
def N1(k:Nat):(Xf P gl orc ops T0 m (k+1)).2=(Xf P gl orc ops T0 m k).2\/∃cells,(Xf P gl orc ops T0 m (k+1)).2=(Xf P gl orc ops T0 m k).2++[cells]:=by
 cases ho:ops[k]? with
 |none=>exact .inl (by simp only[Xf,ho])
 |some o=>rw[Ky ho];exact amu
def E8(k:Nat):kP P gl orc ops T0 m (k+1)=kP P gl orc ops T0 m k\/kP P gl orc ops T0 m (k+1)=kP P gl orc ops T0 m k+1:=by
 unfold kP;rcases N1 (P:=P) (gl:=gl) (orc:=orc) (ops:=ops) (T0:=T0) (m:=m) k with h|⟨c,h⟩
 ·rw[h];exact .inl rfl
 rw[h];exact .inr (by simp)
def E9{j:Nat}:∀n,kP P gl orc ops T0 m j<=kP P gl orc ops T0 m (j+n)
 |0=>zzab _
 |n+1=>by
  have:=E9 (j:=j) n;rcases E8 (P:=P) (gl:=gl) (orc:=orc) (ops:=ops) (T0:=T0) (m:=m) (j+n)with h|h<;>rw[<- zzao]<;>omega
def W7{i j:Nat}(h:i<=j):kP P gl orc ops T0 m i<=kP P gl orc ops T0 m j:=by
 have:=E9 (P:=P) (gl:=gl) (orc:=orc) (ops:=ops) (T0:=T0) (m:=m) (j:=i) (j-i);rwa [show i+(j-i)=j by omega]at this
def W8{i:Nat}:∀n{q:Nat}{c:List AV},(Xf P gl orc ops T0 m i).2[q]?=some c->(Xf P gl orc ops T0 m (i+n)).2[q]?=some c
 |0,_,_,h=>h
 |n+1,q,c,h=>by
  have ih:=W8 n h;rw[<- zzao];rcases N1 (P:=P) (gl:=gl) (orc:=orc) (ops:=ops) (T0:=T0) (m:=m) (i+n)with e|⟨c',e⟩
  ·rw[e];exact ih
  rw[e,zzag (zza.1 ih).1];exact ih
def Ir(P:Program)(gl:Nat->AV)(orc:Nat->FuncId->List AV->AV)(ops:Array Oper)(T0:List AV)(m:AM)(i:Nat):Bool:=kP P gl orc ops T0 m (i+1)==kP P gl orc ops T0 m i+1
def Fa{q:Nat}:∀k,q<kP P gl orc ops T0 m k->∃i,i<k/\Ir P gl orc ops T0 m i=true/\kP P gl orc ops T0 m i=q
 |0,h=>by simp[kP,Xf]at h
 |k+1,h=>by
  rcases zzaa q (kP P gl orc ops T0 m k)with h'|h'
  ·obtain⟨i,h1,h2,h3⟩:=Fa k h';exact⟨i,by omega,h2,h3⟩
  rcases E8 (P:=P) (gl:=gl) (orc:=orc) (ops:=ops) (T0:=T0) (m:=m) k with e|e
  ·omega
  exact⟨k,by omega,by simp[Ir,e],by omega⟩
def AH(P:Program)(gl:Nat->AV)(orc:Nat->FuncId->List AV->AV)(ops:Array Oper)(T0:List AV)(m:AM)(p:Nat)(listed:Array Bool)(id:Nat):Option (List AV):=
 if id<m.boxes.length then m.boxes[id]?
 else if(List.range p).any fun i=>listed.getD i false&&(Ir P gl orc ops T0 m i&&decide (m.boxes.length+kP P gl orc ops T0 m i=id))then(Xf P gl orc ops T0 m p).2[id-m.boxes.length]? else none
def wr(ops:Array Oper)(p:Nat)(listed:Array Bool)(t:Nat):Bool:=(List.range p).any fun i=>listed.getD i false&&(Yo ops i==some t)
def At(P:Program)(gl:Nat->AV)(orc:Nat->FuncId->List AV->AV)(ops:Array Oper)(T0:List AV)(m:AM)(p:Nat)(listed:Array Bool)(t:Nat):AV:=
 if wr ops p listed t then(Xf P gl orc ops T0 m p).1.getD t .junk else T0.getD t .junk
structure QY (N:Nat) (w0:iu) (r:Option Nat) (au:Nat->Nat->Prop) (S:G×World) (Y:YT) (P:Program) (gl:Nat->AV) (orc:Nat->FuncId->List AV->AV) (ops:Array Oper) (T0:List AV) (m:AM) (p:Nat) (listed:Array Bool) (γ:G) (w:World) (a:Act):Prop where
 size:listed.size=ops.size
 tail:∀i,p<=i->i<ops.size->listed.getD i true=false
 clo:∀i o,listed.getD i false=true->ops[i]?=some o->∀j∈Vo o,listed.getD j false=true
 mm:az N w0 au γ w (AH P gl orc ops T0 m p listed) m.L
 ls:cQ γ w m
 rd:Rdr r γ w
 tl:a.tmps.size=T0.length
 tt:∀t,aB w γ (At P gl orc ops T0 m p listed t) (a.tmps.getD t undef)
 d:Dfr S.2.heap.size γ w a.defers
 g:∀g,aB w γ.cV (gl g) (.pointer (some ⟨g,0,none⟩))
 y:YOK N w0 au P Y γ w
 e:eG S.2 S.1 w γ
def Zv{listed:Array Bool}{i:Nat}{b:Bool}(h:i<listed.size):(listed.setIfInBounds i true).getD i b=true:=by
 simp[h]
def Qx{listed:Array Bool}{i j:Nat}{b:Bool}(h:j≠i):(listed.setIfInBounds i true).getD j b=listed.getD j b:=by
 simp[zzda (Ne.symm h)]
def aeV{listed:Array Bool}{id:Nat}{cells:List AV}(h:m.boxes[id]?=some cells):AH P gl orc ops T0 m p listed id=some cells:=by
 unfold AH;rw[if_pos (zza.1 h).1];exact h
def W9{listed:Array Bool}{i:Nat}(hn:Ir P gl orc ops T0 m i=false):AH P gl orc ops T0 m p (listed.setIfInBounds i true)=AH P gl orc ops T0 m p listed:=by
 funext id;unfold AH;congr 1
 have:((List.range p).any fun j=>(listed.setIfInBounds i true).getD j false&&(Ir P gl orc ops T0 m j&&decide (m.boxes.length+kP P gl orc ops T0 m j=id)))=
   ((List.range p).any fun j=>listed.getD j false&&(Ir P gl orc ops T0 m j&&decide (m.boxes.length+kP P gl orc ops T0 m j=id))):=by
  congr 1;funext j;by_cases hj:j=i
  ·subst hj;simp[hn]
  rw[Qx hj]
 rw[this]
def aeW{i j:Nat}(hi:Ir P gl orc ops T0 m i=true)(hj:Ir P gl orc ops T0 m j=true)(h:kP P gl orc ops T0 m i=kP P gl orc ops T0 m j):i=j:=by
 simp only[Ir,beq_iff_eq]at hi hj;rcases zzfh i j with h'|h'|h'
 ·have:=W7 (P:=P) (gl:=gl) (orc:=orc) (ops:=ops) (T0:=T0) (m:=m) (i:=i+1) (j:=j) h';omega
 ·exact h'
 have:=W7 (P:=P) (gl:=gl) (orc:=orc) (ops:=ops) (T0:=T0) (m:=m) (i:=j+1) (j:=i) h';omega
def AI{listed:Array Bool}{i:Nat}(hn:Ir P gl orc ops T0 m i=true)(hl:listed.getD i false=false):AH P gl orc ops T0 m p listed (m.boxes.length+kP P gl orc ops T0 m i)=none:=by
 unfold AH;rw[if_neg (by omega),if_neg];intro h;obtain⟨j,_,h⟩:=zzby.1 h;simp only[zzak,decide_eq_true_eq]at h;obtain⟨h1,h2,h3⟩:=h;have:=aeW h2 hn (by omega);subst this;rw[hl]at h1;cases h1
def N2{listed:Array Bool}{i:Nat}{cells:List AV}(eH:i<p)(hsz:i<listed.size)(hn:Ir P gl orc ops T0 m i=true)(hc:(Xf P gl orc ops T0 m p).2[kP P gl orc ops T0 m i]?=some cells):
  AH P gl orc ops T0 m p (listed.setIfInBounds i true)=fun id=>if id=m.boxes.length+kP P gl orc ops T0 m i then some cells else AH P gl orc ops T0 m p listed id:=by
 funext id;by_cases aO:id=m.boxes.length+kP P gl orc ops T0 m i
 ·rw[if_pos aO];unfold AH;rw[if_neg (by omega),if_pos]
  ·rw[aO,zzdn];exact hc
  rw[zzby];exact⟨i,zzbf.2 eH,by rw[Zv hsz,hn];simp[aO]⟩
 rw[if_neg aO];unfold AH;congr 1
 have:((List.range p).any fun j=>(listed.setIfInBounds i true).getD j false&&(Ir P gl orc ops T0 m j&&decide (m.boxes.length+kP P gl orc ops T0 m j=id)))=
   ((List.range p).any fun j=>listed.getD j false&&(Ir P gl orc ops T0 m j&&decide (m.boxes.length+kP P gl orc ops T0 m j=id))):=by
  congr 1;funext j;by_cases hj:j=i
  ·subst hj;have:decide (m.boxes.length+kP P gl orc ops T0 m j=id)=false:=by simp;omega
   simp[this]
  rw[Qx hj]
 rw[this]
def aeX{listed:Array Bool}(bS:∀i,i<p->listed.getD i false=true):AH P gl orc ops T0 m p listed=({m with boxes:=m.boxes++(Xf P gl orc ops T0 m p).2}:AM).B:=by
 funext id;unfold AH;simp only[AM.B];split
 ·rename_i h;rw[zzag h]
 rename_i h;rw[zzal (by omega)];split
 ·rfl
 rename_i hn;rcases zzaa (id-m.boxes.length) (Xf P gl orc ops T0 m p).2.length with hq|hq
 ·obtain⟨i,h1,h2,h3⟩:=Fa (P:=P) (gl:=gl) (orc:=orc) (ops:=ops) (T0:=T0) (m:=m) (q:=id-m.boxes.length) p hq;exfalso;apply hn;rw[zzby];exact⟨i,zzbf.2 h1,by rw[bS i h1,h2];simp;omega⟩
 rw[zzax hq]
def AJ{α:Type}{f g:α->Bool}:∀{l:List α}{x:α},(∀y,f y=true->g y=true)->x∈l->g x=true->f x=false->l.countP f<l.countP g
 |y::l,x,hfg,hx,hg,hf=>by
  have bX:l.countP f<=l.countP g:=List.countP_mono_left fun y _=>hfg y;rw[List.countP_cons,List.countP_cons];rcases zzau.1 hx with rfl|hx
  ·rw[hg,hf];simp;omega
  have:=AJ hfg hx hg hf;by_cases h1:f y=true
  ·rw[h1,hfg y h1];simp;omega
  have qG:f y=false:=by simpa using h1
  rw[qG];simp only[zzbq,if_false,zzcn];exact zzbb this (zzgn _ _)
def uc(ops:Array Oper)(listed:Array Bool):Nat:=(List.range ops.size).countP fun i=>!listed.getD i true
def vV{listed:Array Bool}{i:Nat}(hsz:listed.size=ops.size)(hi:i<ops.size)(hl:listed.getD i true=false):uc ops (listed.setIfInBounds i true)<uc ops listed:=by
 unfold uc;refine AJ (x:=i) (fun j hj=>?_) (zzbf.2 hi) (by rw[hl];rfl) (by rw[Zv (by omega)];rfl);by_cases Aj:j=i
 ·subst Aj;rw[hl];rfl
 rw[Qx Aj]at hj;exact hj
def oJ{listed:Array Bool}(h:uc ops listed=0){i:Nat}(hi:i<ops.size):listed.getD i true=true:=by
 unfold uc at h;have:=List.countP_eq_zero.1 h i (zzbf.2 hi);simpa using this
def Xl{listed:Array Bool}{i:Nat}(hi:i<listed.size)(b b':Bool):listed.getD i b=listed.getD i b':=by simp[hi]
def Va(h:AG ops p=true):p<=ops.size/\∀i o,ops[i]?=some o->(∀j∈Vo o,j<i)/\
  (i<p->(∀t∈o.looksAt ops,∀j,j<p->Yo ops j=some t->j≠i->j<i/\j∈Vo o)/\(∀j,j<i->∀t,Yo ops j=some t->o.dst≠some t))/\
  (p<=i->Cz ops i=true):=by
 unfold AG at h;simp only[zzak,decide_eq_true_eq,zzbc]at h;obtain⟨hp,h⟩:=h;refine⟨hp,fun i o ho=>?_⟩;have hi:i<ops.size:=(zzbu.1 ho).1;have:=h i (zzbf.2 hi);simp only[ho,zzak,zzbc,decide_eq_true_eq]at this;obtain⟨h1,h2⟩:=this;refine⟨h1,fun eH=>?_,fun eH=>?_⟩
 ·rw[if_pos eH]at h2;simp only[zzak,zzbc]at h2;obtain⟨h3,h4⟩:=h2;refine⟨fun t ht j hj hd aJ=>?_,fun j hj t hd cB=>?_⟩
  ·have:=h3 t ht j (zzbf.2 hj);simp[hd,aJ]at this;exact⟨this.1,this.2⟩
  have:=h4 j (zzbf.2 hj);simp[hd,cB]at this
 rw[if_neg (by omega)]at h2;exact h2
def Tb(ops:Array Oper)(listed:Array Bool):Prop:=∀i o,listed.getD i false=true->ops[i]?=some o->∀j∈Vo o,listed.getD j false=true
def Tb.set{listed:Array Bool}(h:Tb ops listed){i:Nat}{o:Oper}(ho:ops[i]?=some o)(hsz:i<listed.size)(cN:∀j∈Vo o,listed.getD j false=true):Tb ops (listed.setIfInBounds i true):=by
 have ajY:∀k,listed.getD k false=true->(listed.setIfInBounds i true).getD k false=true:=fun k hk=>by
  by_cases qO:i=k
  ·subst qO;exact Zv hsz
  rw[Qx (Ne.symm qO)];exact hk
 intro k o' hk cB j hj;by_cases qO:i=k
 ·subst qO;rw[ho]at cB;cases cB;exact ajY j (cN j hj)
 rw[Qx (Ne.symm qO)]at hk;exact ajY j (h k o' hk cB j hj)
def jd{listed:Array Bool}(aeY:Tb ops listed){i:Nat}{o:Oper}(ho:ops[i]?=some o)(ht:Cz ops i=true)(cN:∀j∈Vo o,listed.getD j false=true):∀(n j:Nat),j<i->i-j<=n->listed.getD j false=true
 |0,j,h1,h2=>by omega
 |n+1,j,h1,h2=>by
  obtain⟨d,hd,hw⟩:=zzby.1 (zzbc.1 ht j (zzbf.2 h1));have hdl:=zzbf.1 hd;unfold vS at hw;split at hw
  ·rename_i o' cB;have hm:j∈Vo o':=by simpa using hw
   by_cases h0:d=0
   ·subst h0;rw[zzfb,ho]at cB;cases cB;exact cN j hm
   exact aeY (i-d) o' (jd aeY ho ht cN n (i-d) (by omega) (by omega)) cB j hm
  cases hw
def nj{o:Oper}{j:Nat}:j∈Vo o<->∃e∈o.after,Region.binds .any e=true/\e.on=j:=by
 simp[Vo];constructor
 ·rintro⟨e,⟨h1,h2⟩,rfl⟩;exact⟨e,h1,h2,rfl⟩
 rintro⟨e,h1,h2,rfl⟩;exact⟨e,⟨h1,h2⟩,rfl⟩
def Wo(hc:AG ops p=true){listed:Array Bool}(hsz:listed.size=ops.size):∀(n i:Nat),i<=n->i<ops.size->listed.getD i true=false->∃j,j∈Region.ready .any ops listed
 |0,i,bJ,hi,hl=>by
  obtain rfl:i=0:=by omega
  have ho:ops[0]?=some ops[0]:=zzaj hi;refine⟨0,mem_ready.2 ⟨hl,ops[0],ho,fun e he hb=>?_⟩⟩;have:=((Va hc).2 0 _ ho).1 e.on (nj.2 ⟨e,he,hb,rfl⟩);omega
 |n+1,i,bJ,hi,hl=>by
  by_cases hex:∃j,j<i/\listed.getD j true=false
  ·obtain⟨j,hj,Tc⟩:=hex;exact Wo hc hsz n j (by omega) (by omega) Tc
  have ho:ops[i]?=some ops[i]:=zzaj hi;refine⟨i,mem_ready.2 ⟨hl,ops[i],ho,fun e he hb=>?_⟩⟩;have ai:=((Va hc).2 i _ ho).1 e.on (nj.2 ⟨e,he,hb,rfl⟩)
  have:listed.getD e.on true=true:=by
   cases h:listed.getD e.on true with
   |true=>rfl
   |false=>exact absurd ⟨e.on,ai,h⟩ hex
  rw[Xl (by omega) false true];exact this
def Wp(hc:AG ops p=true){listed:Array Bool}{i:Nat}(hr:i∈Region.ready .any ops listed):i<ops.size/\listed.getD i true=false/\∃o,ops[i]?=some o/\∀j∈Vo o,listed.getD j false=true:=by
 obtain⟨h1,o,ho,h2⟩:=mem_ready.1 hr;refine⟨(zzbu.1 ho).1,h1,o,ho,fun j hj=>?_⟩;obtain⟨e,he,hb,rfl⟩:=nj.1 hj;exact h2 e he hb
def nk{Q:Exit->Act->World->Prop}{K:AS->Prop}(hQ:∀γ w s a,K s->fR N w0 r au S P gl Y γ w s a->Q .normal a w)(hc:AG ops p=true):
  ∀(bz k:Nat)(listed:Array Bool)(γ:G)(w:World)(s:AS)(a:Act),p<=k->k<=ops.size->listed.size=ops.size->(∀j,j<k->listed.getD j false=true)->(∀j,k<=j->j<ops.size->listed.getD j true=false)->
   uc ops listed<=bz->Zx P gl orc Y ((ops.toList.drop k).map (Xu P ops)) s K->fR N w0 r au S P gl Y γ w s a->wpAnyIn (FW r) 0 P .any ops Q bz listed a w:=by
 intro bz;induction bz with
 |zero=>
  intro k listed γ w s a Fb hk hsz N3 hhi uj h hs
  have D3:k=ops.size:=by
   rcases zzaa k ops.size with h'|h'
   ·have:=oJ (zzfy.1 uj) h';rw[hhi k (zzab _) h']at this;cases this
   omega
  have hd:ops.toList.drop k=[]:=zzan (by simp;omega);rw[hd]at h;refine⟨?_,hQ γ w s a h hs⟩;rw[List.eq_nil_iff_forall_not_mem];intro i hi;obtain⟨ai,hu,_⟩:=Wp hc hi;have:=oJ (zzfy.1 uj) ai;rw[hu]at this;cases this
 |succ bz ih=>
  intro k listed γ w s a Fb hk hsz N3 hhi uj h hs;refine⟨fun hr=>?_,fun i hi=>?_⟩
  ·have D3:k=ops.size:=by
    rcases zzaa k ops.size with h'|h'
    ·obtain⟨j,hj⟩:=Wo hc hsz k k (zzab _) h' (hhi k (zzab _) h');rw[hr]at hj;cases hj
    omega
   have hd:ops.toList.drop k=[]:=zzan (by simp;omega);rw[hd]at h;exact hQ γ w s a h hs
  obtain⟨ai,hu,o,ho,cN⟩:=Wp hc hi
  have eT:k<=i:=by
   rcases zzaa i k with h'|h'
   ·have:=N3 i h';rw[Xl (by omega) false true,hu]at this;cases this
   exact h'
  have qO:i=k:=by
   rcases zzaa k i with h'|h'
   ·have aeY:Tb ops listed:=fun x ox hx hox j hj=>by
     have hxk:x<k:=by
      rcases zzaa x k with h1|h1
      ·exact h1
      have hxs:x<ops.size:=(zzbu.1 hox).1;rw[Xl (by omega) false true,hhi x h1 hxs]at hx;cases hx
     have:=((Va hc).2 x ox hox).1 j hj;exact N3 j (by omega)
    have:=jd aeY ho (((Va hc).2 i o ho).2.2 (by omega)) cN i k h' (by omega);rw[Xl (by omega) false true,hhi k (zzab _) (by omega)]at this;cases this
   omega
  subst qO;refine wpOpIn_mono ?_ (vR ai hs h);rintro a' w' ⟨γ',s',iG,h'⟩;refine ih (i+1) _ γ' w' s' a' (by omega) ai (by simp[hsz]) (fun j hj=>?_) (fun j ew qg=>?_) ?_ h' iG
  ·rcases zzaa j i with h'|h'
   ·rw[Qx (by omega)];exact N3 j h'
   obtain rfl:j=i:=by omega
   exact Zv (by omega)
  ·rw[Qx (by omega)];exact hhi j (by omega) qg
  have:=vV hsz ai hu;omega
def aeZ{P:Program}{w:World}{γ:G}{te:TypeId}{zs:List AV}{i:TypeInfo}{z:Value}{n:Nat}(J3:ak w γ zs z.cells.toList)(g5:zs.all Qv=true)(g4:zs.length=i.size):
  cD w γ (bG n zs) (madeCells z.cells (n*i.size)).toList/\∀v∈(madeCells z.cells (n*i.size)).toList,v.oneCell'=true:=by
 have lG:=Ua J3 g5;have E4:z.cells.size=zs.length:=by have:=J3.1;simp at this;omega
 refine⟨⟨by simp[Kg,size_madeCells,g4],fun k c v j1 j2=>?_⟩,fun v hv=>?_⟩
 ·obtain⟨q1,q2⟩:=kL j1
  have h0:0<zs.length:=by
   rcases zzck zs.length with h0|h0
   ·simp[h0]at q1
   exact h0
  have ai:k%zs.length<z.cells.size:=by rw[E4];exact zze _ h0
  have EX:v=z.cells[k%zs.length]:=by
   simp only[madeCells,zzcb,zzfz]at j2;rw[zzaj (by simp;rw[<- g4];exact q1)]at j2;simp[E4]at j2;rw[<- j2,getElem!_pos z.cells _ ai]
  subst EX;exact J3.2 _ c _ q2 (by simp[ai])
 simp[madeCells]at hv;obtain⟨k,hk,rfl⟩:=hv
 have h0:0<z.cells.size:=by
  rcases zzck z.cells.size with h0|h0
  ·rw[h0]at E4;rw[<- g4,<- E4]at hk;simp at hk
  exact h0
 have ai:k%z.cells.size<z.cells.size:=zze _ h0;rw[getElem!_pos z.cells _ ai];exact lG _ (by simp)
def amv{o:Oper}{sz bytes:Nat}{zs:List AV}{x y:bN}(h:tr P o=.mks sz bytes zs x y):∃t l c te i,o.op=.makeSlice t l c/\x=aA l/\y=aA c/\P.underlying t=some (.slice te)/\P.info? te=some i/\sz=i.size/\bytes=i.bytes/\zc P te=some zs:=by
 obtain⟨dst,op,ty,pos,after,guard⟩:=o;cases op
 case makeSlice t l c=>
  simp only[tr]at h;split at h
  ·rename_i te hu;split at h
   ·split at h<;>cases h
   ·rename_i i hi _;split at h
    ·rename_i zs' hz;cases h;exact⟨t,_,_,te,i,rfl,rfl,rfl,hu,hi,rfl,rfl,hz⟩
    cases h
   cases h
  cases h
 case call c=>
  simp only[tr,Zp]at h;repeat' split at h
  all_goals cases h
 case build t parts=>
  simp only[tr,Wh]at h;repeat' split at h
  all_goals cases h
 case slice t x lo hi mx=>cases mx<;>simp only[tr]at h<;>(repeat' split at h)<;>cases h
 case makeFunc fn a b=>cases fn<;>cases h
 case next x s=>cases s<;>cases h
 case makeMap t r=>cases r<;>simp only[tr]at h<;>(repeat' split at h)<;>cases h
 case binOp op t x y t'=>
  simp only[tr,lZ,Qbz,y7]at h;repeat' split at h
  all_goals cases h
 all_goals first|(cases h;done)|(
  simp only[tr]at h;repeat' split at h
  all_goals cases h)
def vW(c:Call)(zs:List AV):Zp P c≠.alloc zs:=by
 intro h;obtain⟨callee,args,ts⟩:=c;cases callee with
 |builtin b=>cases b<;>simp only[Zp]at h<;>(repeat' split at h)<;>cases h
 |_=>cases h
def CB(c:Call)(x:bN):Zp P c≠.box x:=by
 intro h;obtain⟨callee,args,ts⟩:=c;cases callee with
 |builtin b=>cases b<;>simp only[Zp]at h<;>(repeat' split at h)<;>cases h
 |_=>cases h
def XA{o:Oper}{zs:List AV}(h:tr P o=.alloc zs):∃t,o.op=.alloc t/\zc P t=some zs:=by
 obtain⟨dst,op,ty,pos,after,guard⟩:=o;cases op
 case alloc t=>
  simp only[tr]at h;split at h
  ·rename_i zs' hz;cases h;exact⟨t,rfl,hz⟩
  cases h
 case call c=>exact absurd h (vW c zs)
 case build t parts=>
  simp only[tr,Wh]at h;repeat' split at h
  all_goals cases h
 case slice t x lo hi mx=>cases mx<;>simp only[tr]at h<;>(repeat' split at h)<;>cases h
 case makeFunc fn a b=>cases fn<;>cases h
 case next x s=>cases s<;>cases h
 case makeMap t r=>cases r<;>simp only[tr]at h<;>(repeat' split at h)<;>cases h
 case binOp op t x y t'=>
  simp only[tr,lZ,Qbz,y7]at h;repeat' split at h
  all_goals cases h
 all_goals first|(cases h;done)|(
  simp only[tr]at h;repeat' split at h
  all_goals cases h)
def amw{o:Oper}{x:bN}(h:tr P o=.box x):∃t y,o.op=.box t y/\x=aA y:=by
 obtain⟨dst,op,ty,pos,after,guard⟩:=o;cases op
 case box t y=>cases h;exact⟨t,y,rfl,rfl⟩
 case call c=>exact absurd h (CB c x)
 case build t parts=>
  simp only[tr,Wh]at h;repeat' split at h
  all_goals cases h
 case slice t x lo hi mx=>cases mx<;>simp only[tr]at h<;>(repeat' split at h)<;>cases h
 case makeFunc fn a b=>cases fn<;>cases h
 case next x s=>cases s<;>cases h
 case makeMap t r=>cases r<;>simp only[tr]at h<;>(repeat' split at h)<;>cases h
 case binOp op t x y t'=>
  simp only[tr,lZ,Qbz,y7]at h;repeat' split at h
  all_goals cases h
 all_goals first|(cases h;done)|(
  simp only[tr]at h;repeat' split at h
  all_goals cases h)
def awV(hc:AG ops p=true){listed:Array Bool}(hsz:listed.size=ops.size){i:Nat}{o:Oper}(ho:ops[i]?=some o)(eH:i<p)(hu:listed.getD i true=false)(cN:∀j∈Vo o,listed.getD j false=true)
  {t:Nat}(ht:t∈o.looksAt ops):(Xf P gl orc ops T0 m i).1.getD t .junk=At P gl orc ops T0 m p listed t:=by
 have hi:i<ops.size:=(zzbu.1 ho).1;obtain⟨hp,dy⟩:=Va hc;unfold At;by_cases hex:∃j,j<p/\Yo ops j=some t/\j≠i
 ·obtain⟨j,hj,hd,aJ⟩:=hex;obtain⟨Aj,hja⟩:=((dy i o ho).2.1 eH).1 t ht j hj hd aJ
  have hw:wr ops p listed t=true:=by
   unfold wr;rw[zzby];exact⟨j,zzbf.2 hj,by rw[cN j hja,hd];simp⟩
  rw[if_pos hw]
  have:=kN (P:=P) (gl:=gl) (orc:=orc) (ops:=ops) (T0:=T0) (m:=m) (t:=t) (k:=i) (p-i) fun k cZ dw N4=>by
   have hk:k<ops.size:=by omega
   have N5:ops[k]?=some ops[k]:=zzaj hk;have:=((dy k _ N5).2.1 (by omega)).2 j (by omega) t hd;simp[Yo,N5]at N4;exact this N4
  rw[show i+(p-i)=p by omega]at this;exact this.symm
 have hw:wr ops p listed t=false:=by
  unfold wr;rw[zzeo];intro j hj;simp only[zzak,beq_iff_eq,not_and];intro hl hd;by_cases Aj:j=i
  ·subst Aj;rw[Xl (by omega) false true,hu]at hl;cases hl
  exact hex ⟨j,zzbf.1 hj,hd,Aj⟩
 rw[hw];simp only[zzbq,if_false];exact Qdu i fun j hj hd=>hex ⟨j,by omega,hd,by omega⟩
def amx(hc:AG ops p=true){listed:Array Bool}(hsz:listed.size=ops.size){i:Nat}{o:Oper}(ho:ops[i]?=some o)(eH:i<p){t:Nat}:
  At P gl orc ops T0 m p (listed.setIfInBounds i true) t=if o.dst=some t/\t<T0.length then(dop P gl orc (Xu P ops o) (Xf P gl orc ops T0 m i).1 m (Xf P gl orc ops T0 m i).2).2.1 else At P gl orc ops T0 m p listed t:=by
 have hi:i<ops.size:=(zzbu.1 ho).1;obtain⟨hp,dy⟩:=Va hc;by_cases hd:o.dst=some t
 ·have hw:wr ops p (listed.setIfInBounds i true) t=true:=by
   unfold wr;rw[zzby];exact⟨i,zzbf.2 eH,by rw[Zv (by omega)];simp[Yo,ho,hd]⟩
  have hl:=kN (P:=P) (gl:=gl) (orc:=orc) (ops:=ops) (T0:=T0) (m:=m) (t:=t) (k:=i+1) (p-(i+1)) fun k cZ dw N4=>by
   have hk:k<ops.size:=by omega
   have N5:ops[k]?=some ops[k]:=zzaj hk;have:=((dy k _ N5).2.1 (by omega)).2 i (by omega) t (by simp[Yo,ho,hd]);simp[Yo,N5]at N4;exact this N4
  rw[show i+1+(p-(i+1))=p by omega]at hl;by_cases ht:t<T0.length
  ·rw[if_pos ⟨hd,ht⟩];unfold At;rw[if_pos hw,hl,Ky ho,hd];exact mj (by rw[jc];exact ht)
  rw[if_neg (by simp[ht])]
  have h1:∀k,(Xf P gl orc ops T0 m k).1.getD t .junk=.junk:=fun k=>by
   have:=jc (P:=P) (gl:=gl) (orc:=orc) (ops:=ops) (T0:=T0) (m:=m) k;simp only[List.getD];rw[zzax (by omega)];rfl
  have h2:T0.getD t .junk=.junk:=h1 0;unfold At;rw[h1 p,h2];simp
 rw[if_neg (by simp[hd])]
 have hw:wr ops p (listed.setIfInBounds i true) t=wr ops p listed t:=by
  unfold wr;congr 1;funext j;by_cases hj:j=i
  ·subst hj;have hb:(o.dst==some t)=false:=by simpa using hd
   simp[Yo,ho,hb]
  rw[Qx hj]
 unfold At;rw[hw]
def KC(hc:AG ops p=true){Q:Exit->Act->World->Prop}{listed:Array Bool}{γ:G}{w:World}{a:Act}(hI:QY N w0 r au S Y P gl orc ops T0 m p listed γ w a){i:Nat}{o:Oper}(ho:ops[i]?=some o)(eH:i<p)
  (hu:listed.getD i true=false)(cN:∀j∈Vo o,listed.getD j false=true)(bQ:(dop P gl orc (Xu P ops o) (Xf P gl orc ops T0 m i).1 m (Xf P gl orc ops T0 m i).2).1):
  wpOpIn (FW r) 0 P ops Q i (fun a' w'=>∃γ',QY N w0 r au S Y P gl orc ops T0 m p (listed.setIfInBounds i true) γ' w' a') a w:=by
 have hi:i<ops.size:=(zzbu.1 ho).1
 have QZ:∀t∈o.looksAt ops,aB w γ ((Xf P gl orc ops T0 m i).1.getD t .junk) (a.tmps.getD t undef):=fun t ht=>by
  rw[awV (P:=P) (gl:=gl) (orc:=orc) (T0:=T0) (m:=m) hc hI.size ho eH hu cN ht];exact hI.tt t
 have gA:∀x∈o.op.operands,aB w γ (ev gl (Xf P gl orc ops T0 m i).1 (aA x)) (a.eval x):=fun x hx=>by
  cases x with
  |tmp t=>exact QZ t (by simp only[Oper.looksAt,zzap,zzfc];exact .inl ⟨.tmp t,by simpa using hx,rfl⟩)
  |const v=>exact Jr w γ v
  |func f=>exact .fn rfl (fun i c v h=>by simp at h) rfl fun i c v h=>by simp at h
  |global g=>exact(hI.g g).gp
 have hB:∀id cells,m.boxes[id]?=some cells->AH P gl orc ops T0 m p listed id=some cells:=fun id cells h=>aeV h
 have fin:∀{v:Value}{w':World}{γ':G},Ev w γ w' γ'->az N w0 au γ' w' (AH P gl orc ops T0 m p (listed.setIfInBounds i true)) m.L->
   aB w' γ' (dop P gl orc (Xu P ops o) (Xf P gl orc ops T0 m i).1 m (Xf P gl orc ops T0 m i).2).2.1 v->∃γ',QY N w0 r au S Y P gl orc ops T0 m p (listed.setIfInBounds i true) γ' w' (a.put o.dst v):=fun{v w' γ'}he hm hr=>by
  refine⟨γ',by simp[hI.size],fun j ew qg=>by rw[Qx (by omega)];exact hI.tail j ew qg,Tb.set hI.clo ho (by rw[hI.size];exact hi) cN,hm,hI.ls.mono he,hI.rd.bn he.dD,?_,fun t=>?_,?_,fun g=>(hI.g g).mono he.cV,hI.y.mono he.dD,hI.e.trans he.dD⟩
  ·cases hd:o.dst<;>simp[Act.put,hI.tl]
  ·rw[amx hc hI.size ho eH];by_cases hd:o.dst=some t
   ·by_cases ht:t<T0.length
    ·rw[if_pos ⟨hd,ht⟩,hd];have:(a.put (some t) v).tmps.getD t undef=v:=by simp[Act.put,hI.tl,ht]
     rw[this];exact hr
    rw[if_neg (by simp[ht]),hd];have:(a.put (some t) v).tmps.getD t undef=a.tmps.getD t undef:=by simp[Act.put,hI.tl,ht]
    rw[this];exact(hI.tt t).mono he
   rw[if_neg (by simp[hd])]
   have:(a.put o.dst v).tmps.getD t undef=a.tmps.getD t undef:=by
    cases ES:o.dst with
    |none=>rfl
    |some d=>simp only[Act.put];simp;rw[zzda (by rintro rfl;exact hd ES)]
   rw[this];exact(hI.tt t).mono he
  cases hd:o.dst<;>exact hI.d.bn he.dD
 have dL:=Ky (P:=P) (gl:=gl) (orc:=orc) (T0:=T0) (m:=m) ho
 have qP:∀cells,(dop P gl orc (Xu P ops o) (Xf P gl orc ops T0 m i).1 m (Xf P gl orc ops T0 m i).2).2.2=(Xf P gl orc ops T0 m i).2++[cells]->Ir P gl orc ops T0 m i=true/\(Xf P gl orc ops T0 m p).2[kP P gl orc ops T0 m i]?=some cells:=fun cells h=>by
  refine⟨by simp only[Ir,kP,dL,h];simp,?_⟩;have:=W8 (P:=P) (gl:=gl) (orc:=orc) (ops:=ops) (T0:=T0) (m:=m) (i:=i+1) (p-(i+1)) (q:=kP P gl orc ops T0 m i) (c:=cells) (by rw[dL];simp only[h,kP];simp);rwa [show i+1+(p-(i+1))=p by omega]at this
 have oH:(dop P gl orc (Xu P ops o) (Xf P gl orc ops T0 m i).1 m (Xf P gl orc ops T0 m i).2).2.2=(Xf P gl orc ops T0 m i).2->AH P gl orc ops T0 m p (listed.setIfInBounds i true)=AH P gl orc ops T0 m p listed:=fun h=>
  W9 (by simp only[Ir,kP,dL,h];simp)
 have AK:listed.getD i false=false:=by rw[Xl (by rw[hI.size];exact hi) false true];exact hu
 have box:∀{cells:List AV}{arr:Array Value}{te:TypeId},ak w γ cells arr.toList->cells.all Qv=true->
   (dop P gl orc (Xu P ops o) (Xf P gl orc ops T0 m i).1 m (Xf P gl orc ops T0 m i).2).2=(.ptr (m.boxes.length+(Xf P gl orc ops T0 m i).2.length) 0,(Xf P gl orc ops T0 m i).2++[cells])->
   (execOp a.eval o).run P w=.ok (.value (.pointer (some ⟨w.heap.size,0,none⟩))) (w.alloc (.cells arr te))->
   o.wpIn (FW r) 0 P a w (fun a' w'=>∃γ',QY N w0 r au S Y P gl orc ops T0 m p (listed.setIfInBounds i true) γ' w' a') Q:=fun{cells arr te}hr bK hd aY=>by
  obtain⟨qD,r6⟩:=qP cells (by rw[hd]);have aO:=AI (p:=p) qD AK;refine Zn aY (fin (hI.mm.dm _ aO _) ?_ ?_)
  ·rw[N2 eH (by rw[hI.size];exact hi) qD r6];exact hI.mm.fq _ aO hr.toP (Ua hr bK)
  rw[hd];exact .ptr (by simp[G.box,kP])
 simp only[wpOpIn,ho];cases hg:o.guard with
 |none=>
  have hw:Region.wanted o (yielded ops a.tmps)=true:=by simp[Region.wanted,hg]
  rw[if_pos hw];have e1:(Xu P ops o).guard=none:=by simp[Xu,hg]
  cases XB:tr P o with
  |alloc zs=>
   have hd:dop P gl orc (Xu P ops o) (Xf P gl orc ops T0 m i).1 m (Xf P gl orc ops T0 m i).2=(zs.all Qv=true,.ptr (m.boxes.length+(Xf P gl orc ops T0 m i).2.length) 0,(Xf P gl orc ops T0 m i).2++[zs]):=by
    have e2:(Xu P ops o).op=.alloc zs:=XB;simp only[dop,e1,e2]
   rw[hd]at bQ;obtain⟨t,XC,hz⟩:=XA XB;obtain⟨i',z,dX,iX,hr⟩:=qH (w:=w) (γ:=γ) hz;refine box (te:=t) hr bQ (by rw[hd]) ?_;obtain⟨d',op',ty',arM,af',gu'⟩:=o;simp only at XC;subst XC;simp[execOp,Instr.alloc,zeroValue,typeInfo,dX,iX,newVar,newRow]
  |box x=>
   have hd:dop P gl orc (Xu P ops o) (Xf P gl orc ops T0 m i).1 m (Xf P gl orc ops T0 m i).2=(bare (ev gl (Xf P gl orc ops T0 m i).1 x)=true/\(cellsOf (ev gl (Xf P gl orc ops T0 m i).1 x)).all Qv=true,
     .ptr (m.boxes.length+(Xf P gl orc ops T0 m i).2.length) 0,(Xf P gl orc ops T0 m i).2++[cellsOf (ev gl (Xf P gl orc ops T0 m i).1 x)]):=by
    have e2:(Xu P ops o).op=.box x:=XB;simp only[dop,e1,e2]
   rw[hd]at bQ;obtain⟨t,y,XC,rfl⟩:=amw XB;have hry:=gA y (by rw[XC];simp[Op.operands]);refine box (te:=t) (kH hry bQ.1) bQ.2 (by rw[hd]) ?_;obtain⟨d',op',ty',arM,af',gu'⟩:=o;simp only at XC;subst XC;simp[execOp,Instr.box,newVar,newRow]
  |mks sz bytes zs x y=>
   obtain⟨t,l,c,te,i',XC,rfl,rfl,hu,dX,rfl,rfl,Cn⟩:=amv XB;have e2:(Xu P ops o).op=.mks i'.size i'.bytes zs (aA l) (aA c):=XB;simp only[dop,e1,e2]at bQ qP;have hl:=gA l (by rw[XC];simp[Op.operands]);have hc:=gA c (by rw[XC];simp[Op.operands]);split at bQ
   case h_2=>exact bQ.elim
   rename_i k1 n1 k2 n2 q1 q2;rw[q1]at hl;rw[q2]at hc;obtain⟨⟨g0,g1,g2,g3⟩,g4,g5⟩:=bQ;obtain⟨i2,z,hi2,hz,J3⟩:=qH (w:=w) (γ:=γ) Cn;rw[dX]at hi2;cases hi2
   have hd:dop P gl orc (Xu P ops o) (Xf P gl orc ops T0 m i).1 m (Xf P gl orc ops T0 m i).2=((0<=n1/\n1<=n2/\i'.bytes*n2<=281474976710656/\n2<=9223372036854775807)/\zs.length=i'.size/\zs.all Qv=true,.bs (m.boxes.length+(Xf P gl orc ops T0 m i).2.length) 0 n1.toNat i'.size,(Xf P gl orc ops T0 m i).2++[bG n2.toNat zs]):=by
    simp only[dop,e1,e2,q1,q2]
   have aY:=run_make (P:=P) w t te i' z hu dX hz k1 k2 n1 n2 g0 (by omega) g2 g3;obtain⟨yS,iw⟩:=aeZ (P:=P) (te:=te) (n:=n2.toNat) J3 g5 g4;obtain⟨qD,r6⟩:=qP (bG n2.toNat zs) (by simp only[q1,q2]);have aO:=AI (p:=p) qD AK
   have arN:(execOp a.eval o).run P w=.ok (.value (.slice (some ⟨w.heap.size,0,none⟩) n1.toNat n2.toNat)) (w.alloc (.cells (madeCells z.cells (n2.toNat*i'.size)) te)):=by
    obtain⟨d',op',ty',arM,af',gu'⟩:=o;simp only at XC;subst XC;simp[execOp,hl.aH,hc.aH,aY]
   refine Zn arN (fin (hI.mm.dm _ aO _) ?_ ?_)
   ·rw[N2 eH (by rw[hI.size];exact hi) qD r6];exact hI.mm.fq _ aO yS iw
   rw[hd];exact .bs (arr:=madeCells z.cells (n2.toNat*i'.size)) (e:=te) (by simp[G.box,kP]) (by omega) (by show(w.heap.push _)[w.heap.size]?=_;simp) (by rw[zzbt,size_madeCells];exact zzab _)
  |_=>
   have hd:dop P gl orc (Xu P ops o) (Xf P gl orc ops T0 m i).1 m (Xf P gl orc ops T0 m i).2=((rop P gl orc (ev gl (Xf P gl orc ops T0 m i).1) m o.dst (tr P o)).1,(rop P gl orc (ev gl (Xf P gl orc ops T0 m i).1) m o.dst (tr P o)).2,(Xf P gl orc ops T0 m i).2):=by
    have e2:(Xu P ops o).op=tr P o:=rfl;rw[XB]at e2;simp only[dop,e1,e2,XB];rfl
   rw[hd]at bQ;have tI:=oH (by rw[hd]);rw[hd,tI]at fin;exact Qcl hI.mm hB hI.g gA bQ r _ Q fun v w' γ' h1 h2 h3=>fin h1 h2 h3
 |some q=>
  obtain⟨j,want⟩:=q;have e1:(Xu P ops o).guard=some ((ops[j]?).bind (·.dst),want):=by simp[Xu,hg]
  cases hj:(ops[j]?).bind (·.dst)with
  |none=>
   rw[hj]at e1;simp only[dop,e1]at bQ
  |some t=>
   rw[hj]at e1;have qQ:t∈o.looksAt ops:=by simp[Oper.looksAt,hg,hj]
   have aT:=QZ t qQ;cases sj:Iq want ((Xf P gl orc ops T0 m i).1.getD t .junk)with
   |none=>simp only[dop,e1,sj]at bQ
   |some gw=>
    have hd:dop P gl orc (Xu P ops o) (Xf P gl orc ops T0 m i).1 m (Xf P gl orc ops T0 m i).2=(gok gl (Xf P gl orc ops T0 m i).1 gw (gxs (tr P o) (Xu P ops o).xs)/\(gw=true->(rop P gl orc (evG gl (Xf P gl orc ops T0 m i).1 (tr P o)) m o.dst (tr P o)).1),
      .gd gw (rop P gl orc (evG gl (Xf P gl orc ops T0 m i).1 (tr P o)) m o.dst (tr P o)).2,(Xf P gl orc ops T0 m i).2):=by
     simp only[dop,e1,sj];rfl
    rw[hd]at bQ;have tI:=oH (by rw[hd]);rw[hd,tI]at fin
    have W4:Region.wanted o (yielded ops a.tmps)=gw:=by
     have hyv:∀b,a.tmps.getD t undef=.bool b->yielded ops a.tmps j=some b:=fun b hb=>by
      have cW:t<a.tmps.size:=by
       rcases zzaa t a.tmps.size with h|h
       ·exact h
       simp[zzcz h,undef]at hb
      simp[cW]at hb;simp only[yielded,hj,zzch,zzaj cW,hb]
     have hyu:a.tmps.getD t undef=undef->yielded ops a.tmps j=none:=fun hb=>by
      rcases zzaa t a.tmps.size with cW|h
      ·simp[cW]at hb;simp only[yielded,hj,zzch,zzaj cW,hb];rfl
      simp only[yielded,hj,zzch,zzcz h]
     generalize(Xf P gl orc ops T0 m i).1.getD t .junk=gv at sj aT;cases gv with
     |bool g=>
      simp only[Iq,Option.some.injEq]at sj;subst sj;simp only[Region.wanted,hg,hyv g aT.bB];cases g<;>cases want<;>rfl
     |gd d x=>
      cases d with
      |false=>
       simp only[Region.wanted,hg,hyu aT.NT];cases x<;>simp[Iq]at sj<;>subst sj<;>cases want<;>rfl
      |true=>
       cases x<;>simp[Iq]at sj;rename_i b;subst sj;simp only[Region.wanted,hg,hyv b (aT.Cj rfl).bB];cases b<;>cases want<;>rfl
     |_=>simp[Iq]at sj
    rw[W4];obtain⟨h1,h2⟩:=bQ;cases Ta:gw with
    |true=>
     rw[Ta]at h1 h2 fin;simp only[if_true];refine Qcl (e:=evG gl (Xf P gl orc ops T0 m i).1 (tr P o)) hI.mm hB hI.g (fun x hx=>?_) (h2 rfl) r _ Q fun v w' γ' q1 q2 q3=>fin q1 q2 (.gd (fun _=>q3) (fun h=>by cases h));unfold evG;cases lI:rawOp (tr P o)with
     |true=>exact gA x hx
     |false=>
      refine AF (gA x hx) fun g' b hgb=>Cy h1 (aA x) ?_ g' b hgb rfl;simp only[gxs,lI,cond_false];simp[Xu,hg];exact⟨x,by simpa using hx,rfl⟩
    |false=>
     rw[Ta]at fin;simp only[zzbq,if_false];exact⟨fun _ _=>trivial,fin (Ev.refl _ _) hI.mm (.gd (fun h=>by cases h) (fun _=>rfl))⟩
def Fc{Q:Exit->Act->World->Prop}{K:AS->Prop}(hQ:∀γ w s a,K s->fR N w0 r au S P gl Y γ w s a->Q .normal a w)(hc:AG ops p=true)
  (amy:∀i o,i<p->ops[i]?=some o->(dop P gl orc (Xu P ops o) (Xf P gl orc ops T0 m i).1 m (Xf P gl orc ops T0 m i).2).1)
  (gM:Zx P gl orc Y ((ops.toList.drop p).map (Xu P ops)) ⟨(Xf P gl orc ops T0 m p).1,{m with boxes:=m.boxes++(Xf P gl orc ops T0 m p).2}⟩ K):
  ∀(bz:Nat)(listed:Array Bool)(γ:G)(w:World)(a:Act),QY N w0 r au S Y P gl orc ops T0 m p listed γ w a->uc ops listed<=bz->wpAnyIn (FW r) 0 P .any ops Q bz listed a w:=by
 obtain⟨hp,dy⟩:=Va hc
 have full:∀(bz:Nat)(listed:Array Bool)(γ:G)(w:World)(a:Act),QY N w0 r au S Y P gl orc ops T0 m p listed γ w a->uc ops listed<=bz->(∀i,i<p->listed.getD i false=true)->wpAnyIn (FW r) 0 P .any ops Q bz listed a w:=by
  intro bz listed γ w a hI uj bS;refine nk hQ hc bz p listed γ w _ a (zzab _) hp hI.size bS hI.tail uj gM ⟨?_,hI.ls,hI.rd,⟨?_,fun t x v hx hv=>?_⟩,hI.d,hI.g,hI.y,hI.e⟩
  ·have:=hI.mm;rw[aeX bS]at this;exact this
  ·simp[jc,hI.tl]
  have h1:=hI.tt t
  have hAt:At P gl orc ops T0 m p listed t=x:=by
   have oD:(Xf P gl orc ops T0 m p).1.getD t .junk=x:=by simp only at hx;simp[List.getD,hx]
   unfold At;split
   ·exact oD
   rename_i hw;rw[<- oD];refine(Qdu p fun j hj hd=>hw ?_).symm;unfold wr;rw[zzby];exact⟨j,zzbf.2 hj,by rw[bS j hj,hd];simp⟩
  rw[hAt]at h1;have:a.tmps.getD t undef=v:=by simp at hv;simp[hv]
  rwa [this]at h1
 intro bz;induction bz with
 |zero=>
  intro listed γ w a hI uj
  exact full 0 listed γ w a hI uj fun i hi=>by
   rw[Xl (by rw[hI.size];omega) false true];exact oJ (zzfy.1 uj) (by omega)
 |succ bz ih=>
  intro listed γ w a hI uj;by_cases bS:∀i,i<p->listed.getD i false=true
  ·exact full (bz+1) listed γ w a hI uj bS
  have hex:∃k,k<p/\listed.getD k true=false:=by
   refine Classical.byContradiction fun hn=>bS fun i hi=>?_;rw[Xl (by rw[hI.size];omega) false true];cases hl:listed.getD i true with
   |true=>rfl
   |false=>exact absurd ⟨i,hi,hl⟩ hn
  obtain⟨k,hk,hlk⟩:=hex;refine⟨fun hr=>?_,fun i hi=>?_⟩
  ·obtain⟨j,hj⟩:=Wo hc hI.size k k (zzab _) (by omega) hlk;rw[hr]at hj;cases hj
  obtain⟨ai,hu,o,ho,cN⟩:=Wp hc hi
  have eH:i<p:=by
   rcases zzaa i p with h|h
   ·exact h
   have:=jd hI.clo ho ((dy i o ho).2.2 h) cN i k (by omega) (by omega);rw[Xl (by rw[hI.size];omega) false true,hlk]at this;cases this
  refine wpOpIn_mono ?_ (KC hc hI ho eH hu cN (amy i o eH ho));rintro a' w' ⟨γ',zg⟩;refine ih _ γ' w' a' zg ?_;have:=vV hI.size ai hu;omega
def vX{Q:Exit->Act->World->Prop}{K:AS->Prop}{γ:G}{w:World}{s:AS}{a:Act}(hQ:∀γ w s a,K s->fR N w0 r au S P gl Y γ w s a->Q .normal a w)(hc:AG ops p=true)
  (h:vcD P gl orc Y ((ops.toList.drop p).map (Xu P ops)) K ((ops.toList.take p).map (Xu P ops)) s.T s.m [])(hs:fR N w0 r au S P gl Y γ w s a):
  wpAnyIn (FW r) 0 P .any ops Q ops.size (Array.replicate ops.size false) a {w with drawn:=w.drawn+1}:=by
 have hp:=(Va hc).1;obtain⟨h1,h2⟩:=N0 (P:=P) (gl:=gl) (orc:=orc) (T0:=s.T) (m:=s.m) ((ops.toList.drop p).map (Xu P ops)) K hp p 0 (by simp) (by rw[zzdb];exact h);refine Fc (T0:=s.T) (m:=s.m) hQ hc (fun i o hi ho=>h1 i o (zzcc _) hi ho) h2 ops.size _ γ w.drew a ⟨by simp,fun i _ hi=>by simp[hi],fun i o h=>(by rcases zzaa i ops.size with h'|h'<;>simp[h']at h),?_,hs.ls.mono (Ev.drew w γ),hs.rd.bn (Ev.drew w γ).dD,?_,fun t=>?_,hs.d.bn (Ev.drew w γ).dD,fun g=>(hs.g g).mono (Ev.drew w γ).cV,hs.y.mono (Ev.drew w γ).dD,hs.e.trans (Ev.drew w γ).dD⟩ ?_
 ·have hB:AH P gl orc ops s.T s.m p (Array.replicate ops.size false)=s.m.B:=by
   funext id;unfold AH;simp only[AM.B];split
   ·rfl
   rename_i aO;rw[if_neg,zzax (by omega)];rw[zzby];rintro⟨j,_,hj⟩
   have:(Array.replicate ops.size false).getD j false=false:=by
    rcases zzaa j ops.size with h|h<;>simp[h]
   rw[this]at hj;cases hj
  rw[hB];exact hs.m.drew
 ·have:=hs.t.1;simp at this;omega
 ·have hw:wr ops p (Array.replicate ops.size false) t=false:=by
   unfold wr;rw[zzeo];intro j _
   have:(Array.replicate ops.size false).getD j false=false:=by
    rcases zzaa j ops.size with h|h<;>simp[h]
   rw[this];simp
  unfold At;rw[hw];simp only[zzbq,if_false];have:=(hs.t.mono (Ev.drew w γ)).get t;simpa[List.getD]using this
 unfold uc;exact zzbm (zzfj) (by simp)
end
open Go Go.RowKit
def qR(o:Oper):Bool:=o.guard.isNone
def arO(f:FuncId):Bool:=f==276||f==198||f==122||f==179||f==23||f==26||f==16||f==17
def ajZ(o:Oper):Bool:=match o.op with
 |.call ⟨.value (.tmp _),_,_⟩=>o.dst.isSome
 |.call ⟨.value (.func f),_,_⟩=>o.dst.isSome&&arO f
 |.call ⟨.builtin .copy,_,_⟩=>true
 |.call ⟨.builtin .append,_,_⟩=>o.dst.isSome
 |.store _ _ _=>true
 |.mapUpdate _ _ _ _=>true
 |.mapEntry _ _ _=>true
 |.entryStore _ _ _ _=>true
 |_=>false
def lJ(o:Oper):Bool:=ajZ o||(match o.op with
 |.alloc _|.box _ _|.makeMap _ _|.range _ _=>true
 |_=>false)
def gE(ops:Array Oper)(p:Oper->Bool)(i:Nat):Bool:=match ops[i]? with
 |some o=>p o
 |none=>false
def Q0(ops:Array Oper):List Nat->Bool
 |j::j'::r=>(match ops[j']? with|some o=>(Vo o).contains j|none=>false)&&Q0 ops (j'::r)
 |_=>true
def nq(ops:Array Oper)(p:Nat):Option (List Nat):=
 let js:=(List.range p).filter (gE ops lJ)
 if(List.range p).any (gE ops ajZ)&&Q0 ops js&&(List.range p).all (gE ops qR)then some js else none
inductive Fg
 |eff
 |pre
 |oth
def CD(ops:Array Oper):Nat->List Nat->List Nat
 |0,s=>s
 |k+1,s=>bif s.any fun i=>vS ops i k then CD ops k (k::s)else CD ops k s
def uk{ops:Array Oper}{listed:Array Bool}(h:Tb ops listed):∀(k:Nat)(s:List Nat),(∀i∈s,listed.getD i false=true)->∀i∈CD ops k s,listed.getD i false=true
 |0,_,hs,i,hi=>hs i hi
 |k+1,s,hs,i,hi=>by
  simp only[CD]at hi;cases hc:s.any fun i=>vS ops i k with
  |false=>rw[hc]at hi;exact uk h k s hs i hi
  |true=>
   rw[hc]at hi;refine uk h k (k::s) (fun j hj=>?_) i hi;rcases zzau.1 hj with rfl|hj
   ·obtain⟨x,hx,hw⟩:=zzby.1 hc;unfold vS at hw;split at hw
    ·rename_i o ho;exact h x o (hs x hx) ho j (by simpa using hw)
    cases hw
   exact hs j hj
def mq(ops:Array Oper)(js:List Nat)(i:Nat):Bool:=match js with
 |j::_=>(CD ops j [j]).contains i
 |[]=>false
def Jl(ops:Array Oper)(js:List Nat)(i:Nat):Fg:=bif js.contains i then .eff else bif mq ops js i then .pre else .oth
def flags(ops:Array Oper)(p:Nat)(js:List Nat):List Fg:=(List.range p).map (Jl ops js)
section
variable (P:Program) (gl:Nat->AV) (orc:Nat->FuncId->List AV->AV) (Y:YT)
def memEff:aD->Bool
 |.store _ _ _|.cpy _ _ _|.mupd _ _ _ _|.ment _ _ _ _|.esto _ _ _|.alloc _|.box _|.mkmap _|.rng _|.app _ _ _ _=>true
 |_=>false
def effV(v:AV):aD->AV
 |.alloc _|.box _|.mkmap _|.rng _|.ment _ _ _ _|.app _ _ _ _=>v
 |_=>.junk
def effC(e:bN->AV)(m:AM)(dst:Option Nat)(av:AV)(m1:AM):aD->Prop
 |.call f args=>(match e f with
  |.fn g first cap=>an P gl Y g (first++args.map e++cap) m (fun x m2=>x=av/\m2=m1)
  |_=>False)
 |so=>memEff so=true/\(sop P gl orc e m dst so).1/\av=effV (sop P gl orc e m dst so).2.1 so/\m1=(sop P gl orc e m dst so).2.2
def nr(l2:List SO)(K:AS->Prop)(m:AM)(ms:List (AV×AM)):List SO->List Fg->List (AV×AM)->AM->List AV->Prop
 |[],_,q,mc,T=>q=[]/\Zx P gl orc Y l2 ⟨T,mc⟩ K
 |_::_,[],_,_,_=>False
 |o::r,.eff::fl,q,mc,T=>(match q with
  |[]=>False
  |x::q=>effC P gl orc Y (ev gl T) mc o.dst x.1 x.2 o.op/\nr l2 K m ms r fl q x.2 (put T o.dst x.1))
 |o::r,.pre::fl,q,mc,T=>(rop P gl orc (ev gl T) m o.dst o.op).1/\nr l2 K m ms r fl q mc (put T o.dst (rop P gl orc (ev gl T) m o.dst o.op).2)
 |o::r,.oth::fl,q,mc,T=>(rop P gl orc (ev gl T) m o.dst o.op).1/\(∀x∈ms,rop P gl orc (ev gl T) x.2 o.dst o.op=rop P gl orc (ev gl T) m o.dst o.op)/\nr l2 K m ms r fl q mc (put T o.dst (rop P gl orc (ev gl T) m o.dst o.op).2)
end
def KD:List (Nat×AV)->Nat->Option AV
 |[],_=>none
 |(k,a)::r,d=>if k=d then some a else KD r d
def Xm:List Nat->List (AV×AM)->List (Nat×AV)
 |j::js,x::q=>(j,x.1)::Xm js q
 |_,_=>[]
def Ju(listed:Array Bool):AM->List Nat->List (AV×AM)->AM
 |m,j::js,x::q=>if listed.getD j false then Ju listed x.2 js q else m
 |m,_,_=>m
def Ke(m:AM)(ms:List (AV×AM)):Nat->AM
 |0=>m
 |a+1=>(ms.getD a (.junk,m)).2
def chn(listed:Array Bool):List Nat->Prop
 |j::j'::r=>(listed.getD j' false=true->listed.getD j false=true)/\chn listed (j'::r)
 |_=>True
section
variable {N:Nat} {w0:iu} {r:Option Nat} {au:Nat->Nat->Prop} {S:G×World} {Y:YT} {P:Program} {gl:Nat->AV} {orc:Nat->FuncId->List AV->AV} {ops:Array Oper} {T0:List AV} {m:AM} {p:Nat}
def Fe(listed:Array Bool):∀(js:List Nat)(ms:List (AV×AM))(m:AM),Ju listed m js ms=m\/∃x∈ms,Ju listed m js ms=x.2
 |[],ms,m=>.inl (by cases ms<;>rfl)
 |j::js,[],m=>.inl rfl
 |j::js,x::q,m=>by
  simp only[Ju];split
  ·rcases Fe listed js q x.2 with h|⟨y,hy,h⟩
   ·exact .inr ⟨x,by simp,h⟩
   exact .inr ⟨y,by simp[hy],h⟩
  exact .inl rfl
def Qat{listed:Array Bool}:∀{js:List Nat}{ms:List (AV×AM)}{m:AM}{a:Nat},js.length=ms.length->a<=js.length->(∀b j,b<a->js[b]?=some j->listed.getD j false=true)->(∀j,js[a]?=some j->listed.getD j false=false)->
  Ju listed m js ms=Ke m ms a
 |[],[],m,a,_,ha,_,_=>by
  have:a=0:=by simpa using ha
  subst this;rfl
 |[],_::_,_,_,h,_,_,_=>by simp at h
 |_::_,[],_,_,h,_,_,_=>by simp at h
 |j::js,x::q,m,0,_,_,_,h=>by
  simp only[Ju,Ke];rw[h j rfl];rfl
 |j::js,x::q,m,a+1,hl,ha,h1,h2=>by
  simp only[Ju];rw[h1 0 j (by omega) rfl,if_pos rfl];rw[Qat (a:=a) (by simpa using hl) (by simpa using ha) (fun b j hb hj=>h1 (b+1) j (by omega) (by simpa using hj)) (fun j hj=>h2 j (by simpa using hj))];cases a with
  |zero=>rfl
  |succ a=>
   simp only[Ke,List.getD_cons_succ];have:a<q.length:=by simp at ha hl;omega
   simp[List.getD,this]
def AL{listed N6:Array Bool}:∀{js:List Nat}{ms:List (AV×AM)}{m:AM},(∀j∈js,N6.getD j false=listed.getD j false)->Ju N6 m js ms=Ju listed m js ms
 |[],_,_,_=>rfl
 |_::_,[],_,_=>rfl
 |j::js,x::q,m,h=>by
  simp only[Ju];rw[h j (by simp),AL fun j hj=>h j (by simp[hj])]
def je{listed:Array Bool}:∀{js:List Nat},chn listed js->∀{a b j j':Nat},a<b->js[a]?=some j->js[b]?=some j'->listed.getD j' false=true->listed.getD j false=true
 |[],_,a,b,j,j',_,h,_,_=>by simp at h
 |[x],_,a,b,j,j',XD,h,h',_=>by
  have:=(zza.1 h').1;simp at this;omega
 |x::y::r,hc,0,1,j,j',_,h,h',hl=>by
  simp at h h';subst h;subst h';exact hc.1 hl
 |x::y::r,hc,0,b+2,j,j',_,h,h',hl=>by
  simp at h;subst h;exact hc.1 (je hc.2 (a:=0) (b:=b+1) (by omega) rfl (by simpa using h') hl)
 |x::y::r,hc,a+1,b+1,j,j',XD,h,h',hl=>je hc.2 (a:=a) (b:=b) (by omega) (by simpa using h) (by simpa using h') hl
def CE{listed:Array Bool}{i:Nat}:∀{js:List Nat},chn listed js->(∀a j,js[a]?=some j->js[a+1]?=some i->listed.getD j false=true)->chn (listed.setIfInBounds i true) js
 |[],_,_=>trivial
 |[_],_,_=>trivial
 |j::j'::r,hc,h=>by
  refine⟨fun hl=>?_,CE hc.2 fun a x hx oD=>h (a+1) x (by simpa using hx) (by simpa using oD)⟩
  have mono:∀k,listed.getD k false=true->(listed.setIfInBounds i true).getD k false=true:=fun k hk=>by
   by_cases qO:i=k
   ·subst qO
    have:i<listed.size:=by
     rcases zzaa i listed.size with h|h
     ·exact h
     simp[zzdt.2 h]at hk
    exact Zv this
   rw[Qx (Ne.symm qO)];exact hk
  by_cases fc:i=j'
  ·subst fc;exact mono j (h 0 j rfl rfl)
  rw[Qx (Ne.symm fc)]at hl;exact mono j (hc.1 hl)
def Qcq{l:List Nat}(h:l.Nodup){a b i:Nat}(h1:l[a]?=some i)(h2:l[b]?=some i):a=b:=by
 obtain⟨ha,ea⟩:=zza.1 h1;obtain⟨hb,eb⟩:=zza.1 h2;rcases zzfh a b with h'|h'|h'
 ·exact absurd (ea.trans eb.symm) (zzdi.1 h a b ha hb h')
 ·exact h'
 exact absurd (eb.trans ea.symm) (zzdi.1 h b a hb ha h')
def CF(P:Program)(gl:Nat->AV)(orc:Nat->FuncId->List AV->AV)(ops:Array Oper)(m:AM)(L:List (Nat×AV))(i:Nat)(T:List AV):AV:=match KD L i with
 |some av=>av
 |none=>match ops[i]? with
  |some o=>(rop P gl orc (ev gl T) m o.dst (tr P o)).2
  |none=>.junk
def cw(P:Program)(gl:Nat->AV)(orc:Nat->FuncId->List AV->AV)(ops:Array Oper)(T0:List AV)(m:AM)(L:List (Nat×AV)):Nat->List AV
 |0=>T0
 |k+1=>match ops[k]? with
  |some o=>put (cw P gl orc ops T0 m L k) o.dst (CF P gl orc ops m L k (cw P gl orc ops T0 m L k))
  |none=>cw P gl orc ops T0 m L k
def Qcw{L:List (Nat×AV)}{k:Nat}{o:Oper}(h:ops[k]?=some o):cw P gl orc ops T0 m L (k+1)=put (cw P gl orc ops T0 m L k) o.dst (CF P gl orc ops m L k (cw P gl orc ops T0 m L k)):=by
 simp only[cw,h]
def kQ{L:List (Nat×AV)}:∀k,(cw P gl orc ops T0 m L k).length=T0.length
 |0=>rfl
 |k+1=>by
  cases h:ops[k]? with
  |none=>simp only[cw,h];exact kQ k
  |some o=>rw[Qcw h,vU];exact kQ k
def Qcx{L:List (Nat×AV)}{t:Nat}:∀k,(∀j,j<k->Yo ops j≠some t)->(cw P gl orc ops T0 m L (k)).getD t .junk=T0.getD t .junk
 |0,_=>rfl
 |k+1,h=>by
  cases ho:ops[k]? with
  |none=>simp only[cw,ho];exact Qcx k fun j hj=>h j (by omega)
  |some o=>
   rw[Qcw ho,Qbs (by have:=h k (by omega);simpa[Yo,ho]using this)];exact Qcx k fun j hj=>h j (by omega)
def jf{L:List (Nat×AV)}{t k:Nat}:∀n,(∀j,k<=j->j<k+n->Yo ops j≠some t)->(cw P gl orc ops T0 m L (k+n)).getD t .junk=(cw P gl orc ops T0 m L (k)).getD t .junk
 |0,_=>rfl
 |n+1,h=>by
  rw[<- zzao];cases ho:ops[k+n]? with
  |none=>simp only[cw,ho];exact jf n fun j h1 h2=>h j h1 (by omega)
  |some o=>
   rw[Qcw ho,Qbs (by have:=h (k+n) (by omega) (by omega);simpa[Yo,ho]using this)];exact jf n fun j h1 h2=>h j h1 (by omega)
def zh(P:Program)(gl:Nat->AV)(orc:Nat->FuncId->List AV->AV)(ops:Array Oper)(T0:List AV)(m:AM)(L:List (Nat×AV))(p:Nat)(listed:Array Bool)(t:Nat):AV:=
 if wr ops p listed t then(cw P gl orc ops T0 m L (p)).getD t .junk else T0.getD t .junk
def aj0{L:List (Nat×AV)}(hc:AG ops p=true){listed:Array Bool}(hsz:listed.size=ops.size){i:Nat}{o:Oper}(ho:ops[i]?=some o)(eH:i<p)(hu:listed.getD i true=false)(cN:∀j∈Vo o,listed.getD j false=true)
  {t:Nat}(ht:t∈o.looksAt ops):(cw P gl orc ops T0 m L (i)).getD t .junk=zh P gl orc ops T0 m L p listed t:=by
 have hi:i<ops.size:=(zzbu.1 ho).1;obtain⟨hp,dy⟩:=Va hc;unfold zh;by_cases hex:∃j,j<p/\Yo ops j=some t/\j≠i
 ·obtain⟨j,hj,hd,aJ⟩:=hex;obtain⟨Aj,hja⟩:=((dy i o ho).2.1 eH).1 t ht j hj hd aJ
  have hw:wr ops p listed t=true:=by
   unfold wr;rw[zzby];exact⟨j,zzbf.2 hj,by rw[cN j hja,hd];simp⟩
  rw[if_pos hw]
  have:=jf (P:=P) (gl:=gl) (orc:=orc) (ops:=ops) (T0:=T0) (m:=m) (L:=L) (t:=t) (k:=i) (p-i) fun k cZ dw N4=>by
   have hk:k<ops.size:=by omega
   have N5:ops[k]?=some ops[k]:=zzaj hk;have:=((dy k _ N5).2.1 (by omega)).2 j (by omega) t hd;simp[Yo,N5]at N4;exact this N4
  rw[show i+(p-i)=p by omega]at this;exact this.symm
 have hw:wr ops p listed t=false:=by
  unfold wr;rw[zzeo];intro j hj;simp only[zzak,beq_iff_eq,not_and];intro hl hd;by_cases Aj:j=i
  ·subst Aj;rw[Xl (by omega) false true,hu]at hl;cases hl
  exact hex ⟨j,zzbf.1 hj,hd,Aj⟩
 rw[hw];simp only[zzbq,if_false];exact Qcx i fun j hj hd=>hex ⟨j,by omega,hd,by omega⟩
def N7{L:List (Nat×AV)}(hc:AG ops p=true){listed:Array Bool}(hsz:listed.size=ops.size){i:Nat}{o:Oper}(ho:ops[i]?=some o)(eH:i<p){t:Nat}:
  zh P gl orc ops T0 m L p (listed.setIfInBounds i true) t=if o.dst=some t/\t<T0.length then CF P gl orc ops m L i (cw P gl orc ops T0 m L i)else zh P gl orc ops T0 m L p listed t:=by
 have hi:i<ops.size:=(zzbu.1 ho).1;obtain⟨hp,dy⟩:=Va hc;by_cases hd:o.dst=some t
 ·have hw:wr ops p (listed.setIfInBounds i true) t=true:=by
   unfold wr;rw[zzby];exact⟨i,zzbf.2 eH,by rw[Zv (by omega)];simp[Yo,ho,hd]⟩
  have hl:=jf (P:=P) (gl:=gl) (orc:=orc) (ops:=ops) (T0:=T0) (m:=m) (L:=L) (t:=t) (k:=i+1) (p-(i+1)) fun k cZ dw N4=>by
   have hk:k<ops.size:=by omega
   have N5:ops[k]?=some ops[k]:=zzaj hk;have:=((dy k _ N5).2.1 (by omega)).2 i (by omega) t (by simp[Yo,ho,hd]);simp[Yo,N5]at N4;exact this N4
  rw[show i+1+(p-(i+1))=p by omega]at hl;by_cases ht:t<T0.length
  ·rw[if_pos ⟨hd,ht⟩];unfold zh;rw[if_pos hw,hl,Qcw ho,hd];exact mj (by rw[kQ];exact ht)
  rw[if_neg (by simp[ht])]
  have h1:∀k,(cw P gl orc ops T0 m L (k)).getD t .junk=.junk:=fun k=>by
   have:=kQ (P:=P) (gl:=gl) (orc:=orc) (ops:=ops) (T0:=T0) (m:=m) (L:=L) k;simp only[List.getD];rw[zzax (by omega)];rfl
  have h2:T0.getD t .junk=.junk:=h1 0;unfold zh;rw[h1 p,h2];simp
 rw[if_neg (by simp[hd])]
 have hw:wr ops p (listed.setIfInBounds i true) t=wr ops p listed t:=by
  unfold wr;congr 1;funext j;by_cases hj:j=i
  ·subst hj;have hb:(o.dst==some t)=false:=by simpa using hd
   simp[Yo,ho,hb]
  rw[Qx hj]
 unfold zh;rw[hw]
structure zi (N:Nat) (w0:iu) (r:Option Nat) (au:Nat->Nat->Prop) (S:G×World) (Y:YT) (P:Program) (gl:Nat->AV) (orc:Nat->FuncId->List AV->AV) (ops:Array Oper) (T0:List AV) (m:AM) (ms:List (AV×AM)) (js:List Nat) (L:List (Nat×AV)) (p:Nat) (listed:Array Bool) (γ:G) (w:World) (a:Act):Prop where
 size:listed.size=ops.size
 tail:∀i,p<=i->i<ops.size->listed.getD i true=false
 ch:chn listed js
 clo:∀i o,listed.getD i false=true->ops[i]?=some o->∀j∈Vo o,listed.getD j false=true
 mm:az N w0 au γ w (Ju listed m js ms).B (Ju listed m js ms).L
 ls:cQ γ w (Ju listed m js ms)
 rd:Rdr r γ w
 tl:a.tmps.size=T0.length
 tt:∀t,aB w γ (zh P gl orc ops T0 m L p listed t) (a.tmps.getD t undef)
 d:Dfr S.2.heap.size γ w a.defers
 g:∀g,aB w γ.cV (gl g) (.pointer (some ⟨g,0,none⟩))
 y:YOK N w0 au P Y γ w
 e:eG S.2 S.1 w γ
def Ff:∀(js:List Nat)(ms:List (AV×AM))(d:Nat),d ∉ js->KD (Xm js ms) d=none
 |[],_,_,_=>rfl
 |_::_,[],_,_=>rfl
 |j::js,x::q,d,h=>by
  simp only[Xm,KD];rw[if_neg (by rintro rfl;exact h (by simp))];exact Ff js q d fun h'=>h (by simp[h'])
def Fh:∀(js:List Nat)(ms:List (AV×AM))(a i:Nat)(x:AV×AM),js.Nodup->js[a]?=some i->ms[a]?=some x->KD (Xm js ms) i=some x.1
 |[],_,_,_,_,_,h,_=>by simp at h
 |_::_,[],_,_,_,_,_,h=>by simp at h
 |j::js,y::q,0,i,x,_,h,hx=>by
  simp at h hx;subst h;subst hx;simp only[Xm,KD,if_true]
 |j::js,y::q,a+1,i,x,hn,h,hx=>by
  have sd:=List.nodup_cons.1 hn;have h':js[a]?=some i:=by simpa using h
  simp only[Xm,KD];rw[if_neg (by rintro rfl;exact sd.1 (zzac h'))];exact Fh js q a i x sd.2 h' (by simpa using hx)
def oK{js:List Nat}{ms:List (AV×AM)}{a i:Nat}{x:AV×AM}(hn:js.Nodup)(h:js[a]?=some i)(hx:ms[a]?=some x)(T:List AV):CF P gl orc ops m (Xm js ms) i T=x.1:=by
 unfold CF;rw[Fh js ms a i x hn h hx]
def vY{js:List Nat}{ms:List (AV×AM)}{i:Nat}{o:Oper}(h:i ∉ js)(ho:ops[i]?=some o)(T:List AV):CF P gl orc ops m (Xm js ms) i T=(rop P gl orc (ev gl T) m o.dst (tr P o)).2:=by
 unfold CF;rw[Ff js ms i h,ho]
def sr{ms:List (AV×AM)}{js:List Nat}(hc:AG ops p=true){Q:Exit->Act->World->Prop}{listed:Array Bool}{γ:G}{w:World}{a:Act}
  (hI:zi N w0 r au S Y P gl orc ops T0 m ms js (Xm js ms) p listed γ w a){i:Nat}{o:Oper}(ho:ops[i]?=some o)(eH:i<p)(gN:qR o=true)(aI:js.length=ms.length)(Av:js.Nodup)
  (hu:listed.getD i true=false)(cN:∀j∈Vo o,listed.getD j false=true)(CG:∀a j,js[a]?=some j->js[a+1]?=some i->j∈Vo o)
  (aJ:i ∉ js->(rop P gl orc (ev gl (cw P gl orc ops T0 m (Xm js ms) i)) m o.dst (tr P o)).1/\(mq ops js i=false->∀x∈ms,rop P gl orc (ev gl (cw P gl orc ops T0 m (Xm js ms) i)) x.2 o.dst (tr P o)=rop P gl orc (ev gl (cw P gl orc ops T0 m (Xm js ms) i)) m o.dst (tr P o)))
  (NX:∀k x,js[k]?=some i->ms[k]?=some x->effC P gl orc Y (ev gl (cw P gl orc ops T0 m (Xm js ms) i)) (Ke m ms k) o.dst x.1 x.2 (tr P o)):
  wpOpIn (FW r) 0 P ops Q i (fun a' w'=>∃γ',zi N w0 r au S Y P gl orc ops T0 m ms js (Xm js ms) p (listed.setIfInBounds i true) γ' w' a') a w:=by
 have hi:i<ops.size:=(zzbu.1 ho).1;have gL:i<listed.size:=by rw[hI.size];exact hi
 have QZ:∀t∈o.looksAt ops,aB w γ ((cw P gl orc ops T0 m (Xm js ms) i).getD t .junk) (a.tmps.getD t undef):=fun t ht=>by
  rw[aj0 (P:=P) (gl:=gl) (orc:=orc) (T0:=T0) (m:=m) (L:=Xm js ms) hc hI.size ho eH hu cN ht];exact hI.tt t
 have gA:∀x∈o.op.operands,aB w γ (ev gl (cw P gl orc ops T0 m (Xm js ms) i) (aA x)) (a.eval x):=fun x hx=>by
  cases x with
  |tmp t=>exact QZ t (by simp only[Oper.looksAt,zzap,zzfc];exact .inl ⟨.tmp t,by simpa using hx,rfl⟩)
  |const v=>exact Jr w γ v
  |func f=>exact .fn rfl (fun i c v h=>by simp at h) rfl fun i c v h=>by simp at h
  |global g=>exact(hI.g g).gp
 have jg:chn (listed.setIfInBounds i true) js:=CE hI.ch fun a j h1 h2=>cN j (CG a j h1 h2);have hpr:Tb ops (listed.setIfInBounds i true):=Tb.set hI.clo ho gL cN
 have fin:∀{v:Value}{w':World}{γ':G},eG w γ w' γ'->az N w0 au γ' w' (Ju (listed.setIfInBounds i true) m js ms).B (Ju (listed.setIfInBounds i true) m js ms).L->cQ γ' w' (Ju (listed.setIfInBounds i true) m js ms)->
   aB w' γ' (CF P gl orc ops m (Xm js ms) i (cw P gl orc ops T0 m (Xm js ms) i)) v->∃γ',zi N w0 r au S Y P gl orc ops T0 m ms js (Xm js ms) p (listed.setIfInBounds i true) γ' w' (a.put o.dst v):=fun{v w' γ'}he hm hl hr=>by
  refine⟨γ',by simp[hI.size],fun j ew qg=>by rw[Qx (by omega)];exact hI.tail j ew qg,jg,hpr,hm,hl,hI.rd.bn he,?_,fun t=>?_,?_,fun g=>(hI.g g).bn he.cV,hI.y.mono he,hI.e.trans he⟩
  ·cases hd:o.dst<;>simp[Act.put,hI.tl]
  ·rw[N7 hc hI.size ho eH];by_cases hd:o.dst=some t
   ·by_cases ht:t<T0.length
    ·rw[if_pos ⟨hd,ht⟩,hd];have:(a.put (some t) v).tmps.getD t undef=v:=by simp[Act.put,hI.tl,ht]
     rw[this];exact hr
    rw[if_neg (by simp[ht]),hd];have:(a.put (some t) v).tmps.getD t undef=a.tmps.getD t undef:=by simp[Act.put,hI.tl,ht]
    rw[this];exact(hI.tt t).bn he
   rw[if_neg (by simp[hd])]
   have:(a.put o.dst v).tmps.getD t undef=a.tmps.getD t undef:=by
    cases ES:o.dst with
    |none=>rfl
    |some d=>simp only[Act.put];simp;rw[zzda (by rintro rfl;exact hd ES)]
   rw[this];exact(hI.tt t).bn he
  cases hd:o.dst<;>exact hI.d.bn he
 have hg:o.guard=none:=by simp only[qR]at gN;simpa using gN
 simp only[wpOpIn,ho];have hw:Region.wanted o (yielded ops a.tmps)=true:=by simp[Region.wanted,hg]
 rw[if_pos hw];by_cases fc:i∈js
 ·obtain⟨k,hk⟩:=zzca.1 fc;have zj:k<ms.length:=by rw[<- aI];exact(zza.1 hk).1
  obtain⟨x,hx⟩:∃x,ms[k]?=some x:=⟨ms[k],zzad zj⟩;have h1:=NX k x hk hx;have h2:=oK (P:=P) (gl:=gl) (orc:=orc) (ops:=ops) (m:=m) Av hk hx (cw P gl orc ops T0 m (Xm js ms) i);have Tc:listed.getD i false=false:=by rw[Xl gL false true];exact hu
  have XE:∀b j,b<k->js[b]?=some j->listed.getD j false=true:=fun b j hb hj=>by
   have mw:k-1<js.length:=by have:=(zza.1 hk).1;omega
   obtain⟨j1,ew⟩:∃j1,js[k-1]?=some j1:=⟨js[k-1],zzad mw⟩;have ef:=cN j1 (CG (k-1) j1 ew (by rw[show k-1+1=k by omega];exact hk));rcases zzaa b (k-1)with h|h
   ·exact je hI.ch h hj ew ef
   obtain rfl:b=k-1:=by omega
   rw[hj]at ew;cases ew;exact ef
  have Td:Ju listed m js ms=Ke m ms k:=Qat aI (by have:=(zza.1 hk).1;omega) XE (fun j hj=>by rw[hk]at hj;cases hj;exact Tc)
  have oI:Ju (listed.setIfInBounds i true) m js ms=x.2:=by
   have:=Qat (listed:=listed.setIfInBounds i true) (m:=m) (a:=k+1) aI (by have:=(zza.1 hk).1;omega) (fun b j hb hj=>?_) (fun j hj=>?_)
   ·rw[this];simp[Ke,List.getD,hx]
   ·rcases zzaa b k with h|h
    ·have eu:j≠i:=by
      rintro rfl;have:=Qcq Av hj hk;omega
     rw[Qx eu];exact XE b j h hj
    obtain rfl:b=k:=by omega
    rw[hk]at hj;cases hj;exact Zv gL
   have eu:j≠i:=by
    rintro rfl;have:=Qcq Av hj hk;omega
   rw[Qx eu];cases hl:listed.getD j false with
   |false=>rfl
   |true=>rw[je hI.ch (Nat.lt_succ_self k) hk hj hl]at Tc;cases Tc
  rw[oI,h2]at fin;have mz:=hI.mm;have nc:=hI.ls;rw[Td]at mz nc
  have Fi:fR N w0 r au S P gl Y γ w ⟨(List.range T0.length).map fun t=>zh P gl orc ops T0 m (Xm js ms) p listed t,Ke m ms k⟩ a:=by
   refine⟨mz,nc,hI.rd,⟨by simp[hI.tl],fun t x v hx hv=>?_⟩,hI.d,hI.g,hI.y,hI.e⟩
   ·have ai:t<T0.length:=by
     rcases zzaa t T0.length with h|h
     ·exact h
     simp[zzdt.2 h]at hx
    simp[ai]at hx;have:=hI.tt t;rw[hx]at this;have EX:a.tmps.getD t undef=v:=by simp at hv;simp[hv]
    rwa [EX]at this
  have mem:∀so,tr P o=so->memEff so=true->((sop P gl orc (ev gl (cw P gl orc ops T0 m (Xm js ms) i)) (Ke m ms k) o.dst so).1/\x.1=effV (sop P gl orc (ev gl (cw P gl orc ops T0 m (Xm js ms) i)) (Ke m ms k) o.dst so).2.1 so/\x.2=(sop P gl orc (ev gl (cw P gl orc ops T0 m (Xm js ms) i)) (Ke m ms k) o.dst so).2.2)->
    o.wpIn (FW r) 0 P a w (fun a' w'=>∃γ',zi N w0 r au S Y P gl orc ops T0 m ms js (Xm js ms) p (listed.setIfInBounds i true) γ' w' a') Q:=fun so XB _⟨k1,k2,k3⟩=>by
   refine AE (orc:=orc) (K:=fun av' m'=>x.1=effV av' so/\m'=x.2) mz hI.g gA ⟨by rw[XB];exact k1,by rw[XB];exact⟨k2,k3.symm⟩⟩ r _ Q fun v w' γ' av' m' hK h3 h4 h5 h6=>?_;obtain⟨hK1,rfl⟩:=hK;refine fin h4.dD h5 (nc.mono' h4 h3) ?_;rw[hK1];unfold effV;split<;>first|exact h6|exact .junk _
  cases htr:tr P o with
  |call f args=>
   rw[htr]at h1
   have qG:vcEff P gl Y (ev gl (cw P gl orc ops T0 m (Xm js ms) i)) (Ke m ms k) (fun y m2=>y=x.1/\m2=x.2) (tr P o):=by
    rw[htr];simp only[effC]at h1;simp only[vcEff];split at h1
    ·rename_i g first cap cA;simp only[cA];exact h1
    exact h1.elim
   refine kM Fi gA qG fun v w' γ' av' m' hK h3 h4 h5 h6=>?_;obtain⟨rfl,rfl⟩:=hK;exact fin h3 h4 h5 h6
  |_=>rw[htr]at h1;first|exact mem _ htr h1.1 h1.2|exact absurd h1.1 (by simp[memEff])
 obtain⟨h1,h2⟩:=aJ fc;have bW:Ju (listed.setIfInBounds i true) m js ms=Ju listed m js ms:=AL fun j hj=>Qx (by rintro rfl;exact fc hj);rw[bW]at fin;have mz:=hI.mm;have nc:=hI.ls
 have arP:rop P gl orc (ev gl (cw P gl orc ops T0 m (Xm js ms) i)) (Ju listed m js ms) o.dst (tr P o)=rop P gl orc (ev gl (cw P gl orc ops T0 m (Xm js ms) i)) m o.dst (tr P o):=by
  cases iU:mq ops js i with
  |false=>
   rcases Fe listed js ms m with h|⟨x,hx,h⟩
   ·rw[h]
   rw[h];exact h2 iU x hx
  |true=>
   have Td:Ju listed m js ms=m:=by
    cases js with
    |nil=>cases ms<;>rfl
    |cons j0 js=>
     simp only[mq]at iU
     have hn:listed.getD j0 false=false:=by
      cases hl:listed.getD j0 false with
      |false=>rfl
      |true=>
       have:=uk (ops:=ops) (listed:=listed) hI.clo j0 [j0] (fun k hk=>by rw[zzbr.1 hk];exact hl) i (by simpa using iU);rw[Xl gL false true,hu]at this;cases this
     cases ms with
     |nil=>rfl
     |cons x q=>simp only[Ju,hn];rfl
   rw[Td]
 generalize Ju listed m js ms=mL at*
 refine Qcl (m:=mL) mz (fun _ _ h=>h) hI.g gA (by rw[arP];exact h1) r _ Q fun v w' γ' q1 q2 q3=>?_;rw[arP]at q3;exact fin q1.dD q2 (nc.mono q1) (by rw[vY fc ho];exact q3)
def um:∀{js:List Nat},Q0 ops js=true->∀a j j' o,js[a]?=some j->js[a+1]?=some j'->ops[j']?=some o->j∈Vo o
 |[],_,a,j,j',o,h,_,_=>by simp at h
 |[x],_,a,j,j',o,h,h',_=>by
  have:=(zza.1 h').1;simp at this
 |x::y::r,hc,0,j,j',o,h,h',ho=>by
  simp at h h';subst h;subst h';simp only[Q0,zzak,ho]at hc;simpa using hc.1
 |x::y::r,hc,a+1,j,j',o,h,h',ho=>by
  simp only[Q0,zzak]at hc;exact um hc.2 a j j' o (by simpa using h) (by simpa using h') ho
def Qbv{js:List Nat}(h:nq ops p=some js):js=(List.range p).filter (gE ops lJ)/\Q0 ops js=true/\∀i,i<p->∃o,ops[i]?=some o/\qR o=true:=by
 unfold nq at h;simp only at h;split at h
 case isFalse=>cases h
 rename_i bS;cases h;simp only[zzak]at bS;refine⟨rfl,bS.1.2,fun i hi=>?_⟩;have h1:=zzbc.1 bS.2 i (zzbf.2 hi);unfold gE at h1;split at h1
 ·rename_i o ho;exact⟨o,ho,h1⟩
 cases h1
def gO(ops:Array Oper)(k:Nat):Nat:=((List.range k).filter (gE ops lJ)).length
def Fj(k:Nat):gO ops (k+1)=gO ops k+(if gE ops lJ k=true then 1 else 0):=by
 simp only[gO,zzej,zzcr,zzai];cases h:gE ops lJ k<;>simp[h]
def XF{i:Nat}(hi:i<p)(hd:gE ops lJ i=true):((List.range p).filter (gE ops lJ))[gO ops i]?=some i:=by
 obtain⟨n,rfl⟩:∃n,p=i+(n+1):=⟨p-i-1,by omega⟩;rw[List.range_add,zzcr];have hl:gO ops i=((List.range i).filter (gE ops lJ)).length:=rfl;rw[hl,zzal (zzab _),zzgy,zzay,zzcn,zzdo hd];simp
def ae0{ms:List (AV×AM)}{js:List Nat}(l2:List SO)(K:AS->Prop)(hp:p<=ops.size)(hj:nq ops p=some js):∀(n k:Nat)(mc:AM),k+n=p->gO ops k<=ms.length->mc=Ke m ms (gO ops k)->
  nr P gl orc Y l2 K m ms (((ops.toList.take p).drop k).map (Xu P ops)) ((flags ops p js).drop k) (ms.drop (gO ops k)) mc (cw P gl orc ops T0 m (Xm js ms) k)->
  js.length=ms.length/\
  (
   ∀i o,k<=i->i<p->ops[i]?=some o->
   (i ∉ js->(rop P gl orc (ev gl (cw P gl orc ops T0 m (Xm js ms) i)) m o.dst (tr P o)).1/\(mq ops js i=false->∀x∈ms,rop P gl orc (ev gl (cw P gl orc ops T0 m (Xm js ms) i)) x.2 o.dst (tr P o)=rop P gl orc (ev gl (cw P gl orc ops T0 m (Xm js ms) i)) m o.dst (tr P o)))/\
   (∀b x,js[b]?=some i->ms[b]?=some x->effC P gl orc Y (ev gl (cw P gl orc ops T0 m (Xm js ms) i)) (Ke m ms b) o.dst x.1 x.2 (tr P o)))/\
  Zx P gl orc Y l2 ⟨(cw P gl orc ops T0 m (Xm js ms) p),Ke m ms ms.length⟩ K:=by
 obtain⟨yT,_,gF⟩:=Qbv hj;have dK:∀j,j∈js<->j<p/\gE ops lJ j=true:=fun j=>by rw[yT,zzcy,zzbf]
 have Av:js.Nodup:=by rw[yT];exact(zzdq).filter _
 have S8:∀i,i<p->gE ops lJ i=true->js[gO ops i]?=some i:=fun i h1 h2=>by rw[yT];exact XF h1 h2
 have XG:∀{a b i:Nat},js[a]?=some i->js[b]?=some i->a=b:=fun{a b i}h1 h2=>Qcq Av h1 h2;intro n;induction n with
 |zero=>
  intro k mc hk qj W0 h;obtain rfl:k=p:=by omega
  have e0:(ops.toList.take k).drop k=[]:=zzan (by simp;omega);rw[e0]at h;simp only[zzce,nr]at h;have fE:ms.length<=gO ops k:=zzfm.1 h.1;have Cp:gO ops k=js.length:=by rw[yT];rfl
  have hcc:gO ops k=ms.length:=by omega
  refine⟨by omega,fun i o h1 h2=>by omega,?_⟩;rw[<- hcc,<- W0];exact h.2
 |succ n ih=>
  intro k mc hk qj W0 h;have cW:k<ops.size:=by omega
  have ho:ops[k]?=some ops[k]:=zzaj cW
  have hd:(ops.toList.take p).drop k=ops[k]::(ops.toList.take p).drop (k+1):=by
   rw[zzaf (by simp;omega)];simp
  have gr:(flags ops p js).drop k=Jl ops js k::(flags ops p js).drop (k+1):=by
   rw[zzaf (by simp[flags];omega)];simp[flags]
  rw[hd,gr,zzay]at h;have W6:=Qcw (P:=P) (gl:=gl) (orc:=orc) (T0:=T0) (m:=m) (L:=Xm js ms) ho;obtain⟨o',cB,gN⟩:=gF k (by omega);rw[ho]at cB;cases cB;have e2:(Xu P ops ops[k]).op=tr P ops[k]:=rfl;have e3:(Xu P ops ops[k]).dst=ops[k].dst:=rfl;have qI:=Fj (ops:=ops) k;cases kK:js.contains k with
  |true=>
   have Q1:k∈js:=by simpa using kK
   have CH:=((dK k).1 Q1).2;rw[CH,if_pos rfl]at qI;rw[show Jl ops js k=.eff by simp only[Jl,kK,cond_true]]at h;simp only[nr,e2,e3]at h;split at h
   ·exact h.elim
   rename_i x q hq
   have awW:gO ops k<ms.length:=by
    rcases zzaa (gO ops k) ms.length with h'|h'
    ·exact h'
    rw[zzan h']at hq;cases hq
   have hx:ms[gO ops k]?=some x:=by
    have:(ms.drop (gO ops k))[0]?=some x:=by rw[hq];rfl
    simpa using this
   have QA:ms.drop (gO ops (k+1))=q:=by
    rw[qI,<- zzdp,hq];rfl
   obtain⟨h1,h2⟩:=h;have yU:=S8 k (by omega) CH;have cG:=oK (P:=P) (gl:=gl) (orc:=orc) (ops:=ops) (m:=m) Av yU hx (cw P gl orc ops T0 m (Xm js ms) k);rw[cG]at W6
   obtain⟨r1,r2,r3⟩:=ih (k+1) x.2 (by omega) (by omega) (by rw[qI];simp[Ke,List.getD,hx]) (by
    rw[W6,QA];exact h2)
   refine⟨r1,fun i o hi eH CA=>?_,r3⟩;rcases zzaa k i with eT|eT
   ·exact r2 i o eT eH CA
   obtain rfl:i=k:=by omega
   rw[ho]at CA;cases CA;refine⟨fun h=>absurd Q1 h,fun b y hb hy=>?_⟩;obtain rfl:=XG hb yU;rw[hx]at hy;cases hy;rw[<- W0];exact h1
  |false=>
   have Q1:k ∉ js:=by simpa using kK
   have CH:gE ops lJ k=false:=by
    cases Te:gE ops lJ k with
    |false=>rfl
    |true=>exact absurd ((dK k).2 ⟨by omega,Te⟩) Q1
   rw[CH,if_neg (by simp),zzcn]at qI
   obtain⟨h1,h2,h3⟩:(rop P gl orc (ev gl (cw P gl orc ops T0 m (Xm js ms) k)) m ops[k].dst (tr P ops[k])).1/\(mq ops js k=false->∀x∈ms,rop P gl orc (ev gl (cw P gl orc ops T0 m (Xm js ms) k)) x.2 ops[k].dst (tr P ops[k])=rop P gl orc (ev gl (cw P gl orc ops T0 m (Xm js ms) k)) m ops[k].dst (tr P ops[k]))/\
     nr P gl orc Y l2 K m ms (((ops.toList.take p).drop (k+1)).map (Xu P ops)) ((flags ops p js).drop (k+1)) (ms.drop (gO ops k)) mc (put (cw P gl orc ops T0 m (Xm js ms) k) ops[k].dst (rop P gl orc (ev gl (cw P gl orc ops T0 m (Xm js ms) k)) m ops[k].dst (tr P ops[k])).2):=by
    cases iU:mq ops js k with
    |true=>
     rw[show Jl ops js k=.pre by simp only[Jl,kK,iU,cond_true,cond_false]]at h;simp only[nr,e2,e3]at h;exact⟨h.1,fun h=>(by cases h),h.2⟩
    |false=>
     rw[show Jl ops js k=.oth by simp only[Jl,kK,iU,cond_false]]at h;simp only[nr,e2,e3]at h;exact⟨h.1,fun _=>h.2.1,h.2.2⟩
   rw[vY Q1 ho]at W6;obtain⟨r1,r2,r3⟩:=ih (k+1) mc (by omega) (by omega) (by rw[qI];exact W0) (by rw[W6,qI];exact h3);refine⟨r1,fun i o hi eH CA=>?_,r3⟩;rcases zzaa k i with eT|eT
   ·exact r2 i o eT eH CA
   obtain rfl:i=k:=by omega
   rw[ho]at CA;cases CA;refine⟨fun _=>⟨h1,h2⟩,fun b y hb=>absurd (zzac hb) Q1⟩
def Fk{Q:Exit->Act->World->Prop}{K:AS->Prop}{γ:G}{w:World}{s:AS}{a:Act}{js:List Nat}(hQ:∀γ w s a,K s->fR N w0 r au S P gl Y γ w s a->Q .normal a w)(hc:AG ops p=true)(hj:nq ops p=some js)
  {ms:List (AV×AM)}(h:nr P gl orc Y ((ops.toList.drop p).map (Xu P ops)) K s.m ms ((ops.toList.take p).map (Xu P ops)) (flags ops p js) ms s.m s.T)(hs:fR N w0 r au S P gl Y γ w s a):
  wpAnyIn (FW r) 0 P .any ops Q ops.size (Array.replicate ops.size false) a {w with drawn:=w.drawn+1}:=by
 obtain⟨hp,dy⟩:=Va hc;obtain⟨yT,hjc,gF⟩:=Qbv hj;have Av:js.Nodup:=by rw[yT];exact(zzdq).filter _
 have amz:∀j∈js,j<p:=fun j h=>by rw[yT,zzcy]at h;exact zzbf.1 h.1
 obtain⟨aI,h1,h2⟩:=ae0 (P:=P) (gl:=gl) (orc:=orc) (T0:=s.T) (m:=s.m) ((ops.toList.drop p).map (Xu P ops)) K hp hj p 0 s.m (by simp) (by simp[gO]) (by simp[gO,Ke]) (by simpa[cw,gO]using h)
 have full:∀(bz:Nat)(listed:Array Bool)(γ:G)(w:World)(a:Act),zi N w0 r au S Y P gl orc ops s.T s.m ms js (Xm js ms) p listed γ w a->uc ops listed<=bz->(∀i,i<p->listed.getD i false=true)->wpAnyIn (FW r) 0 P .any ops Q bz listed a w:=by
  intro bz listed γ w a hI uj bS;have hml:Ju listed s.m js ms=Ke s.m ms ms.length:=Qat aI (by omega) (fun b j _ hb=>bS j (amz j (zzac hb))) (fun j hj=>by rw[zzax (by omega)]at hj;cases hj);have mz:=hI.mm;have nc:=hI.ls;rw[hml]at mz nc;refine nk hQ hc bz p listed γ w _ a (zzab _) hp hI.size bS hI.tail uj h2 ⟨mz,nc,hI.rd,⟨?_,fun t x v hx hv=>?_⟩,hI.d,hI.g,hI.y,hI.e⟩
  ·simp[kQ,hI.tl]
  have h1:=hI.tt t
  have hAt:zh P gl orc ops s.T s.m (Xm js ms) p listed t=x:=by
   have oD:(cw P gl orc ops s.T s.m (Xm js ms) p).getD t .junk=x:=by simp only at hx;simp[List.getD,hx]
   unfold zh;split
   ·exact oD
   rename_i hw;rw[<- oD];refine(Qcx p fun j hj hd=>hw ?_).symm;unfold wr;rw[zzby];exact⟨j,zzbf.2 hj,by rw[bS j hj,hd];simp⟩
  rw[hAt]at h1;have:a.tmps.getD t undef=v:=by simp at hv;simp[hv]
  rwa [this]at h1
 have main:∀(bz:Nat)(listed:Array Bool)(γ:G)(w:World)(a:Act),zi N w0 r au S Y P gl orc ops s.T s.m ms js (Xm js ms) p listed γ w a->uc ops listed<=bz->wpAnyIn (FW r) 0 P .any ops Q bz listed a w:=by
  intro bz;induction bz with
  |zero=>
   intro listed γ w a hI uj
   exact full 0 listed γ w a hI uj fun i hi=>by
    rw[Xl (by rw[hI.size];omega) false true];exact oJ (zzfy.1 uj) (by omega)
  |succ bz ih=>
   intro listed γ w a hI uj;by_cases bS:∀i,i<p->listed.getD i false=true
   ·exact full (bz+1) listed γ w a hI uj bS
   have hex:∃k,k<p/\listed.getD k true=false:=by
    refine Classical.byContradiction fun hn=>bS fun i hi=>?_;rw[Xl (by rw[hI.size];omega) false true];cases hl:listed.getD i true with
    |true=>rfl
    |false=>exact absurd ⟨i,hi,hl⟩ hn
   obtain⟨k,hk,hlk⟩:=hex;refine⟨fun hr=>?_,fun i hi=>?_⟩
   ·obtain⟨j,hj⟩:=Wo hc hI.size k k (zzab _) (by omega) hlk;rw[hr]at hj;cases hj
   obtain⟨ai,hu,o,ho,cN⟩:=Wp hc hi
   have eH:i<p:=by
    rcases zzaa i p with h|h
    ·exact h
    have:=jd hI.clo ho ((dy i o ho).2.2 h) cN i k (by omega) (by omega);rw[Xl (by rw[hI.size];omega) false true,hlk]at this;cases this
   obtain⟨o',cB,gN⟩:=gF i eH;rw[ho]at cB;cases cB;refine wpOpIn_mono ?_ (sr hc hI ho eH gN aI Av hu cN (fun a j e1 e2=>um hjc a j i o e1 e2 ho) (h1 i o (zzcc _) eH ho).1 (h1 i o (zzcc _) eH ho).2);rintro a' w' ⟨γ',zg⟩;refine ih _ γ' w' a' zg ?_;have:=vV hI.size ai hu;omega
 have AK:∀j,(Array.replicate ops.size false).getD j false=false:=fun j=>by
  rcases zzaa j ops.size with h|h<;>simp[h]
 have CG:∀js':List Nat,chn (Array.replicate ops.size false) js':=fun js'=>by
  induction js' with
  |nil=>trivial
  |cons j r ih=>
   cases r with
   |nil=>trivial
   |cons j' r=>exact⟨fun h=>(by rw[AK]at h;cases h),ih⟩
 have Td:Ju (Array.replicate ops.size false) s.m js ms=s.m:=Qat (a:=0) aI (by omega) (fun b j hb=>by omega) (fun j _=>AK j);refine main ops.size _ γ w.drew a ⟨by simp,fun i _ hi=>by simp[hi],CG js,fun j o h=>(by rw[AK]at h;cases h),?_,?_,hs.rd.bn (Ev.drew w γ).dD,?_,fun t=>?_,hs.d.bn (Ev.drew w γ).dD,fun g=>(hs.g g).mono (Ev.drew w γ).cV,hs.y.mono (Ev.drew w γ).dD,hs.e.trans (Ev.drew w γ).dD⟩ ?_
 ·rw[Td];exact hs.m.drew
 ·rw[Td];exact hs.ls.mono (Ev.drew w γ)
 ·have:=hs.t.1;simp at this;omega
 ·have hw:wr ops p (Array.replicate ops.size false) t=false:=by
   unfold wr;rw[zzeo];intro j _;rw[AK j];simp
  unfold zh;rw[hw];simp only[zzbq,if_false];have:=(hs.t.mono (Ev.drew w γ)).get t;simpa[List.getD]using this
 unfold uc;exact zzbm (zzfj) (by simp)
end
open Go
def vZ(ops:Array Oper)(p:Nat)(js:List Nat):Bool:=match js.getLast? with
 |some j=>(List.range p).all fun i=>decide (i<=j)||(CD ops i [i]).contains j
 |none=>false
def bkF(ops:Array Oper)(p:Nat)(js:List Nat):List Fg:=bif vZ ops p js then[.eff]else[]
def ae1(fl:List Fg)(l:List SO):Bool:=!(fl.drop l.length).isEmpty
section
variable (P:Program) (gl:Nat->AV) (orc:Nat->FuncId->List AV->AV) (Y:YT)
def effR(e:bN->AV)(m:AM)(R:AV->AM->Prop):aD->Prop
 |.call f args=>(match e f with
  |.fn g first cap=>an P gl Y g (first++args.map e++cap) m R
  |_=>False)
 |_=>False
def lK(R:AV->AM->Prop)(l2:List SO)(K:AS->Prop)(m:AM)(ms:List (AV×AM)):List SO->List Fg->List (AV×AM)->AM->List AV->Prop
 |[],_,q,mc,T=>q=[]/\Zx P gl orc Y l2 ⟨T,mc⟩ K
 |_::_,[],_,_,_=>False
 |o::r,.eff::fl,q,mc,T=>(match q with
  |[]=>False
  |x::q=>((q=[]->effR P gl Y (ev gl T) mc R o.op)/\(q≠[]->effC P gl orc Y (ev gl T) mc o.dst x.1 x.2 o.op))/\lK R l2 K m ms r fl q x.2 (put T o.dst x.1))
 |o::r,.pre::fl,q,mc,T=>(rop P gl orc (ev gl T) m o.dst o.op).1/\lK R l2 K m ms r fl q mc (put T o.dst (rop P gl orc (ev gl T) m o.dst o.op).2)
 |o::r,.oth::fl,q,mc,T=>(rop P gl orc (ev gl T) m o.dst o.op).1/\(∀x∈ms,rop P gl orc (ev gl T) x.2 o.dst o.op=rop P gl orc (ev gl T) m o.dst o.op)/\lK R l2 K m ms r fl q mc (put T o.dst (rop P gl orc (ev gl T) m o.dst o.op).2)
def oM{l2:List SO}{K:AS->Prop}{m:AM}{ms:List (AV×AM)}{ex:List Fg}:∀{l:List SO}{fl:List Fg}{q:List (AV×AM)}{mc:AM}{T:List AV},fl.length=l.length->nr P gl orc Y l2 K m ms l (fl++ex) q mc T->nr P gl orc Y l2 K m ms l fl q mc T
 |[],[],q,mc,T,_,h=>by simpa only[nr]using h
 |[],_::_,_,_,_,hl,_=>by simp at hl
 |_::_,[],_,_,_,hl,_=>by simp at hl
 |o::r,.eff::fl,[],mc,T,hl,h=>by simp only[zzae,nr]at h
 |o::r,.eff::fl,x::q,mc,T,hl,h=>by
  simp only[zzae,nr]at h |-
  exact⟨h.1,oM (by simpa using hl) h.2⟩
 |o::r,.pre::fl,q,mc,T,hl,h=>by
  simp only[zzae,nr]at h |-
  exact⟨h.1,oM (by simpa using hl) h.2⟩
 |o::r,.oth::fl,q,mc,T,hl,h=>by
  simp only[zzae,nr]at h |-
  exact⟨h.1,h.2.1,oM (by simpa using hl) h.2.2⟩
def oN{R:AV->AM->Prop}{l2:List SO}{K:AS->Prop}{m:AM}{ms:List (AV×AM)}{ex:List Fg}:∀{l:List SO}{fl:List Fg}{q:List (AV×AM)}{mc:AM}{T:List AV},fl.length=l.length->lK P gl orc Y R l2 K m ms l (fl++ex) q mc T->lK P gl orc Y R l2 K m ms l fl q mc T
 |[],[],q,mc,T,_,h=>by simpa only[lK]using h
 |[],_::_,_,_,_,hl,_=>by simp at hl
 |_::_,[],_,_,_,hl,_=>by simp at hl
 |o::r,.eff::fl,[],mc,T,hl,h=>by simp only[zzae,lK]at h
 |o::r,.eff::fl,x::q,mc,T,hl,h=>by
  simp only[zzae,lK]at h |-
  exact⟨h.1,oN (by simpa using hl) h.2⟩
 |o::r,.pre::fl,q,mc,T,hl,h=>by
  simp only[zzae,lK]at h |-
  exact⟨h.1,oN (by simpa using hl) h.2⟩
 |o::r,.oth::fl,q,mc,T,hl,h=>by
  simp only[zzae,lK]at h |-
  exact⟨h.1,h.2.1,oN (by simpa using hl) h.2.2⟩
end
section
variable {N:Nat} {w0:iu} {r:Option Nat} {au:Nat->Nat->Prop} {S:G×World} {Y:YT} {P:Program} {gl:Nat->AV} {orc:Nat->FuncId->List AV->AV} {ops:Array Oper} {T0:List AV} {m:AM} {p:Nat}
def v7{x x':AV×AM}{i:Nat}:∀{js:List Nat}{ms:List (AV×AM)}{jl:Nat},js[ms.length]?=some jl->i≠jl->KD (Xm js (ms++[x])) i=KD (Xm js (ms++[x'])) i
 |[],_,_,h,_=>by simp at h
 |j::js,[],jl,h,hi=>by
  simp at h;subst h;simp only[zzah,Xm,KD];rw[if_neg (Ne.symm hi),if_neg (Ne.symm hi)]
 |j::js,y::ms,jl,h,hi=>by
  simp only[zzae,Xm,KD];rw[v7 (ms:=ms) (by simpa using h) hi]
def Fl{L L':List (Nat×AV)}{jl:Nat}(h:∀i,i<jl->KD L i=KD L' i):∀k,k<=jl->cw P gl orc ops T0 m L k=cw P gl orc ops T0 m L' k
 |0,_=>rfl
 |k+1,hk=>by
  have ih:=Fl h k (by omega);simp only[cw];rw[ih];cases ho:ops[k]? with
  |none=>rfl
  |some o=>
   simp only;congr 1;simp only[CF];rw[h k (by omega)]
def KE{L L':List (Nat×AV)}(hc:AG ops p=true){listed:Array Bool}{jl:Nat}(qj:Tb ops listed)(AD:listed.getD jl false=false)(hL:∀i,i<jl->KD L i=KD L' i)
  (Fm:∀k,jl<k->k<p->(CD ops k [k]).contains jl=true)(hjp:jl<p)(t:Nat):zh P gl orc ops T0 m L p listed t=zh P gl orc ops T0 m L' p listed t:=by
 obtain⟨hp,dy⟩:=Va hc;unfold zh;cases hw:wr ops p listed t with
 |false=>simp
 |true=>
  simp only[if_true];unfold wr at hw;obtain⟨j,hj,hjd⟩:=zzby.1 hw;simp only[zzak,beq_iff_eq]at hjd;obtain⟨hl,hd⟩:=hjd;have awX:=zzbf.1 hj
  have ai:j<jl:=by
   rcases zzfh j jl with h|h|h
   ·exact h
   ·subst h;rw[hl]at AD;cases AD
   have:=uk qj j [j] (fun k hk=>by rw[zzbr.1 hk];exact hl) jl (by simpa using Fm j h awX);rw[this]at AD;cases AD
  have sv:∀(L:List (Nat×AV)),(cw P gl orc ops T0 m L p).getD t .junk=(cw P gl orc ops T0 m L jl).getD t .junk:=fun L=>by
   have:=jf (P:=P) (gl:=gl) (orc:=orc) (ops:=ops) (T0:=T0) (m:=m) (L:=L) (t:=t) (k:=jl) (p-jl) fun k cZ dw N4=>by
    have hk:k<ops.size:=by omega
    have N5:ops[k]?=some ops[k]:=zzaj hk;have:=((dy k _ N5).2.1 (by omega)).2 j (by omega) t hd;simp[Yo,N5]at N4;exact this N4
   rwa [show jl+(p-jl)=p by omega]at this
  rw[sv L,sv L',Fl hL jl (zzab _)]
def KF{ms:List (AV×AM)}{x:AV×AM}{js:List Nat}{R:AV->AM->Prop}(hc:AG ops p=true){Q:Exit->Act->World->Prop}{listed:Array Bool}{γ:G}{w:World}{a:Act}
  (hI:zi N w0 r au S Y P gl orc ops T0 m (ms++[x]) js (Xm js (ms++[x])) p listed γ w a){i:Nat}{o:Oper}(ho:ops[i]?=some o)(eH:i<p)(gN:qR o=true)(aI:js.length=(ms++[x]).length)(Av:js.Nodup)
  (hk:js[ms.length]?=some i)(hu:listed.getD i true=false)(cN:∀j∈Vo o,listed.getD j false=true)(CG:∀a j,js[a]?=some j->js[a+1]?=some i->j∈Vo o)
  (Fm:∀k,i<k->k<p->(CD ops k [k]).contains i=true)
  (NX:effR P gl Y (ev gl (cw P gl orc ops T0 m (Xm js (ms++[x])) i)) (Ke m (ms++[x]) ms.length) R (tr P o)):
  wpOpIn (FW r) 0 P ops Q i (fun a' w'=>∃γ' x',R x'.1 x'.2/\zi N w0 r au S Y P gl orc ops T0 m (ms++[x']) js (Xm js (ms++[x'])) p (listed.setIfInBounds i true) γ' w' a') a w:=by
 have hi:i<ops.size:=(zzbu.1 ho).1;have gL:i<listed.size:=by rw[hI.size];exact hi
 have QZ:∀t∈o.looksAt ops,aB w γ ((cw P gl orc ops T0 m (Xm js (ms++[x])) i).getD t .junk) (a.tmps.getD t undef):=fun t ht=>by
  rw[aj0 (P:=P) (gl:=gl) (orc:=orc) (T0:=T0) (m:=m) (L:=Xm js (ms++[x])) hc hI.size ho eH hu cN ht];exact hI.tt t
 have gA:∀y∈o.op.operands,aB w γ (ev gl (cw P gl orc ops T0 m (Xm js (ms++[x])) i) (aA y)) (a.eval y):=fun y hy=>by
  cases y with
  |tmp t=>exact QZ t (by simp only[Oper.looksAt,zzap,zzfc];exact .inl ⟨.tmp t,by simpa using hy,rfl⟩)
  |const v=>exact Jr w γ v
  |func f=>exact .fn rfl (fun i c v h=>by simp at h) rfl fun i c v h=>by simp at h
  |global g=>exact(hI.g g).gp
 have jg:chn (listed.setIfInBounds i true) js:=CE hI.ch fun a j h1 h2=>cN j (CG a j h1 h2);have hpr:Tb ops (listed.setIfInBounds i true):=Tb.set hI.clo ho gL cN;have Tc:listed.getD i false=false:=by rw[Xl gL false true];exact hu
 have XE:∀b j,b<ms.length->js[b]?=some j->listed.getD j false=true:=fun b j hb hj=>by
  have mw:ms.length-1<js.length:=by simp at aI;omega
  obtain⟨j1,ew⟩:∃j1,js[ms.length-1]?=some j1:=⟨js[ms.length-1],zzad mw⟩;have ef:=cN j1 (CG (ms.length-1) j1 ew (by rw[show ms.length-1+1=ms.length by omega];exact hk));rcases zzaa b (ms.length-1)with h|h
  ·exact je hI.ch h hj ew ef
  obtain rfl:b=ms.length-1:=by omega
  rw[hj]at ew;cases ew;exact ef
 have Td:Ju listed m js (ms++[x])=Ke m (ms++[x]) ms.length:=Qat aI (by simp at aI;omega) XE (fun j hj=>by rw[hk]at hj;cases hj;exact Tc)
 have oI:∀x':AV×AM,Ju (listed.setIfInBounds i true) m js (ms++[x'])=x'.2:=fun x'=>by
  have:=Qat (listed:=listed.setIfInBounds i true) (m:=m) (ms:=ms++[x']) (js:=js) (a:=ms.length+1) (by simp at aI |-;omega) (by simp at aI;omega) (fun b j hb hj=>?_) (fun j hj=>by rw[zzax (by simp at aI;omega)]at hj;cases hj)
  ·rw[this];simp[Ke,List.getD]
  rcases zzaa b ms.length with h|h
  ·have eu:j≠i:=by
    rintro rfl;have:=Qcq Av hj hk;omega
   rw[Qx eu];exact XE b j h hj
  obtain rfl:b=ms.length:=by omega
  rw[hk]at hj;cases hj;exact Zv gL
 have hg:o.guard=none:=by simp only[qR]at gN;simpa using gN
 simp only[wpOpIn,ho];have hw:Region.wanted o (yielded ops a.tmps)=true:=by simp[Region.wanted,hg]
 rw[if_pos hw];have mz:=hI.mm;have nc:=hI.ls;rw[Td]at mz nc
 have Fi:fR N w0 r au S P gl Y γ w ⟨(List.range T0.length).map fun t=>zh P gl orc ops T0 m (Xm js (ms++[x])) p listed t,Ke m (ms++[x]) ms.length⟩ a:=by
  refine⟨mz,nc,hI.rd,⟨by simp[hI.tl],fun t x v hx hv=>?_⟩,hI.d,hI.g,hI.y,hI.e⟩
  have ai:t<T0.length:=by
   rcases zzaa t T0.length with h|h
   ·exact h
   simp[zzdt.2 h]at hx
  simp[ai]at hx;have:=hI.tt t;rw[hx]at this;have EX:a.tmps.getD t undef=v:=by simp at hv;simp[hv]
  rwa [EX]at this
 have qG:vcEff P gl Y (ev gl (cw P gl orc ops T0 m (Xm js (ms++[x])) i)) (Ke m (ms++[x]) ms.length) R (tr P o):=by
  cases htr:tr P o with
  |call f args=>
   rw[htr]at NX;simp only[effR]at NX;simp only[vcEff];split at NX
   ·rename_i g first cap cA;simp only[cA];exact NX
   exact NX.elim
  |_=>rw[htr]at NX;exact NX.elim
 refine kM Fi gA qG fun v w' γ' av' m' hK he hm hl hr=>?_;have cG:=oK (P:=P) (gl:=gl) (orc:=orc) (ops:=ops) (m:=m) (ms:=ms++[(av',m')]) (x:=(av',m')) Av hk (by simp) (cw P gl orc ops T0 m (Xm js (ms++[(av',m')])) i)
 have hsw:∀t,zh P gl orc ops T0 m (Xm js (ms++[(av',m')])) p listed t=zh P gl orc ops T0 m (Xm js (ms++[x])) p listed t:=fun t=>
  KE hc hI.clo Tc (fun j hj=>v7 hk (by omega)) Fm eH t
 refine⟨γ',(av',m'),hK,by simp[hI.size],fun j ew qg=>by rw[Qx (by omega)];exact hI.tail j ew qg,jg,hpr,by rw[oI];exact hm,by rw[oI];exact hl,hI.rd.bn he,?_,fun t=>?_,?_,fun g=>(hI.g g).bn he.cV,hI.y.mono he,hI.e.trans he⟩
 ·cases hd:o.dst<;>simp[Act.put,hI.tl]
 ·rw[N7 hc hI.size ho eH,hsw];by_cases hd:o.dst=some t
  ·by_cases ht:t<T0.length
   ·rw[if_pos ⟨hd,ht⟩,hd];have:(a.put (some t) v).tmps.getD t undef=v:=by simp[Act.put,hI.tl,ht]
    rw[this,cG];exact hr
   rw[if_neg (by simp[ht]),hd];have:(a.put (some t) v).tmps.getD t undef=a.tmps.getD t undef:=by simp[Act.put,hI.tl,ht]
   rw[this];exact(hI.tt t).bn he
  rw[if_neg (by simp[hd])]
  have:(a.put o.dst v).tmps.getD t undef=a.tmps.getD t undef:=by
   cases ES:o.dst with
   |none=>rfl
   |some d=>simp only[Act.put];simp;rw[zzda (by rintro rfl;exact hd ES)]
  rw[this];exact(hI.tt t).bn he
 cases hd:o.dst<;>exact hI.d.bn he
def ae2{R:AV->AM->Prop}{ms:List (AV×AM)}{js:List Nat}(l2:List SO)(K:AS->Prop)(hp:p<=ops.size)(hj:nq ops p=some js):∀(n k:Nat)(mc:AM),k+n=p->gO ops k<=ms.length->mc=Ke m ms (gO ops k)->
  lK P gl orc Y R l2 K m ms (((ops.toList.take p).drop k).map (Xu P ops)) ((flags ops p js).drop k) (ms.drop (gO ops k)) mc (cw P gl orc ops T0 m (Xm js ms) k)->
  js.length=ms.length/\
  (
   ∀i o,k<=i->i<p->ops[i]?=some o->
   (i ∉ js->(rop P gl orc (ev gl (cw P gl orc ops T0 m (Xm js ms) i)) m o.dst (tr P o)).1/\(mq ops js i=false->∀x∈ms,rop P gl orc (ev gl (cw P gl orc ops T0 m (Xm js ms) i)) x.2 o.dst (tr P o)=rop P gl orc (ev gl (cw P gl orc ops T0 m (Xm js ms) i)) m o.dst (tr P o)))/\
   (∀b x,js[b]?=some i->ms[b]?=some x->(b+1=ms.length->effR P gl Y (ev gl (cw P gl orc ops T0 m (Xm js ms) i)) (Ke m ms b) R (tr P o))/\(b+1≠ms.length->effC P gl orc Y (ev gl (cw P gl orc ops T0 m (Xm js ms) i)) (Ke m ms b) o.dst x.1 x.2 (tr P o))))/\
  Zx P gl orc Y l2 ⟨(cw P gl orc ops T0 m (Xm js ms) p),Ke m ms ms.length⟩ K:=by
 obtain⟨yT,_,gF⟩:=Qbv hj;have dK:∀j,j∈js<->j<p/\gE ops lJ j=true:=fun j=>by rw[yT,zzcy,zzbf]
 have Av:js.Nodup:=by rw[yT];exact(zzdq).filter _
 have S8:∀i,i<p->gE ops lJ i=true->js[gO ops i]?=some i:=fun i h1 h2=>by rw[yT];exact XF h1 h2
 have XG:∀{a b i:Nat},js[a]?=some i->js[b]?=some i->a=b:=fun{a b i}h1 h2=>Qcq Av h1 h2;intro n;induction n with
 |zero=>
  intro k mc hk qj W0 h;obtain rfl:k=p:=by omega
  have e0:(ops.toList.take k).drop k=[]:=zzan (by simp;omega);rw[e0]at h;simp only[zzce,lK]at h;have fE:ms.length<=gO ops k:=zzfm.1 h.1;have Cp:gO ops k=js.length:=by rw[yT];rfl
  have hcc:gO ops k=ms.length:=by omega
  refine⟨by omega,fun i o h1 h2=>by omega,?_⟩;rw[<- hcc,<- W0];exact h.2
 |succ n ih=>
  intro k mc hk qj W0 h;have cW:k<ops.size:=by omega
  have ho:ops[k]?=some ops[k]:=zzaj cW
  have hd:(ops.toList.take p).drop k=ops[k]::(ops.toList.take p).drop (k+1):=by
   rw[zzaf (by simp;omega)];simp
  have gr:(flags ops p js).drop k=Jl ops js k::(flags ops p js).drop (k+1):=by
   rw[zzaf (by simp[flags];omega)];simp[flags]
  rw[hd,gr,zzay]at h;have W6:=Qcw (P:=P) (gl:=gl) (orc:=orc) (T0:=T0) (m:=m) (L:=Xm js ms) ho;obtain⟨o',cB,gN⟩:=gF k (by omega);rw[ho]at cB;cases cB;have e2:(Xu P ops ops[k]).op=tr P ops[k]:=rfl;have e3:(Xu P ops ops[k]).dst=ops[k].dst:=rfl;have qI:=Fj (ops:=ops) k;cases kK:js.contains k with
  |true=>
   have Q1:k∈js:=by simpa using kK
   have CH:=((dK k).1 Q1).2;rw[CH,if_pos rfl]at qI;rw[show Jl ops js k=.eff by simp only[Jl,kK,cond_true]]at h;simp only[lK,e2,e3]at h;split at h
   ·exact h.elim
   rename_i x q hq
   have awW:gO ops k<ms.length:=by
    rcases zzaa (gO ops k) ms.length with h'|h'
    ·exact h'
    rw[zzan h']at hq;cases hq
   have hx:ms[gO ops k]?=some x:=by
    have:(ms.drop (gO ops k))[0]?=some x:=by rw[hq];rfl
    simpa using this
   have QA:ms.drop (gO ops (k+1))=q:=by
    rw[qI,<- zzdp,hq];rfl
   obtain⟨h1,h2⟩:=h;have yU:=S8 k (by omega) CH;have cG:=oK (P:=P) (gl:=gl) (orc:=orc) (ops:=ops) (m:=m) Av yU hx (cw P gl orc ops T0 m (Xm js ms) k);rw[cG]at W6
   obtain⟨r1,r2,r3⟩:=ih (k+1) x.2 (by omega) (by omega) (by rw[qI];simp[Ke,List.getD,hx]) (by
    rw[W6,QA];exact h2)
   refine⟨r1,fun i o hi eH CA=>?_,r3⟩;rcases zzaa k i with eT|eT
   ·exact r2 i o eT eH CA
   obtain rfl:i=k:=by omega
   rw[ho]at CA;cases CA;refine⟨fun h=>absurd Q1 h,fun b y hb hy=>?_⟩;obtain rfl:=XG hb yU;rw[hx]at hy;cases hy;rw[<- W0]
   have hqe:q=[]<->gO ops i+1=ms.length:=by
    rw[<- QA,qI,zzfm];omega
   exact⟨fun h=>h1.1 (hqe.2 h),fun h=>h1.2 fun e=>h (hqe.1 e)⟩
  |false=>
   have Q1:k ∉ js:=by simpa using kK
   have CH:gE ops lJ k=false:=by
    cases Te:gE ops lJ k with
    |false=>rfl
    |true=>exact absurd ((dK k).2 ⟨by omega,Te⟩) Q1
   rw[CH,if_neg (by simp),zzcn]at qI
   obtain⟨h1,h2,h3⟩:(rop P gl orc (ev gl (cw P gl orc ops T0 m (Xm js ms) k)) m ops[k].dst (tr P ops[k])).1/\(mq ops js k=false->∀x∈ms,rop P gl orc (ev gl (cw P gl orc ops T0 m (Xm js ms) k)) x.2 ops[k].dst (tr P ops[k])=rop P gl orc (ev gl (cw P gl orc ops T0 m (Xm js ms) k)) m ops[k].dst (tr P ops[k]))/\
     lK P gl orc Y R l2 K m ms (((ops.toList.take p).drop (k+1)).map (Xu P ops)) ((flags ops p js).drop (k+1)) (ms.drop (gO ops k)) mc (put (cw P gl orc ops T0 m (Xm js ms) k) ops[k].dst (rop P gl orc (ev gl (cw P gl orc ops T0 m (Xm js ms) k)) m ops[k].dst (tr P ops[k])).2):=by
    cases iU:mq ops js k with
    |true=>
     rw[show Jl ops js k=.pre by simp only[Jl,kK,iU,cond_true,cond_false]]at h;simp only[lK,e2,e3]at h;exact⟨h.1,fun h=>(by cases h),h.2⟩
    |false=>
     rw[show Jl ops js k=.oth by simp only[Jl,kK,iU,cond_false]]at h;simp only[lK,e2,e3]at h;exact⟨h.1,fun _=>h.2.1,h.2.2⟩
   rw[vY Q1 ho]at W6;obtain⟨r1,r2,r3⟩:=ih (k+1) mc (by omega) (by omega) (by rw[qI];exact W0) (by rw[W6,qI];exact h3);refine⟨r1,fun i o hi eH CA=>?_,r3⟩;rcases zzaa k i with eT|eT
   ·exact r2 i o eT eH CA
   obtain rfl:i=k:=by omega
   rw[ho]at CA;cases CA;refine⟨fun _=>⟨h1,h2⟩,fun b y hb=>absurd (zzac hb) Q1⟩
def Fo{Q:Exit->Act->World->Prop}{K:AS->Prop}{γ:G}{w:World}{s:AS}{a:Act}{js:List Nat}(hQ:∀γ w s a,K s->fR N w0 r au S P gl Y γ w s a->Q .normal a w)(hc:AG ops p=true)(hj:nq ops p=some js)
  (hbk:vZ ops p js=true){R:AV->AM->Prop}{ms:List (AV×AM)}(hR:∃x:AV×AM,R x.1 x.2)(h:∀x:AV×AM,R x.1 x.2->lK P gl orc Y R ((ops.toList.drop p).map (Xu P ops)) K s.m (ms++[x]) ((ops.toList.take p).map (Xu P ops)) (flags ops p js) (ms++[x]) s.m s.T)(hs:fR N w0 r au S P gl Y γ w s a):
  wpAnyIn (FW r) 0 P .any ops Q ops.size (Array.replicate ops.size false) a {w with drawn:=w.drawn+1}:=by
 obtain⟨hp,dy⟩:=Va hc;obtain⟨yT,hjc,gF⟩:=Qbv hj;have Av:js.Nodup:=by rw[yT];exact(zzdq).filter _
 have amz:∀j∈js,j<p:=fun j h=>by rw[yT,zzcy]at h;exact zzbf.1 h.1
 have bS:=fun(x:AV×AM)(hx:R x.1 x.2)=>ae2 (P:=P) (gl:=gl) (orc:=orc) (T0:=s.T) (m:=s.m) ((ops.toList.drop p).map (Xu P ops)) K hp hj p 0 s.m (by simp) (by simp[gO]) (by simp[gO,Ke]) (by simpa[cw,gO]using h x hx);obtain⟨x0,hx0⟩:=hR;have dx:js.length=ms.length+1:=by have:=(bS x0 hx0).1;simpa using this
 obtain⟨jl,AD⟩:∃jl,js[ms.length]?=some jl:=⟨_,zzad (by omega)⟩
 have Fm:∀k,jl<k->k<p->(CD ops k [k]).contains jl=true:=fun k cZ dw=>by
  unfold vZ at hbk;have hg:js.getLast?=some jl:=by rw[zzey,dx];simpa using AD
  rw[hg]at hbk;have:=zzbc.1 hbk k (zzbf.2 dw);simp only[zzgw,decide_eq_true_eq]at this;obtain h|h:=this
  ·omega
  exact h
 have full:∀(x:AV×AM),R x.1 x.2->∀(bz:Nat)(listed:Array Bool)(γ:G)(w:World)(a:Act),zi N w0 r au S Y P gl orc ops s.T s.m (ms++[x]) js (Xm js (ms++[x])) p listed γ w a->uc ops listed<=bz->(∀i,i<p->listed.getD i false=true)->wpAnyIn (FW r) 0 P .any ops Q bz listed a w:=by
  intro x hx bz listed γ w a hI uj arQ;obtain⟨aI,h1,h2⟩:=bS x hx;have bS:=arQ;have hml:Ju listed s.m js (ms++[x])=Ke s.m (ms++[x]) (ms++[x]).length:=Qat aI (by omega) (fun b j _ hb=>bS j (amz j (zzac hb))) (fun j hj=>by rw[zzax (by omega)]at hj;cases hj);have mz:=hI.mm;have nc:=hI.ls;rw[hml]at mz nc;refine nk hQ hc bz p listed γ w _ a (zzab _) hp hI.size bS hI.tail uj h2 ⟨mz,nc,hI.rd,⟨?_,fun t y v hy hv=>?_⟩,hI.d,hI.g,hI.y,hI.e⟩
  ·simp[kQ,hI.tl]
  have h1:=hI.tt t
  have hAt:zh P gl orc ops s.T s.m (Xm js (ms++[x])) p listed t=y:=by
   have oD:(cw P gl orc ops s.T s.m (Xm js (ms++[x])) p).getD t .junk=y:=by simp only at hy;simp[List.getD,hy]
   unfold zh;split
   ·exact oD
   rename_i hw;rw[<- oD];refine(Qcx p fun j hj hd=>hw ?_).symm;unfold wr;rw[zzby];exact⟨j,zzbf.2 hj,by rw[bS j hj,hd];simp⟩
  rw[hAt]at h1;have:a.tmps.getD t undef=v:=by simp at hv;simp[hv]
  rwa [this]at h1
 have main:∀(bz:Nat)(x:AV×AM),R x.1 x.2->∀(listed:Array Bool)(γ:G)(w:World)(a:Act),zi N w0 r au S Y P gl orc ops s.T s.m (ms++[x]) js (Xm js (ms++[x])) p listed γ w a->uc ops listed<=bz->wpAnyIn (FW r) 0 P .any ops Q bz listed a w:=by
  intro bz;induction bz with
  |zero=>
   intro x hx listed γ w a hI uj
   exact full x hx 0 listed γ w a hI uj fun i hi=>by
    rw[Xl (by rw[hI.size];omega) false true];exact oJ (zzfy.1 uj) (by omega)
  |succ bz ih=>
   intro x hx listed γ w a hI uj;by_cases hall2:∀i,i<p->listed.getD i false=true
   ·exact full x hx (bz+1) listed γ w a hI uj hall2
   have hex:∃k,k<p/\listed.getD k true=false:=by
    refine Classical.byContradiction fun hn=>hall2 fun i hi=>?_;rw[Xl (by rw[hI.size];omega) false true];cases hl:listed.getD i true with
    |true=>rfl
    |false=>exact absurd ⟨i,hi,hl⟩ hn
   obtain⟨k,hk,hlk⟩:=hex;refine⟨fun hr=>?_,fun i hi=>?_⟩
   ·obtain⟨j,hj⟩:=Wo hc hI.size k k (zzab _) (by omega) hlk;rw[hr]at hj;cases hj
   obtain⟨ai,hu,o,ho,cN⟩:=Wp hc hi
   have eH:i<p:=by
    rcases zzaa i p with h|h
    ·exact h
    have:=jd hI.clo ho ((dy i o ho).2.2 h) cN i k (by omega) (by omega);rw[Xl (by rw[hI.size];omega) false true,hlk]at this;cases this
   obtain⟨o',cB,gN⟩:=gF i eH;rw[ho]at cB;cases cB;obtain⟨aI,h1,_⟩:=bS x hx;obtain⟨h1a,h1b⟩:=h1 i o (zzcc _) eH ho;by_cases fc:i=jl
   ·subst fc;refine wpOpIn_mono ?_ (KF hc hI ho eH gN aI Av AD hu cN (fun a j e1 e2=>um hjc a j i o e1 e2 ho) Fm ((h1b ms.length x AD (by simp)).1 (by simp)));rintro a' w' ⟨γ',x',oD,zg⟩;refine ih x' oD _ γ' w' a' zg ?_;have:=vV hI.size ai hu;omega
   refine wpOpIn_mono ?_ (sr hc hI ho eH gN aI Av hu cN (fun a j e1 e2=>um hjc a j i o e1 e2 ho) h1a (fun k y e1 e2=>(h1b k y e1 e2).2 fun e=>fc (by
    have hk:k=ms.length:=by simpa using e
    subst hk;rw[AD]at e1;exact(Option.some.inj e1).symm)))
   rintro a' w' ⟨γ',zg⟩;refine ih x hx _ γ' w' a' zg ?_;have:=vV hI.size ai hu;omega
 have AK:∀j,(Array.replicate ops.size false).getD j false=false:=fun j=>by
  rcases zzaa j ops.size with h|h<;>simp[h]
 have CG:∀js':List Nat,chn (Array.replicate ops.size false) js':=fun js'=>by
  induction js' with
  |nil=>trivial
  |cons j r ih=>
   cases r with
   |nil=>trivial
   |cons j' r=>exact⟨fun h=>(by rw[AK]at h;cases h),ih⟩
 have Td:Ju (Array.replicate ops.size false) s.m js (ms++[x0])=s.m:=Qat (a:=0) (bS x0 hx0).1 (by omega) (fun b j hb=>by omega) (fun j _=>AK j);refine main ops.size x0 hx0 _ γ w.drew a ⟨by simp,fun i _ hi=>by simp[hi],CG js,fun j o h=>(by rw[AK]at h;cases h),?_,?_,hs.rd.bn (Ev.drew w γ).dD,?_,fun t=>?_,hs.d.bn (Ev.drew w γ).dD,fun g=>(hs.g g).mono (Ev.drew w γ).cV,hs.y.mono (Ev.drew w γ).dD,hs.e.trans (Ev.drew w γ).dD⟩ ?_
 ·rw[Td];exact hs.m.drew
 ·rw[Td];exact hs.ls.mono (Ev.drew w γ)
 ·have:=hs.t.1;simp at this;omega
 ·have hw:wr ops p (Array.replicate ops.size false) t=false:=by
   unfold wr;rw[zzeo];intro j _;rw[AK j];simp
  unfold zh;rw[hw];simp only[zzbq,if_false];have:=(hs.t.mono (Ev.drew w γ)).get t;simpa[List.getD]using this
 unfold uc;exact zzbm (zzfj) (by simp)
end
open Go Go.RowKit
inductive SC where
 |skip
 |ops (l:List SO)
 |draw (l l2:List SO)
 |drawE (fl:List Fg) (l l2:List SO)
 |seq (a b:SC)
 |cond (x:bN) (a b:SC)
 |block (id:Nat) (c:SC)
 |loop (c:SC)
 |exit (id:Nat)
 |scope (c:SC)
 |rfunc (g:bN) (ps:List Nat) (lM body:SC)
 |ret
 |bad
def Kj:List Nat->SC->SC
 |[],c=>c
 |0::p,.seq x _=>Kj p x
 |_::p,.seq _ x=>Kj p x
 |0::p,.cond _ x _=>Kj p x
 |_::p,.cond _ _ x=>Kj p x
 |_::p,.block _ x=>Kj p x
 |_::p,.loop x=>Kj p x
 |_::p,.scope x=>Kj p x
 |0::p,.rfunc _ _ x _=>Kj p x
 |_::p,.rfunc _ _ _ x=>Kj p x
 |_,c=>c
def zk:List Nat->SC->SC->SC
 |[],_,t=>t
 |0::p,.seq x y,t=>.seq (zk p x t) y
 |_::p,.seq y x,t=>.seq y (zk p x t)
 |0::p,.cond c x y,t=>.cond c (zk p x t) y
 |_::p,.cond c y x,t=>.cond c y (zk p x t)
 |_::p,.block n x,t=>.block n (zk p x t)
 |_::p,.loop x,t=>.loop (zk p x t)
 |_::p,.scope x,t=>.scope (zk p x t)
 |0::p,.rfunc g l x y,t=>.rfunc g l (zk p x t) y
 |_::p,.rfunc g l y x,t=>.rfunc g l y (zk p x t)
 |_,c,_=>c
def amA(n:Nat):List Nat->List Nat
 |[]=>[n]
 |k::l=>bif n.ble k then(bif n.beq k then k::l else n::k::l)else k::amA n l
def KG(r:List Nat):List SO->List Nat
 |[]=>r
 |o::l=>match o.dst with|some n=>amA n (KG r l)|none=>KG r l
def arR(r:List Nat):List Nat->List Nat
 |[]=>r
 |n::l=>amA n (arR r l)
def rW(r:List Nat):SC->List Nat
 |.ops l=>KG r l
 |.draw l k=>KG (KG r k) l
 |.drawE _ l k=>KG (KG r k) l
 |.seq x y=>rW (rW r y) x
 |.cond _ x y=>rW (rW r y) x
 |.block _ x=>rW r x
 |.loop x=>rW r x
 |.scope x=>rW r x
 |.rfunc _ l x y=>rW (rW (arR r l) y) x
 |_=>r
abbrev tJ(p:List Nat)(c:SC):={x:SC // x=Kj p c}
abbrev Kt(p:List Nat)(c:SC):={x:SC->SC // ∀t,x t=zk p c t}
abbrev wT(p:List Nat)(c:SC):={x:List Nat // x=rW [] (Kj p c)}
def qS{P:Program}{ops:Array Oper}{p:Nat}{js:List Nat}(hc:AG ops p=true):(flags ops p js).length=((ops.toList.take p).map (Xu P ops)).length:=by
 have:=(Va hc).1;simp[flags];omega
def amB{P:Program}{ops:Array Oper}{p:Nat}{js:List Nat}(hc:AG ops p=true)(h:ae1 (flags ops p js++bkF ops p js) ((ops.toList.take p).map (Xu P ops))=true):vZ ops p js=true:=by
 unfold ae1 at h;rw[<- qS (js:=js) hc,zzff]at h;unfold bkF at h;cases hb:vZ ops p js with
 |true=>rfl
 |false=>rw[hb]at h;simp at h
def Yj(P:Program):Code->SC
 |.skip=>.skip
 |.region _ ops false=>.ops (ops.toList.map (Xu P ops))
 |.region _ ops true=>if P.follows .mixedOrders&&AG ops (jb ops)then(match nq ops (jb ops)with
  |some js=>.drawE (flags ops (jb ops) js++bkF ops (jb ops) js) ((ops.toList.take (jb ops)).map (Xu P ops)) ((ops.toList.drop (jb ops)).map (Xu P ops))
  |none=>.draw ((ops.toList.take (jb ops)).map (Xu P ops)) ((ops.toList.drop (jb ops)).map (Xu P ops)))else .bad
 |.seq a b=>.seq (Yj P a) (Yj P b)
 |.cond c a b=>.cond (aA c) (Yj P a) (Yj P b)
 |.block id c=>.block id (Yj P c)
 |.loop c=>.loop (Yj P c)
 |.exit id=>.exit id
 |.label _=>.skip
 |.scope c=>.scope (Yj P c)
 |.rangeFunc g ps lM body=>.rfunc (aA g) ps.toList (Yj P lM) (Yj P body)
 |.ret=>.ret
 |_=>.bad
def ql(st:Nat->LS)(l:Nat)(x:LS):Nat->LS:=fun i=>if i=l then x else st i
def AM.at_(m:AM)(l:Nat)(x:LS):AM:={m with st:=ql m.st l x}
def AM.aX(m:AM):AM:={m with st:=ql m.st m.ln .ready,ln:=m.ln+1}
def Qam(T:List AV):List Nat->List AV->List AV
 |p::ps,x::xs=>Qam (T.set p x) ps xs
 |_,_=>T
section vc
variable (P:Program) (gl:Nat->AV) (orc:Nat->FuncId->List AV->AV) (Y:YT)
def XH(k:AS->(Exit->AS->Prop)->Prop)(Q:Exit->AS->Prop):Exit->AS->Prop
 |.normal,s=>k s Q
 |ex,s=>Q ex s
def qT(id:Nat)(Q:Exit->AS->Prop):Exit->AS->Prop
 |.exit id',s=>if id'=id then Q .normal s else Q (.exit id') s
 |ex,s=>Q ex s
def v8(Q:Exit->AS->Prop):Exit->AS->Prop
 |.goto _,_=>False
 |ex,s=>Q ex s
def nt(I:AS->Prop)(μ:AS->Nat)(s:AS)(Q:Exit->AS->Prop):Exit->AS->Prop
 |.normal,s'=>I s'/\μ s'<μ s
 |ex,s'=>Q ex s'
def KH(l:Nat)(K:Bool->AM->Prop):Exit->AS->Prop
 |.normal,s=>K true (s.m.at_ l .ready)
 |.ret,s=>K false (s.m.at_ l (.done .ret))
 |.exit id,s=>K false (s.m.at_ l (.done (.exit id)))
 |_,_=>False
def Fp(l:Nat)(k:AS->Prop):Exit->AS->Prop
 |.normal,s=>s.m.st l=.ready/\k ⟨s.T,s.m.at_ l .busy⟩
 |_,_=>False
def zl(l:Nat)(T:List AV)(m:AM)(Q:Exit->AS->Prop):LS->Prop
 |.ready=>Q .normal ⟨T,m.at_ l .gone⟩
 |.done ex=>Q ex ⟨T,m.at_ l .gone⟩
 |_=>False
def Yin(l n:Nat)(k:List AV->AM->(Bool->AM->Prop)->Prop):YT:=fun l' args m K=>if l'=l then m.st l=.ready/\args.length=n/\k args m K else Y l' args m K
def vc:SC->AS->(Exit->AS->Prop)->Prop
 |.skip,s,Q=>Q .normal s
 |.ops l,s,Q=>Zx P gl orc Y l s (Q .normal)
 |.draw l l2,s,Q=>vcD P gl orc Y l2 (Q .normal) l s.T s.m []
 |.drawE fl l l2,s,Q=>vcD P gl orc Y l2 (Q .normal) l s.T s.m []\/(∃ms,nr P gl orc Y l2 (Q .normal) s.m ms l fl ms s.m s.T)\/(ae1 fl l=true/\∃(ms:List (AV×AM))(R:AV->AM->Prop),(∃x:AV×AM,R x.1 x.2)/\∀x:AV×AM,R x.1 x.2->lK P gl orc Y R l2 (Q .normal) s.m (ms++[x]) l fl (ms++[x]) s.m s.T)
 |.seq a b,s,Q=>vc a s (XH (vc b) Q)
 |.cond x a b,s,Q=>match ev gl s.T x with
  |.bool t=>(t=true->vc a s Q)/\(t=false->vc b s Q)
  |_=>False
 |.block id c,s,Q=>vc c s (qT id Q)
 |.loop c,s,Q=>∃(I:AS->Prop)(μ:AS->Nat),I s/\∀s',I s'->vc c s' (nt I μ s' Q)
 |.exit id,s,Q=>Q (.exit id) s
 |.scope c,s,Q=>vc c s (v8 Q)
 |.rfunc g ps lM body,s,Q=>match ev gl s.T g with
  |.fn f first cap=>s.m.st s.m.ln=.gone->an P gl (Yin Y s.m.ln ps.length fun args m K=>vc lM ⟨Qam s.T ps args,m⟩ (Fp s.m.ln fun s'=>vc body s' (KH s.m.ln K))) f (first++[.yld s.m.ln]++cap) (s.m.aX)
    fun _ m'=>zl s.m.ln s.T m' Q (m'.st s.m.ln)
  |_=>False
 |.ret,s,Q=>Q .ret s
 |.bad,_,_=>False
end vc
section
variable {N:Nat} {w0:iu} {r:Option Nat} {au:Nat->Nat->Prop} {S:G×World} {Y:YT} {P:Program} {gl:Nat->AV} {orc:Nat->FuncId->List AV->AV} {γ:G} {w:World}
def lift(N:Nat)(w0:iu)(r:Option Nat)(au:Nat->Nat->Prop)(S:G×World)(P:Program)(gl:Nat->AV)(Y:YT)(Q:Exit->AS->Prop):Exit->Act->World->Prop:=fun ex a w=>∃γ s,fR N w0 r au S P gl Y γ w s a/\Q ex s
def az.XI{B:Nat->Option (List AV)}{L:Nat->Option Nat}(hm:az N w0 au γ w B L)(o:Obj):
  az N w0 au {γ with sp:=fun b=>γ.sp b\/b=w.heap.size} (w.alloc o) B L/\Ev w γ (w.alloc o) {γ with sp:=fun b=>γ.sp b\/b=w.heap.size}:=by
 have cA:Ev w γ (w.alloc o) {γ with sp:=fun b=>γ.sp b\/b=w.heap.size}:=
  ⟨by simp,fun b o' hb hr=>⟨hr,cell_of_heap (Below.heap_alloc w o b hb)⟩,fun _ _ h=>h,fun _=>zzab _,fun _ _ h=>h,rfl,
   fun i b _ ho=>⟨ho,fun arr e he=>⟨arr,by rw[Below.heap_alloc w o b (hm.own i b ho).2.1];exact he,zzab _⟩,fun _ h=>h⟩,
   fun b hb=>⟨.inl hb,Below.heap_alloc w o b (hm.sp b hb).2.1⟩,Sz.of_same (Below.heap_alloc w o)⟩
 refine⟨⟨w0.st _ _ _ _ hm.bs ⟨rfl,rfl,rfl,by simp,fun b hb _=>Below.heap_alloc w _ b hb,cA.ro,fun b hb=>?_,fun _ _ h=>.inl h⟩,by have:=hm.hN;simp;omega,hm.au,fun b o h=>by have:=hm.robd b o h;simp;omega,
  fun id cells b hb h1=>?_,fun id b hb=>?_,hm.inj,fun id b hb=>?_,hm.oinj,fun b hb=>?_,fun id b hb=>?_,hm.minj,hm.len,hm.cur0⟩,cA⟩
 ·obtain hb|hb|(hb|rfl)|hb:=hb
  ·exact .inl (.inl hb)
  ·exact .inl (.inr (.inl hb))
  ·exact .inl (.inr (.inr (.inl hb)))
  ·exact .inr (zzab _)
  exact .inl (.inr (.inr (.inr hb)))
 ·obtain⟨arr,e,h2,h3,h4⟩:=hm.box id cells b hb h1;exact⟨arr,e,by rw[Below.heap_alloc w _ b (aS h2)];exact h2,h3.mono cA,h4⟩
 ·obtain⟨h1,h2,h3⟩:=hm.β id b hb;exact⟨h1,by simp;omega,h3⟩
 ·obtain⟨h1,h2,h3⟩:=hm.own id b hb;exact⟨h1,by simp;omega,h3⟩
 ·obtain hb|rfl:=hb
  ·obtain⟨h1,h2,h3⟩:=hm.sp b hb;exact⟨h1,by simp;omega,h3⟩
  refine⟨hm.hN,by simp,fun o' h=>?_,fun id h=>?_,fun id h=>?_⟩
  ·have:=hm.robd _ _ h;omega
  ·have:=(hm.β id _ h).2.1;omega
  have:=(hm.own id _ h).2.1;omega
 obtain⟨h1,h2,h3,h4,h5,h6,h8,h7⟩:=hm.mm id b hb;refine⟨h1,by simp;omega,h3,h4,h5,?_,h8,h7.mono cA.dD.D2 (Below.heap_alloc w o b h2)⟩;rintro(h|rfl)
 ·exact h6 h
 omega
def az.aj1{B:Nat->Option (List AV)}{L:Nat->Option Nat}(hm:az N w0 au γ w B L){D:Nat}(hD:γ.sp D){o o0:Obj}(h0:w.heap[D]?=some o0)(hnc:∀c e f,o0≠.cells c e f)(awY:∀c e f,o≠.cells c e f)
  {γ':G}(hγ:γ'=γ\/γ'={γ with sp:=fun b=>γ.sp b/\b≠D})(arS:γ'=γ->qA (some o0) (some o)):
  az N w0 au γ' (w.putObj D o) B L/\NR w γ (w.putObj D o) γ'/\(∀wS γS,eG wS γS w γ->(γ'=γ\/¬γS.sp D)->eG wS γS (w.putObj D o) γ'):=by
 have ai:D<w.heap.size:=aS h0;have cM:∀b,b≠D->(w.putObj D o).heap[b]?=w.heap[b]?:=fun b hb=>World.putObj_heap_other hb;have E6:(w.putObj D o).heap[D]?=some o:=World.putObj_heap_same ai
 have bK:∀b o',(w.putObj D o).cell? ⟨b,o',none⟩=w.cell? ⟨b,o',none⟩:=fun b o'=>by
  by_cases hb:b=D
  ·subst hb;simp only[World.cell?,E6,h0];cases o<;>cases o0<;>first|rfl|exact absurd rfl (hnc _ _ _)|exact absurd rfl (awY _ _ _)
  exact cell_of_heap (cM b hb)
 have hβ:γ'.β=γ.β:=by rcases hγ with rfl|rfl<;>rfl
 have eR:γ'.own=γ.own:=by rcases hγ with rfl|rfl<;>rfl
 have dz:γ'.cur=γ.cur:=by rcases hγ with rfl|rfl<;>rfl
 have dF:γ'.ro=γ.ro:=by rcases hγ with rfl|rfl<;>rfl
 have mz:γ'.mm=γ.mm:=by rcases hγ with rfl|rfl<;>rfl
 have hlp:γ'.lp=γ.lp:=by rcases hγ with rfl|rfl<;>rfl
 have dy:∀b,γ'.sp b->γ.sp b:=by obtain rfl|rfl:=hγ;exact fun _ h=>h;exact fun _ h=>h.1
 have amC:∀b,γ.sp b->b≠D->γ'.sp b:=fun b hb h=>by
  obtain rfl|rfl:=hγ
  ·exact hb
  exact⟨hb,h⟩
 have hsz:Sz w (w.putObj D o):=fun b' arr e f h=>⟨arr,by rw[cM b' (by rintro rfl;rw[h0]at h;cases h;exact hnc _ _ _ rfl)];exact h,rfl⟩
 have ae3:NR w γ (w.putObj D o) γ':=by
  refine⟨by simp,fun b o' _ hr=>⟨by rw[dF];exact hr,bK b o'⟩,fun _ _ h=>by rw[hβ];exact h,fun _=>by rw[dz];exact zzab _,fun _ _ h=>by rw[mz];exact h,fun _ _ h=>by rw[hlp];exact h,fun id b _ ho=>⟨by rw[eR];exact ho,fun arr e he=>⟨arr,?_,zzab _⟩,fun _ h=>by rw[dF]at h;exact h⟩,hsz⟩;rw[cM b (by rintro rfl;exact(hm.sp b hD).2.2.2.2 id ho)];exact he
 refine⟨⟨w0.st _ _ _ _ hm.bs ⟨rfl,rfl,rfl,by simp,fun b _ ue=>cM b (by rintro rfl;exact ue (.inr (.inr (.inl hD)))),ae3.ro,fun b hb=>.inl ?_,fun b o' h=>.inl (by rw[dF]at h;exact h)⟩,by simpa using hm.hN,
  fun b o' h=>hm.au b o' (by rw[dF]at h;exact h),fun b o' h=>by rw[dF]at h;simpa using hm.robd b o' h,fun id cells b hb h1=>?_,fun id b hb=>?_,fun id id' b h h'=>hm.inj id id' b (by rw[hβ]at h;exact h) (by rw[hβ]at h';exact h'),
  fun id b hb=>?_,fun id id' b h h'=>hm.oinj id id' b (by rw[eR]at h;exact h) (by rw[eR]at h';exact h'),fun b hb=>?_,fun id b hb=>?_,fun id id' b h h'=>hm.minj id id' b (by rw[mz]at h;exact h) (by rw[mz]at h';exact h'),fun id n h=>by rw[dz];exact hm.len id n h,fun id h=>by rw[dz];exact hm.cur0 id h⟩,ae3,fun wS γS e hc=>?_⟩
 ·obtain⟨id,hb⟩|⟨id,hb⟩|hb|⟨F,hb⟩:=hb
  ·rw[hβ]at hb;exact .inl ⟨id,hb⟩
  ·rw[eR]at hb;exact .inr (.inl ⟨id,hb⟩)
  ·exact .inr (.inr (.inl (dy b hb)))
  rw[mz]at hb;exact .inr (.inr (.inr ⟨F,hb⟩))
 ·rw[hβ]at h1;obtain⟨arr,e,h2,h3,h4⟩:=hm.box id cells b hb h1;exact⟨arr,e,by rw[cM b (by rintro rfl;exact(hm.sp b hD).2.2.2.1 id h1)];exact h2,h3.eZ ae3,h4⟩
 ·rw[hβ]at hb;obtain⟨h1,h2,h3,h4,h5⟩:=hm.β id b hb;exact⟨h1,by simpa using h2,by rw[dF];exact h3,by rw[eR];exact h4,h5⟩
 ·rw[eR]at hb;simpa using hm.own id b hb
 ·obtain⟨h1,h2,h3,h4,h5⟩:=hm.sp b (dy b hb);exact⟨h1,by simpa using h2,by rw[dF];exact h3,by rw[hβ];exact h4,by rw[eR];exact h5⟩
 ·rw[mz]at hb;obtain⟨h1,h2,h3,h4,h5,h6,h8,h7⟩:=hm.mm id b hb;exact⟨h1,by simpa using h2,by rw[dF];exact h3,by rw[hβ];exact h4,by rw[eR];exact h5,fun h=>h6 (dy b h),by rw[hβ];exact h8,h7.mono ae3 (cM b (by rintro rfl;exact h6 hD))⟩
 refine⟨by simpa using e.size,fun b o' hb hr=>⟨by rw[dF];exact(e.ro b o' hb hr).1,(bK b o').trans (e.ro b o' hb hr).2⟩,fun id b h=>by rw[hβ];exact e.β id b h,fun id=>by rw[dz];exact e.cur id,fun b F h=>by rw[mz];exact e.mm b F h,fun i l h=>by rw[hlp];exact e.lp i l h,fun id b qi ho=>?_,fun b hb=>?_,e.ss.trans hsz⟩
 ·rw[dz]at qi;obtain⟨g1,g2,g3⟩:=e.own id b qi ho;refine⟨by rw[eR];exact g1,fun arr te he=>?_,fun o' h=>g3 o' (by rw[dF]at h;exact h)⟩;obtain⟨bR,k1,k2⟩:=g2 arr te he;exact⟨bR,by rw[cM b (by rintro rfl;exact(hm.sp b hD).2.2.2.2 id g1)];exact k1,k2⟩
 obtain⟨g1,g2⟩:=e.sp b hb;by_cases hbD:b=D
 ·subst hbD;obtain rfl|hc:=hc
  ·refine⟨g1,g2.trans ?_⟩;rw[h0,E6];exact arS rfl
  exact absurd hb hc
 exact⟨amC b g1 hbD,by rw[cM b hbD];exact g2⟩
def Jp{b:Frame}{a:Act}{k:List Item}{cs:List Frame}{w:World}{c:Code}:step P (lone (b.atR a (.code (.scope c)::k)) cs w)=.next (lone (b.atR a (.code c::.inScope c::k)) cs w):=
 step_lone_go (by simp[stepG,stepG.exec,Frame.atR])
def zm{b:Frame}{a:Act}{k:List Item}{cs:List Frame}{w:World}{c:Code}:step P (lone (b.atR a (.inScope c::k)) cs w)=.next (lone (b.atR a k) cs w):=
 step_lone_go (by simp[stepG,stepG.exec,Frame.atR])
def lN{c:Code}{Q:Exit->Act->World->Prop}{a:Act}{w:World}(h:c.wpIn (FW r) 0 P (Exit.noGoto Q) a w):(Code.scope c).wpIn (FW r) 0 P Q a w:=by
 intro b k cs dF hb hr;obtain⟨e,a₁,w₁,hq,fA⟩:=h b (.inScope c::k) cs dF hb hr;have h0:(lone (b.atR a (.code (.scope c)::k)) cs w).fenced P (FW r):=fenced_calm hb hr rfl;cases e with
 |normal=>exact⟨.normal,a₁,w₁,hq,.head h0 Jp (StepsIn.trans fA (.one (fenced_calm hb hr rfl) zm))⟩
 |exit id=>
  refine⟨.exit id,a₁,w₁,hq,fun k' hk=>.head h0 Jp (fA.1 k' (by simp[exitTo,hk])),fun Aq hk=>?_⟩;obtain⟨k₁,h1,h2⟩:=fA.2 Aq (by simp[exitTo,hk]);exact⟨k₁,h1,.head h0 Jp h2⟩
 |goto l=>exact hq.elim
 |ret=>exact⟨_,a₁,w₁,hq,.of_steps (.one h0 Jp) fA⟩
 |panic ch=>exact⟨_,a₁,w₁,hq,.of_steps (.one h0 Jp) fA⟩
 |outgrown=>exact⟨_,a₁,w₁,hq,.of_steps (.one h0 Jp) fA⟩
def Fq{γ:G}{w:World}:∀(ps:List Nat)(args:List AV)(vs:List Value)(T:List AV)(arr:Array Value),args.length=ps.length->ak w γ args vs->ak w γ T arr.toList->
  ak w γ (Qam T ps args) ((ps.toArray.zip vs.toArray).foldl (fun(tmps:Array Value)(p:Nat×Value)=>tmps.setIfInBounds p.1 p.2) arr).toList:=by
 intro ps args vs T arr hl hr ht
 have e:(ps.toArray.zip vs.toArray).foldl (fun(tmps:Array Value)(p:Nat×Value)=>tmps.setIfInBounds p.1 p.2) arr=(ps.zip vs).foldl (fun(tmps:Array Value)(p:Nat×Value)=>tmps.setIfInBounds p.1 p.2) arr:=by
  rw[<- Array.foldl_toList];simp
 rw[e];clear e;induction ps generalizing args vs T arr with
 |nil=>
  cases args with
  |nil=>simpa[Qam]using ht
  |cons x xs=>simp at hl
 |cons p ps ih=>
  cases args with
  |nil=>simp at hl
  |cons x xs=>
   cases vs with
   |nil=>have:=hr.1;simp at this
   |cons v vs=>
    have h0:aB w γ x v:=hr.2 0 x v rfl rfl;have hs:ak w γ xs vs:=⟨by have:=hr.1;simpa using this,fun i x y h1 h2=>hr.2 (i+1) x y (by simpa using h1) (by simpa using h2)⟩;simp only[zzde,zzcx,Qam];refine ih xs vs _ _ (by simpa using hl) hs ?_;rw[zzdg];exact ht.set p h0
def cQ.put{m:AM}{i l:Nat}{rc:Loop}{x:LS}(h:cQ γ w m)(hi:γ.lp i=some l)(dy:γ.sp l)(hl:l<w.heap.size)(hx:KB x rc):cQ γ (w.putObj l (.loop rc)) (m.at_ i x):=by
 refine⟨fun i'=>?_,h.2.1,h.2.2.1,fun i' l' ez=>?_⟩
 rotate_left
 ·obtain⟨q1,r,q2⟩:=h.2.2.2 i' l' ez;by_cases zn:l'=l
  ·subst zn;exact⟨q1,rc,World.putObj_heap_same hl⟩
  exact⟨q1,r,(World.putObj_heap_other zn).trans q2⟩
 by_cases dX:i'=i
 ·subst dX;exact .inr ⟨l,hi,dy,rc,World.putObj_heap_same hl,by simpa[AM.at_,ql]using hx⟩
 rcases h.1 i' with h'|⟨l',h0,h1,r,h2,h3⟩
 ·exact .inl (by simp[AM.at_,ql,dX,h'])
 have ez:l'≠l:=by rintro rfl;exact dX (h.2.2.1 _ _ _ h0 hi)
 exact .inr ⟨l',h0,h1,r,(World.putObj_heap_other ez).trans h2,by simpa[AM.at_,ql,dX]using h3⟩
def G.dM(γ:G)(i l:Nat):G:={γ with lp:=fun j=>if j=i then some l else γ.lp j}
def Fs(w:World){γ:G}{i l:Nat}(h:γ.lp i=none):eG w γ w (γ.dM i l):=
 ⟨zzab _,fun _ _ _ h=>⟨h,rfl⟩,fun _ _ h=>h,fun _=>zzab _,fun _ _ h=>h,fun j l' hj=>by
  have:j≠i:=by rintro rfl;rw[h]at hj;cases hj
  simp[G.dM,this,hj],fun _ _ _ h=>⟨h,fun arr _ h=>⟨arr,h,zzab _⟩,fun _ h=>h⟩,fun _ h=>⟨h,.inl rfl⟩,Sz.refl w⟩
def az.dM{B:Nat->Option (List AV)}{L:Nat->Option Nat}(hm:az N w0 au γ w B L){i l:Nat}(h:γ.lp i=none):az N w0 au (γ.dM i l) w B L:=by
 have cA:=(Fs w h (l:=l)).D2;refine⟨w0.st _ _ _ _ hm.bs ⟨rfl,rfl,rfl,zzab _,fun _ _ _=>rfl,fun _ _ _ h=>⟨h,rfl⟩,fun _ hb=>.inl hb,fun _ _ h=>.inl h⟩,hm.hN,hm.au,hm.robd,fun id cells b hb h1=>?_,hm.β,hm.inj,hm.own,hm.oinj,hm.sp,fun id b hb=>?_,hm.minj,hm.len,hm.cur0⟩
 ·obtain⟨arr,e,h2,h3,h4⟩:=hm.box id cells b hb h1;exact⟨arr,e,h2,h3.eZ cA,h4⟩
 obtain⟨h1,h2,h3,h4,h5,h6,h8,h7⟩:=hm.mm id b hb;exact⟨h1,h2,h3,h4,h5,h6,h8,h7.mono cA rfl⟩
def oO{B:Nat->Option (List AV)}{L:Nat->Option Nat}(hm:az N w0 au γ w B L){l:Nat}(hl:γ.sp l){rc:Loop}(h0:w.heap[l]?=some (.loop rc))(st:LoopState)(pd:Option Code):
  az N w0 au γ (w.putObj l (.loop {rc with state:=st,pending:=pd})) B L/\eG w γ (w.putObj l (.loop {rc with state:=st,pending:=pd})) γ:=by
 obtain⟨h1,_,h3⟩:=hm.aj1 hl (o:=.loop {rc with state:=st,pending:=pd}) h0 (fun _ _ _ h=>by cases h) (fun _ _ _ h=>by cases h) (.inl rfl) (fun _=>.inr ⟨rc,st,pd,rfl,rfl⟩);exact⟨h1,h3 w γ (Ev.refl w γ).dD (.inl rfl)⟩
def Ft{g:Operand}{ps:Array Tmp}{lM body:Code}
  (ihA:∀(l:Nat)(S:G×World)(γ:G)(w:World)(s:AS)(a:Act)(Q:Exit->AS->Prop),vc P gl orc Y (Yj P lM) s Q->fR N w0 (some l) au S P gl Y γ w s a->lM.wpIn (FW (some l)) 0 P (lift N w0 (some l) au S P gl Y Q) a w)
  (ihB:∀(l:Nat)(S:G×World)(γ:G)(w:World)(s:AS)(a:Act)(Q:Exit->AS->Prop),vc P gl orc Y (Yj P body) s Q->fR N w0 (some l) au S P gl Y γ w s a->body.wpIn (FW (some l)) 0 P (lift N w0 (some l) au S P gl Y Q) a w)
  {s:AS}{a:Act}{Q:Exit->AS->Prop}(h:vc P gl orc Y (Yj P (.rangeFunc g ps lM body)) s Q)(hs:fR N w0 r au S P gl Y γ w s a):
  (Code.rangeFunc g ps lM body).wpIn (FW r) 0 P (lift N w0 r au S P gl Y Q) a w:=by
 simp only[Yj,vc]at h;have hg:=hs.ev g;split at h
 case h_2=>exact h.elim
 rename_i f first cap e1
 rw[e1]at hg;obtain⟨fa,ca,hv,r1,r2⟩:=hg.qC;refine wpIn_rangeFunc fun fn _=>?_
 obtain⟨l,mark,w1,γ1',rc,he,oe,hsp1',hm1',hev1',hd1',V4⟩:∃(l:Nat)(mark:List Deferred)(w1:World)(γ1:G)(df:Nat),
   (Instr.enterLoop fn a.tmps ps lM body (FW r).round).run P w=.ok (l,mark) w1/\w1.heap[l]?=some (.loop {state:=.ready,pending:=none,fn,tmps:=a.tmps,params:=ps,assign:=lM,body,defers:=df})/\γ1.sp l/\
   az N w0 au γ1 w1 s.m.B s.m.L/\Ev w γ w1 γ1/\Dfr S.2.heap.size γ1 w1 (mark++a.defers)/\w.heap.size<=l:=by
  cases r with
  |none=>
   obtain⟨oI,fB⟩:=hs.m.XI (.deferred (some []));obtain⟨AA,arT⟩:=oI.XI (.loop {state:=.ready,pending:=none,fn,tmps:=a.tmps,params:=ps,assign:=lM,body,defers:=w.heap.size});refine⟨w.heap.size+1,_,_,_,w.heap.size,run_enterLoop_outer fn a.tmps ps lM body,?_,Or.inr (by simp),AA,fB.trans arT,?_,by omega⟩
   ·have:=World.alloc_heap_new (w.alloc (.deferred (some []))) (.loop {state:=.ready,pending:=none,fn,tmps:=a.tmps,params:=ps,assign:=lM,body,defers:=w.heap.size});simpa using this
   have hd:=hs.d.bn (fB.trans arT).dD
   have oH:∀x∈a.defers,∀D,x.target=.collected D->D<w.heap.size:=fun x hx D hD=>by
    obtain⟨D',q1,_,_,q4⟩:=hs.d.2.1 x hx;rw[hD]at q1;cases q1;exact aS q4
   refine⟨hd.1,fun x hx=>?_,?_⟩
   ·simp only[zzae,zzah,zzau]at hx;obtain rfl|hx:=hx
    ·refine⟨w.heap.size,rfl,hs.d.1,.inl (.inr rfl),?_⟩;rw[Below.heap_alloc _ _ _ (by simp)];exact World.alloc_heap_new w _
    exact hd.2.1 x hx
   simp only[zzae,zzah,zzbz];refine⟨fun x hx D hD oD=>?_,hd.2.2⟩;simp at hD;have:=oH x hx D oD;omega
  |some l0=>
   obtain⟨me,arU,arV⟩:=hs.rd l0 rfl;obtain⟨oI,fB⟩:=hs.m.XI (.loop {state:=.ready,pending:=none,fn,tmps:=a.tmps,params:=ps,assign:=lM,body,defers:=arU.defers});exact⟨w.heap.size,[],_,_,arU.defers,run_enterLoop_inner arV fn a.tmps ps lM body,World.alloc_heap_new w _,Or.inr rfl,oI,fB,hs.d.bn fB.dD,zzab _⟩
 have ef:l<w1.heap.size:=aS oe;generalize dx:s.m.ln=i at h;have XJ:=hs.ls.mono hev1';have aj2:γ1'.lp i=none:=XJ.2.1 i (by omega)
 have qP:∀j,γ1'.lp j≠some l:=fun j hj=>by
  rw[hev1'.lp]at hj;have:=(hs.m.sp l (hs.ls.2.2.2 j l hj).1).2.1;omega
 let γ1:=γ1'.dM i l
 have arW:eG w1 γ1' w1 γ1:=Fs w1 aj2;have fB:eG w γ w1 γ1:=hev1'.dD.trans arW;have oI:az N w0 au γ1 w1 s.m.B s.m.L:=hm1'.dM aj2;have XK:γ1.sp l:=hsp1';have XL:γ1.lp i=some l:=by simp[γ1,G.dM]
 have hd1:=hd1'.bn arW
 have hE:=h (by
  rcases hs.ls.1 i with h|⟨l',h0,_⟩
  ·exact h
  rw[hs.ls.2.1 i (by omega)]at h0;cases h0)
 have oz:ak w1 γ1 (first++[.yld i]++cap) (fa.toList++[.func (.yield l) #[] #[]]++ca.toList):=((r1.bn fB).append (ak.cons (.yld XL) ak.nil)).append (r2.bn fB)
 have awZ:cQ γ1 w1 s.m.aX:=by
  refine⟨fun j=>?_,fun j hj=>?_,fun j j' l' h1 h2=>?_,fun j l' h1=>?_⟩
  ·by_cases hj:j=i
   ·subst hj;exact .inr ⟨l,XL,XK,_,oe,by simp[AM.aX,ql,dx,KB]⟩
   rcases XJ.1 j with h|⟨l',h0,h1,r',h2,h3⟩
   ·exact .inl (by simp[AM.aX,ql,dx,hj,h])
   exact .inr ⟨l',by simp[γ1,G.dM,hj,h0],h1,r',h2,by simpa[AM.aX,ql,dx,hj]using h3⟩
  ·have NU:i+1<=j:=by simpa[AM.aX,dx]using hj
   have:j≠i:=by omega
   simp[γ1,G.dM,this,XJ.2.1 j (by omega)]
  ·by_cases hj:j=i<;>by_cases NU:j'=i
   ·rw[hj,NU]
   ·simp[γ1,G.dM,hj]at h1;simp[γ1,G.dM,NU]at h2;subst h1;exact absurd h2 (qP j')
   ·simp[γ1,G.dM,hj]at h1;simp[γ1,G.dM,NU]at h2;subst h2;exact absurd h1 (qP j)
   simp[γ1,G.dM,hj]at h1;simp[γ1,G.dM,NU]at h2;exact XJ.2.2.1 j j' l' h1 h2
  by_cases hj:j=i
  ·simp[γ1,G.dM,hj]at h1;subst h1;exact⟨XK,_,oe⟩
  simp[γ1,G.dM,hj]at h1;exact XJ.2.2.2 j l' h1
 refine⟨l,mark,w1,{target:=.fn (.func f) ca,args:=fa++#[.func (.yield l) #[] #[]]},w1,f,(fa.toList++[Value.func (.yield l) #[] #[]]++ca.toList).toArray,w1,he,?_,fun _ _=>trivial,?_,fun h=>by simp[FW,Fence.wide]at h,?_⟩
 ·have hc:a.eval (.const (.func (.yield l) #[] #[]))=.func (.yield l) #[] #[]:=rfl;simp[resolve,hv,hc,Deferred.ofValue,rangeCall]
 ·simp[invoke,Qdk hE.1]
 have XM:=hE.2 N w0 au γ1 w1 _ oI awZ (fun g=>(hs.g g).bn fB.cV) ?_ oz
 ·refine CallsIn.mono (F:=FW r) (n:=0) (show CallsIn (FW r) 0 P f _ w1 _ from XM) ?_;rintro en w3 ⟨v,γ3,r',m',rfl,g1,g2,g3,g4,g5⟩;have aw0:=(g1.sp l XK).1
  have fin:∀(Q2:Loop)(pd:Option Code),w3.heap[l]?=some (.loop Q2)->(∀ex,ex=Exit.normal/\pd=none\/pd=qN ex/\pd.isSome=true->Q2.state≠.busy->Q2.pending=pd->Q ex ⟨s.T,m'.at_ i .gone⟩->rangePost (FW r) 0 P l (lift N w0 r au S P gl Y Q) {a with defers:=mark++a.defers} (.returned v) w3):=by
   intro Q2 pd arX ex hex hnb hpd hQ;obtain⟨hm4,arY⟩:=oO g2 aw0 arX .exhausted Q2.pending;refine⟨Q2.pending,_,run_endLoop arX hnb,?_⟩;have cA:eG w γ (w3.putObj l (.loop {Q2 with state:=.exhausted})) γ3:=(fB.trans g1).trans arY
   have Fi:fR N w0 r au S P gl Y γ3 (w3.putObj l (.loop {Q2 with state:=.exhausted})) ⟨s.T,m'.at_ i .gone⟩ {a with defers:=mark++a.defers}:=by
    have ae4:=g1.lp i l XL;refine⟨hm4,?_,hs.rd.bn cA,hs.t.bn cA,hd1.bn (g1.trans arY),fun g=>(hs.g g).bn cA.cV,hs.y.mono cA,hs.e.trans cA⟩;refine⟨fun j=>?_,g3.2.1,g3.2.2.1,fun j l' ez=>?_⟩
    rotate_left
    ·obtain⟨q1,r,q2⟩:=g3.2.2.2 j l' ez;by_cases zn:l'=l
     ·subst zn;exact⟨q1,_,World.putObj_heap_same (aS q2)⟩
     exact⟨q1,r,(World.putObj_heap_other zn).trans q2⟩
    by_cases hj:j=i
    ·exact .inl (by simp[AM.at_,ql,hj])
    rcases g3.1 j with h|⟨l',h0,h1,r',h2,h3⟩
    ·exact .inl (by simp[AM.at_,ql,hj,h])
    have ez:l'≠l:=by rintro rfl;exact hj (g3.2.2.1 _ _ _ h0 ae4)
    exact .inr ⟨l',h0,h1,r',(World.putObj_heap_other ez).trans h2,by simpa[AM.at_,ql,hj]using h3⟩
   generalize w3.putObj l (.loop {Q2 with state:=.exhausted})=w4 at Fi;rw[hpd];obtain⟨rfl,rfl⟩|⟨hex,XN⟩:=hex
   ·exact⟨γ3,_,Fi,hQ⟩
   cases ex with
   |ret=>simp only[qN]at hex;subst hex;exact wpIn_ret ⟨γ3,_,Fi,hQ⟩
   |exit id=>simp only[qN]at hex;subst hex;exact wpIn_exit ⟨γ3,_,Fi,hQ⟩
   |_=>simp only[qN]at hex;subst hex;cases XN
  have hl3:=g3.1 i;have ae4:=g1.lp i l XL;cases cc:m'.st i with
  |gone=>rw[cc]at g5;exact g5.elim
  |busy=>rw[cc]at g5;exact g5.elim
  |ready=>
   rw[cc]at g5 hl3;obtain hl3|⟨l',q0,_,Q2,q1,q2⟩:=hl3
   ·cases hl3
   obtain rfl:l'=l:=Option.some.inj (q0.symm.trans ae4);exact fin Q2 none q1 .normal (.inl ⟨rfl,rfl⟩) (by rw[q2.1];simp) q2.2 g5
  |done ex=>
   rw[cc]at g5 hl3;obtain hl3|⟨l',q0,_,Q2,q1,q2⟩:=hl3
   ·cases hl3
   obtain rfl:l'=l:=Option.some.inj (q0.symm.trans ae4);exact fin Q2 _ q1 ex (.inr ⟨rfl,q2.2.2⟩) (by rw[q2.1];simp) q2.2.1 g5
 intro γ' w' XO i' args m K vs fN arZ Aq hY l' ae5;unfold Yin at hY;split at hY
 case isFalse=>exact hs.y γ' w' (fB.trans XO) i' args m K vs fN arZ Aq hY l' ae5
 rename_i dX;subst dX;obtain rfl:l'=l:=Option.some.inj (ae5.symm.trans (XO.lp _ _ XL));obtain⟨gG,aI,hY⟩:=hY
 have N8:∃st pd,w'.heap[l']?=some (.loop {state:=st,pending:=pd,fn,tmps:=a.tmps,params:=ps,assign:=lM,body,defers:=rc}):=by
  rcases(XO.sp l' XK).2 with h|⟨r0,st,pd,h,h'⟩
  ·rw[oe]at h;exact⟨_,_,h⟩
  rw[oe]at h;cases h;exact⟨st,pd,h'⟩
 obtain⟨st,pd,N8⟩:=N8;have amC:=(XO.sp l' XK).1;have amD:=fB.trans XO;have hps:vs.toArray.size=ps.size:=by have:=Aq.1;simp at this aI |-;omega
 refine⟨fn,_,lM,body,run_yield N8 hps,roundIn_of_wpIn (F:=FW none) trivial ?_⟩
 have ar0:fR N w0 (some l') au (γ',w') P gl Y γ' w' ⟨Qam s.T ps.toList args,m⟩ {tmps:=(ps.zip vs.toArray).foldl (fun(tmps:Array Value)(p:Nat×Value)=>tmps.setIfInBounds p.1 p.2) a.tmps,defers:=[]}:=by
  refine⟨fN,arZ,fun l hl=>?_,?_,⟨zzab _,fun x hx=>(by cases hx),List.Pairwise.nil⟩,fun g=>(hs.g g).bn amD.cV,hs.y.mono amD,(Ev.refl w' γ').dD⟩
  ·cases hl;exact⟨amC,_,N8⟩
  have:=Fq ps.toList args vs s.T a.tmps aI Aq (hs.t.bn amD);simpa using this
 refine wpIn_mono (ihA l' (γ',w') γ' w' _ _ _ hY ar0) ?_;rintro ex a2 w2 ⟨γ2,s2,KI,hq2⟩;cases ex with
 |normal=>
  obtain⟨aw1,hq2⟩:=hq2;have AN:=KI.ls.1 i';rw[aw1]at AN;have ar1:=KI.e.lp _ _ ae5;obtain AN|⟨l2,q0,hsp2,rc2,q1,q2⟩:=AN
  ·cases AN
  obtain rfl:l'=l2:=Option.some.inj (ar1.symm.trans q0);obtain⟨hm3,Q3⟩:=oO KI.m hsp2 q1 .busy rc2.pending;refine⟨_,run_beginRound q1 q2.1,?_⟩
  have ar2:fR N w0 (some l') au (γ',w') P gl Y γ2 (w2.putObj l' (.loop {rc2 with state:=.busy})) ⟨s2.T,s2.m.at_ i' .busy⟩ a2:=
   ⟨hm3,KI.ls.put ar1 hsp2 (aS q1) rfl,KI.rd.bn Q3,KI.t.bn Q3,KI.d.bn Q3,fun g=>(KI.g g).bn Q3.cV,KI.y.mono Q3,KI.e.trans Q3⟩
  refine wpIn_mono (ihB l' (γ',w') γ2 _ _ _ _ hq2 ar2) ?_;rintro ex a4 w4 ⟨γ4,s4,hs4,hq4⟩;obtain⟨Q4,rc4,q4⟩:=hs4.rd _ rfl;have amE:=hs4.e.lp _ _ ae5;cases ex with
  |normal=>
   obtain⟨hm5,XP⟩:=oO hs4.m Q4 q4 .ready none;exact⟨_,_,run_endRound none q4,true,γ4,s4.m.at_ i' .ready,rfl,hs4.e.trans XP,hm5,hs4.ls.put amE Q4 (aS q4) ⟨rfl,rfl⟩,hq4⟩
  |ret=>
   obtain⟨hm5,XP⟩:=oO hs4.m Q4 q4 .done (some .ret);exact⟨_,_,run_endRound (some .ret) q4,false,γ4,s4.m.at_ i' (.done .ret),rfl,hs4.e.trans XP,hm5,hs4.ls.put amE Q4 (aS q4) ⟨rfl,rfl,rfl⟩,hq4⟩
  |exit id=>
   obtain⟨hm5,XP⟩:=oO hs4.m Q4 q4 .done (some (.exit id));exact⟨_,_,run_endRound (some (.exit id)) q4,false,γ4,s4.m.at_ i' (.done (.exit id)),rfl,hs4.e.trans XP,hm5,hs4.ls.put amE Q4 (aS q4) ⟨rfl,rfl,rfl⟩,hq4⟩
  |_=>exact hq4.elim
 |_=>exact hq2.elim
def Jd:∀(c:Code)(r:Option Nat)(S:G×World)(γ:G)(w:World)(s:AS)(a:Act)(Q:Exit->AS->Prop),vc P gl orc Y (Yj P c) s Q->fR N w0 r au S P gl Y γ w s a->c.wpIn (FW r) 0 P (lift N w0 r au S P gl Y Q) a w
 |.skip,r,S,γ,w,s,a,Q,h,hs=>wpIn_skip ⟨γ,s,hs,h⟩
 |.label _,r,S,γ,w,s,a,Q,h,hs=>wpIn_label ⟨γ,s,hs,h⟩
 |.region id ops false,r,S,γ,w,s,a,Q,h,hs=>by
  refine wpIn_region ?_;have:=sk (P:=P) (orc:=orc) (ops:=ops) (Q:=lift N w0 r au S P gl Y Q) (K:=Q .normal) (fun γ w s a hK hs=>⟨γ,s,hs,hK⟩) ops.size 0 γ w s a (by simp) (by simpa[Yj,vc]using h) hs;rwa [zzfn]
 |.region id ops true,r,S,γ,w,s,a,Q,h,hs=>by
  simp only[Yj]at h;split at h
  case isFalse=>exact h.elim
  rename_i hc;simp only[zzak]at hc;split at h
  ·rename_i j hj;obtain h|⟨ms,h⟩|⟨hb,ms,R,hR,h⟩:=h
   ·exact wpIn_region_any hc.1 (vX (Q:=lift N w0 r au S P gl Y Q) (K:=Q .normal) (fun γ w s a hK hs=>⟨γ,s,hs,hK⟩) hc.2 h hs)
   ·exact wpIn_region_any hc.1 (Fk (Q:=lift N w0 r au S P gl Y Q) (K:=Q .normal) (fun γ w s a hK hs=>⟨γ,s,hs,hK⟩) hc.2 hj (oM _ _ _ _ (qS hc.2) h) hs)
   exact wpIn_region_any hc.1 (Fo (Q:=lift N w0 r au S P gl Y Q) (K:=Q .normal) (fun γ w s a hK hs=>⟨γ,s,hs,hK⟩) hc.2 hj (amB hc.2 hb) hR (fun x hx=>oN _ _ _ _ (qS hc.2) (h x hx)) hs)
  exact wpIn_region_any hc.1 (vX (Q:=lift N w0 r au S P gl Y Q) (K:=Q .normal) (fun γ w s a hK hs=>⟨γ,s,hs,hK⟩) hc.2 h hs)
 |.seq x y,r,S,γ,w,s,a,Q,h,hs=>by
  refine wpIn_seq (wpIn_mono (Jd x r S γ w s a _ h hs) ?_);rintro ex a' w' ⟨γ',s',iG,h'⟩;cases ex with
  |normal=>exact Jd y r S γ' w' s' a' Q h' iG
  |_=>exact⟨γ',s',iG,h'⟩
 |.cond c x y,r,S,γ,w,s,a,Q,h,hs=>by
  simp only[Yj,vc]at h;have hr:=hs.ev c;split at h
  case h_2=>exact h.elim
  rename_i t ht;rw[ht]at hr;exact wpIn_cond_split hr.bB (fun e=>Jd x r S γ w s a Q (h.1 e) hs) fun e=>Jd y r S γ w s a Q (h.2 e) hs
 |.block id c,r,S,γ,w,s,a,Q,h,hs=>by
  refine wpIn_block (wpIn_mono (Jd c r S γ w s a _ h hs) ?_);rintro ex a' w' ⟨γ',s',iG,h'⟩;cases ex with
  |exit id'=>
   simp only[Exit.inBlock,qT]at h' |-
   split
   ·rename_i aO;rw[if_pos aO]at h';exact⟨γ',s',iG,h'⟩
   rename_i aO;rw[if_neg aO]at h';exact⟨γ',s',iG,h'⟩
  |_=>exact⟨γ',s',iG,h'⟩
 |.loop c,r,S,γ,w,s,a,Q,h,hs=>by
  obtain⟨I,μ,h0,Aq⟩:=h;intro b k cs dF hb hr
  have key:∀j γ w s a,μ s=j->I s->fR N w0 r au S P gl Y γ w s a->∃e a' w',lift N w0 r au S P gl Y Q e a' w'/\ArrivesIn (Machine.fenced P (FW r)) P (lone (b.atR a (.code c::.inLoop c::k)) cs w) b k cs e a' w':=by
   intro j;induction j using Nat.strongRecOn with
   |_ j ih=>
    intro γ w s a hn hI hs;obtain⟨e,a₁,w₁,⟨γ₁,s₁,hs₁,hq⟩,fA⟩:=Jd c r S γ w s a _ (Aq s hI) hs b (.inLoop c::k) cs dF hb hr;cases e with
    |normal=>
     obtain⟨hI₁,ai⟩:=hq;obtain⟨e₂,a₂,w₂,hq₂,ar3⟩:=ih (μ s₁) (hn ▸ ai) γ₁ w₁ s₁ a₁ rfl hI₁ hs₁;exact⟨e₂,a₂,w₂,hq₂,.of_steps (StepsIn.trans fA (.one (fenced_calm hb hr rfl) stepR_inLoop)) ar3⟩
    |exit id=>exact⟨_,a₁,w₁,⟨γ₁,s₁,hs₁,hq⟩,.pass (x:=.inLoop c) rfl (fun _ _=>.inl (by simp)) fA⟩
    |goto l=>exact⟨_,a₁,w₁,⟨γ₁,s₁,hs₁,hq⟩,.pass (x:=.inLoop c) rfl (fun _ _=>.inl (by simp)) fA⟩
    |ret=>exact⟨_,a₁,w₁,⟨γ₁,s₁,hs₁,hq⟩,.pass (x:=.inLoop c) rfl (fun _ _=>.inl (by simp)) fA⟩
    |panic ch=>exact⟨_,a₁,w₁,⟨γ₁,s₁,hs₁,hq⟩,.pass (x:=.inLoop c) rfl (fun _ _=>.inl (by simp)) fA⟩
    |outgrown=>exact⟨_,a₁,w₁,⟨γ₁,s₁,hs₁,hq⟩,.pass (x:=.inLoop c) rfl (fun _ _=>.inl (by simp)) fA⟩
  obtain⟨e,a',w',hq,fA⟩:=key _ γ w s a rfl h0 hs;exact⟨e,a',w',hq,.of_steps (.one (fenced_calm hb hr rfl) stepR_loop) fA⟩
 |.exit id,r,S,γ,w,s,a,Q,h,hs=>wpIn_exit ⟨γ,s,hs,h⟩
 |.ret,r,S,γ,w,s,a,Q,h,hs=>wpIn_ret ⟨γ,s,hs,h⟩
 |.scope c,r,S,γ,w,s,a,Q,h,hs=>by
  refine lN (wpIn_mono (Jd c r S γ w s a _ h hs) ?_);rintro ex a' w' ⟨γ',s',iG,h'⟩;cases ex with
  |goto l=>exact h'.elim
  |_=>exact⟨γ',s',iG,h'⟩
 |.rangeFunc g ps lM body,r,S,γ,w,s,a,Q,h,hs=>Ft (fun l S γ w s a Q h hs=>Jd lM (some l) S γ w s a Q h hs) (fun l S γ w s a Q h hs=>Jd body (some l) S γ w s a Q h hs) h hs
 |.goto l,r,S,γ,w,s,a,Q,h,hs=>h.elim
 |.refuse why,r,S,γ,w,s,a,Q,h,hs=>h.elim
end
open Go Go.RowKit
section
variable {N:Nat} {w0:iu} {au:Nat->Nat->Prop} {γ:G} {w:World} {B:Nat->Option (List AV)} {L:Nat->Option Nat} {P:Program} {gl:Nat->AV} {orc:Nat->FuncId->List AV->AV} {e:bN->AV} {m:AM}
def XQ(P:Program)(t:TypeId)(x:bN):aD:=
 (match P.info? t,P.underlying t with|some i,some _=>if Uz P t then .load true i.size x else .load false 1 x|_,_=>.bad)
def XR(hm:az N w0 au γ w B L)(hB:∀id cells,m.boxes[id]?=some cells->B id=some cells){t:TypeId}{x:bN}{v0:Value}(h1:aB w γ (e x) v0)
  (hc:(rop P gl orc e m none (XQ P t x)).1):∃b o v,v0=.pointer (some ⟨b,o,none⟩)/\(loadVar t ⟨b,o,none⟩).run P w=.ok v w/\aB w γ (rop P gl orc e m none (XQ P t x)).2 v:=by
 unfold XQ at hc |-
 split at hc
 case h_2=>exact hc.elim
 rename_i i d hi hd
 have main:∀(agg:Bool)(n:Nat),Uz P t=agg->(agg=true->n=i.size)->(rop P gl orc e m none (.load agg n x)).1->
   ∃b o v,v0=.pointer (some ⟨b,o,none⟩)/\(loadVar t ⟨b,o,none⟩).run P w=.ok v w/\aB w γ (rop P gl orc e m none (.load agg n x)).2 v:=by
  intro agg n bE hn hc
  have conv:∀b o v,(Instr.loadAt t (.pointer (some ⟨b,o,none⟩))).run P w=.ok v w->(loadVar t ⟨b,o,none⟩).run P w=.ok v w:=fun b o v h=>by
   simpa[Instr.loadAt,Instr.sureAddr]using h
  simp only[rop]at hc |-
  split at hc
  ·rename_i id o' he;try simp only[he]
   rw[he]at h1;obtain⟨b,hb,hv⟩:=h1.dG;cases gq:m.boxes[id]? with
   |none=>
    have e0:m.boxes.getD id []=[]:=by simp[List.getD,gq]
    rw[e0]at hc |-
    obtain⟨v,h2,h3⟩:=Qcz (P:=P) (w:=w) (γ:=γ) (b:=b) (o:=o') (cv:=fun _=>undef) hi hd bE hn (fun j c hj=>by simp at hj) (fun j c hj=>by simp at hj) hc;exact⟨b,o',v,hv,conv _ _ _ h2,h3⟩
   |some cells=>
    have e0:m.boxes.getD id []=cells:=by simp[List.getD,gq]
    rw[e0]at hc |-
    obtain⟨arr,te,g2,g3,g4⟩:=hm.box id cells b (hB id cells gq) hb
    have cm:∀(j:Nat)(c:AV),(cells.drop o')[j]?=some c->arr[o'+j]?=some (arr.getD (o'+j) undef)/\aB w γ c (arr.getD (o'+j) undef):=fun j c hj=>by
     rw[zzbk]at hj
     have ai:o'+j<arr.size:=by
      have:=(zza.1 hj).1;have h0:=g3.1;simp at h0;omega
     have hu:arr[o'+j]?=some (arr.getD (o'+j) undef):=by simp[ai]
     exact⟨hu,g3.2 _ _ _ hj (by simpa using hu)⟩
    obtain⟨v,h2,h3⟩:=Qcz (P:=P) (w:=w) (γ:=γ) (b:=b) (o:=o') (cv:=fun j=>arr.getD (o'+j) undef) hi hd bE hn (fun j c hj=>by rw[aM g2];exact(cm j c hj).1) (fun j c hj=>(cm j c hj).2) hc;exact⟨b,o',v,hv,conv _ _ _ h2,h3⟩
  ·rename_i row o' he;try simp only[he]
   rw[he]at h1;obtain⟨b,off,cv,hv,hb,bK,y8⟩:=h1.iT;have cm:∀(j:Nat)(c:AV),(row.drop o')[j]?=some c->row[o'+j]?=some c:=fun j c hj=>by rw[zzbk]at hj;exact hj
   obtain⟨v,h2,h3⟩:=Qcz (P:=P) (w:=w) (γ:=γ) (b:=b) (o:=off+o') (cv:=fun j=>cv (o'+j)) hi hd bE hn
    (fun j c hj=>by rw[zzao];exact(bK _ _ (cm j c hj)).1) (fun j c hj=>(y8 _ _ (cm j c hj)).gp) hc
   exact⟨b,off+o',v,hv,conv _ _ _ h2,h3⟩
  exact hc.elim
 cases bE:Uz P t with
 |true=>simp only[bE,if_true]at hc |-;exact main true _ bE (fun _=>rfl) hc
 |false=>simp only[bE]at hc |-;exact main false 1 bE (fun h=>by cases h) hc
end
def fS(P:Program)(rs:List ResultVar):List aD:=rs.map fun
 |.tmp t=>.mv (.tmp t)
 |.cell a t=>XQ P t (.tmp a)
def Kk(P:Program)(gl:Nat->AV)(orc:Nat->FuncId->List AV->AV)(s:AS):List aD->Prop×List AV
 |[]=>(True,[])
 |o::r=>((rop P gl orc (ev gl s.T) s.m none o).1/\(Kk P gl orc s r).1,(rop P gl orc (ev gl s.T) s.m none o).2::(Kk P gl orc s r).2)
def oneOf:List AV->AV
 |[a]=>a
 |l=>.aU l
section
variable {N:Nat} {w0:iu} {r:Option Nat} {au:Nat->Nat->Prop} {S:G×World} {Y:YT} {γ:G} {w:World} {P:Program} {gl:Nat->AV} {orc:Nat->FuncId->List AV->AV} {s:AS} {a:Act}
def N9(hs:fR N w0 r au S P gl Y γ w s a):∀(rs:List ResultVar),(Kk P gl orc s (fS P rs)).1->
  ∃vs:List Value,(rs.mapM fun(r:ResultVar)=>(match r with|.tmp t=>pure (a.tmps.getD t undef)|.cell x t=>do loadVar t (<- asAddr (a.tmps.getD x undef)):Sem Value)).run P w=.ok vs w/\
   ak w γ (Kk P gl orc s (fS P rs)).2 vs
 |[],_=>⟨[],by simp,ak.nil⟩
 |r::rs,hc=>by
  obtain⟨h1,h2⟩:=hc;obtain⟨vs,g1,g2⟩:=N9 hs rs h2
  have key:∃v,(match r with|.tmp t=>pure (a.tmps.getD t undef)|.cell x t=>do loadVar t (<- asAddr (a.tmps.getD x undef)):Sem Value).run P w=.ok v w/\
    aB w γ (rop P gl orc (ev gl s.T) s.m none ((fun(r:ResultVar)=>match r with|.tmp t=>aD.mv (.tmp t)|.cell a t=>XQ P t (.tmp a)) r)).2 v:=by
   cases r with
   |tmp t=>exact⟨a.tmps.getD t undef,by simp,hs.ev (.tmp t)⟩
   |cell x t=>
    obtain⟨b,o,v,e1,e2,e3⟩:=XR (P:=P) (gl:=gl) (orc:=orc) (e:=ev gl s.T) (m:=s.m) hs.m (fun _ _ h=>h) (t:=t) (x:=.tmp x) (v0:=a.tmps.getD x undef) (hs.ev (.tmp x)) h1;refine⟨v,?_,e3⟩;simp only[e1,Sem.run_bind,asAddr,Sem.run_pure,Result.andThen_ok,e2]
  obtain⟨v,k1,k2⟩:=key;refine⟨v::vs,?_,ak.cons k2 g2⟩;simp only[zzhe,Sem.run_bind,k1,Result.andThen_ok,g1,Sem.run_pure]
def Fu(hs:fR N w0 r au S P gl Y γ w s a){fn:Func}(hc:(Kk P gl orc s (fS P fn.results.toList)).1):∃v,(results fn a.tmps).run P w=.ok v w/\aB w γ (oneOf (Kk P gl orc s (fS P fn.results.toList)).2) v:=by
 obtain⟨vs,h1,h2⟩:=N9 (P:=P) (orc:=orc) hs fn.results.toList hc
 have aY:(results fn a.tmps).run P w=.ok (if h:vs.toArray.size=1 then vs.toArray[0]else .tuple vs.toArray) w:=by
  simp only[results,Sem.run_bind,Array.mapM_eq_mapM_toList,Sem.run_map];exact congrArg (fun(z:Result (List Value))=>(z.andThen fun a w'=>Result.ok a.toArray w').andThen fun(a:Array Value)w'=>Sem.run P (pure (if h:a.size=1 then a[0]else Value.tuple a):Sem Value) w') h1
 refine⟨_,aY,?_⟩;generalize(Kk P gl orc s (fS P fn.results.toList)).2=as at h2
 match as,vs,h2 with
 |[],[],h2=>exact .aU rfl fun i c v h=>by simp at h
 |[],_::_,h2=>have:=h2.1;simp at this
 |_::_,[],h2=>have:=h2.1;simp at this
 |[x],[v],h2=>exact h2.2 0 x v rfl rfl
 |[x],_::_::_,h2=>have:=h2.1;simp at this
 |_::_::_,[v],h2=>have:=h2.1;simp at this
 |x::y::as,v::u::vs,h2=>
  simp only[oneOf];rw[dif_neg (by simp)];exact .aU (by simpa using h2.1) fun i c v' g1 g2=>h2.2 i c v' g1 (by simpa using g2)
def post(P:Program)(gl:Nat->AV)(orc:Nat->FuncId->List AV->AV)(rs:List aD)(r:AV):Exit->AS->Prop
 |.normal,s=>(Kk P gl orc s rs).1/\bF s.m 6 (oneOf (Kk P gl orc s rs).2)=r
 |.ret,s=>(Kk P gl orc s rs).1/\bF s.m 6 (oneOf (Kk P gl orc s rs).2)=r
 |_,_=>False
def we(P:Program)(gl:Nat->AV)(orc:Nat->FuncId->List AV->AV)(rs:List aD)(K:AV->AM->Prop):Exit->AS->Prop
 |.normal,s=>(Kk P gl orc s rs).1/\K (oneOf (Kk P gl orc s rs).2) s.m
 |.ret,s=>(Kk P gl orc s rs).1/\K (oneOf (Kk P gl orc s rs).2) s.m
 |_,_=>False
def Y0:YT:=fun _ _ _ _=>False
def fR.y0(h:fR N w0 r au S P gl Y γ w s a):fR N w0 r au S P gl Y0 γ w s a:=⟨h.m,h.ls,h.rd,h.t,h.d,h.g,fun _ _ _ _ _ _ _ _ _ _ _ hY _ _=>hY.elim,h.e⟩
def sw{fn:Func}{R:Ending->World->Prop}(hS:∀b,S.1.sp b->b<S.2.heap.size):∀(ds:List Deferred)(γ:G)(w:World)(s:AS)(a:Act),a.defers=ds->fR N w0 none au S P gl Y0 γ w s a->
  (Kk P gl orc s (fS P fn.results.toList)).1->
  (∀v w' γ',eG S.2 S.1 w' γ'->az N w0 au γ' w' s.m.B s.m.L->cQ γ' w' s.m->aB w' γ' (oneOf (Kk P gl orc s (fS P fn.results.toList)).2) v->R (.returned v) w')->LeavesInM (FW none) 0 P fn a.tmps R ds .returning w
 |[],γ,w,s,a,_,hs,h1,hR=>by
  obtain⟨v,g1,g2⟩:=Fu (P:=P) (orc:=orc) hs h1;exact⟨v,g1,hR v w γ hs.e hs.m hs.ls g2⟩
 |d::ds,γ,w,s,a,hd,hs,hc,hR=>by
  obtain⟨D,e1,e0,e2,e3⟩:=hs.d.2.1 d (by rw[hd];simp);refine⟨by simp,.inl ⟨D,w.putObj D (.deferred none),e1,run_takeDeferred e3,?_⟩⟩;have hDS:¬S.1.sp D:=fun h=>by have:=hS D h;omega
  obtain⟨fN,cA,aw2⟩:=hs.m.aj1 e2 (o:=.deferred none) e3 (fun _ _ _ h=>by cases h) (fun _ _ _ h=>by cases h) (γ':={γ with sp:=fun b=>γ.sp b/\b≠D}) (.inr rfl) (fun h=>by
   have:=congrFun (congrArg G.sp h) D;simp[e2]at this)
  have hpw:=hs.d.2.2;rw[hd,zzbz]at hpw;refine sw hS ds {γ with sp:=fun b=>γ.sp b/\b≠D} (w.putObj D (.deferred none)) s {a with defers:=ds} rfl ⟨fN,⟨fun i=>?_,hs.ls.2.1,hs.ls.2.2.1,fun i l hl=>?_⟩,fun l h=>(by cases h),hs.t.eZ cA,⟨by simpa using hs.d.1,fun x hx=>?_,hpw.2⟩,fun g=>(hs.g g).eZ cA.cV,fun _ _ _ _ _ _ _ _ _ _ _ hY _ _=>hY.elim,aw2 _ _ hs.e (.inr hDS)⟩ hc hR
  ·rcases hs.ls.1 i with h|⟨l,h0,h1,rc,h2,h3⟩
   ·exact .inl h
   have aJ:l≠D:=by rintro rfl;rw[e3]at h2;cases h2
   exact .inr ⟨l,h0,⟨h1,aJ⟩,rc,(World.putObj_heap_other aJ).trans h2,h3⟩
  ·obtain⟨h1,rc,h2⟩:=hs.ls.2.2.2 i l hl;have aJ:l≠D:=by rintro rfl;rw[e3]at h2;cases h2
   exact⟨⟨h1,aJ⟩,rc,(World.putObj_heap_other aJ).trans h2⟩
  obtain⟨D',q1,q0,q2,q3⟩:=hs.d.2.1 x (by rw[hd];simp[hx]);have aJ:D'≠D:=by rintro rfl;exact hpw.1 x hx D' e1 q1
  exact⟨D',q1,q0,⟨q2,aJ⟩,(World.putObj_heap_other aJ).trans q3⟩
def ae6(w0:World):iu where
 p γ w:=Below w0.heap.size w0 w/\∀b,OI γ b->w0.heap.size<=b
 st γ w γ' w' h hc:=by
  refine⟨h.1.trans ⟨hc.os,hc.tape,hc.output,hc.size,fun b hb=>hc.same b (zzbb hb h.1.size) fun ho=>?_⟩,fun b hb=>?_⟩
  ·have:=h.2 b ho;omega
  rcases hc.oi b hb with hb|hb
  ·exact h.2 b hb
  exact zzbm h.1.size hb
def Q5{as:List AV}{vs:List Value}{k:Nat}(h:ak w γ as vs):ak w γ (as++List.replicate (k-as.length) .junk) (vs.toArray++Array.replicate (k-vs.toArray.size) undef).toList:=by
 have aI:=h.1
 have h2:ak w γ (List.replicate (k-as.length) .junk) (List.replicate (k-vs.length) undef):=⟨by simp[aI],fun i x v hx _=>by
  rw[zzcm]at hx;split at hx
  ·cases hx;exact .junk _
  cases hx⟩
 simpa using h.append h2
def dh(P:Program)(f:FuncId)(sc:SC)(rs:List aD)(n:Nat):Prop:=
 ∃fn c,P.funcs[f]?=some fn/\fn.body=some c/\(fn.name== "runtime.NumGoroutine")=false/\Yj P c=sc/\fS P fn.results.toList=rs/\fn.ntmps=n
def fco{P:Program}{f:FuncId}{fn:Func}{c:Code}{sc:SC}{rs:List aD}{n:Nat}(h:P.funcs[f]?=some fn)(hb:fn.body=some c)(hk:((fn.name== "runtime.NumGoroutine"),Yj P c,fS P fn.results.toList,fn.ntmps)=(false,sc,rs,n)):dh P f sc rs n:=by
 obtain⟨h1,h2⟩:=Prod.mk.inj hk;obtain⟨h2,h3⟩:=Prod.mk.inj h2;obtain⟨h3,h4⟩:=Prod.mk.inj h3;exact⟨fn,c,h,hb,h1,h2,h3,h4⟩
def aG{P:Program}{f:FuncId}{fn:Func}{c:Code}{sc:SC}{rs:List aD}{n:Nat}(h:P.funcs[f]?=some fn)(hb:fn.body=some c:=by rfl)(hk:((fn.name== "runtime.NumGoroutine"),Yj P c,fS P fn.results.toList,fn.ntmps)=(false,sc,rs,n):=by kernel_rfl):dh P f sc rs n:=fco h hb hk
def amF{f:FuncId}{sc:SC}{rs:List aD}{n:Nat}(hc:dh P f sc rs n)(orc:Nat->FuncId->List AV->AV){as:List AV}{m:AM}{K:AV->AM->Prop}
  (h:vc P gl orc Y sc ⟨as++List.replicate (n-as.length) .junk,m⟩ (we P gl orc rs K)){vs:List Value}(hm:az N w0 au γ w m.B m.L)(hl:cQ γ w m)(hg:∀g,aB w γ.cV (gl g) (.pointer (some ⟨g,0,none⟩)))
  (hy:YOK N w0 au P Y γ w)(hr:ak w γ as vs):
  CallsIn (FW none) 0 P f vs.toArray w fun e w'=>∃v γ' r m',e=.returned v/\eG w γ w' γ'/\az N w0 au γ' w' m'.B m'.L/\cQ γ' w' m'/\aB w' γ' r v/\K r m':=by
 obtain⟨fn,c,hf,hb,aj3,rfl,rfl,rfl⟩:=hc;refine callsIn_of_wp_marks (F:=FW none) hf hb trivial ?_
 have hs:fR N w0 none au (γ,w) P gl Y γ w ⟨as++List.replicate (fn.ntmps-as.length) .junk,m⟩ {tmps:=vs.toArray++Array.replicate (fn.ntmps-vs.toArray.size) undef,defers:=[]}:=
  ⟨hm,hl,fun l h=>(by cases h),Q5 hr,⟨zzab _,fun x hx=>(by cases hx),List.Pairwise.nil⟩,hg,hy,(Ev.refl w γ).dD⟩
 refine wpIn_mono (Jd c none (γ,w) γ w _ _ _ h hs) ?_
 have fin:∀γ' w' s a,fR N w0 none au (γ,w) P gl Y γ' w' s a->(Kk P gl orc s (fS P fn.results.toList)).1/\K (oneOf (Kk P gl orc s (fS P fn.results.toList)).2) s.m->
   LeavesInM (FW none) 0 P fn a.tmps (fun e w'=>∃v γ' r m',e=.returned v/\eG w γ w' γ'/\az N w0 au γ' w' m'.B m'.L/\cQ γ' w' m'/\aB w' γ' r v/\K r m') a.defers .returning w':=
  fun γ' w' s a iG hc=>sw (S:=(γ,w)) (fun b hb=>(hm.sp b hb).2.1) a.defers γ' w' s a rfl iG.y0 hc.1 fun v y6 JU q1 q2 q3 q4=>⟨v,JU,_,_,rfl,q1,q2,q3,q4,hc.2⟩
 rintro ex a w' ⟨γ',s,iG,h'⟩;cases ex with
 |normal=>exact fin γ' w' s a iG h'
 |ret=>exact fin γ' w' s a iG h'
 |_=>exact h'.elim
def dh.bC{f:FuncId}{sc:SC}{rs:List aD}{n:Nat}(hc:dh P f sc rs n):bC P f:=by
 obtain⟨fn,c,hf,hb,aj3,_⟩:=hc;exact⟨fn,hf,by simp[hb],aj3⟩
def XS{f:FuncId}{sc:SC}{rs:List aD}{n:Nat}(hc:dh P f sc rs n)(orc:Nat->FuncId->List AV->AV){as:List AV}{m:AM}{K:AV->AM->Prop}
  (h:vc P gl orc Y sc ⟨as++List.replicate (n-as.length) .junk,m⟩ (we P gl orc rs K)):an P gl Y f as m K:=
 ⟨hc.bC,fun _ _ _ _ _ _ hm hl hg hy hr=>amF hc orc h hm hl hg hy hr⟩
def AM.none:AM:=⟨[],[],fun _=>.gone,0⟩
def Fv{f:FuncId}{as:List AV}{r:AV}(h:an P gl Y0 f as ⟨[],[],fun _=>.gone,0⟩ fun x m'=>bF m' 6 x=r):Pure P gl f as r:=by
 refine⟨h.1,fun ro w vs iV hr=>?_⟩;refine(callsIn_wide (n:=0)).1 ?_
 let γ0:G:=G0 fun b o=>ro b o/\b<w.heap.size
 have cA:Ev w (G0 ro) w γ0:=⟨zzab _,fun b o hb h=>⟨⟨h,hb⟩,rfl⟩,fun _ _ h=>(by cases h),fun _=>zzab _,fun _ _ h=>(by cases h),rfl,fun _ _ _ h=>(by cases h),fun _ h=>h.elim,Sz.refl w⟩
 have hm:az w.heap.size (ae6 w) ro γ0 w (⟨[],[],fun _=>.gone,0⟩:AM).B (⟨[],[],fun _=>.gone,0⟩:AM).L:=by
  refine⟨⟨Below.refl _ _,fun b hb=>?_⟩,zzab _,fun b o h=>.inl h.1,fun b o h=>h.2,fun id cells b h=>by simp[AM.B]at h,fun id b h=>(by cases h),fun id id' b h=>(by cases h),fun id b h=>(by cases h),fun id id' b h=>(by cases h),fun b h=>h.elim,fun id b h=>(by cases h),fun id id' b h=>(by cases h),fun id n h=>by simp[AM.L]at h,fun _ _=>rfl⟩;obtain⟨_,hb⟩|⟨_,hb⟩|hb|⟨_,hb⟩:=hb
  ·cases hb
  ·cases hb
  ·exact hb.elim
  cases hb
 refine CallsIn.mono (h.2 _ _ _ _ _ _ hm ⟨fun _=>.inl rfl,fun _ _=>rfl,fun _ _ _ h=>(by cases h),fun _ _ h=>(by cases h)⟩ (fun g=>(iV g).mono cA) (fun _ _ _ _ _ _ _ _ _ _ _ hY _ _=>hY.elim) (hr.mono cA)) ?_;rintro e w' ⟨v,γ',x,m',rfl,_,h2,_,h4,h5⟩;refine⟨v,rfl,h2.bs.1,?_⟩;rw[<- h5];exact kz h2 (fun _ _ h=>h) h2.au 6 _ v h4 fun _ id b hb o=>.inr (h2.β id b hb).1
def ae7{f:FuncId}{sc:SC}{rs:List aD}{n:Nat}(hc:dh P f sc rs n)(orc:Nat->FuncId->List AV->AV){as:List AV}{r:AV}
  (h:vc P gl orc Y0 sc ⟨as++List.replicate (n-as.length) .junk,⟨[],[],fun _=>.gone,0⟩⟩ (post P gl orc rs r)):Pure P gl f as r:=by
 have ar4:post P gl orc rs r=we P gl orc rs fun x m'=>bF m' 6 x=r:=by
  funext ex s;cases ex<;>rfl
 rw[ar4]at h;exact Fv (XS hc orc h)
end
end Go.Abs
