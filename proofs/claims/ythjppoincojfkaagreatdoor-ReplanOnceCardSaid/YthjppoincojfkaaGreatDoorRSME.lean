import Derived.Test.YthjppoincojfkaaGreatDoorRSMD
import Derived.RangeFuncNested
set_option linter.all false
namespace Go.Abs
open Go Go.RowKit
def Xx(o:Oper):Pa:=(o.after.toList.filter fun e=>Region.binds .any e).map (·.on)
def wB(ops:Array Oper)(i j:Nat):Bool:=
 match ops[i]? with
 |some o=>(Xx o).contains j
 |none=>false
def CI(ops:Array Oper)(i:Nat):Bool:=(List.range i).all fun j=>(List.range (i-j)).any fun d=>wB ops (i-d) j
def wC(ops:Array Oper):Nat->Nat
 |0=>0
 |k+1=>if CI ops k then wC ops k else k+1
def SA(ops:Array Oper):Nat:=wC ops ops.size
def Vh(ops:Array Oper)(i:Nat):Option Nat:=(ops[i]?).bind (·.dst)
def uy(ops:Array Oper)(p:Nat):Bool:=
 decide (p<=ops.size)&&(List.range ops.size).all fun i=>
  match ops[i]? with
  |none=>false
  |some o=>(Xx o).all (fun j=>decide (j<i))&&
   (
    if i<p then
    ((o.looksAt ops).all fun t=>(List.range p).all fun j=>!(Vh ops j==some t)||j==i||(decide (j<i)&&(Xx o).contains j))&&
    ((List.range i).all fun j=>(Vh ops j).isNone||!(Vh ops j==o.dst))
   else CI ops i)
section
variable (P:Program) (gl:Nat->AV) (orc:UV)
def dop(o:SO)(T:P2)(m:AM)(nb:T5):Prop×AV×T5:=
 match o.guard with
 |none=>match o.op with
  |.alloc zs=>(zs.all Qx=true,.ptr (m.boxes.length+nb.length) 0,nb++[zs])
  |.box x=>(bare (ev gl T x)=true/\(cellsOf (ev gl T x)).all Qx=true,.ptr (m.boxes.length+nb.length) 0,nb++[cellsOf (ev gl T x)])
  |.mks sz bytes zs l c=>(match ev gl T l,ev gl T c with
   |.int _ l,.int _ c=>((0<=l/\l<=c/\bytes*c<=281474976710656/\c<=9223372036854775807)/\zs.length=sz/\zs.all Qx=true,.bs (m.boxes.length+nb.length) 0 l.toNat sz,nb++[bF c.toNat zs])
   |_,_=>(False,.junk,nb))
  |op=>((rop P gl orc (ev gl T) m o.dst op).1,(rop P gl orc (ev gl T) m o.dst op).2,nb)
 |some (some t,want)=>match Eh want (T.getD t .junk)with
  |some gw=>(gok gl T gw (gxs o.op o.xs)/\(gw=true->(rop P gl orc (evG gl T o.op) m o.dst o.op).1),.gd gw (rop P gl orc (evG gl T o.op) m o.dst o.op).2,nb)
  |none=>(False,.junk,nb)
 |some (none,_)=>(False,.junk,nb)
def SB(Y:YT)(l2:List SO)(K:AS->Prop):List SO->P2->AM->T5->Prop
 |[],T,m,nb=>Zo P gl orc Y l2 ⟨T,{m with boxes:=m.boxes++nb}⟩ K
 |o::r,T,m,nb=>(dop P gl orc o T m nb).1/\SB Y l2 K r (put T o.dst (dop P gl orc o T m nb).2.1) m (dop P gl orc o T m nb).2.2
def Xg(ops:Array Oper)(T0:P2)(m:AM):Nat->P2×T5
 |0=>(T0,[])
 |k+1=>match ops[k]? with
  |some o=>(put (Xg ops T0 m k).1 o.dst (dop P gl orc (Xe P ops o) (Xg ops T0 m k).1 m (Xg ops T0 m k).2).2.1,(dop P gl orc (Xe P ops o) (Xg ops T0 m k).1 m (Xg ops T0 m k).2).2.2)
  |none=>Xg ops T0 m k
end
section
variable {N:Nat} {w0:eR} {r:Option Nat} {an:Nat->Nat->Prop} {S:G×World} {Y:YT} {P:Program} {gl:Nat->AV} {orc:UV} {ops:Array Oper} {T0:P2} {m:AM} {p:Nat}
def Wn{k:Nat}{o:Oper}(h:ops[k]?=some o):Xg P gl orc ops T0 m (k+1)=
  (put (Xg P gl orc ops T0 m k).1 o.dst (dop P gl orc (Xe P ops o) (Xg P gl orc ops T0 m k).1 m (Xg P gl orc ops T0 m k).2).2.1,(dop P gl orc (Xe P ops o) (Xg P gl orc ops T0 m k).1 m (Xg P gl orc ops T0 m k).2).2.2):=by
 simp only[Xg,h]
def Nz(l2:List SO)(K:AS->Prop)(hp:p<=ops.size):∀(n k:Nat),k+n=p->SB P gl orc Y l2 K (((ops.toList.take p).drop k).map (Xe P ops)) (Xg P gl orc ops T0 m k).1 m (Xg P gl orc ops T0 m k).2->
  (∀i o,k<=i->i<p->ops[i]?=some o->(dop P gl orc (Xe P ops o) (Xg P gl orc ops T0 m i).1 m (Xg P gl orc ops T0 m i).2).1)/\
  Zo P gl orc Y l2 ⟨(Xg P gl orc ops T0 m p).1,{m with boxes:=m.boxes++(Xg P gl orc ops T0 m p).2}⟩ K
 |0,k,hk,h=>by
  obtain rfl:k=p:=zE
  have:(ops.toList.take k).drop k=[]:=zzal (by simp;omega);rw[this]at h;exact⟨fun i o h1 h2=>zE,h⟩
 |n+1,k,hk,h=>by
  have ah:k<ops.size:=zE
  have ho:ops[k]?=some ops[k]:=zzah ah
  have hd:(ops.toList.take p).drop k=ops[k]::(ops.toList.take p).drop (k+1):=by
   rw[zzag (by simp;omega)];simp
  rw[hd,zzas]at h;obtain⟨h1,h2⟩:=h;have E6:=Wn (P:=P) (gl:=gl) (orc:=orc) (T0:=T0) (m:=m) ho;have:=Nz l2 K hp n (k+1) zE (by rw[E6];exact h2);refine⟨fun i o hi dg AW=>?_,this.2⟩;rcases zzaa k i with fh|fh
  ·exact this.1 i o fh dg AW
  obtain rfl:i=k:=zE
  rw[ho]at AW;cases AW;exact h1
def wD(T:P2)(d:Option Nat)(x:AV):(put T d x).length=T.length:=by cases d<;>simp[put]
def jf:∀k,(Xg P gl orc ops T0 m k).1.length=T0.length
 |0=>rfl
 |k+1=>by
  cases h:ops[k]? with
  |none=>simp only[Xg,h];exact jf k
  |some o=>rw[Wn h,wD];exact jf k
def Qcg{T:P2}{d:Option Nat}{x:AV}{t:Nat}(h:d≠some t):(put T d x).getD t .junk=T.getD t .junk:=by
 cases d with
 |none=>rfl
 |some d=>simp only[put,List.getD];rw[zzbn (by rintro rfl;exact h rfl)]
def Wu{T:P2}{t:Nat}{x:AV}(h:t<T.length):(put T (some t) x).getD t .junk=x:=by
 simp[put,List.getD,h]
def Qei{t:Nat}:∀k,(∀j,j<k->Vh ops j≠some t)->(Xg P gl orc ops T0 m k).1.getD t .junk=T0.getD t .junk
 |0,_=>rfl
 |k+1,h=>by
  cases ho:ops[k]? with
  |none=>simp only[Xg,ho];exact Qei k fun j hj=>h j zE
  |some o=>
   rw[Wn ho,Qcg (by have:=h k zE;simpa[Vh,ho]using this)];exact Qei k fun j hj=>h j zE
def kN{t k:Nat}:∀n,(∀j,k<=j->j<k+n->Vh ops j≠some t)->(Xg P gl orc ops T0 m (k+n)).1.getD t .junk=(Xg P gl orc ops T0 m k).1.getD t .junk
 |0,_=>rfl
 |n+1,h=>by
  rw[<- zzan];cases ho:ops[k+n]? with
  |none=>simp only[Xg,ho];exact kN n fun j h1 h2=>h j h1 zE
  |some o=>
   rw[Wn ho,Qcg (by have:=h (k+n) zE zE;simpa[Vh,ho]using this)];exact kN n fun j h1 h2=>h j h1 zE
def ak6{o:Oper}{T:P2}{nb:T5}:
  ((dop P gl orc (Xe P ops o) T m nb).2.2=nb)\/(∃cells,(dop P gl orc (Xe P ops o) T m nb).2.2=nb++[cells]):=by
 unfold dop;split
 ·split
  ·exact .inr ⟨_,rfl⟩
  ·exact .inr ⟨_,rfl⟩
  ·split
   ·exact .inr ⟨_,rfl⟩
   exact .inl rfl
  exact .inl rfl
 ·split
  ·exact .inl rfl
  exact .inl rfl
 exact .inl rfl
def kP(P:Program)(gl:Nat->AV)(orc:UV)(ops:Array Oper)(T0:P2)(m:AM)(k:Nat):Nat:=(Xg P gl orc ops T0 m k).2.length
def NA(k:Nat):(Xg P gl orc ops T0 m (k+1)).2=(Xg P gl orc ops T0 m k).2\/∃cells,(Xg P gl orc ops T0 m (k+1)).2=(Xg P gl orc ops T0 m k).2++[cells]:=by
 cases ho:ops[k]? with
 |none=>exact .inl (by simp only[Xg,ho])
 |some o=>rw[Wn ho];exact ak6
def E7(k:Nat):kP P gl orc ops T0 m (k+1)=kP P gl orc ops T0 m k\/kP P gl orc ops T0 m (k+1)=kP P gl orc ops T0 m k+1:=by
 unfold kP;rcases NA (P:=P) (gl:=gl) (orc:=orc) (ops:=ops) (T0:=T0) (m:=m) k with h|⟨c,h⟩
 ·rw[h];exact .inl rfl
 rw[h];exact .inr zd
def E8{j:Nat}:∀n,kP P gl orc ops T0 m j<=kP P gl orc ops T0 m (j+n)
 |0=>zzab _
 |n+1=>by
  have:=E8 (j:=j) n;rcases E7 (P:=P) (gl:=gl) (orc:=orc) (ops:=ops) (T0:=T0) (m:=m) (j+n)with h|h<;>rw[<- zzan]<;>omega
def VY{i j:Nat}(h:i<=j):kP P gl orc ops T0 m i<=kP P gl orc ops T0 m j:=by
 have:=E8 (P:=P) (gl:=gl) (orc:=orc) (ops:=ops) (T0:=T0) (m:=m) (j:=i) (j-i);rwa [show i+(j-i)=j by omega]at this
def VZ{i:Nat}:∀n{q:Nat}{c:P2},(Xg P gl orc ops T0 m i).2[q]?=some c->(Xg P gl orc ops T0 m (i+n)).2[q]?=some c
 |0,_,_,h=>h
 |n+1,q,c,h=>by
  have ih:=VZ n h;rw[<- zzan];rcases NA (P:=P) (gl:=gl) (orc:=orc) (ops:=ops) (T0:=T0) (m:=m) (i+n)with e|⟨c',e⟩
  ·rw[e];exact ih
  rw[e,zzaj (zza.1 ih).1];exact ih
def Iy(P:Program)(gl:Nat->AV)(orc:UV)(ops:Array Oper)(T0:P2)(m:AM)(i:Nat):Bool:=kP P gl orc ops T0 m (i+1)==kP P gl orc ops T0 m i+1
def E9{q:Nat}:∀k,q<kP P gl orc ops T0 m k->∃i,i<k/\Iy P gl orc ops T0 m i=true/\kP P gl orc ops T0 m i=q
 |0,h=>by simp[kP,Xg]at h
 |k+1,h=>by
  rcases zzaa q (kP P gl orc ops T0 m k)with h'|h'
  ·obtain⟨i,h1,h2,h3⟩:=E9 k h';exact⟨i,zE,h2,h3⟩
  rcases E7 (P:=P) (gl:=gl) (orc:=orc) (ops:=ops) (T0:=T0) (m:=m) k with e|e
  ·omega
  exact⟨k,zE,by simp[Iy,e],zE⟩
def AX(P:Program)(gl:Nat->AV)(orc:UV)(ops:Array Oper)(T0:P2)(m:AM)(p:Nat)(listed:Array Bool)(id:Nat):PH:=
 if id<m.boxes.length then m.boxes[id]?
 else if(List.range p).any fun i=>listed.getD i false&&(Iy P gl orc ops T0 m i&&decide (m.boxes.length+kP P gl orc ops T0 m i=id))then(Xg P gl orc ops T0 m p).2[id-m.boxes.length]? else none
def wr(ops:Array Oper)(p:Nat)(listed:Array Bool)(t:Nat):Bool:=(List.range p).any fun i=>listed.getD i false&&(Vh ops i==some t)
def At(P:Program)(gl:Nat->AV)(orc:UV)(ops:Array Oper)(T0:P2)(m:AM)(p:Nat)(listed:Array Bool)(t:Nat):AV:=
 if wr ops p listed t then(Xg P gl orc ops T0 m p).1.getD t .junk else T0.getD t .junk
structure PY (N:Nat) (w0:eR) (r:Option Nat) (an:Nat->Nat->Prop) (S:G×World) (Y:YT) (P:Program) (gl:Nat->AV) (orc:UV) (ops:Array Oper) (T0:P2) (m:AM) (p:Nat) (listed:Array Bool) (γ:G) (w:World) (a:Act):Prop where
 size:listed.size=ops.size
 tail:∀i,p<=i->i<ops.size->listed.getD i true=false
 clo:∀i o,listed.getD i false=true->ops[i]?=some o->∀j∈Xx o,listed.getD j false=true
 mm:au N w0 an γ w (AX P gl orc ops T0 m p listed) m.L
 ls:cS γ w m
 rd:Rdr r γ w
 tl:a.tmps.size=T0.length
 tt:∀t,aA w γ (At P gl orc ops T0 m p listed t) (a.tmps.getD t undef)
 d:Dfr S.2.heap.size γ w a.defers
 g:∀g,aA w γ.cU (gl g) (.pointer (some ⟨g,0,none⟩))
 y:YOK N w0 an P Y γ w
 e:eD S.2 S.1 w γ
def Xq{listed:Array Bool}{i:Nat}{b:Bool}(h:i<listed.size):(listed.setIfInBounds i true).getD i b=true:=by
 simp[h]
def Qw{listed:Array Bool}{i j:Nat}{b:Bool}(h:j≠i):(listed.setIfInBounds i true).getD j b=listed.getD j b:=by
 simp[zzcp (Ne.symm h)]
def adQ{listed:Array Bool}{id:Nat}{cells:P2}(h:m.boxes[id]?=some cells):AX P gl orc ops T0 m p listed id=some cells:=by
 unfold AX;rw[if_pos (zza.1 h).1];exact h
def V0{listed:Array Bool}{i:Nat}(hn:Iy P gl orc ops T0 m i=false):AX P gl orc ops T0 m p (listed.setIfInBounds i true)=AX P gl orc ops T0 m p listed:=by
 funext id;unfold AX;congr 1
 have:((List.range p).any fun j=>(listed.setIfInBounds i true).getD j false&&(Iy P gl orc ops T0 m j&&decide (m.boxes.length+kP P gl orc ops T0 m j=id)))=
   ((List.range p).any fun j=>listed.getD j false&&(Iy P gl orc ops T0 m j&&decide (m.boxes.length+kP P gl orc ops T0 m j=id))):=by
  congr 1;funext j;by_cases hj:j=i
  ·subst hj;simp[hn]
  rw[Qw hj]
 rw[this]
def adR{i j:Nat}(hi:Iy P gl orc ops T0 m i=true)(hj:Iy P gl orc ops T0 m j=true)(h:kP P gl orc ops T0 m i=kP P gl orc ops T0 m j):i=j:=by
 simp only[Iy,beq_iff_eq]at hi hj;rcases zzdw i j with h'|h'|h'
 ·have:=VY (P:=P) (gl:=gl) (orc:=orc) (ops:=ops) (T0:=T0) (m:=m) (i:=i+1) (j:=j) h';omega
 ·exact h'
 have:=VY (P:=P) (gl:=gl) (orc:=orc) (ops:=ops) (T0:=T0) (m:=m) (i:=j+1) (j:=i) h';omega
def AY{listed:Array Bool}{i:Nat}(hn:Iy P gl orc ops T0 m i=true)(hl:listed.getD i false=false):AX P gl orc ops T0 m p listed (m.boxes.length+kP P gl orc ops T0 m i)=none:=by
 unfold AX;rw[if_neg zE,if_neg];intro h;obtain⟨j,_,h⟩:=zzbq.1 h;simp only[zzac,decide_eq_true_eq]at h;obtain⟨h1,h2,h3⟩:=h;have:=adR h2 hn zE;subst this;rw[hl]at h1;cases h1
def NB{listed:Array Bool}{i:Nat}{cells:P2}(dg:i<p)(hsz:i<listed.size)(hn:Iy P gl orc ops T0 m i=true)(hc:(Xg P gl orc ops T0 m p).2[kP P gl orc ops T0 m i]?=some cells):
  AX P gl orc ops T0 m p (listed.setIfInBounds i true)=fun id=>if id=m.boxes.length+kP P gl orc ops T0 m i then some cells else AX P gl orc ops T0 m p listed id:=by
 funext id;by_cases aL:id=m.boxes.length+kP P gl orc ops T0 m i
 ·rw[if_pos aL];unfold AX;rw[if_neg zE,if_pos]
  ·rw[aL,zzdz];exact hc
  rw[zzbq];exact⟨i,zzaw.2 dg,by rw[Xq hsz,hn];simp[aL]⟩
 rw[if_neg aL];unfold AX;congr 1
 have:((List.range p).any fun j=>(listed.setIfInBounds i true).getD j false&&(Iy P gl orc ops T0 m j&&decide (m.boxes.length+kP P gl orc ops T0 m j=id)))=
   ((List.range p).any fun j=>listed.getD j false&&(Iy P gl orc ops T0 m j&&decide (m.boxes.length+kP P gl orc ops T0 m j=id))):=by
  congr 1;funext j;by_cases hj:j=i
  ·subst hj;have:decide (m.boxes.length+kP P gl orc ops T0 m j=id)=false:=by simp;omega
   simp[this]
  rw[Qw hj]
 rw[this]
def adS{listed:Array Bool}(bD:∀i,i<p->listed.getD i false=true):AX P gl orc ops T0 m p listed=({m with boxes:=m.boxes++(Xg P gl orc ops T0 m p).2}:AM).B:=by
 funext id;unfold AX;simp only[AM.B];split
 ·rename_i h;rw[zzaj h]
 rename_i h;rw[zzap zE];split
 ·rfl
 rename_i hn;rcases zzaa (id-m.boxes.length) (Xg P gl orc ops T0 m p).2.length with hq|hq
 ·obtain⟨i,h1,h2,h3⟩:=E9 (P:=P) (gl:=gl) (orc:=orc) (ops:=ops) (T0:=T0) (m:=m) (q:=id-m.boxes.length) p hq;exfalso;apply hn;rw[zzbq];exact⟨i,zzaw.2 h1,by rw[bD i h1,h2];simp;omega⟩
 rw[zzat hq]
def AZ{α:Type}{f g:α->Bool}:∀{l:List α}{x:α},(∀y,f y=true->g y=true)->x∈l->g x=true->f x=false->l.countP f<l.countP g
 |y::l,x,hfg,hx,hg,hf=>by
  have cE:l.countP f<=l.countP g:=List.countP_mono_left fun y _=>hfg y;rw[List.countP_cons,List.countP_cons];rcases zzam.1 hx with rfl|hx
  ·rw[hg,hf];simp;omega
  have:=AZ hfg hx hg hf;by_cases h1:f y=true
  ·rw[h1,hfg y h1];simp;omega
  have mV:f y=false:=by simpa using h1
  rw[mV];simp only[zzbh,if_false,zzcn];exact zzba this (Nat.le_add_right _ _)
def uc(ops:Array Oper)(listed:Array Bool):Nat:=(List.range ops.size).countP fun i=>!listed.getD i true
def jg{listed:Array Bool}{i:Nat}(hsz:listed.size=ops.size)(hi:i<ops.size)(hl:listed.getD i true=false):uc ops (listed.setIfInBounds i true)<uc ops listed:=by
 unfold uc;refine AZ (x:=i) (fun j hj=>?_) (zzaw.2 hi) (by rw[hl];rfl) (by rw[Xq zE];rfl);by_cases AD:j=i
 ·subst AD;rw[hl];rfl
 rw[Qw AD]at hj;exact hj
def Qdx{listed:Array Bool}(h:uc ops listed=0){i:Nat}(hi:i<ops.size):listed.getD i true=true:=by
 unfold uc at h;have:=List.countP_eq_zero.1 h i (zzaw.2 hi);simpa using this
def Xc{listed:Array Bool}{i:Nat}(hi:i<listed.size)(b b':Bool):listed.getD i b=listed.getD i b':=by simp[hi]
def Zb(h:uy ops p=true):p<=ops.size/\∀i o,ops[i]?=some o->(∀j∈Xx o,j<i)/\
  (i<p->(∀t∈o.looksAt ops,∀j,j<p->Vh ops j=some t->j≠i->j<i/\j∈Xx o)/\(∀j,j<i->∀t,Vh ops j=some t->o.dst≠some t))/\
  (p<=i->CI ops i=true):=by
 unfold uy at h;simp only[zzac,decide_eq_true_eq,zzay]at h;obtain⟨hp,h⟩:=h;refine⟨hp,fun i o ho=>?_⟩;have hi:i<ops.size:=(zzbw.1 ho).1;have:=h i (zzaw.2 hi);simp only[ho,zzac,zzay,decide_eq_true_eq]at this;obtain⟨h1,h2⟩:=this;refine⟨h1,fun dg=>?_,fun dg=>?_⟩
 ·rw[if_pos dg]at h2;simp only[zzac,zzay]at h2;obtain⟨h3,h4⟩:=h2;refine⟨fun t ht j hj hd aO=>?_,fun j hj t hd cO=>?_⟩
  ·have:=h3 t ht j (zzaw.2 hj);simp[hd,aO]at this;exact⟨this.1,this.2⟩
  have:=h4 j (zzaw.2 hj);simp[hd,cO]at this
 rw[if_neg zE]at h2;exact h2
def Fa(ops:Array Oper)(listed:Array Bool):Prop:=∀i o,listed.getD i false=true->ops[i]?=some o->∀j∈Xx o,listed.getD j false=true
def Fa.set{listed:Array Bool}(h:Fa ops listed){i:Nat}{o:Oper}(ho:ops[i]?=some o)(hsz:i<listed.size)(bT:∀j∈Xx o,listed.getD j false=true):Fa ops (listed.setIfInBounds i true):=by
 have aik:∀k,listed.getD k false=true->(listed.setIfInBounds i true).getD k false=true:=fun k hk=>by
  by_cases qP:i=k
  ·subst qP;exact Xq hsz
  rw[Qw (Ne.symm qP)];exact hk
 intro k o' hk cO j hj;by_cases qP:i=k
 ·subst qP;rw[ho]at cO;cases cO;exact aik j (bT j hj)
 rw[Qw (Ne.symm qP)]at hk;exact aik j (h k o' hk cO j hj)
def Qbk{listed:Array Bool}(zI:Fa ops listed){i:Nat}{o:Oper}(ho:ops[i]?=some o)(ht:CI ops i=true)(bT:∀j∈Xx o,listed.getD j false=true):∀(n j:Nat),j<i->i-j<=n->listed.getD j false=true
 |0,j,h1,h2=>zE
 |n+1,j,h1,h2=>by
  obtain⟨d,hd,hw⟩:=zzbq.1 (zzay.1 ht j (zzaw.2 h1));have hdl:=zzaw.1 hd;unfold wB at hw;split at hw
  ·rename_i o' cO;have hm:j∈Xx o':=by simpa using hw
   by_cases h0:d=0
   ·subst h0;rw[zzes,ho]at cO;cases cO;exact bT j hm
   exact zI (i-d) o' (Qbk zI ho ht bT n (i-d) zE zE) cO j hm
  cases hw
def ng{o:Oper}{j:Nat}:j∈Xx o<->∃e∈o.after,Region.binds .any e=true/\e.on=j:=by
 simp[Xx];constructor
 ·rintro⟨e,⟨h1,h2⟩,rfl⟩;exact⟨e,h1,h2,rfl⟩
 rintro⟨e,h1,h2,rfl⟩;exact⟨e,⟨h1,h2⟩,rfl⟩
def Uj(hc:uy ops p=true){listed:Array Bool}(hsz:listed.size=ops.size):∀(n i:Nat),i<=n->i<ops.size->listed.getD i true=false->∃j,j∈Region.ready .any ops listed
 |0,i,bQ,hi,hl=>by
  obtain rfl:i=0:=zE
  have ho:ops[0]?=some ops[0]:=zzah hi;refine⟨0,mem_ready.2 ⟨hl,ops[0],ho,fun e he hb=>?_⟩⟩;have:=((Zb hc).2 0 _ ho).1 e.on (ng.2 ⟨e,he,hb,rfl⟩);omega
 |n+1,i,bQ,hi,hl=>by
  by_cases hex:∃j,j<i/\listed.getD j true=false
  ·obtain⟨j,hj,JU⟩:=hex;exact Uj hc hsz n j zE zE JU
  have ho:ops[i]?=some ops[i]:=zzah hi;refine⟨i,mem_ready.2 ⟨hl,ops[i],ho,fun e he hb=>?_⟩⟩;have ah:=((Zb hc).2 i _ ho).1 e.on (ng.2 ⟨e,he,hb,rfl⟩)
  have:listed.getD e.on true=true:=by
   cases h:listed.getD e.on true with
   |true=>rfl
   |false=>exact absurd ⟨e.on,ah,h⟩ hex
  rw[Xc zE false true];exact this
def Uk(hc:uy ops p=true){listed:Array Bool}{i:Nat}(hr:i∈Region.ready .any ops listed):i<ops.size/\listed.getD i true=false/\∃o,ops[i]?=some o/\∀j∈Xx o,listed.getD j false=true:=by
 obtain⟨h1,o,ho,h2⟩:=mem_ready.1 hr;refine⟨(zzbw.1 ho).1,h1,o,ho,fun j hj=>?_⟩;obtain⟨e,he,hb,rfl⟩:=ng.1 hj;exact h2 e he hb
def Qdy{Q:PP}{K:AS->Prop}(hQ:∀γ w s a,K s->ew N w0 r an S P gl Y γ w s a->Q .normal a w)(hc:uy ops p=true):
  ∀(aT k:Nat)(listed:Array Bool)(γ:G)(w:World)(s:AS)(a:Act),p<=k->k<=ops.size->listed.size=ops.size->(∀j,j<k->listed.getD j false=true)->(∀j,k<=j->j<ops.size->listed.getD j true=false)->
   uc ops listed<=aT->Zo P gl orc Y ((ops.toList.drop k).map (Xe P ops)) s K->ew N w0 r an S P gl Y γ w s a->wpAnyIn (FW r) 0 P .any ops Q aT listed a w:=by
 intro aT;induction aT with
 |zero=>
  intro k listed γ w s a Fb hk hsz hlo hhi jh h hs
  have Eg:k=ops.size:=by
   rcases zzaa k ops.size with h'|h'
   ·have:=Qdx (zzfa.1 jh) h';rw[hhi k (zzab _) h']at this;cases this
   omega
  have hd:ops.toList.drop k=[]:=zzal (by simp;omega);rw[hd]at h;refine⟨?_,hQ γ w s a h hs⟩;rw[List.eq_nil_iff_forall_not_mem];intro i hi;obtain⟨ah,hu,_⟩:=Uk hc hi;have:=Qdx (zzfa.1 jh) ah;rw[hu]at this;cases this
 |succ aT ih=>
  intro k listed γ w s a Fb hk hsz hlo hhi jh h hs;refine⟨fun hr=>?_,fun i hi=>?_⟩
  ·have Eg:k=ops.size:=by
    rcases zzaa k ops.size with h'|h'
    ·obtain⟨j,hj⟩:=Uj hc hsz k k (zzab _) h' (hhi k (zzab _) h');rw[hr]at hj;cases hj
    omega
   have hd:ops.toList.drop k=[]:=zzal (by simp;omega);rw[hd]at h;exact hQ γ w s a h hs
  obtain⟨ah,hu,o,ho,bT⟩:=Uk hc hi
  have fh:k<=i:=by
   rcases zzaa i k with h'|h'
   ·have:=hlo i h';rw[Xc zE false true,hu]at this;cases this
   exact h'
  have qP:i=k:=by
   rcases zzaa k i with h'|h'
   ·have zI:Fa ops listed:=fun x ox hx hox j hj=>by
     have hxk:x<k:=by
      rcases zzaa x k with h1|h1
      ·exact h1
      have hxs:x<ops.size:=(zzbw.1 hox).1;rw[Xc zE false true,hhi x h1 hxs]at hx;cases hx
     have:=((Zb hc).2 x ox hox).1 j hj;exact hlo j zE
    have:=Qbk zI ho (((Zb hc).2 i o ho).2.2 zE) bT i k h' zE;rw[Xc zE false true,hhi k (zzab _) zE]at this;cases this
   omega
  subst qP;refine wpOpIn_mono ?_ (wA ah hs h);rintro a' w' ⟨γ',s',dM,h'⟩;refine ih (i+1) _ γ' w' s' a' zE ah (by simp[hsz]) (fun j hj=>?_) (fun j dX oq=>?_) ?_ h' dM
  ·rcases zzaa j i with h'|h'
   ·rw[Qw zE];exact hlo j h'
   obtain rfl:j=i:=zE
   exact Xq zE
  ·rw[Qw zE];exact hhi j zE oq
  have:=jg hsz ah hu;omega
def adT{P:Program}{w:World}{γ:G}{te:TypeId}{zs:P2}{i:TypeInfo}{z:Value}{n:Nat}(JI:ak w γ zs z.cells.toList)(g5:zs.all Qx=true)(g4:zs.length=i.size):
  cq w γ (bF n zs) (madeCells z.cells (n*i.size)).toList/\∀v∈(madeCells z.cells (n*i.size)).toList,v.oneCell'=true:=by
 have gz:=Yl JI g5;have EZ:z.cells.size=zs.length:=by have:=JI.1;simp at this;omega
 refine⟨⟨by simp[Ko,size_madeCells,g4],fun k c v j1 j2=>?_⟩,fun v hv=>?_⟩
 ·obtain⟨q1,q2⟩:=kM j1
  have h0:0<zs.length:=by
   rcases zzck zs.length with h0|h0
   ·simp[h0]at q1
   exact h0
  have ah:k%zs.length<z.cells.size:=by rw[EZ];exact zzed _ h0
  have EV:v=z.cells[k%zs.length]:=by
   simp only[madeCells,zzcb,zzg]at j2;rw[zzah (by simp;rw[<- g4];exact q1)]at j2;simp[EZ]at j2;rw[<- j2,getElem!_pos z.cells _ ah]
  subst EV;exact JI.2 _ c _ q2 (by simp[ah])
 simp[madeCells]at hv;obtain⟨k,hk,rfl⟩:=hv
 have h0:0<z.cells.size:=by
  rcases zzck z.cells.size with h0|h0
  ·rw[h0]at EZ;rw[<- g4,<- EZ]at hk;simp at hk
  exact h0
 have ah:k%z.cells.size<z.cells.size:=zzed _ h0;rw[getElem!_pos z.cells _ ah];exact gz _ zd
def ak7{o:Oper}{sz bytes:Nat}{zs:P2}{x y:bE}(h:tr P o=.mks sz bytes zs x y):∃t l c te i,o.op=.makeSlice t l c/\x=aC l/\y=aC c/\P.underlying t=some (.slice te)/\P.info? te=some i/\sz=i.size/\bytes=i.bytes/\zc P te=some zs:=by
 obtain⟨dst,op,ty,pos,after,guard⟩:=o;cases op
 case makeSlice t l c=>
  simp only[tr]at h;split at h
  ·rename_i te hu;split at h
   ·split at h<;>cases h
   ·rename_i i hi _;split at h
    ·rename_i zs' hz;cases h;exact⟨t,_,_,te,i,rfl,rfl,rfl,hu,hi,rfl,rfl,hz⟩
    cases h
   cases h
  cases h
 case call c=>
  simp only[tr,Zt]at h;repeat' split at h
  all_goals cases h
 case build t parts=>
  simp only[tr,Wq]at h;repeat' split at h
  all_goals cases h
 case slice t x lo hi mx=>cases mx<;>simp only[tr]at h<;>(repeat' split at h)<;>cases h
 case makeFunc fn a b=>cases fn<;>cases h
 case next x s=>cases s<;>cases h
 case makeMap t r=>cases r<;>simp only[tr]at h<;>(repeat' split at h)<;>cases h
 case binOp op t x y t'=>
  simp only[tr,lW,Qco,zA]at h;repeat' split at h
  all_goals cases h
 all_goals first|(cases h;done)|(
  simp only[tr]at h;repeat' split at h
  all_goals cases h)
def wE(c:Call)(zs:P2):Zt P c≠.alloc zs:=by
 intro h;obtain⟨callee,args,ts⟩:=c;cases callee with
 |builtin b=>cases b<;>simp only[Zt]at h<;>(repeat' split at h)<;>cases h
 |_=>cases h
def CJ(c:Call)(x:bE):Zt P c≠.box x:=by
 intro h;obtain⟨callee,args,ts⟩:=c;cases callee with
 |builtin b=>cases b<;>simp only[Zt]at h<;>(repeat' split at h)<;>cases h
 |_=>cases h
def V1{o:Oper}{zs:P2}(h:tr P o=.alloc zs):∃t,o.op=.alloc t/\zc P t=some zs:=by
 obtain⟨dst,op,ty,pos,after,guard⟩:=o;cases op
 case alloc t=>
  simp only[tr]at h;split at h
  ·rename_i zs' hz;cases h;exact⟨t,rfl,hz⟩
  cases h
 case call c=>exact absurd h (wE c zs)
 case build t parts=>
  simp only[tr,Wq]at h;repeat' split at h
  all_goals cases h
 case slice t x lo hi mx=>cases mx<;>simp only[tr]at h<;>(repeat' split at h)<;>cases h
 case makeFunc fn a b=>cases fn<;>cases h
 case next x s=>cases s<;>cases h
 case makeMap t r=>cases r<;>simp only[tr]at h<;>(repeat' split at h)<;>cases h
 case binOp op t x y t'=>
  simp only[tr,lW,Qco,zA]at h;repeat' split at h
  all_goals cases h
 all_goals first|(cases h;done)|(
  simp only[tr]at h;repeat' split at h
  all_goals cases h)
def ak8{o:Oper}{x:bE}(h:tr P o=.box x):∃t y,o.op=.box t y/\x=aC y:=by
 obtain⟨dst,op,ty,pos,after,guard⟩:=o;cases op
 case box t y=>cases h;exact⟨t,y,rfl,rfl⟩
 case call c=>exact absurd h (CJ c x)
 case build t parts=>
  simp only[tr,Wq]at h;repeat' split at h
  all_goals cases h
 case slice t x lo hi mx=>cases mx<;>simp only[tr]at h<;>(repeat' split at h)<;>cases h
 case makeFunc fn a b=>cases fn<;>cases h
 case next x s=>cases s<;>cases h
 case makeMap t r=>cases r<;>simp only[tr]at h<;>(repeat' split at h)<;>cases h
 case binOp op t x y t'=>
  simp only[tr,lW,Qco,zA]at h;repeat' split at h
  all_goals cases h
 all_goals first|(cases h;done)|(
  simp only[tr]at h;repeat' split at h
  all_goals cases h)
def awv(hc:uy ops p=true){listed:Array Bool}(hsz:listed.size=ops.size){i:Nat}{o:Oper}(ho:ops[i]?=some o)(dg:i<p)(hu:listed.getD i true=false)(bT:∀j∈Xx o,listed.getD j false=true)
  {t:Nat}(ht:t∈o.looksAt ops):(Xg P gl orc ops T0 m i).1.getD t .junk=At P gl orc ops T0 m p listed t:=by
 have hi:i<ops.size:=(zzbw.1 ho).1;obtain⟨hp,cW⟩:=Zb hc;unfold At;by_cases hex:∃j,j<p/\Vh ops j=some t/\j≠i
 ·obtain⟨j,hj,hd,aO⟩:=hex;obtain⟨AD,hja⟩:=((cW i o ho).2.1 dg).1 t ht j hj hd aO
  have hw:wr ops p listed t=true:=by
   unfold wr;rw[zzbq];exact⟨j,zzaw.2 hj,by rw[bT j hja,hd];simp⟩
  rw[if_pos hw]
  have:=kN (P:=P) (gl:=gl) (orc:=orc) (ops:=ops) (T0:=T0) (m:=m) (t:=t) (k:=i) (p-i) fun k dF ef Fc=>by
   have hk:k<ops.size:=zE
   have Fe:ops[k]?=some ops[k]:=zzah hk;have:=((cW k _ Fe).2.1 zE).2 j zE t hd;simp[Vh,Fe]at Fc;exact this Fc
  rw[show i+(p-i)=p by omega]at this;exact this.symm
 have hw:wr ops p listed t=false:=by
  unfold wr;rw[zzdm];intro j hj;simp only[zzac,beq_iff_eq,not_and];intro hl hd;by_cases AD:j=i
  ·subst AD;rw[Xc zE false true,hu]at hl;cases hl
  exact hex ⟨j,zzaw.1 hj,hd,AD⟩
 rw[hw];simp only[zzbh,if_false];exact Qei i fun j hj hd=>hex ⟨j,zE,hd,zE⟩
def ak9(hc:uy ops p=true){listed:Array Bool}(hsz:listed.size=ops.size){i:Nat}{o:Oper}(ho:ops[i]?=some o)(dg:i<p){t:Nat}:
  At P gl orc ops T0 m p (listed.setIfInBounds i true) t=if o.dst=some t/\t<T0.length then(dop P gl orc (Xe P ops o) (Xg P gl orc ops T0 m i).1 m (Xg P gl orc ops T0 m i).2).2.1 else At P gl orc ops T0 m p listed t:=by
 have hi:i<ops.size:=(zzbw.1 ho).1;obtain⟨hp,cW⟩:=Zb hc;by_cases hd:o.dst=some t
 ·have hw:wr ops p (listed.setIfInBounds i true) t=true:=by
   unfold wr;rw[zzbq];exact⟨i,zzaw.2 dg,by rw[Xq zE];simp[Vh,ho,hd]⟩
  have hl:=kN (P:=P) (gl:=gl) (orc:=orc) (ops:=ops) (T0:=T0) (m:=m) (t:=t) (k:=i+1) (p-(i+1)) fun k dF ef Fc=>by
   have hk:k<ops.size:=zE
   have Fe:ops[k]?=some ops[k]:=zzah hk;have:=((cW k _ Fe).2.1 zE).2 i zE t (by simp[Vh,ho,hd]);simp[Vh,Fe]at Fc;exact this Fc
  rw[show i+1+(p-(i+1))=p by omega]at hl;by_cases ht:t<T0.length
  ·rw[if_pos ⟨hd,ht⟩];unfold At;rw[if_pos hw,hl,Wn ho,hd];exact Wu (by rw[jf];exact ht)
  rw[if_neg (by simp[ht])]
  have h1:∀k,(Xg P gl orc ops T0 m k).1.getD t .junk=.junk:=fun k=>by
   have:=jf (P:=P) (gl:=gl) (orc:=orc) (ops:=ops) (T0:=T0) (m:=m) k;simp only[List.getD];rw[zzat zE];rfl
  have h2:T0.getD t .junk=.junk:=h1 0;unfold At;rw[h1 p,h2];simp
 rw[if_neg (by simp[hd])]
 have hw:wr ops p (listed.setIfInBounds i true) t=wr ops p listed t:=by
  unfold wr;congr 1;funext j;by_cases hj:j=i
  ·subst hj;have hb:(o.dst==some t)=false:=by simpa using hd
   simp[Vh,ho,hb]
  rw[Qw hj]
 unfold At;rw[hw]
def JV(hc:uy ops p=true){Q:PP}{listed:Array Bool}{γ:G}{w:World}{a:Act}(hI:PY N w0 r an S Y P gl orc ops T0 m p listed γ w a){i:Nat}{o:Oper}(ho:ops[i]?=some o)(dg:i<p)
  (hu:listed.getD i true=false)(bT:∀j∈Xx o,listed.getD j false=true)(bR:(dop P gl orc (Xe P ops o) (Xg P gl orc ops T0 m i).1 m (Xg P gl orc ops T0 m i).2).1):
  wpOpIn (FW r) 0 P ops Q i (fun a' w'=>∃γ',PY N w0 r an S Y P gl orc ops T0 m p (listed.setIfInBounds i true) γ' w' a') a w:=by
 have hi:i<ops.size:=(zzbw.1 ho).1
 have zJ:∀t∈o.looksAt ops,aA w γ ((Xg P gl orc ops T0 m i).1.getD t .junk) (a.tmps.getD t undef):=fun t ht=>by
  rw[awv (P:=P) (gl:=gl) (orc:=orc) (T0:=T0) (m:=m) hc hI.size ho dg hu bT ht];exact hI.tt t
 have dw:∀x∈o.op.operands,aA w γ (ev gl (Xg P gl orc ops T0 m i).1 (aC x)) (a.eval x):=fun x hx=>by
  cases x with
  |tmp t=>exact zJ t (by simp only[Oper.looksAt,zzao,zzfg];exact .inl ⟨.tmp t,Nm hx,rfl⟩)
  |const v=>exact Kc w γ v
  |func f=>exact .fn rfl (fun i c v h=>by simp at h) rfl fun i c v h=>by simp at h
  |global g=>exact(hI.g g).gp
 have hB:∀id cells,m.boxes[id]?=some cells->AX P gl orc ops T0 m p listed id=some cells:=fun id cells h=>adQ h
 have fin:∀{v:Value}{w':World}{γ':G},Ev w γ w' γ'->au N w0 an γ' w' (AX P gl orc ops T0 m p (listed.setIfInBounds i true)) m.L->
   aA w' γ' (dop P gl orc (Xe P ops o) (Xg P gl orc ops T0 m i).1 m (Xg P gl orc ops T0 m i).2).2.1 v->∃γ',PY N w0 r an S Y P gl orc ops T0 m p (listed.setIfInBounds i true) γ' w' (a.put o.dst v):=fun{v w' γ'}he hm hr=>by
  refine⟨γ',by simp[hI.size],fun j dX oq=>by rw[Qw zE];exact hI.tail j dX oq,Fa.set hI.clo ho (by rw[hI.size];exact hi) bT,hm,hI.ls.mono he,hI.rd.aU he.cH,?_,fun t=>?_,?_,fun g=>(hI.g g).mono he.cU,hI.y.mono he.cH,hI.e.trans he.cH⟩
  ·cases hd:o.dst<;>simp[Act.put,hI.tl]
  ·rw[ak9 hc hI.size ho dg];by_cases hd:o.dst=some t
   ·by_cases ht:t<T0.length
    ·rw[if_pos ⟨hd,ht⟩,hd];have:(a.put (some t) v).tmps.getD t undef=v:=by simp[Act.put,hI.tl,ht]
     rw[this];exact hr
    rw[if_neg (by simp[ht]),hd];have:(a.put (some t) v).tmps.getD t undef=a.tmps.getD t undef:=by simp[Act.put,hI.tl,ht]
    rw[this];exact(hI.tt t).mono he
   rw[if_neg (by simp[hd])]
   have:(a.put o.dst v).tmps.getD t undef=a.tmps.getD t undef:=by
    cases zC:o.dst with
    |none=>rfl
    |some d=>simp only[Act.put];simp;rw[zzcp (by rintro rfl;exact hd zC)]
   rw[this];exact(hI.tt t).mono he
  cases hd:o.dst<;>exact hI.d.aU he.cH
 have dP:=Wn (P:=P) (gl:=gl) (orc:=orc) (T0:=T0) (m:=m) ho
 have PZ:∀cells,(dop P gl orc (Xe P ops o) (Xg P gl orc ops T0 m i).1 m (Xg P gl orc ops T0 m i).2).2.2=(Xg P gl orc ops T0 m i).2++[cells]->Iy P gl orc ops T0 m i=true/\(Xg P gl orc ops T0 m p).2[kP P gl orc ops T0 m i]?=some cells:=fun cells h=>by
  refine⟨by simp only[Iy,kP,dP,h];simp,?_⟩;have:=VZ (P:=P) (gl:=gl) (orc:=orc) (ops:=ops) (T0:=T0) (m:=m) (i:=i+1) (p-(i+1)) (q:=kP P gl orc ops T0 m i) (c:=cells) (by rw[dP];simp only[h,kP];simp);rwa [show i+1+(p-(i+1))=p by omega]at this
 have oP:(dop P gl orc (Xe P ops o) (Xg P gl orc ops T0 m i).1 m (Xg P gl orc ops T0 m i).2).2.2=(Xg P gl orc ops T0 m i).2->AX P gl orc ops T0 m p (listed.setIfInBounds i true)=AX P gl orc ops T0 m p listed:=fun h=>
  V0 (by simp only[Iy,kP,dP,h];simp)
 have tO:listed.getD i false=false:=by rw[Xc (by rw[hI.size];exact hi) false true];exact hu
 have box:∀{cells:P2}{arr:P1}{te:TypeId},ak w γ cells arr.toList->cells.all Qx=true->
   (dop P gl orc (Xe P ops o) (Xg P gl orc ops T0 m i).1 m (Xg P gl orc ops T0 m i).2).2=(.ptr (m.boxes.length+(Xg P gl orc ops T0 m i).2.length) 0,(Xg P gl orc ops T0 m i).2++[cells])->
   (execOp a.eval o).run P w=.ok (.value (.pointer (some ⟨w.heap.size,0,none⟩))) (w.alloc (.cells arr te))->
   o.wpIn (FW r) 0 P a w (fun a' w'=>∃γ',PY N w0 r an S Y P gl orc ops T0 m p (listed.setIfInBounds i true) γ' w' a') Q:=fun{cells arr te}hr bL hd aZ=>by
  obtain⟨qH,vV⟩:=PZ cells (by rw[hd]);have aL:=AY (p:=p) qH tO;refine Zj aZ (fin (hI.mm.dy _ aL _) ?_ ?_)
  ·rw[NB dg (by rw[hI.size];exact hi) qH vV];exact hI.mm.eY _ aL hr.toP (Yl hr bL)
  rw[hd];exact .ptr (by simp[G.box,kP])
 simp only[wpOpIn,ho];cases hg:o.guard with
 |none=>
  have hw:Region.wanted o (yielded ops a.tmps)=true:=by simp[Region.wanted,hg]
  rw[if_pos hw];have e1:(Xe P ops o).guard=none:=by simp[Xe,hg]
  cases P0:tr P o with
  |alloc zs=>
   have hd:dop P gl orc (Xe P ops o) (Xg P gl orc ops T0 m i).1 m (Xg P gl orc ops T0 m i).2=(zs.all Qx=true,.ptr (m.boxes.length+(Xg P gl orc ops T0 m i).2.length) 0,(Xg P gl orc ops T0 m i).2++[zs]):=by
    have e2:(Xe P ops o).op=.alloc zs:=P0;simp only[dop,e1,e2]
   rw[hd]at bR;obtain⟨t,V2,hz⟩:=V1 P0;obtain⟨i',z,dn,jb,hr⟩:=ja (w:=w) (γ:=γ) hz;refine box (te:=t) hr bR (by rw[hd]) ?_;obtain⟨d',op',ty',aqZ,af',gu'⟩:=o;simp only at V2;subst V2;simp[execOp,Instr.alloc,zeroValue,typeInfo,dn,jb,newVar,newRow]
  |box x=>
   have hd:dop P gl orc (Xe P ops o) (Xg P gl orc ops T0 m i).1 m (Xg P gl orc ops T0 m i).2=(bare (ev gl (Xg P gl orc ops T0 m i).1 x)=true/\(cellsOf (ev gl (Xg P gl orc ops T0 m i).1 x)).all Qx=true,
     .ptr (m.boxes.length+(Xg P gl orc ops T0 m i).2.length) 0,(Xg P gl orc ops T0 m i).2++[cellsOf (ev gl (Xg P gl orc ops T0 m i).1 x)]):=by
    have e2:(Xe P ops o).op=.box x:=P0;simp only[dop,e1,e2]
   rw[hd]at bR;obtain⟨t,y,V2,rfl⟩:=ak8 P0;have hry:=dw y (by rw[V2];simp[Op.operands]);refine box (te:=t) (kK hry bR.1) bR.2 (by rw[hd]) ?_;obtain⟨d',op',ty',aqZ,af',gu'⟩:=o;simp only at V2;subst V2;simp[execOp,Instr.box,newVar,newRow]
  |mks sz bytes zs x y=>
   obtain⟨t,l,c,te,i',V2,rfl,rfl,hu,dn,rfl,rfl,Cw⟩:=ak7 P0;have e2:(Xe P ops o).op=.mks i'.size i'.bytes zs (aC l) (aC c):=P0;simp only[dop,e1,e2]at bR PZ;have hl:=dw l (by rw[V2];simp[Op.operands]);have hc:=dw c (by rw[V2];simp[Op.operands]);split at bR
   case h_2=>exact bR.elim
   rename_i k1 n1 k2 n2 q1 q2;rw[q1]at hl;rw[q2]at hc;obtain⟨⟨g0,g1,g2,g3⟩,g4,g5⟩:=bR;obtain⟨i2,z,hi2,hz,JI⟩:=ja (w:=w) (γ:=γ) Cw;rw[dn]at hi2;cases hi2
   have hd:dop P gl orc (Xe P ops o) (Xg P gl orc ops T0 m i).1 m (Xg P gl orc ops T0 m i).2=((0<=n1/\n1<=n2/\i'.bytes*n2<=281474976710656/\n2<=9223372036854775807)/\zs.length=i'.size/\zs.all Qx=true,.bs (m.boxes.length+(Xg P gl orc ops T0 m i).2.length) 0 n1.toNat i'.size,(Xg P gl orc ops T0 m i).2++[bF n2.toNat zs]):=by
    simp only[dop,e1,e2,q1,q2]
   have aZ:=run_make (P:=P) w t te i' z hu dn hz k1 k2 n1 n2 g0 zE g2 g3;obtain⟨Sy,oI⟩:=adT (P:=P) (te:=te) (n:=n2.toNat) JI g5 g4;obtain⟨qH,vV⟩:=PZ (bF n2.toNat zs) (by simp only[q1,q2]);have aL:=AY (p:=p) qH tO
   have aq0:(execOp a.eval o).run P w=.ok (.value (.slice (some ⟨w.heap.size,0,none⟩) n1.toNat n2.toNat)) (w.alloc (.cells (madeCells z.cells (n2.toNat*i'.size)) te)):=by
    obtain⟨d',op',ty',aqZ,af',gu'⟩:=o;simp only at V2;subst V2;simp[execOp,hl.aI,hc.aI,aZ]
   refine Zj aq0 (fin (hI.mm.dy _ aL _) ?_ ?_)
   ·rw[NB dg (by rw[hI.size];exact hi) qH vV];exact hI.mm.eY _ aL Sy oI
   rw[hd];exact .bs (arr:=madeCells z.cells (n2.toNat*i'.size)) (e:=te) (by simp[G.box,kP]) zE (by show(w.heap.push _)[w.heap.size]?=_;simp) (by rw[zzbs,size_madeCells];exact zzab _)
  |_=>
   have hd:dop P gl orc (Xe P ops o) (Xg P gl orc ops T0 m i).1 m (Xg P gl orc ops T0 m i).2=((rop P gl orc (ev gl (Xg P gl orc ops T0 m i).1) m o.dst (tr P o)).1,(rop P gl orc (ev gl (Xg P gl orc ops T0 m i).1) m o.dst (tr P o)).2,(Xg P gl orc ops T0 m i).2):=by
    have e2:(Xe P ops o).op=tr P o:=rfl;rw[P0]at e2;simp only[dop,e1,e2,P0];rfl
   rw[hd]at bR;have eS:=oP (by rw[hd]);rw[hd,eS]at fin;exact Qcy hI.mm hB hI.g dw bR r _ Q fun v w' γ' h1 h2 h3=>fin h1 h2 h3
 |some q=>
  obtain⟨j,want⟩:=q;have e1:(Xe P ops o).guard=some ((ops[j]?).bind (·.dst),want):=by simp[Xe,hg]
  cases hj:(ops[j]?).bind (·.dst)with
  |none=>
   rw[hj]at e1;simp only[dop,e1]at bR
  |some t=>
   rw[hj]at e1;have lZ:t∈o.looksAt ops:=by simp[Oper.looksAt,hg,hj]
   have aX:=zJ t lZ;cases lI:Eh want ((Xg P gl orc ops T0 m i).1.getD t .junk)with
   |none=>simp only[dop,e1,lI]at bR
   |some gw=>
    have hd:dop P gl orc (Xe P ops o) (Xg P gl orc ops T0 m i).1 m (Xg P gl orc ops T0 m i).2=(gok gl (Xg P gl orc ops T0 m i).1 gw (gxs (tr P o) (Xe P ops o).xs)/\(gw=true->(rop P gl orc (evG gl (Xg P gl orc ops T0 m i).1 (tr P o)) m o.dst (tr P o)).1),
      .gd gw (rop P gl orc (evG gl (Xg P gl orc ops T0 m i).1 (tr P o)) m o.dst (tr P o)).2,(Xg P gl orc ops T0 m i).2):=by
     simp only[dop,e1,lI];rfl
    rw[hd]at bR;have eS:=oP (by rw[hd]);rw[hd,eS]at fin
    have VW:Region.wanted o (yielded ops a.tmps)=gw:=by
     have hyv:∀b,a.tmps.getD t undef=.bool b->yielded ops a.tmps j=some b:=fun b hb=>by
      have bZ:t<a.tmps.size:=by
       rcases zzaa t a.tmps.size with h|h
       ·exact h
       simp[zzbo h,undef]at hb
      simp[bZ]at hb;simp only[yielded,hj,zzcv,zzah bZ,hb]
     have hyu:a.tmps.getD t undef=undef->yielded ops a.tmps j=none:=fun hb=>by
      rcases zzaa t a.tmps.size with bZ|h
      ·simp[bZ]at hb;simp only[yielded,hj,zzcv,zzah bZ,hb];rfl
      simp only[yielded,hj,zzcv,zzbo h]
     generalize(Xg P gl orc ops T0 m i).1.getD t .junk=gv at lI aX;cases gv with
     |bool g=>
      simp only[Eh,Option.some.injEq]at lI;subst lI;simp only[Region.wanted,hg,hyv g aX.bw];cases g<;>cases want<;>rfl
     |gd d x=>
      cases d with
      |false=>
       simp only[Region.wanted,hg,hyu aX.Nq];cases x<;>simp[Eh]at lI<;>subst lI<;>cases want<;>rfl
      |true=>
       cases x<;>simp[Eh]at lI;rename_i b;subst lI;simp only[Region.wanted,hg,hyv b (aX.Cs rfl).bw];cases b<;>cases want<;>rfl
     |_=>simp[Eh]at lI
    rw[VW];obtain⟨h1,h2⟩:=bR;cases AU:gw with
    |true=>
     rw[AU]at h1 h2 fin;simp only[if_true];refine Qcy (e:=evG gl (Xg P gl orc ops T0 m i).1 (tr P o)) hI.mm hB hI.g (fun x hx=>?_) (h2 rfl) r _ Q fun v w' γ' q1 q2 q3=>fin q1 q2 (.gd (fun _=>q3) (fun h=>by cases h));unfold evG;cases iq:rawOp (tr P o)with
     |true=>exact dw x hx
     |false=>
      refine AT (dw x hx) fun g' b hgb=>CH h1 (aC x) ?_ g' b hgb rfl;simp only[gxs,iq,cond_false];simp[Xe,hg];exact⟨x,Nm hx,rfl⟩
    |false=>
     rw[AU]at fin;simp only[zzbh,if_false];exact⟨fun _ _=>trivial,fin (Ev.refl _ _) hI.mm (.gd (fun h=>by cases h) (fun _=>rfl))⟩
def Ff{Q:PP}{K:AS->Prop}(hQ:∀γ w s a,K s->ew N w0 r an S P gl Y γ w s a->Q .normal a w)(hc:uy ops p=true)
  (ala:∀i o,i<p->ops[i]?=some o->(dop P gl orc (Xe P ops o) (Xg P gl orc ops T0 m i).1 m (Xg P gl orc ops T0 m i).2).1)
  (aq1:Zo P gl orc Y ((ops.toList.drop p).map (Xe P ops)) ⟨(Xg P gl orc ops T0 m p).1,{m with boxes:=m.boxes++(Xg P gl orc ops T0 m p).2}⟩ K):
  ∀(aT:Nat)(listed:Array Bool)(γ:G)(w:World)(a:Act),PY N w0 r an S Y P gl orc ops T0 m p listed γ w a->uc ops listed<=aT->wpAnyIn (FW r) 0 P .any ops Q aT listed a w:=by
 obtain⟨hp,cW⟩:=Zb hc
 have full:∀(aT:Nat)(listed:Array Bool)(γ:G)(w:World)(a:Act),PY N w0 r an S Y P gl orc ops T0 m p listed γ w a->uc ops listed<=aT->(∀i,i<p->listed.getD i false=true)->wpAnyIn (FW r) 0 P .any ops Q aT listed a w:=by
  intro aT listed γ w a hI jh bD;refine Qdy hQ hc aT p listed γ w _ a (zzab _) hp hI.size bD hI.tail jh aq1 ⟨?_,hI.ls,hI.rd,⟨?_,fun t x v hx hv=>?_⟩,hI.d,hI.g,hI.y,hI.e⟩
  ·have:=hI.mm;rw[adS bD]at this;exact this
  ·simp[jf,hI.tl]
  have h1:=hI.tt t
  have hAt:At P gl orc ops T0 m p listed t=x:=by
   have iJ:(Xg P gl orc ops T0 m p).1.getD t .junk=x:=by simp only at hx;simp[List.getD,hx]
   unfold At;split
   ·exact iJ
   rename_i hw;rw[<- iJ];refine(Qei p fun j hj hd=>hw ?_).symm;unfold wr;rw[zzbq];exact⟨j,zzaw.2 hj,by rw[bD j hj,hd];simp⟩
  rw[hAt]at h1;have:a.tmps.getD t undef=v:=by simp at hv;simp[hv]
  rwa [this]at h1
 intro aT;induction aT with
 |zero=>
  intro listed γ w a hI jh
  exact full 0 listed γ w a hI jh fun i hi=>by
   rw[Xc (by rw[hI.size];omega) false true];exact Qdx (zzfa.1 jh) zE
 |succ aT ih=>
  intro listed γ w a hI jh;by_cases bD:∀i,i<p->listed.getD i false=true
  ·exact full (aT+1) listed γ w a hI jh bD
  have hex:∃k,k<p/\listed.getD k true=false:=by
   refine Classical.byContradiction fun hn=>bD fun i hi=>?_;rw[Xc (by rw[hI.size];omega) false true];cases hl:listed.getD i true with
   |true=>rfl
   |false=>exact absurd ⟨i,hi,hl⟩ hn
  obtain⟨k,hk,JW⟩:=hex;refine⟨fun hr=>?_,fun i hi=>?_⟩
  ·obtain⟨j,hj⟩:=Uj hc hI.size k k (zzab _) zE JW;rw[hr]at hj;cases hj
  obtain⟨ah,hu,o,ho,bT⟩:=Uk hc hi
  have dg:i<p:=by
   rcases zzaa i p with h|h
   ·exact h
   have:=Qbk hI.clo ho ((cW i o ho).2.2 h) bT i k zE zE;rw[Xc (by rw[hI.size];omega) false true,JW]at this;cases this
  refine wpOpIn_mono ?_ (JV hc hI ho dg hu bT (ala i o dg ho));rintro a' w' ⟨γ',lJ⟩;refine ih _ γ' w' a' lJ ?_;have:=jg hI.size ah hu;omega
def wG{Q:PP}{K:AS->Prop}{γ:G}{w:World}{s:AS}{a:Act}(hQ:∀γ w s a,K s->ew N w0 r an S P gl Y γ w s a->Q .normal a w)(hc:uy ops p=true)
  (h:SB P gl orc Y ((ops.toList.drop p).map (Xe P ops)) K ((ops.toList.take p).map (Xe P ops)) s.T s.m [])(hs:ew N w0 r an S P gl Y γ w s a):
  wpAnyIn (FW r) 0 P .any ops Q ops.size (Array.replicate ops.size false) a {w with drawn:=w.drawn+1}:=by
 have hp:=(Zb hc).1;obtain⟨h1,h2⟩:=Nz (P:=P) (gl:=gl) (orc:=orc) (T0:=s.T) (m:=s.m) ((ops.toList.drop p).map (Xe P ops)) K hp p 0 zd (by rw[zzdc];exact h);refine Ff (T0:=s.T) (m:=s.m) hQ hc (fun i o hi ho=>h1 i o (zzbp _) hi ho) h2 ops.size _ γ w.drew a ⟨zd,fun i _ hi=>by simp[hi],fun i o h=>(by rcases zzaa i ops.size with h'|h'<;>simp[h']at h),?_,hs.ls.mono (Ev.drew w γ),hs.rd.aU (Ev.drew w γ).cH,?_,fun t=>?_,hs.d.aU (Ev.drew w γ).cH,fun g=>(hs.g g).mono (Ev.drew w γ).cU,hs.y.mono (Ev.drew w γ).cH,hs.e.trans (Ev.drew w γ).cH⟩ ?_
 ·have hB:AX P gl orc ops s.T s.m p (Array.replicate ops.size false)=s.m.B:=by
   funext id;unfold AX;simp only[AM.B];split
   ·rfl
   rename_i aL;rw[if_neg,zzat zE];rw[zzbq];rintro⟨j,_,hj⟩
   have:(Array.replicate ops.size false).getD j false=false:=by
    rcases zzaa j ops.size with h|h<;>simp[h]
   rw[this]at hj;cases hj
  rw[hB];exact hs.m.drew
 ·have:=hs.t.1;simp at this;omega
 ·have hw:wr ops p (Array.replicate ops.size false) t=false:=by
   unfold wr;rw[zzdm];intro j _
   have:(Array.replicate ops.size false).getD j false=false:=by
    rcases zzaa j ops.size with h|h<;>simp[h]
   rw[this];simp
  unfold At;rw[hw];simp only[zzbh,if_false];have:=(hs.t.mono (Ev.drew w γ)).get t;simpa[List.getD]using this
 unfold uc;exact zzbc (zzet) zd
end
open Go Go.RowKit
def V3(o:Oper):Bool:=o.guard.isNone
def aq2(f:FuncId):Bool:=f==229||f==169||f==114||f==43||f==44
def ail(o:Oper):Bool:=match o.op with
 |.call ⟨.value (.tmp _),_,_⟩=>o.dst.isSome
 |.call ⟨.value (.func f),_,_⟩=>o.dst.isSome&&aq2 f
 |.call ⟨.builtin .copy,_,_⟩=>true
 |.call ⟨.builtin .append,_,_⟩=>o.dst.isSome
 |.store _ _ _=>true
 |.mapUpdate _ _ _ _=>true
 |.mapEntry _ _ _=>true
 |.entryStore _ _ _ _=>true
 |_=>false
def wH(o:Oper):Bool:=ail o||(match o.op with
 |.alloc _|.box _ _|.makeMap _ _|.range _ _=>true
 |_=>false)
def aq3(f:FuncId):Bool:=f==0
def aq4(o:Oper):Bool:=match o.op with
 |.call ⟨.value (.func f),_,_⟩=>aq3 f
 |_=>false
def dG(ops:Array Oper)(p:Oper->Bool)(i:Nat):Bool:=match ops[i]? with
 |some o=>p o
 |none=>false
def P3(ops:Array Oper):Pa->Bool
 |j::j'::r=>(match ops[j']? with|some o=>(Xx o).contains j|none=>false)&&P3 ops (j'::r)
 |_=>true
def Qeg(ops:Array Oper)(p:Nat):Option (Pa):=
 let js:=(List.range p).filter (dG ops wH)
 if(List.range p).any (dG ops ail)&&P3 ops js&&((List.range p).all (dG ops V3)||(List.range p).any (dG ops aq4))&&(List.range p).all (fun i=>ops[i]?.isSome)then some js else none
inductive Fg
 |eff
 |pre
 |oth
def Fh(ops:Array Oper):Nat->Pa->Pa
 |0,s=>s
 |k+1,s=>bif s.any fun i=>wB ops i k then Fh ops k (k::s)else Fh ops k s
def uz{ops:Array Oper}{listed:Array Bool}(h:Fa ops listed):∀(k:Nat)(s:Pa),(∀i∈s,listed.getD i false=true)->∀i∈Fh ops k s,listed.getD i false=true
 |0,_,hs,i,hi=>hs i hi
 |k+1,s,hs,i,hi=>by
  simp only[Fh]at hi;cases hc:s.any fun i=>wB ops i k with
  |false=>rw[hc]at hi;exact uz h k s hs i hi
  |true=>
   rw[hc]at hi;refine uz h k (k::s) (fun j hj=>?_) i hi;rcases zzam.1 hj with rfl|hj
   ·obtain⟨x,hx,hw⟩:=zzbq.1 hc;unfold wB at hw;split at hw
    ·rename_i o ho;exact h x o (hs x hx) ho j (Nm hw)
    cases hw
   exact hs j hj
def ji(ops:Array Oper)(js:Pa)(i:Nat):Bool:=match js with
 |j::_=>(Fh ops j [j]).contains i
 |[]=>false
def Vn(ops:Array Oper)(js:Pa)(i:Nat):Fg:=bif js.contains i then .eff else bif ji ops js i then .pre else .oth
def flags(ops:Array Oper)(p:Nat)(js:Pa):List Fg:=(List.range p).map (Vn ops js)
section
variable (P:Program) (gl:Nat->AV) (orc:UV) (Y:YT)
def memEff:aF->Bool
 |.store _ _ _|.cpy _ _ _|.mupd _ _ _ _|.ment _ _ _ _|.esto _ _ _|.alloc _|.box _|.mkmap _|.rng _|.app _ _ _ _=>true
 |_=>false
def effV(v:AV):aF->AV
 |.alloc _|.box _|.mkmap _|.rng _|.ment _ _ _ _|.app _ _ _ _=>v
 |_=>.junk
def effC(e:bE->AV)(m:AM)(dst:Option Nat)(av:AV)(m1:AM):aF->Prop
 |.call f args=>(match e f with
  |.fn g first cap=>aB P gl Y g (first++args.map e++cap) m (fun x m2=>x=av/\m2=m1)
  |_=>False)
 |so=>memEff so=true/\(sop P gl orc e m dst so).1/\av=effV (sop P gl orc e m dst so).2.1 so/\m1=(sop P gl orc e m dst so).2.2
def Zy(T:P2)(o:SO):Prop:=match o.guard with
 |none=>True
 |some (some t,b)=>T.getD t .junk=.bool b
 |some (none,_)=>False
def nh(l2:List SO)(K:AS->Prop)(m:AM)(ms:QP):List SO->List Fg->QP->AM->P2->Prop
 |[],_,q,mc,T=>q=[]/\Zo P gl orc Y l2 ⟨T,mc⟩ K
 |_::_,[],_,_,_=>False
 |o::r,.eff::fl,q,mc,T=>(match q with
  |[]=>False
  |x::q=>Zy T o/\effC P gl orc Y (ev gl T) mc o.dst x.1 x.2 o.op/\nh l2 K m ms r fl q x.2 (put T o.dst x.1))
 |o::r,.pre::fl,q,mc,T=>Zy T o/\(rop P gl orc (ev gl T) m o.dst o.op).1/\nh l2 K m ms r fl q mc (put T o.dst (rop P gl orc (ev gl T) m o.dst o.op).2)
 |o::r,.oth::fl,q,mc,T=>Zy T o/\(rop P gl orc (ev gl T) m o.dst o.op).1/\(∀x∈ms,rop P gl orc (ev gl T) x.2 o.dst o.op=rop P gl orc (ev gl T) m o.dst o.op)/\nh l2 K m ms r fl q mc (put T o.dst (rop P gl orc (ev gl T) m o.dst o.op).2)
def rdC(e:bE->AV)(m:AM)(dst:Option Nat)(x:AM):aF->Prop
 |.call f args=>(match e f with
  |.fn g first cap=>aB P gl Y g (first++args.map e++cap) x (fun y m2=>y=(rop P gl orc e m dst (.call f args)).2/\m2=x)
  |_=>False)
 |_=>False
def aq5(m:AM)(ms:QP)(e:bE->AV)(dst:Option Nat)(so:aF):Prop:=
 ((rop P gl orc e m dst so).1/\∀x∈ms,rop P gl orc e x.2 dst so=rop P gl orc e m dst so)\/(rdC P gl orc Y e m dst m so/\∀x∈ms,rdC P gl orc Y e m dst x.2 so)
def ir(l2:List SO)(K:AS->Prop)(m:AM)(ms:QP):List SO->List Fg->QP->AM->P2->Prop
 |[],_,q,mc,T=>q=[]/\Zo P gl orc Y l2 ⟨T,mc⟩ K
 |_::_,[],_,_,_=>False
 |o::r,.eff::fl,q,mc,T=>(match q with
  |[]=>False
  |x::q=>Zy T o/\effC P gl orc Y (ev gl T) mc o.dst x.1 x.2 o.op/\ir l2 K m ms r fl q x.2 (put T o.dst x.1))
 |o::r,.pre::fl,q,mc,T=>Zy T o/\(rop P gl orc (ev gl T) m o.dst o.op).1/\ir l2 K m ms r fl q mc (put T o.dst (rop P gl orc (ev gl T) m o.dst o.op).2)
 |o::r,.oth::fl,q,mc,T=>Zy T o/\aq5 P gl orc Y m ms (ev gl T) o.dst o.op/\ir l2 K m ms r fl q mc (put T o.dst (rop P gl orc (ev gl T) m o.dst o.op).2)
def NC{l2:List SO}{K:AS->Prop}{m:AM}{ms:QP}:∀{l:List SO}{fl:List Fg}{q:QP}{mc:AM}{T:P2},nh P gl orc Y l2 K m ms l fl q mc T->ir P gl orc Y l2 K m ms l fl q mc T
 |[],fl,q,mc,T,h=>by simp only[nh]at h;simp only[ir];exact h
 |_::_,[],_,_,_,h=>by simp only[nh]at h
 |o::r,.eff::fl,[],mc,T,h=>by simp only[nh]at h
 |o::r,.eff::fl,x::q,mc,T,h=>by
  simp only[nh]at h;simp only[ir];exact⟨h.1,h.2.1,NC h.2.2⟩
 |o::r,.pre::fl,q,mc,T,h=>by
  simp only[nh]at h;simp only[ir];exact⟨h.1,h.2.1,NC h.2.2⟩
 |o::r,.oth::fl,q,mc,T,h=>by
  simp only[nh]at h;simp only[ir];exact⟨h.1,.inl ⟨h.2.1,h.2.2.1⟩,NC h.2.2.2⟩
end
def Fi:QQ->Nat->Option AV
 |[],_=>none
 |(k,a)::r,d=>if k=d then some a else Fi r d
def Xa:Pa->QP->QQ
 |j::js,x::q=>(j,x.1)::Xa js q
 |_,_=>[]
def Yy(listed:Array Bool):AM->Pa->QP->AM
 |m,j::js,x::q=>if listed.getD j false then Yy listed x.2 js q else m
 |m,_,_=>m
def Vz(m:AM)(ms:QP):Nat->AM
 |0=>m
 |a+1=>(ms.getD a (.junk,m)).2
def chn(listed:Array Bool):Pa->Prop
 |j::j'::r=>(listed.getD j' false=true->listed.getD j false=true)/\chn listed (j'::r)
 |_=>True
section
variable {N:Nat} {w0:eR} {r:Option Nat} {an:Nat->Nat->Prop} {S:G×World} {Y:YT} {P:Program} {gl:Nat->AV} {orc:UV} {ops:Array Oper} {T0:P2} {m:AM} {p:Nat}
def wI(listed:Array Bool):∀(js:Pa)(ms:QP)(m:AM),Yy listed m js ms=m\/∃x∈ms,Yy listed m js ms=x.2
 |[],ms,m=>.inl (by cases ms<;>rfl)
 |j::js,[],m=>.inl rfl
 |j::js,x::q,m=>by
  simp only[Yy];split
  ·rcases wI listed js q x.2 with h|⟨y,hy,h⟩
   ·exact .inr ⟨x,zd,h⟩
   exact .inr ⟨y,by simp[hy],h⟩
  exact .inl rfl
def Uz{listed:Array Bool}:∀{js:Pa}{ms:QP}{m:AM}{a:Nat},js.length=ms.length->a<=js.length->(∀b j,b<a->js[b]?=some j->listed.getD j false=true)->(∀j,js[a]?=some j->listed.getD j false=false)->
  Yy listed m js ms=Vz m ms a
 |[],[],m,a,_,ha,_,_=>by
  have:a=0:=by simpa using ha
  subst this;rfl
 |[],_::_,_,_,h,_,_,_=>by simp at h
 |_::_,[],_,_,h,_,_,_=>by simp at h
 |j::js,x::q,m,0,_,_,_,h=>by
  simp only[Yy,Vz];rw[h j rfl];rfl
 |j::js,x::q,m,a+1,hl,ha,h1,h2=>by
  simp only[Yy];rw[h1 0 j zE rfl,if_pos rfl];rw[Uz (a:=a) (Nm hl) (Nm ha) (fun b j hb hj=>h1 (b+1) j zE (Nm hj)) (fun j hj=>h2 j (Nm hj))];cases a with
  |zero=>rfl
  |succ a=>
   simp only[Vz,List.getD_cons_succ];have:a<q.length:=by simp at ha hl;omega
   simp[List.getD,this]
def qQ{listed ND:Array Bool}:∀{js:Pa}{ms:QP}{m:AM},(∀j∈js,ND.getD j false=listed.getD j false)->Yy ND m js ms=Yy listed m js ms
 |[],_,_,_=>rfl
 |_::_,[],_,_=>rfl
 |j::js,x::q,m,h=>by
  simp only[Yy];rw[h j zd,qQ fun j hj=>h j (by simp[hj])]
def Qbt{listed:Array Bool}:∀{js:Pa},chn listed js->∀{a b j j':Nat},a<b->js[a]?=some j->js[b]?=some j'->listed.getD j' false=true->listed.getD j false=true
 |[],_,a,b,j,j',_,h,_,_=>by simp at h
 |[x],_,a,b,j,j',hab,h,h',_=>by
  have:=(zza.1 h').1;simp at this;omega
 |x::y::r,hc,0,1,j,j',_,h,h',hl=>by
  simp at h h';subst h;subst h';exact hc.1 hl
 |x::y::r,hc,0,b+2,j,j',_,h,h',hl=>by
  simp at h;subst h;exact hc.1 (Qbt hc.2 (a:=0) (b:=b+1) zE rfl (Nm h') hl)
 |x::y::r,hc,a+1,b+1,j,j',hab,h,h',hl=>Qbt hc.2 (a:=a) (b:=b) zE (Nm h) (Nm h') hl
def uA{listed:Array Bool}{i:Nat}:∀{js:Pa},chn listed js->(∀a j,js[a]?=some j->js[a+1]?=some i->listed.getD j false=true)->chn (listed.setIfInBounds i true) js
 |[],_,_=>trivial
 |[_],_,_=>trivial
 |j::j'::r,hc,h=>by
  refine⟨fun hl=>?_,uA hc.2 fun a x hx iJ=>h (a+1) x (Nm hx) (Nm iJ)⟩
  have mono:∀k,listed.getD k false=true->(listed.setIfInBounds i true).getD k false=true:=fun k hk=>by
   by_cases qP:i=k
   ·subst qP
    have:i<listed.size:=by
     rcases zzaa i listed.size with h|h
     ·exact h
     simp[zzbk.2 h]at hk
    exact Xq this
   rw[Qw (Ne.symm qP)];exact hk
  by_cases eG:i=j'
  ·subst eG;exact mono j (h 0 j rfl rfl)
  rw[Qw (Ne.symm eG)]at hl;exact mono j (hc.1 hl)
def Ud{l:Pa}(h:l.Nodup){a b i:Nat}(h1:l[a]?=some i)(h2:l[b]?=some i):a=b:=by
 obtain⟨ha,ea⟩:=zza.1 h1;obtain⟨hb,eb⟩:=zza.1 h2;rcases zzdw a b with h'|h'|h'
 ·exact absurd (ea.trans eb.symm) (zzds.1 h a b ha hb h')
 ·exact h'
 exact absurd (eb.trans ea.symm) (zzds.1 h b a hb ha h')
def tP(P:Program)(gl:Nat->AV)(orc:UV)(ops:Array Oper)(m:AM)(L:QQ)(i:Nat)(T:P2):AV:=match Fi L i with
 |some av=>av
 |none=>match ops[i]? with
  |some o=>(rop P gl orc (ev gl T) m o.dst (tr P o)).2
  |none=>.junk
def bH(P:Program)(gl:Nat->AV)(orc:UV)(ops:Array Oper)(T0:P2)(m:AM)(L:QQ):Nat->P2
 |0=>T0
 |k+1=>match ops[k]? with
  |some o=>put (bH P gl orc ops T0 m L k) o.dst (tP P gl orc ops m L k (bH P gl orc ops T0 m L k))
  |none=>bH P gl orc ops T0 m L k
def Kr{L:QQ}{k:Nat}{o:Oper}(h:ops[k]?=some o):bH P gl orc ops T0 m L (k+1)=put (bH P gl orc ops T0 m L k) o.dst (tP P gl orc ops m L k (bH P gl orc ops T0 m L k)):=by
 simp only[bH,h]
def Qbd{L:QQ}:∀k,(bH P gl orc ops T0 m L k).length=T0.length
 |0=>rfl
 |k+1=>by
  cases h:ops[k]? with
  |none=>simp only[bH,h];exact Qbd k
  |some o=>rw[Kr h,wD];exact Qbd k
def Qbi{L:QQ}{t:Nat}:∀k,(∀j,j<k->Vh ops j≠some t)->(bH P gl orc ops T0 m L (k)).getD t .junk=T0.getD t .junk
 |0,_=>rfl
 |k+1,h=>by
  cases ho:ops[k]? with
  |none=>simp only[bH,ho];exact Qbi k fun j hj=>h j zE
  |some o=>
   rw[Kr ho,Qcg (by have:=h k zE;simpa[Vh,ho]using this)];exact Qbi k fun j hj=>h j zE
def Qdn{L:QQ}{t k:Nat}:∀n,(∀j,k<=j->j<k+n->Vh ops j≠some t)->(bH P gl orc ops T0 m L (k+n)).getD t .junk=(bH P gl orc ops T0 m L (k)).getD t .junk
 |0,_=>rfl
 |n+1,h=>by
  rw[<- zzan];cases ho:ops[k+n]? with
  |none=>simp only[bH,ho];exact Qdn n fun j h1 h2=>h j h1 zE
  |some o=>
   rw[Kr ho,Qcg (by have:=h (k+n) zE zE;simpa[Vh,ho]using this)];exact Qdn n fun j h1 h2=>h j h1 zE
def me(P:Program)(gl:Nat->AV)(orc:UV)(ops:Array Oper)(T0:P2)(m:AM)(L:QQ)(p:Nat)(listed:Array Bool)(t:Nat):AV:=
 if wr ops p listed t then(bH P gl orc ops T0 m L (p)).getD t .junk else T0.getD t .junk
def aim{L:QQ}(hc:uy ops p=true){listed:Array Bool}(hsz:listed.size=ops.size){i:Nat}{o:Oper}(ho:ops[i]?=some o)(dg:i<p)(hu:listed.getD i true=false)(bT:∀j∈Xx o,listed.getD j false=true)
  {t:Nat}(ht:t∈o.looksAt ops):(bH P gl orc ops T0 m L (i)).getD t .junk=me P gl orc ops T0 m L p listed t:=by
 have hi:i<ops.size:=(zzbw.1 ho).1;obtain⟨hp,cW⟩:=Zb hc;unfold me;by_cases hex:∃j,j<p/\Vh ops j=some t/\j≠i
 ·obtain⟨j,hj,hd,aO⟩:=hex;obtain⟨AD,hja⟩:=((cW i o ho).2.1 dg).1 t ht j hj hd aO
  have hw:wr ops p listed t=true:=by
   unfold wr;rw[zzbq];exact⟨j,zzaw.2 hj,by rw[bT j hja,hd];simp⟩
  rw[if_pos hw]
  have:=Qdn (P:=P) (gl:=gl) (orc:=orc) (ops:=ops) (T0:=T0) (m:=m) (L:=L) (t:=t) (k:=i) (p-i) fun k dF ef Fc=>by
   have hk:k<ops.size:=zE
   have Fe:ops[k]?=some ops[k]:=zzah hk;have:=((cW k _ Fe).2.1 zE).2 j zE t hd;simp[Vh,Fe]at Fc;exact this Fc
  rw[show i+(p-i)=p by omega]at this;exact this.symm
 have hw:wr ops p listed t=false:=by
  unfold wr;rw[zzdm];intro j hj;simp only[zzac,beq_iff_eq,not_and];intro hl hd;by_cases AD:j=i
  ·subst AD;rw[Xc zE false true,hu]at hl;cases hl
  exact hex ⟨j,zzaw.1 hj,hd,AD⟩
 rw[hw];simp only[zzbh,if_false];exact Qbi i fun j hj hd=>hex ⟨j,zE,hd,zE⟩
def CK{L:QQ}(hc:uy ops p=true){listed:Array Bool}(hsz:listed.size=ops.size){i:Nat}{o:Oper}(ho:ops[i]?=some o)(dg:i<p){t:Nat}:
  me P gl orc ops T0 m L p (listed.setIfInBounds i true) t=if o.dst=some t/\t<T0.length then tP P gl orc ops m L i (bH P gl orc ops T0 m L i)else me P gl orc ops T0 m L p listed t:=by
 have hi:i<ops.size:=(zzbw.1 ho).1;obtain⟨hp,cW⟩:=Zb hc;by_cases hd:o.dst=some t
 ·have hw:wr ops p (listed.setIfInBounds i true) t=true:=by
   unfold wr;rw[zzbq];exact⟨i,zzaw.2 dg,by rw[Xq zE];simp[Vh,ho,hd]⟩
  have hl:=Qdn (P:=P) (gl:=gl) (orc:=orc) (ops:=ops) (T0:=T0) (m:=m) (L:=L) (t:=t) (k:=i+1) (p-(i+1)) fun k dF ef Fc=>by
   have hk:k<ops.size:=zE
   have Fe:ops[k]?=some ops[k]:=zzah hk;have:=((cW k _ Fe).2.1 zE).2 i zE t (by simp[Vh,ho,hd]);simp[Vh,Fe]at Fc;exact this Fc
  rw[show i+1+(p-(i+1))=p by omega]at hl;by_cases ht:t<T0.length
  ·rw[if_pos ⟨hd,ht⟩];unfold me;rw[if_pos hw,hl,Kr ho,hd];exact Wu (by rw[Qbd];exact ht)
  rw[if_neg (by simp[ht])]
  have h1:∀k,(bH P gl orc ops T0 m L (k)).getD t .junk=.junk:=fun k=>by
   have:=Qbd (P:=P) (gl:=gl) (orc:=orc) (ops:=ops) (T0:=T0) (m:=m) (L:=L) k;simp only[List.getD];rw[zzat zE];rfl
  have h2:T0.getD t .junk=.junk:=h1 0;unfold me;rw[h1 p,h2];simp
 rw[if_neg (by simp[hd])]
 have hw:wr ops p (listed.setIfInBounds i true) t=wr ops p listed t:=by
  unfold wr;congr 1;funext j;by_cases hj:j=i
  ·subst hj;have hb:(o.dst==some t)=false:=by simpa using hd
   simp[Vh,ho,hb]
  rw[Qw hj]
 unfold me;rw[hw]
structure qR (N:Nat) (w0:eR) (r:Option Nat) (an:Nat->Nat->Prop) (S:G×World) (Y:YT) (P:Program) (gl:Nat->AV) (orc:UV) (ops:Array Oper) (T0:P2) (m:AM) (ms:QP) (js:Pa) (L:QQ) (p:Nat) (listed:Array Bool) (γ:G) (w:World) (a:Act):Prop where
 size:listed.size=ops.size
 tail:∀i,p<=i->i<ops.size->listed.getD i true=false
 ch:chn listed js
 clo:∀i o,listed.getD i false=true->ops[i]?=some o->∀j∈Xx o,listed.getD j false=true
 mm:au N w0 an γ w (Yy listed m js ms).B (Yy listed m js ms).L
 ls:cS γ w (Yy listed m js ms)
 rd:Rdr r γ w
 tl:a.tmps.size=T0.length
 tt:∀t,aA w γ (me P gl orc ops T0 m L p listed t) (a.tmps.getD t undef)
 d:Dfr S.2.heap.size γ w a.defers
 g:∀g,aA w γ.cU (gl g) (.pointer (some ⟨g,0,none⟩))
 y:YOK N w0 an P Y γ w
 e:eD S.2 S.1 w γ
def Fj:∀(js:Pa)(ms:QP)(d:Nat),d ∉ js->Fi (Xa js ms) d=none
 |[],_,_,_=>rfl
 |_::_,[],_,_=>rfl
 |j::js,x::q,d,h=>by
  simp only[Xa,Fi];rw[if_neg (by rintro rfl;exact h zd)];exact Fj js q d fun h'=>h (by simp[h'])
def Fk:∀(js:Pa)(ms:QP)(a i:Nat)(x:AV×AM),js.Nodup->js[a]?=some i->ms[a]?=some x->Fi (Xa js ms) i=some x.1
 |[],_,_,_,_,_,h,_=>by simp at h
 |_::_,[],_,_,_,_,_,h=>by simp at h
 |j::js,y::q,0,i,x,_,h,hx=>by
  simp at h hx;subst h;subst hx;simp only[Xa,Fi,if_true]
 |j::js,y::q,a+1,i,x,hn,h,hx=>by
  have qq:=zzen.1 hn;have h':js[a]?=some i:=by simpa using h
  simp only[Xa,Fi];rw[if_neg (by rintro rfl;exact qq.1 (zzad h'))];exact Fk js q a i x qq.2 h' (Nm hx)
def Qcx{js:Pa}{ms:QP}{a i:Nat}{x:AV×AM}(hn:js.Nodup)(h:js[a]?=some i)(hx:ms[a]?=some x)(T:P2):tP P gl orc ops m (Xa js ms) i T=x.1:=by
 unfold tP;rw[Fk js ms a i x hn h hx]
def jj{js:Pa}{ms:QP}{i:Nat}{o:Oper}(h:i ∉ js)(ho:ops[i]?=some o)(T:P2):tP P gl orc ops m (Xa js ms) i T=(rop P gl orc (ev gl T) m o.dst (tr P o)).2:=by
 unfold tP;rw[Fj js ms i h,ho]
def wJ{γ:G}{w:World}{a:Act}{o:Oper}{T:P2}(wK:Zy T (Xe P ops o))(zJ:∀t∈o.looksAt ops,aA w γ (T.getD t .junk) (a.tmps.getD t undef)):Region.wanted o (yielded ops a.tmps)=true:=by
 cases hg:o.guard with
 |none=>simp[Region.wanted,hg]
 |some jw=>
  obtain⟨j,want⟩:=jw;have e1:(Xe P ops o).guard=some ((ops[j]?).bind (·.dst),want):=by simp[Xe,hg]
  unfold Zy at wK;rw[e1]at wK;cases hj:(ops[j]?).bind (·.dst)with
  |none=>rw[hj]at wK;exact wK.elim
  |some t=>
   rw[hj]at wK;simp only at wK;have lZ:t∈o.looksAt ops:=by simp[Oper.looksAt,hg,hj]
   have aX:=zJ t lZ;rw[wK]at aX;have hb:=aX.bw
   have bZ:t<a.tmps.size:=by
    rcases zzaa t a.tmps.size with h|h
    ·exact h
    simp[zzbo h,undef]at hb
   simp[bZ]at hb;have hy:yielded ops a.tmps j=some want:=by simp only[yielded,hj,zzcv,zzah bZ,hb]
   simp only[Region.wanted,hg,hy];cases want<;>rfl
def Qcj{ms:QP}{js:Pa}(hc:uy ops p=true){Q:PP}{listed:Array Bool}{γ:G}{w:World}{a:Act}
  (hI:qR N w0 r an S Y P gl orc ops T0 m ms js (Xa js ms) p listed γ w a){i:Nat}{o:Oper}(ho:ops[i]?=some o)(dg:i<p)(wK:Zy (bH P gl orc ops T0 m (Xa js ms) i) (Xe P ops o))(aH:js.length=ms.length)(iL:js.Nodup)
  (hu:listed.getD i true=false)(bT:∀j∈Xx o,listed.getD j false=true)(nj:∀a j,js[a]?=some j->js[a+1]?=some i->listed.getD j false=true)
  (aO:i ∉ js->((rop P gl orc (ev gl (bH P gl orc ops T0 m (Xa js ms) i)) m o.dst (tr P o)).1/\(ji ops js i=false->∀x∈ms,rop P gl orc (ev gl (bH P gl orc ops T0 m (Xa js ms) i)) x.2 o.dst (tr P o)=rop P gl orc (ev gl (bH P gl orc ops T0 m (Xa js ms) i)) m o.dst (tr P o)))\/(rdC P gl orc Y (ev gl (bH P gl orc ops T0 m (Xa js ms) i)) m o.dst m (tr P o)/\∀x∈ms,rdC P gl orc Y (ev gl (bH P gl orc ops T0 m (Xa js ms) i)) m o.dst x.2 (tr P o)))
  (Ef:∀k x,js[k]?=some i->ms[k]?=some x->effC P gl orc Y (ev gl (bH P gl orc ops T0 m (Xa js ms) i)) (Vz m ms k) o.dst x.1 x.2 (tr P o)):
  wpOpIn (FW r) 0 P ops Q i (fun a' w'=>∃γ',qR N w0 r an S Y P gl orc ops T0 m ms js (Xa js ms) p (listed.setIfInBounds i true) γ' w' a'/\∀t,o.dst≠some t->a'.tmps.getD t undef=a.tmps.getD t undef) a w:=by
 have hi:i<ops.size:=(zzbw.1 ho).1;have je:i<listed.size:=by rw[hI.size];exact hi
 have zJ:∀t∈o.looksAt ops,aA w γ ((bH P gl orc ops T0 m (Xa js ms) i).getD t .junk) (a.tmps.getD t undef):=fun t ht=>by
  rw[aim (P:=P) (gl:=gl) (orc:=orc) (T0:=T0) (m:=m) (L:=Xa js ms) hc hI.size ho dg hu bT ht];exact hI.tt t
 have dw:∀x∈o.op.operands,aA w γ (ev gl (bH P gl orc ops T0 m (Xa js ms) i) (aC x)) (a.eval x):=fun x hx=>by
  cases x with
  |tmp t=>exact zJ t (by simp only[Oper.looksAt,zzao,zzfg];exact .inl ⟨.tmp t,Nm hx,rfl⟩)
  |const v=>exact Kc w γ v
  |func f=>exact .fn rfl (fun i c v h=>by simp at h) rfl fun i c v h=>by simp at h
  |global g=>exact(hI.g g).gp
 have iu:chn (listed.setIfInBounds i true) js:=uA hI.ch fun a j h1 h2=>nj a j h1 h2;have hpr:Fa ops (listed.setIfInBounds i true):=Fa.set hI.clo ho je bT
 have fin:∀{v:Value}{w':World}{γ':G},eD w γ w' γ'->au N w0 an γ' w' (Yy (listed.setIfInBounds i true) m js ms).B (Yy (listed.setIfInBounds i true) m js ms).L->cS γ' w' (Yy (listed.setIfInBounds i true) m js ms)->
   aA w' γ' (tP P gl orc ops m (Xa js ms) i (bH P gl orc ops T0 m (Xa js ms) i)) v->∃γ',qR N w0 r an S Y P gl orc ops T0 m ms js (Xa js ms) p (listed.setIfInBounds i true) γ' w' (a.put o.dst v)/\∀t,o.dst≠some t->(a.put o.dst v).tmps.getD t undef=a.tmps.getD t undef:=fun{v w' γ'}he hm hl hr=>by
  have aww:∀t,o.dst≠some t->(a.put o.dst v).tmps.getD t undef=a.tmps.getD t undef:=fun t hd=>by
   cases zC:o.dst with
   |none=>rfl
   |some d=>simp only[Act.put];simp;rw[zzcp (by rintro rfl;exact hd zC)]
  refine⟨γ',⟨by simp[hI.size],fun j dX oq=>by rw[Qw zE];exact hI.tail j dX oq,iu,hpr,hm,hl,hI.rd.aU he,?_,fun t=>?_,?_,fun g=>(hI.g g).aU he.cU,hI.y.mono he,hI.e.trans he⟩,aww⟩
  ·cases hd:o.dst<;>simp[Act.put,hI.tl]
  ·rw[CK hc hI.size ho dg];by_cases hd:o.dst=some t
   ·by_cases ht:t<T0.length
    ·rw[if_pos ⟨hd,ht⟩,hd];have:(a.put (some t) v).tmps.getD t undef=v:=by simp[Act.put,hI.tl,ht]
     rw[this];exact hr
    rw[if_neg (by simp[ht]),hd];have:(a.put (some t) v).tmps.getD t undef=a.tmps.getD t undef:=by simp[Act.put,hI.tl,ht]
    rw[this];exact(hI.tt t).aU he
   rw[if_neg (by simp[hd])]
   have:(a.put o.dst v).tmps.getD t undef=a.tmps.getD t undef:=by
    cases zC:o.dst with
    |none=>rfl
    |some d=>simp only[Act.put];simp;rw[zzcp (by rintro rfl;exact hd zC)]
   rw[this];exact(hI.tt t).aU he
  cases hd:o.dst<;>exact hI.d.aU he
 simp only[wpOpIn,ho];have hw:Region.wanted o (yielded ops a.tmps)=true:=wJ wK zJ;rw[if_pos hw];by_cases eG:i∈js
 ·obtain⟨k,hk⟩:=zzcq.1 eG;have qt:k<ms.length:=by rw[<- aH];exact(zza.1 hk).1
  obtain⟨x,hx⟩:∃x,ms[k]?=some x:=⟨ms[k],zzaf qt⟩;have h1:=Ef k x hk hx;have h2:=Qcx (P:=P) (gl:=gl) (orc:=orc) (ops:=ops) (m:=m) iL hk hx (bH P gl orc ops T0 m (Xa js ms) i);have JU:listed.getD i false=false:=by rw[Xc je false true];exact hu
  have CL:∀b j,b<k->js[b]?=some j->listed.getD j false=true:=fun b j hb hj=>by
   have dz:k-1<js.length:=by have:=(zza.1 hk).1;omega
   obtain⟨j1,dX⟩:∃j1,js[k-1]?=some j1:=⟨js[k-1],zzaf dz⟩;have gP:=nj (k-1) j1 dX (by rw[show k-1+1=k by omega];exact hk);rcases zzaa b (k-1)with h|h
   ·exact Qbt hI.ch h hj dX gP
   obtain rfl:b=k-1:=zE
   rw[hj]at dX;cases dX;exact gP
  have JX:Yy listed m js ms=Vz m ms k:=Uz aH (by have:=(zza.1 hk).1;omega) CL (fun j hj=>by rw[hk]at hj;cases hj;exact JU)
  have tN:Yy (listed.setIfInBounds i true) m js ms=x.2:=by
   have:=Uz (listed:=listed.setIfInBounds i true) (m:=m) (a:=k+1) aH (by have:=(zza.1 hk).1;omega) (fun b j hb hj=>?_) (fun j hj=>?_)
   ·rw[this];simp[Vz,List.getD,hx]
   ·rcases zzaa b k with h|h
    ·have fK:j≠i:=by
      rintro rfl;have:=Ud iL hj hk;omega
     rw[Qw fK];exact CL b j h hj
    obtain rfl:b=k:=zE
    rw[hk]at hj;cases hj;exact Xq je
   have fK:j≠i:=by
    rintro rfl;have:=Ud iL hj hk;omega
   rw[Qw fK];cases hl:listed.getD j false with
   |false=>rfl
   |true=>rw[Qbt hI.ch (zzez k) hk hj hl]at JU;cases JU
  rw[tN,h2]at fin;have gR:=hI.mm;have iK:=hI.ls;rw[JX]at gR iK
  have zK:ew N w0 r an S P gl Y γ w ⟨(List.range T0.length).map fun t=>me P gl orc ops T0 m (Xa js ms) p listed t,Vz m ms k⟩ a:=by
   refine⟨gR,iK,hI.rd,⟨by simp[hI.tl],fun t x v hx hv=>?_⟩,hI.d,hI.g,hI.y,hI.e⟩
   ·have ah:t<T0.length:=by
     rcases zzaa t T0.length with h|h
     ·exact h
     simp[zzbk.2 h]at hx
    simp[ah]at hx;have:=hI.tt t;rw[hx]at this;have EV:a.tmps.getD t undef=v:=by simp at hv;simp[hv]
    rwa [EV]at this
  have mem:∀so,tr P o=so->memEff so=true->((sop P gl orc (ev gl (bH P gl orc ops T0 m (Xa js ms) i)) (Vz m ms k) o.dst so).1/\x.1=effV (sop P gl orc (ev gl (bH P gl orc ops T0 m (Xa js ms) i)) (Vz m ms k) o.dst so).2.1 so/\x.2=(sop P gl orc (ev gl (bH P gl orc ops T0 m (Xa js ms) i)) (Vz m ms k) o.dst so).2.2)->
    o.wpIn (FW r) 0 P a w (fun a' w'=>∃γ',qR N w0 r an S Y P gl orc ops T0 m ms js (Xa js ms) p (listed.setIfInBounds i true) γ' w' a'/\∀t,o.dst≠some t->a'.tmps.getD t undef=a.tmps.getD t undef) Q:=fun so P0 _⟨k1,k2,k3⟩=>by
   refine AR (orc:=orc) (K:=fun av' m'=>x.1=effV av' so/\m'=x.2) gR hI.g dw ⟨by rw[P0];exact k1,by rw[P0];exact⟨k2,k3.symm⟩⟩ r _ Q fun v w' γ' av' m' hK h3 h4 h5 h6=>?_;obtain⟨VU,rfl⟩:=hK;refine fin h4.cH h5 (iK.mono' h4 h3) ?_;rw[VU];unfold effV;split<;>first|exact h6|exact .junk _
  cases Iz:tr P o with
  |call f args=>
   rw[Iz]at h1
   have mV:Qao P gl Y (ev gl (bH P gl orc ops T0 m (Xa js ms) i)) (Vz m ms k) (fun y m2=>y=x.1/\m2=x.2) (tr P o):=by
    rw[Iz];simp only[effC]at h1;simp only[Qao];split at h1
    ·rename_i g first cap bP;simp only[bP];exact h1
    exact h1.elim
   refine Qdm zK dw mV fun v w' γ' av' m' hK h3 h4 h5 h6=>?_;obtain⟨rfl,rfl⟩:=hK;exact fin h3 h4 h5 h6
  |_=>rw[Iz]at h1;first|exact mem _ Iz h1.1 h1.2|exact absurd h1.1 (by simp[memEff])
 rcases aO eG with⟨h1,h2⟩|iM
 ·have bS:Yy (listed.setIfInBounds i true) m js ms=Yy listed m js ms:=qQ fun j hj=>Qw (by rintro rfl;exact eG hj);rw[bS]at fin;have gR:=hI.mm;have iK:=hI.ls
  have aq6:rop P gl orc (ev gl (bH P gl orc ops T0 m (Xa js ms) i)) (Yy listed m js ms) o.dst (tr P o)=rop P gl orc (ev gl (bH P gl orc ops T0 m (Xa js ms) i)) m o.dst (tr P o):=by
   cases kJ:ji ops js i with
   |false=>
    rcases wI listed js ms m with h|⟨x,hx,h⟩
    ·rw[h]
    rw[h];exact h2 kJ x hx
   |true=>
    have JX:Yy listed m js ms=m:=by
     cases js with
     |nil=>cases ms<;>rfl
     |cons j0 js=>
      simp only[ji]at kJ
      have hn:listed.getD j0 false=false:=by
       cases hl:listed.getD j0 false with
       |false=>rfl
       |true=>
        have:=uz (ops:=ops) (listed:=listed) hI.clo j0 [j0] (fun k hk=>by rw[zzcg.1 hk];exact hl) i (Nm kJ);rw[Xc je false true,hu]at this;cases this
      cases ms with
      |nil=>rfl
      |cons x q=>simp only[Yy,hn];rfl
    rw[JX]
  generalize Yy listed m js ms=mL at*
  refine Qcy (m:=mL) gR (fun _ _ h=>h) hI.g dw (by rw[aq6];exact h1) r _ Q fun v w' γ' q1 q2 q3=>?_;rw[aq6]at q3;exact fin q1.cH q2 (iK.mono q1) (by rw[jj eG ho];exact q3)
 have bS:Yy (listed.setIfInBounds i true) m js ms=Yy listed m js ms:=qQ fun j hj=>Qw (by rintro rfl;exact eG hj);rw[bS]at fin;have gR:=hI.mm;have iK:=hI.ls
 have hL:rdC P gl orc Y (ev gl (bH P gl orc ops T0 m (Xa js ms) i)) m o.dst (Yy listed m js ms) (tr P o):=by
  rcases wI listed js ms m with h|⟨x,hx,h⟩
  ·rw[h];exact iM.1
  rw[h];exact iM.2 x hx
 generalize Yy listed m js ms=mL at*
 have zK:ew N w0 r an S P gl Y γ w ⟨(List.range T0.length).map fun t=>me P gl orc ops T0 m (Xa js ms) p listed t,mL⟩ a:=by
  refine⟨gR,iK,hI.rd,⟨by simp[hI.tl],fun t x v hx hv=>?_⟩,hI.d,hI.g,hI.y,hI.e⟩
  ·have ah:t<T0.length:=by
    rcases zzaa t T0.length with h|h
    ·exact h
    simp[zzbk.2 h]at hx
   simp[ah]at hx;have:=hI.tt t;rw[hx]at this;have EV:a.tmps.getD t undef=v:=by simp at hv;simp[hv]
   rwa [EV]at this
 cases Iz:tr P o with
 |call f args=>
  rw[Iz]at hL
  have mV:Qao P gl Y (ev gl (bH P gl orc ops T0 m (Xa js ms) i)) mL (fun y m2=>y=(rop P gl orc (ev gl (bH P gl orc ops T0 m (Xa js ms) i)) m o.dst (.call f args)).2/\m2=mL) (tr P o):=by
   rw[Iz];simp only[rdC]at hL;simp only[Qao];split at hL
   ·rename_i g first cap bP;simp only[bP];exact hL
   exact hL.elim
  refine Qdm zK dw mV fun v w' γ' av' m' hK h3 h4 h5 h6=>?_;obtain⟨rfl,rfl⟩:=hK;exact fin h3 h4 h5 (by rw[jj eG ho,Iz];exact h6)
 |_=>rw[Iz]at hL;exact(show False from hL).elim
def uB:∀{js:Pa},P3 ops js=true->∀a j j' o,js[a]?=some j->js[a+1]?=some j'->ops[j']?=some o->j∈Xx o
 |[],_,a,j,j',o,h,_,_=>by simp at h
 |[x],_,a,j,j',o,h,h',_=>by
  have:=(zza.1 h').1;simp at this
 |x::y::r,hc,0,j,j',o,h,h',ho=>by
  simp at h h';subst h;subst h';simp only[P3,zzac,ho]at hc;simpa using hc.1
 |x::y::r,hc,a+1,j,j',o,h,h',ho=>by
  simp only[P3,zzac]at hc;exact uB hc.2 a j j' o (Nm h) (Nm h') ho
def Kg{js:Pa}(h:Qeg ops p=some js):js=(List.range p).filter (dG ops wH)/\P3 ops js=true/\∀i,i<p->∃o,ops[i]?=some o:=by
 unfold Qeg at h;simp only at h;split at h
 case isFalse=>cases h
 rename_i bD;cases h;simp only[zzac]at bD;refine⟨rfl,bD.1.1.2,fun i hi=>?_⟩;have h1:=zzay.1 bD.2 i (zzaw.2 hi);exact zzbz.1 h1
def cR(ops:Array Oper)(k:Nat):Nat:=((List.range k).filter (dG ops wH)).length
def jk(k:Nat):cR ops (k+1)=cR ops k+(if dG ops wH k=true then 1 else 0):=by
 simp only[cR,zzfc,zzde,zzak];cases h:dG ops wH k<;>simp[h]
def JY{i:Nat}(hi:i<p)(hd:dG ops wH i=true):((List.range p).filter (dG ops wH))[cR ops i]?=some i:=by
 obtain⟨n,rfl⟩:∃n,p=i+(n+1):=⟨p-i-1,zE⟩;rw[List.range_add,zzde];have hl:cR ops i=((List.range i).filter (dG ops wH)).length:=rfl;rw[hl,zzap (zzab _),zzgu,zzas,zzcn,zzcy hd];simp
def NF{ms:QP}{js:Pa}(l2:List SO)(K:AS->Prop)(hp:p<=ops.size)(fU:js=(List.range p).filter (dG ops wH)):∀(n k:Nat)(mc:AM),k+n=p->cR ops k<=ms.length->mc=Vz m ms (cR ops k)->
  ir P gl orc Y l2 K m ms (((ops.toList.take p).drop k).map (Xe P ops)) ((flags ops p js).drop k) (ms.drop (cR ops k)) mc (bH P gl orc ops T0 m (Xa js ms) k)->
  js.length=ms.length/\
  (
   ∀i o,k<=i->i<p->ops[i]?=some o->
   (i ∉ js->((rop P gl orc (ev gl (bH P gl orc ops T0 m (Xa js ms) i)) m o.dst (tr P o)).1/\(ji ops js i=false->∀x∈ms,rop P gl orc (ev gl (bH P gl orc ops T0 m (Xa js ms) i)) x.2 o.dst (tr P o)=rop P gl orc (ev gl (bH P gl orc ops T0 m (Xa js ms) i)) m o.dst (tr P o)))\/(rdC P gl orc Y (ev gl (bH P gl orc ops T0 m (Xa js ms) i)) m o.dst m (tr P o)/\∀x∈ms,rdC P gl orc Y (ev gl (bH P gl orc ops T0 m (Xa js ms) i)) m o.dst x.2 (tr P o)))/\
   (∀b x,js[b]?=some i->ms[b]?=some x->effC P gl orc Y (ev gl (bH P gl orc ops T0 m (Xa js ms) i)) (Vz m ms b) o.dst x.1 x.2 (tr P o))/\Zy (bH P gl orc ops T0 m (Xa js ms) i) (Xe P ops o))/\
  Zo P gl orc Y l2 ⟨(bH P gl orc ops T0 m (Xa js ms) p),Vz m ms ms.length⟩ K:=by
 have dD:∀j,j∈js<->j<p/\dG ops wH j=true:=fun j=>by rw[fU,zzca,zzaw]
 have iL:js.Nodup:=by rw[fU];exact(zzdl).filter _
 have Iv:∀i,i<p->dG ops wH i=true->js[cR ops i]?=some i:=fun i h1 h2=>by rw[fU];exact JY h1 h2
 have V4:∀{a b i:Nat},js[a]?=some i->js[b]?=some i->a=b:=fun{a b i}h1 h2=>Ud iL h1 h2;intro n;induction n with
 |zero=>
  intro k mc hk qs VT h;obtain rfl:k=p:=zE
  have e0:(ops.toList.take k).drop k=[]:=zzal (by simp;omega);rw[e0]at h;simp only[zzcs,ir]at h;have fA:ms.length<=cR ops k:=zzfm.1 h.1;have Cy:cR ops k=js.length:=by rw[fU];rfl
  have hcc:cR ops k=ms.length:=zE
  refine⟨zE,fun i o h1 h2=>zE,?_⟩;rw[<- hcc,<- VT];exact h.2
 |succ n ih=>
  intro k mc hk qs VT h;have bZ:k<ops.size:=zE
  have ho:ops[k]?=some ops[k]:=zzah bZ
  have hd:(ops.toList.take p).drop k=ops[k]::(ops.toList.take p).drop (k+1):=by
   rw[zzag (by simp;omega)];simp
  have fu:(flags ops p js).drop k=Vn ops js k::(flags ops p js).drop (k+1):=by
   rw[zzag (by simp[flags];omega)];simp[flags]
  rw[hd,fu,zzas]at h;have E6:=Kr (P:=P) (gl:=gl) (orc:=orc) (T0:=T0) (m:=m) (L:=Xa js ms) ho;have e2:(Xe P ops ops[k]).op=tr P ops[k]:=rfl;have e3:(Xe P ops ops[k]).dst=ops[k].dst:=rfl;have fC:=jk (ops:=ops) k;cases gr:js.contains k with
  |true=>
   have A0:k∈js:=by simpa using gr
   have oQ:=((dD k).1 A0).2;rw[oQ,if_pos rfl]at fC;rw[show Vn ops js k=.eff by simp only[Vn,gr,cond_true]]at h;simp only[ir,e2,e3]at h;split at h
   ·exact h.elim
   rename_i x q hq
   have JZ:cR ops k<ms.length:=by
    rcases zzaa (cR ops k) ms.length with h'|h'
    ·exact h'
    rw[zzal h']at hq;cases hq
   have hx:ms[cR ops k]?=some x:=by
    have:(ms.drop (cR ops k))[0]?=some x:=by rw[hq];rfl
    simpa using this
   have hq':ms.drop (cR ops (k+1))=q:=by
    rw[fC,<- zze,hq];rfl
   obtain⟨hgr,h1,h2⟩:=h;have tM:=Iv k zE oQ;have cB:=Qcx (P:=P) (gl:=gl) (orc:=orc) (ops:=ops) (m:=m) iL tM hx (bH P gl orc ops T0 m (Xa js ms) k);rw[cB]at E6
   obtain⟨r1,r2,r3⟩:=ih (k+1) x.2 zE zE (by rw[fC];simp[Vz,List.getD,hx]) (by
    rw[E6,hq'];exact h2)
   refine⟨r1,fun i o hi dg AW=>?_,r3⟩;rcases zzaa k i with fh|fh
   ·exact r2 i o fh dg AW
   obtain rfl:i=k:=zE
   rw[ho]at AW;cases AW;refine⟨fun h=>absurd A0 h,fun b y hb hy=>?_,hgr⟩;obtain rfl:=V4 hb tM;rw[hx]at hy;cases hy;rw[<- VT];exact h1
  |false=>
   have A0:k ∉ js:=by simpa using gr
   have oQ:dG ops wH k=false:=by
    cases CM:dG ops wH k with
    |false=>rfl
    |true=>exact absurd ((dD k).2 ⟨zE,CM⟩) A0
   rw[oQ,if_neg zd,zzcn]at fC
   obtain⟨hgr,h1,h3⟩:Zy (bH P gl orc ops T0 m (Xa js ms) k) (Xe P ops ops[k])/\(((rop P gl orc (ev gl (bH P gl orc ops T0 m (Xa js ms) k)) m ops[k].dst (tr P ops[k])).1/\(ji ops js k=false->∀x∈ms,rop P gl orc (ev gl (bH P gl orc ops T0 m (Xa js ms) k)) x.2 ops[k].dst (tr P ops[k])=rop P gl orc (ev gl (bH P gl orc ops T0 m (Xa js ms) k)) m ops[k].dst (tr P ops[k])))\/(rdC P gl orc Y (ev gl (bH P gl orc ops T0 m (Xa js ms) k)) m ops[k].dst m (tr P ops[k])/\∀x∈ms,rdC P gl orc Y (ev gl (bH P gl orc ops T0 m (Xa js ms) k)) m ops[k].dst x.2 (tr P ops[k])))/\
     ir P gl orc Y l2 K m ms (((ops.toList.take p).drop (k+1)).map (Xe P ops)) ((flags ops p js).drop (k+1)) (ms.drop (cR ops k)) mc (put (bH P gl orc ops T0 m (Xa js ms) k) ops[k].dst (rop P gl orc (ev gl (bH P gl orc ops T0 m (Xa js ms) k)) m ops[k].dst (tr P ops[k])).2):=by
    cases kJ:ji ops js k with
    |true=>
     rw[show Vn ops js k=.pre by simp only[Vn,gr,kJ,cond_true,cond_false]]at h;simp only[ir,e2,e3]at h;exact⟨h.1,.inl ⟨h.2.1,fun h=>(by cases h)⟩,h.2.2⟩
    |false=>
     rw[show Vn ops js k=.oth by simp only[Vn,gr,kJ,cond_false]]at h;simp only[ir,e2,e3]at h;exact⟨h.1,h.2.1.imp_left fun h=>⟨h.1,fun _=>h.2⟩,h.2.2⟩
   rw[jj A0 ho]at E6;obtain⟨r1,r2,r3⟩:=ih (k+1) mc zE zE (by rw[fC];exact VT) (by rw[E6,fC];exact h3);refine⟨r1,fun i o hi dg AW=>?_,r3⟩;rcases zzaa k i with fh|fh
   ·exact r2 i o fh dg AW
   obtain rfl:i=k:=zE
   rw[ho]at AW;cases AW;refine⟨fun _=>h1,fun b y hb=>absurd (zzad hb) A0,hgr⟩
def sx{Q:PP}{K:AS->Prop}{γ:G}{w:World}{s:AS}{a:Act}{js:Pa}(hQ:∀γ w s a,K s->ew N w0 r an S P gl Y γ w s a->Q .normal a w)(hc:uy ops p=true)(hj:Qeg ops p=some js)
  {ms:QP}(h:ir P gl orc Y ((ops.toList.drop p).map (Xe P ops)) K s.m ms ((ops.toList.take p).map (Xe P ops)) (flags ops p js) ms s.m s.T)(hs:ew N w0 r an S P gl Y γ w s a):
  wpAnyIn (FW r) 0 P .any ops Q ops.size (Array.replicate ops.size false) a {w with drawn:=w.drawn+1}:=by
 obtain⟨hp,cW⟩:=Zb hc;obtain⟨fU,hjc,gC⟩:=Kg hj;have iL:js.Nodup:=by rw[fU];exact(zzdl).filter _
 have wL:∀j∈js,j<p:=fun j h=>by rw[fU,zzca]at h;exact zzaw.1 h.1
 obtain⟨aH,h1,h2⟩:=NF (P:=P) (gl:=gl) (orc:=orc) (T0:=s.T) (m:=s.m) ((ops.toList.drop p).map (Xe P ops)) K hp fU p 0 s.m zd (by simp[cR]) (by simp[cR,Vz]) (by simpa[bH,cR]using h)
 have full:∀(aT:Nat)(listed:Array Bool)(γ:G)(w:World)(a:Act),qR N w0 r an S Y P gl orc ops s.T s.m ms js (Xa js ms) p listed γ w a->uc ops listed<=aT->(∀i,i<p->listed.getD i false=true)->wpAnyIn (FW r) 0 P .any ops Q aT listed a w:=by
  intro aT listed γ w a hI jh bD;have hml:Yy listed s.m js ms=Vz s.m ms ms.length:=Uz aH zE (fun b j _ hb=>bD j (wL j (zzad hb))) (fun j hj=>by rw[zzat zE]at hj;cases hj);have gR:=hI.mm;have iK:=hI.ls;rw[hml]at gR iK;refine Qdy hQ hc aT p listed γ w _ a (zzab _) hp hI.size bD hI.tail jh h2 ⟨gR,iK,hI.rd,⟨?_,fun t x v hx hv=>?_⟩,hI.d,hI.g,hI.y,hI.e⟩
  ·simp[Qbd,hI.tl]
  have h1:=hI.tt t
  have hAt:me P gl orc ops s.T s.m (Xa js ms) p listed t=x:=by
   have iJ:(bH P gl orc ops s.T s.m (Xa js ms) p).getD t .junk=x:=by simp only at hx;simp[List.getD,hx]
   unfold me;split
   ·exact iJ
   rename_i hw;rw[<- iJ];refine(Qbi p fun j hj hd=>hw ?_).symm;unfold wr;rw[zzbq];exact⟨j,zzaw.2 hj,by rw[bD j hj,hd];simp⟩
  rw[hAt]at h1;have:a.tmps.getD t undef=v:=by simp at hv;simp[hv]
  rwa [this]at h1
 have main:∀(aT:Nat)(listed:Array Bool)(γ:G)(w:World)(a:Act),qR N w0 r an S Y P gl orc ops s.T s.m ms js (Xa js ms) p listed γ w a->uc ops listed<=aT->wpAnyIn (FW r) 0 P .any ops Q aT listed a w:=by
  intro aT;induction aT with
  |zero=>
   intro listed γ w a hI jh
   exact full 0 listed γ w a hI jh fun i hi=>by
    rw[Xc (by rw[hI.size];omega) false true];exact Qdx (zzfa.1 jh) zE
  |succ aT ih=>
   intro listed γ w a hI jh;by_cases bD:∀i,i<p->listed.getD i false=true
   ·exact full (aT+1) listed γ w a hI jh bD
   have hex:∃k,k<p/\listed.getD k true=false:=by
    refine Classical.byContradiction fun hn=>bD fun i hi=>?_;rw[Xc (by rw[hI.size];omega) false true];cases hl:listed.getD i true with
    |true=>rfl
    |false=>exact absurd ⟨i,hi,hl⟩ hn
   obtain⟨k,hk,JW⟩:=hex;refine⟨fun hr=>?_,fun i hi=>?_⟩
   ·obtain⟨j,hj⟩:=Uj hc hI.size k k (zzab _) zE JW;rw[hr]at hj;cases hj
   obtain⟨ah,hu,o,ho,bT⟩:=Uk hc hi
   have dg:i<p:=by
    rcases zzaa i p with h|h
    ·exact h
    have:=Qbk hI.clo ho ((cW i o ho).2.2 h) bT i k zE zE;rw[Xc (by rw[hI.size];omega) false true,JW]at this;cases this
   refine wpOpIn_mono ?_ (Qcj hc hI ho dg (h1 i o (zzbp _) dg ho).2.2 aH iL hu bT (fun a j e1 e2=>bT j (uB hjc a j i o e1 e2 ho)) (h1 i o (zzbp _) dg ho).1 (h1 i o (zzbp _) dg ho).2.1);rintro a' w' ⟨γ',lJ,_⟩;refine ih _ γ' w' a' lJ ?_;have:=jg hI.size ah hu;omega
 have tO:∀j,(Array.replicate ops.size false).getD j false=false:=fun j=>by
  rcases zzaa j ops.size with h|h<;>simp[h]
 have nj:∀V5:Pa,chn (Array.replicate ops.size false) V5:=fun V5=>by
  induction V5 with
  |nil=>trivial
  |cons j r ih=>
   cases r with
   |nil=>trivial
   |cons j' r=>exact⟨fun h=>(by rw[tO]at h;cases h),ih⟩
 have JX:Yy (Array.replicate ops.size false) s.m js ms=s.m:=Uz (a:=0) aH zE (fun b j hb=>zE) (fun j _=>tO j);refine main ops.size _ γ w.drew a ⟨zd,fun i _ hi=>by simp[hi],nj js,fun j o h=>(by rw[tO]at h;cases h),?_,?_,hs.rd.aU (Ev.drew w γ).cH,?_,fun t=>?_,hs.d.aU (Ev.drew w γ).cH,fun g=>(hs.g g).mono (Ev.drew w γ).cU,hs.y.mono (Ev.drew w γ).cH,hs.e.trans (Ev.drew w γ).cH⟩ ?_
 ·rw[JX];exact hs.m.drew
 ·rw[JX];exact hs.ls.mono (Ev.drew w γ)
 ·have:=hs.t.1;simp at this;omega
 ·have hw:wr ops p (Array.replicate ops.size false) t=false:=by
   unfold wr;rw[zzdm];intro j _;rw[tO j];simp
  unfold me;rw[hw];simp only[zzbh,if_false];have:=(hs.t.mono (Ev.drew w γ)).get t;simpa[List.getD]using this
 unfold uc;exact zzbc (zzet) zd
end
open Go
def wM(ops:Array Oper)(p:Nat)(js:Pa):Bool:=match js.getLast? with
 |some j=>(List.range p).all fun i=>decide (i<=j)||(Fh ops i [i]).contains j
 |none=>false
def bkF(ops:Array Oper)(p:Nat)(js:Pa):List Fg:=bif wM ops p js then[.eff]else[]
def adU(fl:List Fg)(l:List SO):Bool:=!(fl.drop l.length).isEmpty
section
variable (P:Program) (gl:Nat->AV) (orc:UV) (Y:YT)
def effR(e:bE->AV)(m:AM)(R:So):aF->Prop
 |.call f args=>(match e f with
  |.fn g first cap=>aB P gl Y g (first++args.map e++cap) m R
  |_=>False)
 |_=>False
def iN(R:So)(l2:List SO)(K:AS->Prop)(m:AM)(ms:QP):List SO->List Fg->QP->AM->P2->Prop
 |[],_,q,mc,T=>q=[]/\Zo P gl orc Y l2 ⟨T,mc⟩ K
 |_::_,[],_,_,_=>False
 |o::r,.eff::fl,q,mc,T=>(match q with
  |[]=>False
  |x::q=>Zy T o/\((q=[]->effR P gl Y (ev gl T) mc R o.op)/\(q≠[]->effC P gl orc Y (ev gl T) mc o.dst x.1 x.2 o.op))/\iN R l2 K m ms r fl q x.2 (put T o.dst x.1))
 |o::r,.pre::fl,q,mc,T=>Zy T o/\(rop P gl orc (ev gl T) m o.dst o.op).1/\iN R l2 K m ms r fl q mc (put T o.dst (rop P gl orc (ev gl T) m o.dst o.op).2)
 |o::r,.oth::fl,q,mc,T=>Zy T o/\(rop P gl orc (ev gl T) m o.dst o.op).1/\(∀x∈ms,rop P gl orc (ev gl T) x.2 o.dst o.op=rop P gl orc (ev gl T) m o.dst o.op)/\iN R l2 K m ms r fl q mc (put T o.dst (rop P gl orc (ev gl T) m o.dst o.op).2)
def Zk(m:AM):List SO->List Fg->QP->P2->P2
 |o::r,.eff::fl,x::q,T=>Zk m r fl q (put T o.dst x.1)
 |o::r,_::fl,[],T=>(rop P gl orc (ev gl T) m o.dst o.op).2::Zk m r fl [] (put T o.dst (rop P gl orc (ev gl T) m o.dst o.op).2)
 |o::r,_::fl,x::q,T=>Zk m r fl (x::q) (put T o.dst (rop P gl orc (ev gl T) m o.dst o.op).2)
 |_,_,_,_=>[]
def jm{l2:List SO}{K:AS->Prop}{m:AM}{ms:QP}{ex:List Fg}:∀{l:List SO}{fl:List Fg}{q:QP}{mc:AM}{T:P2},fl.length=l.length->ir P gl orc Y l2 K m ms l (fl++ex) q mc T->ir P gl orc Y l2 K m ms l fl q mc T
 |[],[],q,mc,T,_,h=>by simpa only[ir]using h
 |[],_::_,_,_,_,hl,_=>by simp at hl
 |_::_,[],_,_,_,hl,_=>by simp at hl
 |o::r,.eff::fl,[],mc,T,hl,h=>by simp only[zzae,ir]at h
 |o::r,.eff::fl,x::q,mc,T,hl,h=>by
  simp only[zzae,ir]at h |-
  exact⟨h.1,h.2.1,jm (Nm hl) h.2.2⟩
 |o::r,.pre::fl,q,mc,T,hl,h=>by
  simp only[zzae,ir]at h |-
  exact⟨h.1,h.2.1,jm (Nm hl) h.2.2⟩
 |o::r,.oth::fl,q,mc,T,hl,h=>by
  simp only[zzae,ir]at h |-
  exact⟨h.1,h.2.1,jm (Nm hl) h.2.2⟩
def Jp{m:AM}{ex:List Fg}:∀{l:List SO}{fl:List Fg}{q:QP}{T:P2},fl.length=l.length->Zk P gl orc m l (fl++ex) q T=Zk P gl orc m l fl q T
 |[],[],q,T,_=>by simp only[Zk]
 |[],_::_,_,_,hl=>by simp at hl
 |_::_,[],_,_,hl=>by simp at hl
 |o::r,.eff::fl,[],T,hl=>by
  simp only[zzae,Zk];rw[Jp (Nm hl)]
 |o::r,.eff::fl,x::q,T,hl=>by
  simp only[zzae,Zk];rw[Jp (Nm hl)]
 |o::r,.pre::fl,[],T,hl=>by
  simp only[zzae,Zk];rw[Jp (Nm hl)]
 |o::r,.pre::fl,x::q,T,hl=>by
  simp only[zzae,Zk];rw[Jp (Nm hl)]
 |o::r,.oth::fl,[],T,hl=>by
  simp only[zzae,Zk];rw[Jp (Nm hl)]
 |o::r,.oth::fl,x::q,T,hl=>by
  simp only[zzae,Zk];rw[Jp (Nm hl)]
def jo{R:So}{l2:List SO}{K:AS->Prop}{m:AM}{ms:QP}{ex:List Fg}:∀{l:List SO}{fl:List Fg}{q:QP}{mc:AM}{T:P2},fl.length=l.length->iN P gl orc Y R l2 K m ms l (fl++ex) q mc T->iN P gl orc Y R l2 K m ms l fl q mc T
 |[],[],q,mc,T,_,h=>by simpa only[iN]using h
 |[],_::_,_,_,_,hl,_=>by simp at hl
 |_::_,[],_,_,_,hl,_=>by simp at hl
 |o::r,.eff::fl,[],mc,T,hl,h=>by simp only[zzae,iN]at h
 |o::r,.eff::fl,x::q,mc,T,hl,h=>by
  simp only[zzae,iN]at h |-
  exact⟨h.1,h.2.1,jo (Nm hl) h.2.2⟩
 |o::r,.pre::fl,q,mc,T,hl,h=>by
  simp only[zzae,iN]at h |-
  exact⟨h.1,h.2.1,jo (Nm hl) h.2.2⟩
 |o::r,.oth::fl,q,mc,T,hl,h=>by
  simp only[zzae,iN]at h |-
  exact⟨h.1,h.2.1,h.2.2.1,jo (Nm hl) h.2.2.2⟩
end
section
variable {N:Nat} {w0:eR} {r:Option Nat} {an:Nat->Nat->Prop} {S:G×World} {Y:YT} {P:Program} {gl:Nat->AV} {orc:UV} {ops:Array Oper} {T0:P2} {m:AM} {p:Nat}
def nk{x x':AV×AM}{i:Nat}:∀{js:Pa}{ms:QP}{jl:Nat},js[ms.length]?=some jl->i≠jl->Fi (Xa js (ms++[x])) i=Fi (Xa js (ms++[x'])) i
 |[],_,_,h,_=>by simp at h
 |j::js,[],jl,h,hi=>by
  simp at h;subst h;simp only[zzai,Xa,Fi];rw[if_neg (Ne.symm hi),if_neg (Ne.symm hi)]
 |j::js,y::ms,jl,h,hi=>by
  simp only[zzae,Xa,Fi];rw[nk (ms:=ms) (Nm h) hi]
def wN{L L':QQ}{jl:Nat}(h:∀i,i<jl->Fi L i=Fi L' i):∀k,k<=jl->bH P gl orc ops T0 m L k=bH P gl orc ops T0 m L' k
 |0,_=>rfl
 |k+1,hk=>by
  have ih:=wN h k zE;simp only[bH];rw[ih];cases ho:ops[k]? with
  |none=>rfl
  |some o=>
   simp only;congr 1;simp only[tP];rw[h k zE]
def J1{L L':QQ}(hc:uy ops p=true){listed:Array Bool}{jl:Nat}(qs:Fa ops listed)(gQ:listed.getD jl false=false)(hL:∀i,i<jl->Fi L i=Fi L' i)
  (V6:∀k,jl<k->k<p->(Fh ops k [k]).contains jl=true)(hjp:jl<p)(t:Nat):me P gl orc ops T0 m L p listed t=me P gl orc ops T0 m L' p listed t:=by
 obtain⟨hp,cW⟩:=Zb hc;unfold me;cases hw:wr ops p listed t with
 |false=>simp
 |true=>
  simp only[if_true];unfold wr at hw;obtain⟨j,hj,hjd⟩:=zzbq.1 hw;simp only[zzac,beq_iff_eq]at hjd;obtain⟨hl,hd⟩:=hjd;have alb:=zzaw.1 hj
  have ah:j<jl:=by
   rcases zzdw j jl with h|h|h
   ·exact h
   ·subst h;rw[hl]at gQ;cases gQ
   have:=uz qs j [j] (fun k hk=>by rw[zzcg.1 hk];exact hl) jl (by simpa using V6 j h alb);rw[this]at gQ;cases gQ
  have sy:∀(L:QQ),(bH P gl orc ops T0 m L p).getD t .junk=(bH P gl orc ops T0 m L jl).getD t .junk:=fun L=>by
   have:=Qdn (P:=P) (gl:=gl) (orc:=orc) (ops:=ops) (T0:=T0) (m:=m) (L:=L) (t:=t) (k:=jl) (p-jl) fun k dF ef Fc=>by
    have hk:k<ops.size:=zE
    have Fe:ops[k]?=some ops[k]:=zzah hk;have:=((cW k _ Fe).2.1 zE).2 j zE t hd;simp[Vh,Fe]at Fc;exact this Fc
   rwa [show jl+(p-jl)=p by omega]at this
  rw[sy L,sy L',wN hL jl (zzab _)]
def J2{ms:QP}{x:AV×AM}{js:Pa}{R:So}(hc:uy ops p=true){Q:PP}{listed:Array Bool}{γ:G}{w:World}{a:Act}
  (hI:qR N w0 r an S Y P gl orc ops T0 m (ms++[x]) js (Xa js (ms++[x])) p listed γ w a){i:Nat}{o:Oper}(ho:ops[i]?=some o)(dg:i<p)(wK:Zy (bH P gl orc ops T0 m (Xa js (ms++[x])) i) (Xe P ops o))(aH:js.length=(ms++[x]).length)(iL:js.Nodup)
  (hk:js[ms.length]?=some i)(hu:listed.getD i true=false)(bT:∀j∈Xx o,listed.getD j false=true)(nj:∀a j,js[a]?=some j->js[a+1]?=some i->j∈Xx o)
  (awx:∀x':AV×AM,R x'.1 x'.2->∀t,me P gl orc ops T0 m (Xa js (ms++[x'])) p listed t=me P gl orc ops T0 m (Xa js (ms++[x])) p listed t)
  (Ef:effR P gl Y (ev gl (bH P gl orc ops T0 m (Xa js (ms++[x])) i)) (Vz m (ms++[x]) ms.length) R (tr P o)):
  wpOpIn (FW r) 0 P ops Q i (fun a' w'=>∃γ' x',R x'.1 x'.2/\qR N w0 r an S Y P gl orc ops T0 m (ms++[x']) js (Xa js (ms++[x'])) p (listed.setIfInBounds i true) γ' w' a') a w:=by
 have hi:i<ops.size:=(zzbw.1 ho).1;have je:i<listed.size:=by rw[hI.size];exact hi
 have zJ:∀t∈o.looksAt ops,aA w γ ((bH P gl orc ops T0 m (Xa js (ms++[x])) i).getD t .junk) (a.tmps.getD t undef):=fun t ht=>by
  rw[aim (P:=P) (gl:=gl) (orc:=orc) (T0:=T0) (m:=m) (L:=Xa js (ms++[x])) hc hI.size ho dg hu bT ht];exact hI.tt t
 have dw:∀y∈o.op.operands,aA w γ (ev gl (bH P gl orc ops T0 m (Xa js (ms++[x])) i) (aC y)) (a.eval y):=fun y hy=>by
  cases y with
  |tmp t=>exact zJ t (by simp only[Oper.looksAt,zzao,zzfg];exact .inl ⟨.tmp t,Nm hy,rfl⟩)
  |const v=>exact Kc w γ v
  |func f=>exact .fn rfl (fun i c v h=>by simp at h) rfl fun i c v h=>by simp at h
  |global g=>exact(hI.g g).gp
 have iu:chn (listed.setIfInBounds i true) js:=uA hI.ch fun a j h1 h2=>bT j (nj a j h1 h2);have hpr:Fa ops (listed.setIfInBounds i true):=Fa.set hI.clo ho je bT;have JU:listed.getD i false=false:=by rw[Xc je false true];exact hu
 have CL:∀b j,b<ms.length->js[b]?=some j->listed.getD j false=true:=fun b j hb hj=>by
  have dz:ms.length-1<js.length:=by simp at aH;omega
  obtain⟨j1,dX⟩:∃j1,js[ms.length-1]?=some j1:=⟨js[ms.length-1],zzaf dz⟩;have gP:=bT j1 (nj (ms.length-1) j1 dX (by rw[show ms.length-1+1=ms.length by omega];exact hk));rcases zzaa b (ms.length-1)with h|h
  ·exact Qbt hI.ch h hj dX gP
  obtain rfl:b=ms.length-1:=zE
  rw[hj]at dX;cases dX;exact gP
 have JX:Yy listed m js (ms++[x])=Vz m (ms++[x]) ms.length:=Uz aH (by simp at aH;omega) CL (fun j hj=>by rw[hk]at hj;cases hj;exact JU)
 have tN:∀x':AV×AM,Yy (listed.setIfInBounds i true) m js (ms++[x'])=x'.2:=fun x'=>by
  have:=Uz (listed:=listed.setIfInBounds i true) (m:=m) (ms:=ms++[x']) (js:=js) (a:=ms.length+1) (by simp at aH |-;omega) (by simp at aH;omega) (fun b j hb hj=>?_) (fun j hj=>by rw[zzat (by simp at aH;omega)]at hj;cases hj)
  ·rw[this];simp[Vz,List.getD]
  rcases zzaa b ms.length with h|h
  ·have fK:j≠i:=by
    rintro rfl;have:=Ud iL hj hk;omega
   rw[Qw fK];exact CL b j h hj
  obtain rfl:b=ms.length:=zE
  rw[hk]at hj;cases hj;exact Xq je
 simp only[wpOpIn,ho];have hw:Region.wanted o (yielded ops a.tmps)=true:=wJ wK zJ;rw[if_pos hw];have gR:=hI.mm;have iK:=hI.ls;rw[JX]at gR iK
 have zK:ew N w0 r an S P gl Y γ w ⟨(List.range T0.length).map fun t=>me P gl orc ops T0 m (Xa js (ms++[x])) p listed t,Vz m (ms++[x]) ms.length⟩ a:=by
  refine⟨gR,iK,hI.rd,⟨by simp[hI.tl],fun t x v hx hv=>?_⟩,hI.d,hI.g,hI.y,hI.e⟩
  have ah:t<T0.length:=by
   rcases zzaa t T0.length with h|h
   ·exact h
   simp[zzbk.2 h]at hx
  simp[ah]at hx;have:=hI.tt t;rw[hx]at this;have EV:a.tmps.getD t undef=v:=by simp at hv;simp[hv]
  rwa [EV]at this
 have mV:Qao P gl Y (ev gl (bH P gl orc ops T0 m (Xa js (ms++[x])) i)) (Vz m (ms++[x]) ms.length) R (tr P o):=by
  cases Iz:tr P o with
  |call f args=>
   rw[Iz]at Ef;simp only[effR]at Ef;simp only[Qao];split at Ef
   ·rename_i g first cap bP;simp only[bP];exact Ef
   exact Ef.elim
  |_=>rw[Iz]at Ef;exact Ef.elim
 refine Qdm zK dw mV fun v w' γ' av' m' hK he hm hl hr=>?_;have cB:=Qcx (P:=P) (gl:=gl) (orc:=orc) (ops:=ops) (m:=m) (ms:=ms++[(av',m')]) (x:=(av',m')) iL hk zd (bH P gl orc ops T0 m (Xa js (ms++[(av',m')])) i);have hsw:=awx (av',m') hK;refine⟨γ',(av',m'),hK,by simp[hI.size],fun j dX oq=>by rw[Qw zE];exact hI.tail j dX oq,iu,hpr,by rw[tN];exact hm,by rw[tN];exact hl,hI.rd.aU he,?_,fun t=>?_,?_,fun g=>(hI.g g).aU he.cU,hI.y.mono he,hI.e.trans he⟩
 ·cases hd:o.dst<;>simp[Act.put,hI.tl]
 ·rw[CK hc hI.size ho dg,hsw];by_cases hd:o.dst=some t
  ·by_cases ht:t<T0.length
   ·rw[if_pos ⟨hd,ht⟩,hd];have:(a.put (some t) v).tmps.getD t undef=v:=by simp[Act.put,hI.tl,ht]
    rw[this,cB];exact hr
   rw[if_neg (by simp[ht]),hd];have:(a.put (some t) v).tmps.getD t undef=a.tmps.getD t undef:=by simp[Act.put,hI.tl,ht]
   rw[this];exact(hI.tt t).aU he
  rw[if_neg (by simp[hd])]
  have:(a.put o.dst v).tmps.getD t undef=a.tmps.getD t undef:=by
   cases zC:o.dst with
   |none=>rfl
   |some d=>simp only[Act.put];simp;rw[zzcp (by rintro rfl;exact hd zC)]
  rw[this];exact(hI.tt t).aU he
 cases hd:o.dst<;>exact hI.d.aU he
def CN{R:So}{ms:QP}{js:Pa}(l2:List SO)(K:AS->Prop)(hp:p<=ops.size)(hj:Qeg ops p=some js):∀(n k:Nat)(mc:AM),k+n=p->cR ops k<=ms.length->mc=Vz m ms (cR ops k)->
  iN P gl orc Y R l2 K m ms (((ops.toList.take p).drop k).map (Xe P ops)) ((flags ops p js).drop k) (ms.drop (cR ops k)) mc (bH P gl orc ops T0 m (Xa js ms) k)->
  js.length=ms.length/\
  (
   ∀i o,k<=i->i<p->ops[i]?=some o->
   (i ∉ js->(rop P gl orc (ev gl (bH P gl orc ops T0 m (Xa js ms) i)) m o.dst (tr P o)).1/\(ji ops js i=false->∀x∈ms,rop P gl orc (ev gl (bH P gl orc ops T0 m (Xa js ms) i)) x.2 o.dst (tr P o)=rop P gl orc (ev gl (bH P gl orc ops T0 m (Xa js ms) i)) m o.dst (tr P o)))/\
   (∀b x,js[b]?=some i->ms[b]?=some x->(b+1=ms.length->effR P gl Y (ev gl (bH P gl orc ops T0 m (Xa js ms) i)) (Vz m ms b) R (tr P o))/\(b+1≠ms.length->effC P gl orc Y (ev gl (bH P gl orc ops T0 m (Xa js ms) i)) (Vz m ms b) o.dst x.1 x.2 (tr P o)))/\Zy (bH P gl orc ops T0 m (Xa js ms) i) (Xe P ops o))/\
  Zo P gl orc Y l2 ⟨(bH P gl orc ops T0 m (Xa js ms) p),Vz m ms ms.length⟩ K:=by
 obtain⟨fU,_,gC⟩:=Kg hj;have dD:∀j,j∈js<->j<p/\dG ops wH j=true:=fun j=>by rw[fU,zzca,zzaw]
 have iL:js.Nodup:=by rw[fU];exact(zzdl).filter _
 have Iv:∀i,i<p->dG ops wH i=true->js[cR ops i]?=some i:=fun i h1 h2=>by rw[fU];exact JY h1 h2
 have V4:∀{a b i:Nat},js[a]?=some i->js[b]?=some i->a=b:=fun{a b i}h1 h2=>Ud iL h1 h2;intro n;induction n with
 |zero=>
  intro k mc hk qs VT h;obtain rfl:k=p:=zE
  have e0:(ops.toList.take k).drop k=[]:=zzal (by simp;omega);rw[e0]at h;simp only[zzcs,iN]at h;have fA:ms.length<=cR ops k:=zzfm.1 h.1;have Cy:cR ops k=js.length:=by rw[fU];rfl
  have hcc:cR ops k=ms.length:=zE
  refine⟨zE,fun i o h1 h2=>zE,?_⟩;rw[<- hcc,<- VT];exact h.2
 |succ n ih=>
  intro k mc hk qs VT h;have bZ:k<ops.size:=zE
  have ho:ops[k]?=some ops[k]:=zzah bZ
  have hd:(ops.toList.take p).drop k=ops[k]::(ops.toList.take p).drop (k+1):=by
   rw[zzag (by simp;omega)];simp
  have fu:(flags ops p js).drop k=Vn ops js k::(flags ops p js).drop (k+1):=by
   rw[zzag (by simp[flags];omega)];simp[flags]
  rw[hd,fu,zzas]at h;have E6:=Kr (P:=P) (gl:=gl) (orc:=orc) (T0:=T0) (m:=m) (L:=Xa js ms) ho;have e2:(Xe P ops ops[k]).op=tr P ops[k]:=rfl;have e3:(Xe P ops ops[k]).dst=ops[k].dst:=rfl;have fC:=jk (ops:=ops) k;cases gr:js.contains k with
  |true=>
   have A0:k∈js:=by simpa using gr
   have oQ:=((dD k).1 A0).2;rw[oQ,if_pos rfl]at fC;rw[show Vn ops js k=.eff by simp only[Vn,gr,cond_true]]at h;simp only[iN,e2,e3]at h;split at h
   ·exact h.elim
   rename_i x q hq
   have JZ:cR ops k<ms.length:=by
    rcases zzaa (cR ops k) ms.length with h'|h'
    ·exact h'
    rw[zzal h']at hq;cases hq
   have hx:ms[cR ops k]?=some x:=by
    have:(ms.drop (cR ops k))[0]?=some x:=by rw[hq];rfl
    simpa using this
   have hq':ms.drop (cR ops (k+1))=q:=by
    rw[fC,<- zze,hq];rfl
   obtain⟨hgr,h1,h2⟩:=h;have tM:=Iv k zE oQ;have cB:=Qcx (P:=P) (gl:=gl) (orc:=orc) (ops:=ops) (m:=m) iL tM hx (bH P gl orc ops T0 m (Xa js ms) k);rw[cB]at E6
   obtain⟨r1,r2,r3⟩:=ih (k+1) x.2 zE zE (by rw[fC];simp[Vz,List.getD,hx]) (by
    rw[E6,hq'];exact h2)
   refine⟨r1,fun i o hi dg AW=>?_,r3⟩;rcases zzaa k i with fh|fh
   ·exact r2 i o fh dg AW
   obtain rfl:i=k:=zE
   rw[ho]at AW;cases AW;refine⟨fun h=>absurd A0 h,fun b y hb hy=>?_,hgr⟩;obtain rfl:=V4 hb tM;rw[hx]at hy;cases hy;rw[<- VT]
   have hqe:q=[]<->cR ops i+1=ms.length:=by
    rw[<- hq',fC,zzfm];omega
   exact⟨fun h=>h1.1 (hqe.2 h),fun h=>h1.2 fun e=>h (hqe.1 e)⟩
  |false=>
   have A0:k ∉ js:=by simpa using gr
   have oQ:dG ops wH k=false:=by
    cases CM:dG ops wH k with
    |false=>rfl
    |true=>exact absurd ((dD k).2 ⟨zE,CM⟩) A0
   rw[oQ,if_neg zd,zzcn]at fC
   obtain⟨hgr,h1,h2,h3⟩:Zy (bH P gl orc ops T0 m (Xa js ms) k) (Xe P ops ops[k])/\(rop P gl orc (ev gl (bH P gl orc ops T0 m (Xa js ms) k)) m ops[k].dst (tr P ops[k])).1/\(ji ops js k=false->∀x∈ms,rop P gl orc (ev gl (bH P gl orc ops T0 m (Xa js ms) k)) x.2 ops[k].dst (tr P ops[k])=rop P gl orc (ev gl (bH P gl orc ops T0 m (Xa js ms) k)) m ops[k].dst (tr P ops[k]))/\
     iN P gl orc Y R l2 K m ms (((ops.toList.take p).drop (k+1)).map (Xe P ops)) ((flags ops p js).drop (k+1)) (ms.drop (cR ops k)) mc (put (bH P gl orc ops T0 m (Xa js ms) k) ops[k].dst (rop P gl orc (ev gl (bH P gl orc ops T0 m (Xa js ms) k)) m ops[k].dst (tr P ops[k])).2):=by
    cases kJ:ji ops js k with
    |true=>
     rw[show Vn ops js k=.pre by simp only[Vn,gr,kJ,cond_true,cond_false]]at h;simp only[iN,e2,e3]at h;exact⟨h.1,h.2.1,fun h=>(by cases h),h.2.2⟩
    |false=>
     rw[show Vn ops js k=.oth by simp only[Vn,gr,kJ,cond_false]]at h;simp only[iN,e2,e3]at h;exact⟨h.1,h.2.1,fun _=>h.2.2.1,h.2.2.2⟩
   rw[jj A0 ho]at E6;obtain⟨r1,r2,r3⟩:=ih (k+1) mc zE zE (by rw[fC];exact VT) (by rw[E6,fC];exact h3);refine⟨r1,fun i o hi dg AW=>?_,r3⟩;rcases zzaa k i with fh|fh
   ·exact r2 i o fh dg AW
   obtain rfl:i=k:=zE
   rw[ho]at AW;cases AW;refine⟨fun _=>⟨h1,h2⟩,fun b y hb=>absurd (zzad hb) A0,hgr⟩
def sA{Q:PP}{K:AS->Prop}{γ:G}{w:World}{s:AS}{a:Act}{js:Pa}(hQ:∀γ w s a,K s->ew N w0 r an S P gl Y γ w s a->Q .normal a w)(hc:uy ops p=true)(hj:Qeg ops p=some js)
  {R:So}{ms:QP}(zL:∀(jl:Nat),js[ms.length]?=some jl->∀(x x':AV×AM),R x.1 x.2->R x'.1 x'.2->∀listed:Array Bool,Fa ops listed->listed.getD jl false=false->∀t,me P gl orc ops s.T s.m (Xa js (ms++[x'])) p listed t=me P gl orc ops s.T s.m (Xa js (ms++[x])) p listed t)(hR:∃x:AV×AM,R x.1 x.2)(h:∀x:AV×AM,R x.1 x.2->iN P gl orc Y R ((ops.toList.drop p).map (Xe P ops)) K s.m (ms++[x]) ((ops.toList.take p).map (Xe P ops)) (flags ops p js) (ms++[x]) s.m s.T)(hs:ew N w0 r an S P gl Y γ w s a):
  wpAnyIn (FW r) 0 P .any ops Q ops.size (Array.replicate ops.size false) a {w with drawn:=w.drawn+1}:=by
 obtain⟨hp,cW⟩:=Zb hc;obtain⟨fU,hjc,gC⟩:=Kg hj;have iL:js.Nodup:=by rw[fU];exact(zzdl).filter _
 have wL:∀j∈js,j<p:=fun j h=>by rw[fU,zzca]at h;exact zzaw.1 h.1
 have bD:=fun(x:AV×AM)(hx:R x.1 x.2)=>CN (P:=P) (gl:=gl) (orc:=orc) (T0:=s.T) (m:=s.m) ((ops.toList.drop p).map (Xe P ops)) K hp hj p 0 s.m zd (by simp[cR]) (by simp[cR,Vz]) (by simpa[bH,cR]using h x hx);obtain⟨x0,hx0⟩:=hR;have dA:js.length=ms.length+1:=by have:=(bD x0 hx0).1;simpa using this
 obtain⟨jl,gQ⟩:∃jl,js[ms.length]?=some jl:=⟨_,zzaf zE⟩
 have full:∀(x:AV×AM),R x.1 x.2->∀(aT:Nat)(listed:Array Bool)(γ:G)(w:World)(a:Act),qR N w0 r an S Y P gl orc ops s.T s.m (ms++[x]) js (Xa js (ms++[x])) p listed γ w a->uc ops listed<=aT->(∀i,i<p->listed.getD i false=true)->wpAnyIn (FW r) 0 P .any ops Q aT listed a w:=by
  intro x hx aT listed γ w a hI jh aq7;obtain⟨aH,h1,h2⟩:=bD x hx;have bD:=aq7;have hml:Yy listed s.m js (ms++[x])=Vz s.m (ms++[x]) (ms++[x]).length:=Uz aH zE (fun b j _ hb=>bD j (wL j (zzad hb))) (fun j hj=>by rw[zzat zE]at hj;cases hj);have gR:=hI.mm;have iK:=hI.ls;rw[hml]at gR iK;refine Qdy hQ hc aT p listed γ w _ a (zzab _) hp hI.size bD hI.tail jh h2 ⟨gR,iK,hI.rd,⟨?_,fun t y v hy hv=>?_⟩,hI.d,hI.g,hI.y,hI.e⟩
  ·simp[Qbd,hI.tl]
  have h1:=hI.tt t
  have hAt:me P gl orc ops s.T s.m (Xa js (ms++[x])) p listed t=y:=by
   have iJ:(bH P gl orc ops s.T s.m (Xa js (ms++[x])) p).getD t .junk=y:=by simp only at hy;simp[List.getD,hy]
   unfold me;split
   ·exact iJ
   rename_i hw;rw[<- iJ];refine(Qbi p fun j hj hd=>hw ?_).symm;unfold wr;rw[zzbq];exact⟨j,zzaw.2 hj,by rw[bD j hj,hd];simp⟩
  rw[hAt]at h1;have:a.tmps.getD t undef=v:=by simp at hv;simp[hv]
  rwa [this]at h1
 have main:∀(aT:Nat)(x:AV×AM),R x.1 x.2->∀(listed:Array Bool)(γ:G)(w:World)(a:Act),qR N w0 r an S Y P gl orc ops s.T s.m (ms++[x]) js (Xa js (ms++[x])) p listed γ w a->uc ops listed<=aT->wpAnyIn (FW r) 0 P .any ops Q aT listed a w:=by
  intro aT;induction aT with
  |zero=>
   intro x hx listed γ w a hI jh
   exact full x hx 0 listed γ w a hI jh fun i hi=>by
    rw[Xc (by rw[hI.size];omega) false true];exact Qdx (zzfa.1 jh) zE
  |succ aT ih=>
   intro x hx listed γ w a hI jh;by_cases hall2:∀i,i<p->listed.getD i false=true
   ·exact full x hx (aT+1) listed γ w a hI jh hall2
   have hex:∃k,k<p/\listed.getD k true=false:=by
    refine Classical.byContradiction fun hn=>hall2 fun i hi=>?_;rw[Xc (by rw[hI.size];omega) false true];cases hl:listed.getD i true with
    |true=>rfl
    |false=>exact absurd ⟨i,hi,hl⟩ hn
   obtain⟨k,hk,JW⟩:=hex;refine⟨fun hr=>?_,fun i hi=>?_⟩
   ·obtain⟨j,hj⟩:=Uj hc hI.size k k (zzab _) zE JW;rw[hr]at hj;cases hj
   obtain⟨ah,hu,o,ho,bT⟩:=Uk hc hi
   have dg:i<p:=by
    rcases zzaa i p with h|h
    ·exact h
    have:=Qbk hI.clo ho ((cW i o ho).2.2 h) bT i k zE zE;rw[Xc (by rw[hI.size];omega) false true,JW]at this;cases this
   obtain⟨aH,h1,_⟩:=bD x hx;obtain⟨h1a,h1b,h1g⟩:=h1 i o (zzbp _) dg ho;by_cases eG:i=jl
   ·subst eG;refine wpOpIn_mono ?_ (J2 hc hI ho dg h1g aH iL gQ hu bT (fun a j e1 e2=>uB hjc a j i o e1 e2 ho) (fun x' iJ=>zL i gQ x x' hx iJ listed hI.clo (by rw[Xc (by rw[hI.size];exact ah) false true];exact hu)) ((h1b ms.length x gQ zd).1 zd));rintro a' w' ⟨γ',x',iJ,lJ⟩;refine ih x' iJ _ γ' w' a' lJ ?_;have:=jg hI.size ah hu;omega
   refine wpOpIn_mono ?_ (Qcj hc hI ho dg h1g aH iL hu bT (fun a j e1 e2=>bT j (uB hjc a j i o e1 e2 ho)) (fun h=>.inl (h1a h)) (fun k y e1 e2=>(h1b k y e1 e2).2 fun e=>eG (by
    have hk:k=ms.length:=by simpa using e
    subst hk;rw[gQ]at e1;exact(Option.some.inj e1).symm)))
   rintro a' w' ⟨γ',lJ,_⟩;refine ih x hx _ γ' w' a' lJ ?_;have:=jg hI.size ah hu;omega
 have tO:∀j,(Array.replicate ops.size false).getD j false=false:=fun j=>by
  rcases zzaa j ops.size with h|h<;>simp[h]
 have nj:∀V5:Pa,chn (Array.replicate ops.size false) V5:=fun V5=>by
  induction V5 with
  |nil=>trivial
  |cons j r ih=>
   cases r with
   |nil=>trivial
   |cons j' r=>exact⟨fun h=>(by rw[tO]at h;cases h),ih⟩
 have JX:Yy (Array.replicate ops.size false) s.m js (ms++[x0])=s.m:=Uz (a:=0) (bD x0 hx0).1 zE (fun b j hb=>zE) (fun j _=>tO j);refine main ops.size x0 hx0 _ γ w.drew a ⟨zd,fun i _ hi=>by simp[hi],nj js,fun j o h=>(by rw[tO]at h;cases h),?_,?_,hs.rd.aU (Ev.drew w γ).cH,?_,fun t=>?_,hs.d.aU (Ev.drew w γ).cH,fun g=>(hs.g g).mono (Ev.drew w γ).cU,hs.y.mono (Ev.drew w γ).cH,hs.e.trans (Ev.drew w γ).cH⟩ ?_
 ·rw[JX];exact hs.m.drew
 ·rw[JX];exact hs.ls.mono (Ev.drew w γ)
 ·have:=hs.t.1;simp at this;omega
 ·have hw:wr ops p (Array.replicate ops.size false) t=false:=by
   unfold wr;rw[zzdm];intro j _;rw[tO j];simp
  unfold me;rw[hw];simp only[zzbh,if_false];have:=(hs.t.mono (Ev.drew w γ)).get t;simpa[List.getD]using this
 unfold uc;exact zzbc (zzet) zd
def V7{L L':QQ}(hc:uy ops p=true){listed:Array Bool}{jl:Nat}(gQ:listed.getD jl false=false)(hL:∀i,i<jl->Fi L i=Fi L' i)
  (iW:∀k,jl<k->k<p->tP P gl orc ops m L k (bH P gl orc ops T0 m L k)=tP P gl orc ops m L' k (bH P gl orc ops T0 m L' k))(hjp:jl<p)(t:Nat):me P gl orc ops T0 m L p listed t=me P gl orc ops T0 m L' p listed t:=by
 obtain⟨hp,cW⟩:=Zb hc;unfold me;cases hw:wr ops p listed t with
 |false=>simp
 |true=>
  simp only[if_true];unfold wr at hw;obtain⟨j,hj,hjd⟩:=zzbq.1 hw;simp only[zzac,beq_iff_eq]at hjd;obtain⟨hl,hd⟩:=hjd;have alb:=zzaw.1 hj;have fU:j<ops.size:=zE
  have hjo:ops[j]?=some ops[j]:=zzah fU
  have sy:∀(L:QQ),(bH P gl orc ops T0 m L p).getD t .junk=(bH P gl orc ops T0 m L (j+1)).getD t .junk:=fun L=>by
   have:=Qdn (P:=P) (gl:=gl) (orc:=orc) (ops:=ops) (T0:=T0) (m:=m) (L:=L) (t:=t) (k:=j+1) (p-(j+1)) fun k dF ef Fc=>by
    have hk:k<ops.size:=zE
    have Fe:ops[k]?=some ops[k]:=zzah hk;have:=((cW k _ Fe).2.1 zE).2 j zE t hd;simp[Vh,Fe]at Fc;exact this Fc
   rwa [show j+1+(p-(j+1))=p by omega]at this
  rw[sy L,sy L'];rcases zzdw j jl with h|h|h
  ·rw[wN hL (j+1) zE]
  ·subst h;rw[hl]at gQ;cases gQ
  have hv:=iW j h alb;have A1:ops[j].dst=some t:=by simpa[Vh,hjo]using hd
  rw[Kr hjo,Kr hjo,hv,A1];have aH:(bH P gl orc ops T0 m L j).length=(bH P gl orc ops T0 m L' j).length:=by rw[Qbd,Qbd]
  by_cases ht:t<(bH P gl orc ops T0 m L j).length
  ·rw[Wu ht,Wu zE]
  simp only[put,List.getD];rw[zzat (by rw[zzch];omega),zzat (by rw[zzch];omega)]
def Fl{Q:PP}{K:AS->Prop}{γ:G}{w:World}{s:AS}{a:Act}{js:Pa}(hQ:∀γ w s a,K s->ew N w0 r an S P gl Y γ w s a->Q .normal a w)(hc:uy ops p=true)(hj:Qeg ops p=some js)
  (zM:wM ops p js=true){R:So}{ms:QP}(hR:∃x:AV×AM,R x.1 x.2)(h:∀x:AV×AM,R x.1 x.2->iN P gl orc Y R ((ops.toList.drop p).map (Xe P ops)) K s.m (ms++[x]) ((ops.toList.take p).map (Xe P ops)) (flags ops p js) (ms++[x]) s.m s.T)(hs:ew N w0 r an S P gl Y γ w s a):
  wpAnyIn (FW r) 0 P .any ops Q ops.size (Array.replicate ops.size false) a {w with drawn:=w.drawn+1}:=by
 obtain⟨hp,cW⟩:=Zb hc;obtain⟨fU,hjc,gC⟩:=Kg hj;have wL:∀j∈js,j<p:=fun j h=>by rw[fU,zzca]at h;exact zzaw.1 h.1
 have bD:=fun(x:AV×AM)(hx:R x.1 x.2)=>CN (P:=P) (gl:=gl) (orc:=orc) (T0:=s.T) (m:=s.m) ((ops.toList.drop p).map (Xe P ops)) K hp hj p 0 s.m zd (by simp[cR]) (by simp[cR,Vz]) (by simpa[bH,cR]using h x hx);obtain⟨x0,hx0⟩:=hR;have dA:js.length=ms.length+1:=by have:=(bD x0 hx0).1;simpa using this
 refine sA hQ hc hj (fun jl gQ x x' _ _ listed zI JU t=>?_) ⟨x0,hx0⟩ h hs
 have V6:∀k,jl<k->k<p->(Fh ops k [k]).contains jl=true:=fun k dF ef=>by
  unfold wM at zM;have hg:js.getLast?=some jl:=by rw[List.getLast?_eq_getElem?,dA];simpa using gQ
  rw[hg]at zM;have:=zzay.1 zM k (zzaw.2 ef);simp only[zzgt,decide_eq_true_eq]at this;obtain h|h:=this
  ·omega
  exact h
 exact J1 hc zI JU (fun j hj=>nk gQ zE) V6 (wL _ (zzad gQ)) t
def CO{k k':Nat}(h:k<=k'):cR ops k<=cR ops k':=by
 induction k' with
 |zero=>
  obtain rfl:k=0:=zE
  exact zzab _
 |succ n ih=>
  rcases zzaa k (n+1)with h'|h'
  ·have:=ih zE;have:=jk (ops:=ops) n;split at this<;>omega
  obtain rfl:k=n+1:=zE
  exact zzab _
def Fm{ms:QP}{x:AV×AM}{js:Pa}{jl:Nat}(hp:p<=ops.size)(hj:Qeg ops p=some js)(dA:js.length=ms.length+1)(gQ:js[ms.length]?=some jl):∀(n k:Nat),k+n=p->∀i,k<=i->i<p->jl<i->
  (Zk P gl orc m (((ops.toList.take p).drop k).map (Xe P ops)) ((flags ops p js).drop k) ((ms++[x]).drop (cR ops k)) (bH P gl orc ops T0 m (Xa js (ms++[x])) k))[i-max k (jl+1)]?=some (tP P gl orc ops m (Xa js (ms++[x])) i (bH P gl orc ops T0 m (Xa js (ms++[x])) i)):=by
 obtain⟨fU,_,gC⟩:=Kg hj;have dD:∀j,j∈js<->j<p/\dG ops wH j=true:=fun j=>by rw[fU,zzca,zzaw]
 have iL:js.Nodup:=by rw[fU];exact(zzdl).filter _
 have Iv:∀i,i<p->dG ops wH i=true->js[cR ops i]?=some i:=fun i h1 h2=>by rw[fU];exact JY h1 h2
 have hjm:=(dD jl).1 (zzad gQ);have hcj:cR ops jl=ms.length:=Ud iL (Iv jl hjm.1 hjm.2) gQ;have ay2:cR ops (jl+1)=ms.length+1:=by rw[jk,if_pos hjm.2,hcj]
 have sy:∀k,k∈js->k<=jl:=fun k hk=>by
  obtain⟨h1,h2⟩:=(dD k).1 hk;rcases zzaa jl k with h|h
  ·have:=CO (ops:=ops) (show jl+1<=k by omega);have h3:=(zza.1 (Iv k h1 h2)).1;omega
  exact h
 intro n;induction n with
 |zero=>intro k hk i hi dg;omega
 |succ n ih=>
  intro k hk i hi dg eG;have bZ:k<ops.size:=zE
  have ho:ops[k]?=some ops[k]:=zzah bZ
  have hd:(ops.toList.take p).drop k=ops[k]::(ops.toList.take p).drop (k+1):=by
   rw[zzag (by simp;omega)];simp
  have fu:(flags ops p js).drop k=Vn ops js k::(flags ops p js).drop (k+1):=by
   rw[zzag (by simp[flags];omega)];simp[flags]
  have E6:=Kr (P:=P) (gl:=gl) (orc:=orc) (T0:=T0) (m:=m) (L:=Xa js (ms++[x])) ho;have fC:=jk (ops:=ops) k;have e2:(Xe P ops ops[k]).op=tr P ops[k]:=rfl;have e3:(Xe P ops ops[k]).dst=ops[k].dst:=rfl;rw[hd,fu,zzas];cases gr:js.contains k with
  |true=>
   have A0:k∈js:=by simpa using gr
   have qt:=sy k A0;have oQ:=((dD k).1 A0).2;rw[oQ,if_pos rfl]at fC;rw[show Vn ops js k=.eff by simp only[Vn,gr,cond_true]];have JZ:cR ops k<(ms++[x]).length:=by have:=CO (ops:=ops) qt;simp;omega
   obtain⟨y,hy⟩:∃y,(ms++[x])[cR ops k]?=some y:=⟨_,zzaf JZ⟩
   have hq:(ms++[x]).drop (cR ops k)=y::(ms++[x]).drop (cR ops (k+1)):=by
    rw[zzag JZ,fC,(zza.1 hy).2]
   rw[hq];simp only[Zk,e3];have cB:=Qcx (P:=P) (gl:=gl) (orc:=orc) (ops:=ops) (m:=m) iL (Iv k zE oQ) hy (bH P gl orc ops T0 m (Xa js (ms++[x])) k);rw[cB]at E6;rw[<- E6,show max k (jl+1)=max (k+1) (jl+1) by omega];exact ih (k+1) zE i zE dg eG
  |false=>
   have A0:k ∉ js:=by simpa using gr
   have oQ:dG ops wH k=false:=by
    cases CM:dG ops wH k with
    |false=>rfl
    |true=>exact absurd ((dD k).2 ⟨zE,CM⟩) A0
   rw[oQ,if_neg zd]at fC;have fC:cR ops (k+1)=cR ops k:=fC;have cB:=jj (P:=P) (gl:=gl) (orc:=orc) (m:=m) (ms:=ms++[x]) A0 ho (bH P gl orc ops T0 m (Xa js (ms++[x])) k)
   have hfg:Vn ops js k≠.eff:=by
    simp only[Vn,gr,cond_false];cases ji ops js k<;>simp
   rw[cB]at E6;rcases zzaa jl k with tM|tM
   ·have hq:(ms++[x]).drop (cR ops k)=[]:=zzal (by have:=CO (ops:=ops) (show jl+1<=k by omega);simp;omega);rw[hq]
    have V9:Zk P gl orc m (Xe P ops ops[k]::((ops.toList.take p).drop (k+1)).map (Xe P ops)) (Vn ops js k::(flags ops p js).drop (k+1)) [] (bH P gl orc ops T0 m (Xa js (ms++[x])) k)=
      (rop P gl orc (ev gl (bH P gl orc ops T0 m (Xa js (ms++[x])) k)) m ops[k].dst (tr P ops[k])).2::Zk P gl orc m (((ops.toList.take p).drop (k+1)).map (Xe P ops)) ((flags ops p js).drop (k+1)) [] (put (bH P gl orc ops T0 m (Xa js (ms++[x])) k) ops[k].dst (rop P gl orc (ev gl (bH P gl orc ops T0 m (Xa js (ms++[x])) k)) m ops[k].dst (tr P ops[k])).2):=by
     cases hf:Vn ops js k<;>first|exact absurd hf hfg|(simp only[Zk];rfl)
    rw[V9];rcases zzaa k i with fh|fh
    ·rw[show i-max k (jl+1)=(i-max (k+1) (jl+1))+1 by omega,zzcf,<- E6];have:=ih (k+1) zE i zE dg eG;rw[fC,hq]at this;exact this
    obtain rfl:i=k:=zE
    rw[show i-max i (jl+1)=0 by omega,zzgq,cB]
   have ay3:k≠jl:=fun e=>A0 (by rw[e];exact zzad gQ);have JZ:cR ops k<(ms++[x]).length:=by have:=CO (ops:=ops) tM;simp;omega
   obtain⟨y,hy⟩:∃y,(ms++[x])[cR ops k]?=some y:=⟨_,zzaf JZ⟩
   have hq:(ms++[x]).drop (cR ops k)=y::(ms++[x]).drop (cR ops k+1):=by
    rw[zzag JZ,(zza.1 hy).2]
   have ih':=ih (k+1) zE i zE dg eG;rw[fC,hq,E6]at ih';rw[hq,show max k (jl+1)=max (k+1) (jl+1) by omega]
   have V9:Zk P gl orc m (Xe P ops ops[k]::((ops.toList.take p).drop (k+1)).map (Xe P ops)) (Vn ops js k::(flags ops p js).drop (k+1)) (y::(ms++[x]).drop (cR ops k+1)) (bH P gl orc ops T0 m (Xa js (ms++[x])) k)=
     Zk P gl orc m (((ops.toList.take p).drop (k+1)).map (Xe P ops)) ((flags ops p js).drop (k+1)) (y::(ms++[x]).drop (cR ops k+1)) (put (bH P gl orc ops T0 m (Xa js (ms++[x])) k) ops[k].dst (rop P gl orc (ev gl (bH P gl orc ops T0 m (Xa js (ms++[x])) k)) m ops[k].dst (tr P ops[k])).2):=by
    cases hf:Vn ops js k<;>first|exact absurd hf hfg|(simp only[Zk];rfl)
   rw[V9];exact ih'
def Fo{Q:PP}{K:AS->Prop}{γ:G}{w:World}{s:AS}{a:Act}{js:Pa}(hQ:∀γ w s a,K s->ew N w0 r an S P gl Y γ w s a->Q .normal a w)(hc:uy ops p=true)(hj:Qeg ops p=some js)
  {R:So}{ms:QP}{Vs:P2}(hR:∃x:AV×AM,R x.1 x.2)(h:∀x:AV×AM,R x.1 x.2->iN P gl orc Y R ((ops.toList.drop p).map (Xe P ops)) K s.m (ms++[x]) ((ops.toList.take p).map (Xe P ops)) (flags ops p js) (ms++[x]) s.m s.T)
  (hv:∀x:AV×AM,R x.1 x.2->Zk P gl orc s.m ((ops.toList.take p).map (Xe P ops)) (flags ops p js) (ms++[x]) s.T=Vs)(hs:ew N w0 r an S P gl Y γ w s a):
  wpAnyIn (FW r) 0 P .any ops Q ops.size (Array.replicate ops.size false) a {w with drawn:=w.drawn+1}:=by
 obtain⟨hp,cW⟩:=Zb hc;obtain⟨fU,hjc,gC⟩:=Kg hj;have wL:∀j∈js,j<p:=fun j h=>by rw[fU,zzca]at h;exact zzaw.1 h.1
 have bD:=fun(x:AV×AM)(hx:R x.1 x.2)=>CN (P:=P) (gl:=gl) (orc:=orc) (T0:=s.T) (m:=s.m) ((ops.toList.drop p).map (Xe P ops)) K hp hj p 0 s.m zd (by simp[cR]) (by simp[cR,Vz]) (by simpa[bH,cR]using h x hx);obtain⟨x0,hx0⟩:=hR;have dA:js.length=ms.length+1:=by have:=(bD x0 hx0).1;simpa using this
 refine sA hQ hc hj (fun jl gQ x x' hx iJ listed zI JU t=>?_) ⟨x0,hx0⟩ h hs;refine V7 hc JU (fun j hj=>nk gQ zE) (fun k dF ef=>?_) (wL _ (zzad gQ)) t;have g1:=Fm (P:=P) (gl:=gl) (orc:=orc) (T0:=s.T) (m:=s.m) (x:=x) hp hj dA gQ p 0 zd k (zzbp _) ef dF;have g2:=Fm (P:=P) (gl:=gl) (orc:=orc) (T0:=s.T) (m:=s.m) (x:=x') hp hj dA gQ p 0 zd k (zzbp _) ef dF;have v1:=hv x hx;have v2:=hv x' iJ;simp only[zzdc,bH,show cR ops 0=0 from rfl]at g1 g2;rw[v1]at g1;rw[v2]at g2;rw[g1]at g2;exact(Option.some.inj g2).symm
end
open Go Go.RowKit
def aq8(f:FuncId):Bool:=f==43
def aq9(o:Oper):Bool:=match o.op with
 |.call ⟨.value (.func f),_,_⟩=>aq8 f
 |_=>false
def alc(ops:Array Oper)(j j':Nat):Bool:=match ops[j']? with
 |some o=>(Xx o).contains j
 |none=>false
def CP(ops:Array Oper):Pa->List (Nat×Nat)
 |j::j'::r=>(if alc ops j j'=true then[]else[(j,j')])++CP ops (j'::r)
 |_=>[]
def ara(o:Oper):Bool:=match o.op with
 |.alloc _=>true
 |_=>false
def NG(ops:Array Oper)(p:Nat):Option (Pa×Nat×Nat×Nat):=
 let js:=(List.range p).filter (dG ops wH)
 match CP ops js with
 |[(j,z)]=>(match ops[z]? with
  |some o=>(match o.dst with
   |some t=>if ara o&&o.guard.isNone&&(List.range p).any (dG ops aq9)&&(List.range p).all (dG ops V3)&&(List.range p).all (fun i=>match ops[i]? with
    |some o'=>!(Xx o').contains z||(Xx o').contains j
    |none=>false)then some (js,j,z,t)else none
   |none=>none)
  |none=>none)
 |_=>none
def Fp{ops:Array Oper}:∀{js:Pa}(a j j':Nat)(o:Oper),js[a]?=some j->js[a+1]?=some j'->ops[j']?=some o->j∈Xx o\/(j,j')∈CP ops js
 |[],a,j,j',o,h,_,_=>by simp at h
 |[x],a,j,j',o,h,h',_=>by
  have:=(zza.1 h').1;simp at this
 |x::y::r,0,j,j',o,h,h',ho=>by
  simp at h h';subst h;subst h';rw[CP];by_cases hl:alc ops x y=true
  ·left;unfold alc at hl;rw[ho]at hl;simpa using hl
  right;rw[if_neg hl];simp
 |x::y::r,a+1,j,j',o,h,h',ho=>by
  rcases Fp (js:=y::r) a j j' o (Nm h) (Nm h') ho with h1|h1
  ·exact .inl h1
  right;rw[CP];exact zzgz _ h1
def NH{ops:Array Oper}:∀{js:Pa}{j j':Nat},(j,j')∈CP ops js->∃a,js[a]?=some j/\js[a+1]?=some j'
 |[],_,_,h=>by simp[CP]at h
 |[x],_,_,h=>by simp[CP]at h
 |x::y::r,j,j',h=>by
  rw[CP]at h;rcases zzao.1 h with h|h
  ·split at h
   ·cases h
   simp at h;obtain⟨rfl,rfl⟩:=h;exact⟨0,rfl,rfl⟩
  obtain⟨a,h1,h2⟩:=NH h;exact⟨a+1,Nm h1,Nm h2⟩
def J3{ops:Array Oper}{p:Nat}{js:Pa}{jp z t:Nat}(h:NG ops p=some (js,jp,z,t)):
  js=(List.range p).filter (dG ops wH)/\(∀i,i<p->∃o,ops[i]?=some o)/\(∃oz te,ops[z]?=some oz/\oz.op=.alloc te/\oz.dst=some t/\oz.guard=none)/\(∀i o,i<p->ops[i]?=some o->z∈Xx o->jp∈Xx o)/\
  (∀a j j' o,js[a]?=some j->js[a+1]?=some j'->ops[j']?=some o->j∈Xx o\/(j=jp/\j'=z))/\∃a,js[a]?=some jp/\js[a+1]?=some z:=by
 unfold NG at h;simp only at h;split at h
 case h_2=>cases h
 rename_i j z' hof;split at h
 case h_2=>cases h
 rename_i oz Wa;split at h
 case h_2=>cases h
 rename_i t' ht;split at h
 case isFalse=>cases h
 rename_i bD;simp only[Option.some.injEq,Prod.mk.injEq]at h;obtain⟨rfl,rfl,rfl,rfl⟩:=h;simp only[zzac]at bD;obtain⟨⟨⟨⟨h1,h2⟩,_⟩,_⟩,h5⟩:=bD
 have gz:∀i,i<p->∃o,ops[i]?=some o/\(!(Xx o).contains z'||(Xx o).contains j)=true:=fun i hi=>by
  have:=zzay.1 h5 i (zzaw.2 hi);split at this
  ·rename_i o ho;exact⟨o,ho,this⟩
  cases this
 refine⟨rfl,fun i hi=>let⟨o,ho,_⟩:=gz i hi;⟨o,ho⟩,?_,fun i o hi ho hz=>?_,fun a x y o hx hy ho=>?_,NH (by rw[hof];simp)⟩
 ·unfold ara at h1;split at h1
  ·rename_i te dw;exact⟨oz,te,Wa,dw,ht,Nm h2⟩
  cases h1
 ·obtain⟨o',cO,hc⟩:=gz i hi;rw[ho]at cO;cases cO;have hz':(Xx o).contains z'=true:=by simpa using hz
  rw[hz']at hc;simpa using hc
 rcases Fp a x y o hx hy ho with h|h
 ·exact .inl h
 rw[hof]at h;simp at h;exact .inr h
section
variable {N:Nat} {w0:eR} {r:Option Nat} {an:Nat->Nat->Prop} {S:G×World} {Y:YT} {P:Program} {gl:Nat->AV} {orc:UV} {ops:Array Oper} {T0:P2} {m:AM} {p:Nat} {γ:G} {w:World} {B:Nat->PH} {L:Nat->Option Nat}
def Chg.trans{γ' Ee:G}{w' qF:World}(h:Chg γ w γ' w')(k:Chg γ' w' Ee qF):Chg γ w Ee qF where
 os:=k.os.trans h.os
 tape:=k.tape.trans h.tape
 output:=k.output.trans h.output
 size:=zzbc h.size k.size
 same b hb hn:=by
  have qq:¬OI γ' b:=fun ho=>by
   rcases h.oi b ho with ho|ho
   ·exact hn ho
   omega
  rw[k.same b (zzba hb h.size) qq,h.same b hb hn]
 ro b o hb hr:=by
  obtain⟨h1,h2⟩:=h.ro b o hb hr;obtain⟨k1,k2⟩:=k.ro b o (zzba hb h.size) h1;exact⟨k1,k2.trans h2⟩
 oi b hb:=by
  rcases k.oi b hb with hb|hb
  ·exact h.oi b hb
  exact .inr (zzbc h.size hb)
 ron b o hr:=by
  rcases k.ron b o hr with hr|hr|hr
  ·exact h.ron b o hr
  ·rcases h.oi b hr with hr|hr
   ·exact .inr (.inl hr)
   exact .inr (.inr hr)
  exact .inr (.inr (zzbc h.size hr))
def arb(γs:G)(ws:World)(arr:P1)(te:TypeId):eR where
 p γ w:=Chg γs ws γ w/\ws.heap.size<w.heap.size/\w.heap[ws.heap.size]?=some (.cells arr te (0,0))/\¬OI γ ws.heap.size/\∀o,¬γ.ro ws.heap.size o
 st γ w γ' w':=by
  rintro⟨h1,h2,h3,h4,h5⟩ c;refine⟨h1.trans c,zzba h2 c.size,?_,?_,?_⟩
  ·rw[c.same _ h2 h4];exact h3
  ·intro h;rcases c.oi _ h with h|h
   ·exact h4 h
   omega
  intro o h;rcases c.ron _ _ h with h|h|h
  ·exact h5 o h
  ·exact h4 h
  omega
def au.wO(hm:au N w0 an γ w B L)(o:Obj):Ev w γ (w.alloc o) γ:=
 ⟨zd,fun b o' hb hr=>⟨hr,cell_of_heap (Below.heap_alloc w o b hb)⟩,fun _ _ h=>h,fun _=>zzab _,fun _ _ h=>h,rfl,
  fun i b _ ho=>⟨ho,fun arr e he=>⟨arr,by rw[Below.heap_alloc w o b (hm.own i b ho).2.1];exact he,zzab _⟩,fun _ h=>h⟩,
  fun b hb=>⟨hb,Below.heap_alloc w o b (hm.sp b hb).2.1⟩,Sz.of_same (Below.heap_alloc w o)⟩
def au.awy(hm:au N w0 an γ w B L)(o:Obj)(w1:eR)(h1:w1.p γ (w.alloc o)):au N w1 an γ (w.alloc o) B L where
 bs:=h1
 hN:=by have:=hm.hN;simp;omega
 an:=hm.an
 robd b o h:=by have:=hm.robd b o h;simp;omega
 box id cells b hb h1:=by
  obtain⟨arr,e,h2,h3,h4⟩:=hm.box id cells b hb h1;exact⟨arr,e,by rw[Below.heap_alloc w o b (aR h2)];exact h2,h3.mono (hm.wO o),h4⟩
 β id b hb:=by
  obtain⟨h1,h2,h3⟩:=hm.β id b hb;exact⟨h1,by simp;omega,h3⟩
 inj:=hm.inj
 own id b hb:=by
  obtain⟨h1,h2,h3⟩:=hm.own id b hb;exact⟨h1,by simp;omega,h3⟩
 oinj:=hm.oinj
 sp b hb:=by
  obtain⟨h1,h2,h3⟩:=hm.sp b hb;exact⟨h1,by simp;omega,h3⟩
 mm id b hb:=by
  obtain⟨h1,h2,h3,h4,h5,h6,h8,h7⟩:=hm.mm id b hb;exact⟨h1,by simp;omega,h3,h4,h5,h6,h8,h7.mono (hm.wO o).cH.AB (Below.heap_alloc w o b h2)⟩
 minj:=hm.minj
 len:=hm.len
 cur0:=hm.cur0
def au.oR(hm:au N w0 an γ w B L)(id:Nat)(aL:B id=none)(D:Nat):Ev w γ w (γ.box id D) where
 size:=zzab _
 ro b o' hb hr:=⟨hr,rfl⟩
 β i b hb:=by
  have:i≠id:=by rintro rfl;obtain⟨_,_,_,_,c,hc⟩:=hm.β i b hb;rw[aL]at hc;cases hc
  simp[G.box,this,hb]
 cur _:=zzab _
 mm _ _ h:=h
 lp:=rfl
 own i b _ ho:=⟨ho,fun arr e he=>⟨arr,he,zzab _⟩,fun _ h=>h⟩
 sp b hb:=⟨hb,rfl⟩
 ss:=Sz.refl w
def au.arc(hm:au N w0 an γ w B L)(w1:eR){D id:Nat}(aL:B id=none){cells:P2}{arr:P1}{te:TypeId}(hN:N<=D)(hh:w.heap[D]?=some (.cells arr te (0,0)))(iI:¬OI γ D)(gi:∀o,¬γ.ro D o)
  (hr:cq w γ cells arr.toList)(Iu:∀v∈arr.toList,v.oneCell'=true)(hp:w1.p (γ.box id D) w):au N w1 an (γ.box id D) w (fun i=>if i=id then some cells else B i) L where
 bs:=hp
 hN:=hm.hN
 an:=hm.an
 robd:=hm.robd
 box i cs b hb h1:=by
  by_cases hi:i=id
  ·subst hi;simp at hb;subst hb;simp[G.box]at h1;subst h1;exact⟨arr,te,hh,hr.mono (hm.oR i aL D),Iu⟩
  simp[hi]at hb;simp[G.box,hi]at h1;obtain⟨bN,e',h2,h3,h4⟩:=hm.box i cs b hb h1;exact⟨bN,e',h2,h3.mono (hm.oR id aL D),h4⟩
 β i b hb:=by
  by_cases hi:i=id
  ·subst hi;simp[G.box]at hb;subst hb;exact⟨hN,aR hh,gi,fun i' h=>iI (.inr (.inl ⟨i',h⟩)),cells,zd⟩
  simp[G.box,hi]at hb;obtain⟨h1,h2,h3,h4,c,hc⟩:=hm.β i b hb;exact⟨h1,h2,h3,h4,c,by simp[hi,hc]⟩
 inj i i' b h h':=by
  by_cases hi:i=id<;>by_cases dn:i'=id
  ·exact .inr (.inr (by rw[hi,dn]))
  ·simp[G.box,hi]at h;simp[G.box,dn]at h';subst h;exact absurd (.inl ⟨i',h'⟩) iI
  ·simp[G.box,dn]at h';simp[G.box,hi]at h;subst h';exact absurd (.inl ⟨i,h⟩) iI
  simp[G.box,hi]at h;simp[G.box,dn]at h';simp only[if_neg hi,if_neg dn];exact hm.inj i i' b h h'
 own:=hm.own
 oinj:=hm.oinj
 sp b hb:=by
  obtain⟨h1,h2,h3,h4,h5⟩:=hm.sp b hb;refine⟨h1,h2,h3,fun i hi=>?_,h5⟩;by_cases aL:i=id
  ·simp[G.box,aL]at hi;subst hi;exact iI (.inr (.inr (.inl hb)))
  simp[G.box,aL]at hi;exact h4 i hi
 mm i' b hb:=by
  obtain⟨h1,h2,h3,h4,h5,h6,h8,h7⟩:=hm.mm i' b hb
  have aO:i'≠id:=by
   rintro rfl;obtain⟨_,_,hx,_⟩:=h7;rw[aL]at hx;cases hx
  refine⟨h1,h2,h3,fun i hi=>?_,h5,h6,by simp[G.box,aO,h8],?_⟩
  ·by_cases aL:i=id
   ·simp[G.box,aL]at hi;subst hi;exact iI (.inr (.inr (.inr ⟨i',hb⟩)))
   simp[G.box,aL]at hi;exact h4 i hi
  simp only[aO,if_false];exact h7.mono (hm.oR id aL D).cH.AB rfl
 minj:=hm.minj
 len:=hm.len
 cur0:=hm.cur0
def CQ{l:Array Bool}{i j:Nat}:(l.setIfInBounds i true).setIfInBounds j true=(l.setIfInBounds j true).setIfInBounds i true:=by
 by_cases h:i=j
 ·rw[h]
 exact Array.setIfInBounds_comm _ _ h
structure awz (N:Nat) (w0:eR) (r:Option Nat) (an:Nat->Nat->Prop) (S:G×World) (Y:YT) (P:Program) (gl:Nat->AV) (orc:UV) (ops:Array Oper) (T0:P2) (m:AM) (ms:QP) (js:Pa) (L:QQ) (p jp z t:Nat) (zs:P2) (listed l0:Array Bool) (γs:G) (ws:World) (arr:P1) (te:TypeId) (γ:G) (w:World) (a:Act):Prop where
 eq:listed=l0.setIfInBounds z true
 zl:l0.getD z false=false
 pl:l0.getD jp false=false
 clo:Fa ops listed
 inv:qR N (arb γs ws arr te) r an S Y P gl orc ops T0 m ms js L p l0 γ w a
 st:w0.p γs ws
 hN:N<=ws.heap.size
 slot:t<T0.length->a.tmps.getD t undef=.pointer (some ⟨ws.heap.size,0,none⟩)
 zr:∀w γ,ak w γ zs arr.toList
 zc:zs.all Qx=true
def Fq{Q:PP}{K:AS->Prop}{γ:G}{w:World}{s:AS}{a:Act}{js:Pa}{jp z t:Nat}(hQ:∀γ w s a,K s->ew N w0 r an S P gl Y γ w s a->Q .normal a w)(hc:uy ops p=true)(heZ:NG ops p=some (js,jp,z,t))
  (hY:∀i as' m K,¬Y i as' m K){ms:QP}(h:ir P gl orc Y ((ops.toList.drop p).map (Xe P ops)) K s.m ms ((ops.toList.take p).map (Xe P ops)) (flags ops p js) ms s.m s.T)(hT:s.T.getD t .junk=.junk)(hs:ew N w0 r an S P gl Y γ w s a):
  wpAnyIn (FW r) 0 P .any ops Q ops.size (Array.replicate ops.size false) a {w with drawn:=w.drawn+1}:=by
 obtain⟨hp,cW⟩:=Zb hc;obtain⟨fU,gC,⟨oz,te,Wa,dw,hdz,hgz⟩,hzp,ain,az,haz,tQ⟩:=J3 heZ;have iL:js.Nodup:=by rw[fU];exact(zzdl).filter _
 have wL:∀j∈js,j<p:=fun j h=>by rw[fU,zzca]at h;exact zzaw.1 h.1
 have awA:=zzad tQ;have awB:=zzad haz;have adV:=wL z awA;have ay4:=wL jp awB
 have hpz:jp≠z:=by
  rintro rfl;have:=Ud iL haz tQ;omega
 obtain⟨aH,h1,h2⟩:=NF (P:=P) (gl:=gl) (orc:=orc) (T0:=s.T) (m:=s.m) ((ops.toList.drop p).map (Xe P ops)) K hp fU p 0 s.m zd (by simp[cR]) (by simp[cR,Vz]) (by simpa[bH,cR]using h);have hyk:∀(w0:eR)(γ:G)(w:World),YOK N w0 an P Y γ w:=fun _ _ _ _ _ _ i as' m K _ _ _ _ hyy=>(hY i as' m K hyy).elim;obtain⟨xz,hxz⟩:∃xz,ms[az+1]?=some xz:=⟨ms[az+1]'(by have:=(zza.1 tQ).1;omega),zzaf _⟩;have Wb:=(h1 z oz (zzbp _) adV Wa).2.1 (az+1) xz tQ hxz
 have Iz:∃zs,zc P te=some zs/\tr P oz=.alloc zs:=by
  obtain⟨dst,op,ty,pos,after,guard⟩:=oz;simp only at dw;subst dw;simp only[tr]at Wb |-
  cases hzc:zc P te with
  |none=>rw[hzc]at Wb;exact absurd Wb.1 (by simp[memEff])
  |some zs=>exact⟨zs,rfl,rfl⟩
 obtain⟨zs,hzc,Iz⟩:=Iz;rw[Iz]at Wb;obtain⟨_,e1,e2,e3⟩:=Wb;have e1:zs.all Qx=true:=e1;have e2:xz.1=.ptr (Vz s.m ms (az+1)).boxes.length 0:=e2;have e3:xz.2={Vz s.m ms (az+1)with boxes:=(Vz s.m ms (az+1)).boxes++[zs]}:=e3
 have full:∀(aT:Nat)(listed:Array Bool)(γ:G)(w:World)(a:Act),qR N w0 r an S Y P gl orc ops s.T s.m ms js (Xa js ms) p listed γ w a->uc ops listed<=aT->(∀i,i<p->listed.getD i false=true)->wpAnyIn (FW r) 0 P .any ops Q aT listed a w:=by
  intro aT listed γ w a hI jh bD;have hml:Yy listed s.m js ms=Vz s.m ms ms.length:=Uz aH zE (fun b j _ hb=>bD j (wL j (zzad hb))) (fun j hj=>by rw[zzat zE]at hj;cases hj);have gR:=hI.mm;have iK:=hI.ls;rw[hml]at gR iK;refine Qdy hQ hc aT p listed γ w _ a (zzab _) hp hI.size bD hI.tail jh h2 ⟨gR,iK,hI.rd,⟨?_,fun t x v hx hv=>?_⟩,hI.d,hI.g,hI.y,hI.e⟩
  ·simp[Qbd,hI.tl]
  have h1:=hI.tt t
  have hAt:me P gl orc ops s.T s.m (Xa js ms) p listed t=x:=by
   have iJ:(bH P gl orc ops s.T s.m (Xa js ms) p).getD t .junk=x:=by simp only at hx;simp[List.getD,hx]
   unfold me;split
   ·exact iJ
   rename_i hw;rw[<- iJ];refine(Qbi p fun j hj hd=>hw ?_).symm;unfold wr;rw[zzbq];exact⟨j,zzaw.2 hj,by rw[bD j hj,hd];simp⟩
  rw[hAt]at h1;have:a.tmps.getD t undef=v:=by simp at hv;simp[hv]
  rwa [this]at h1
 have main:∀(aT:Nat)(listed:Array Bool)(γ:G)(w:World)(a:Act),(qR N w0 r an S Y P gl orc ops s.T s.m ms js (Xa js ms) p listed γ w a\/∃l0 γs ws arr zj,awz N w0 r an S Y P gl orc ops s.T s.m ms js (Xa js ms) p jp z t zs listed l0 γs ws arr zj γ w a)->
   uc ops listed<=aT->wpAnyIn (FW r) 0 P .any ops Q aT listed a w:=by
  intro aT;induction aT with
  |zero=>
   intro listed γ w a hI jh;obtain hI|⟨l0,γs,ws,arr,zj,hH⟩:=hI
   ·exact full 0 listed γ w a hI jh fun i hi=>by
     rw[Xc (by rw[hI.size];omega) false true];exact Qdx (zzfa.1 jh) zE
   exfalso;have hsz:listed.size=ops.size:=by rw[hH.eq];simp[hH.inv.size]
   have:=Qdx (ops:=ops) (listed:=listed) (zzfa.1 jh) (i:=jp) zE;rw[<- Xc (by rw[hsz];omega) false true,hH.eq,Qw hpz,hH.pl]at this;cases this
  |succ aT ih=>
   intro listed γ w a hI jh;obtain hI|⟨l0,γs,ws,arr,zj,hH⟩:=hI
   ·by_cases bD:∀i,i<p->listed.getD i false=true
    ·exact full (aT+1) listed γ w a hI jh bD
    have hex:∃k,k<p/\listed.getD k true=false:=by
     refine Classical.byContradiction fun hn=>bD fun i hi=>?_;rw[Xc (by rw[hI.size];omega) false true];cases hl:listed.getD i true with
     |true=>rfl
     |false=>exact absurd ⟨i,hi,hl⟩ hn
    obtain⟨k,hk,JW⟩:=hex;refine⟨fun hr=>?_,fun i hi=>?_⟩
    ·obtain⟨j,hj⟩:=Uj hc hI.size k k (zzab _) zE JW;rw[hr]at hj;cases hj
    obtain⟨ah,hu,o,ho,bT⟩:=Uk hc hi
    have dg:i<p:=by
     rcases zzaa i p with h|h
     ·exact h
     have:=Qbk hI.clo ho ((cW i o ho).2.2 h) bT i k zE zE;rw[Xc (by rw[hI.size];omega) false true,JW]at this;cases this
    have huf:listed.getD i false=false:=by rw[Xc (by rw[hI.size];exact ah) false true];exact hu
    by_cases hear:i=z/\listed.getD jp false=false
    ·
     obtain⟨rfl,hjp⟩:=hear;rw[Wa]at ho;cases ho;obtain⟨iz,zv,hi1,hi2,hi3⟩:=ja (P:=P) (w:=w) (γ:=γ) hzc
     have ard:∀w γ,ak w γ zs zv.cells.toList:=fun w γ=>by
      obtain⟨i',z',q1,q2,q3⟩:=ja (P:=P) (w:=w) (γ:=γ) hzc;rw[hi1]at q1;cases q1;rw[hi2]at q2;cases q2;exact q3
     have aZ:(execOp a.eval oz).run P w=.ok (.value (.pointer (some ⟨w.heap.size,0,none⟩))) (w.alloc (.cells zv.cells te)):=by
      obtain⟨dst,op,ty,pos,after,guard⟩:=oz;simp only at dw;subst dw;simp[execOp,Instr.alloc,zeroValue,typeInfo,hi1,hi2,newVar,newRow]
     simp only[wpOpIn,Wa];rw[if_pos (by simp[Region.wanted,hgz])];refine Zj aZ (ih _ γ _ _ (.inr ⟨listed,γ,w,zv.cells,te,⟨rfl,huf,hjp,Fa.set hI.clo Wa (by rw[hI.size];exact ah) bT,?_,hI.mm.bs,hI.mm.hN,?_,ard,e1⟩⟩) ?_)
     ·have bP:=hI.mm.wO (.cells zv.cells te);refine⟨hI.size,hI.tail,hI.ch,hI.clo,hI.mm.awy _ _ ?_,hI.ls.mono bP,hI.rd.aU bP.cH,by simp[Act.put,hdz,hI.tl],fun t'=>?_,?_,fun g=>(hI.g g).aU bP.cH.cU,hyk _ _ _,hI.e.trans bP.cH⟩
      ·refine⟨⟨rfl,rfl,rfl,zd,fun b hb _=>Below.heap_alloc w _ b hb,bP.ro,fun _ h=>.inl h,fun _ _ h=>.inl h⟩,zd,heap_alloc_new w _,?_,fun o' cO=>?_⟩
       ·rintro(⟨id,h⟩|⟨id,h⟩|h|⟨id,h⟩)
        ·have:=(hI.mm.β id _ h).2.1;omega
        ·have:=(hI.mm.own id _ h).2.1;omega
        ·have:=(hI.mm.sp _ h).2.1;omega
        have:=(hI.mm.mm id _ h).2.1;omega
       have:=hI.mm.robd _ _ cO;omega
      ·rw[hdz];by_cases htt:t'=t
       ·subst htt
        have hA:me P gl orc ops s.T s.m (Xa js ms) p listed t'=.junk:=by
         unfold me;rw[if_neg,hT];intro hw;unfold wr at hw;obtain⟨j,hj,hjw⟩:=zzbq.1 hw;simp only[zzac,beq_iff_eq]at hjw
         have hjz:j=i:=by
          rcases zzdw j i with bZ|Ef|lI
          ·exact absurd hdz (((cW i oz Wa).2.1 adV).2 j bZ t' hjw.2)
          ·exact Ef
          obtain⟨oj,hoj⟩:=gC j (zzaw.1 hj);have:=((cW j oj hoj).2.1 (zzaw.1 hj)).2 i lI t' (by simp[Vh,Wa,hdz]);have h2:=hjw.2;simp[Vh,hoj]at h2;exact absurd h2 this
         rw[hjz,huf]at hjw;exact absurd hjw.1 zd
        rw[hA];exact .junk _
       have:(a.put (some t) (.pointer (some ⟨w.heap.size,0,none⟩))).tmps.getD t' undef=a.tmps.getD t' undef:=by
        simp only[Act.put];simp;rw[zzcp (Ne.symm htt)]
       rw[this];exact(hI.tt t').aU bP.cH
      rw[hdz];exact hI.d.aU bP.cH
     ·intro lZ;rw[hdz];have:t<a.tmps.size:=by rw[hI.tl];exact lZ
      simp[Act.put,this]
     have:=jg hI.size ah hu;omega
    have nj:∀a j,js[a]?=some j->js[a+1]?=some i->listed.getD j false=true:=fun a j e1 e2=>by
     rcases ain a j i o e1 e2 ho with h|⟨rfl,rfl⟩
     ·exact bT j h
     cases hl:listed.getD j false with
     |true=>rfl
     |false=>exact absurd ⟨rfl,hl⟩ hear
    refine wpOpIn_mono ?_ (Qcj hc hI ho dg (h1 i o (zzbp _) dg ho).2.2 aH iL hu bT nj (h1 i o (zzbp _) dg ho).1 (h1 i o (zzbp _) dg ho).2.1);rintro a' w' ⟨γ',lJ,_⟩;refine ih _ γ' w' a' (.inl lJ) ?_;have:=jg hI.size ah hu;omega
   have hsz:listed.size=ops.size:=by rw[hH.eq];simp[hH.inv.size]
   have qp:∀k d,k≠z->listed.getD k d=l0.getD k d:=fun k d hk=>by rw[hH.eq,Qw hk]
   have ald:listed.getD jp false=false:=by rw[qp jp false hpz];exact hH.pl
   have are:jp<listed.size:=by rw[hsz];omega
   have arf:z<l0.size:=by rw[hH.inv.size];omega
   refine⟨fun hr=>?_,fun i hi=>?_⟩
   ·obtain⟨j,hj⟩:=Uj hc hsz jp jp (zzab _) zE (by rw[Xc are true false];exact ald);rw[hr]at hj;cases hj
   obtain⟨ah,hu,o,ho,bT⟩:=Uk hc hi
   have dg:i<p:=by
    rcases zzaa i p with h|h
    ·exact h
    have:=Qbk hH.clo ho ((cW i o ho).2.2 h) bT i jp zE zE;rw[ald]at this;cases this
   have hiz:i≠z:=by
    rintro rfl;rw[hH.eq,Xq arf]at hu;cases hu
   have aio:∀j∈Xx o,l0.getD j false=true:=fun j hj=>by
    have hjz:j≠z:=by
     rintro rfl;have:=bT jp (hzp i o dg ho hj);rw[ald]at this;cases this
    rw[<- qp j false hjz];exact bT j hj
   have hu0:l0.getD i true=false:=by rw[<- qp i true hiz];exact hu
   have nj:∀a j,js[a]?=some j->js[a+1]?=some i->l0.getD j false=true:=fun a j e1 e2=>by
    rcases ain a j i o e1 e2 ho with h|⟨_,h⟩
    ·exact aio j h
    exact absurd h hiz
   refine wpOpIn_mono ?_ (Qcj (w0:=arb γs ws arr zj) hc hH.inv ho dg (h1 i o (zzbp _) dg ho).2.2 aH iL hu0 aio nj (h1 i o (zzbp _) dg ho).1 (h1 i o (zzbp _) dg ho).2.1);rintro a' w' ⟨γ',lJ,zL⟩;have arh:listed.setIfInBounds i true=(l0.setIfInBounds i true).setIfInBounds z true:=by rw[hH.eq];exact CQ
   have hdt:o.dst≠some t:=by
    rcases zzdw i z with bZ|Ef|lI
    ·intro hd;exact((cW z oz Wa).2.1 adV).2 i bZ t (by simp[Vh,ho,hd]) hdz
    ·exact absurd Ef hiz
    exact((cW i o ho).2.1 dg).2 z lI t (by simp[Vh,Wa,hdz])
   have aip:t<s.T.length->a'.tmps.getD t undef=.pointer (some ⟨ws.heap.size,0,none⟩):=fun lZ=>by rw[zL t hdt];exact hH.slot lZ
   have jh:uc ops (listed.setIfInBounds i true)<=aT:=by
    have:=jg hsz ah hu;omega
   by_cases eG:i=jp
   ·subst eG;have zI:=Fa.set hH.clo ho (by rw[hsz];exact ah) bT;refine ih _ (γ'.box (Vz s.m ms (az+1)).boxes.length ws.heap.size) w' a' (.inl ?_) jh;rw[arh]at zI |-
    obtain⟨c1,c2,c3,c4,c5⟩:=lJ.mm.bs;have ale:i<l0.size:=by rw[hH.inv.size];exact ah
    have hz0:(l0.setIfInBounds i true).getD z false=false:=by rw[Qw (Ne.symm hiz)];exact hH.zl
    have CL:∀b j,b<az+1->js[b]?=some j->(l0.setIfInBounds i true).getD j false=true:=fun b j hb hj=>by
     rcases zzaa b az with bZ|bq
     ·exact Qbt lJ.ch bZ hj haz (Xq ale)
     obtain rfl:b=az:=zE
     rw[haz]at hj;cases hj;exact Xq ale
    have ay5:az+1<js.length:=(zza.1 tQ).1;have tN:Yy (l0.setIfInBounds i true) s.m js ms=Vz s.m ms (az+1):=Uz aH zE CL (fun j hj=>by rw[tQ]at hj;cases hj;exact hz0)
    have zm:Yy ((l0.setIfInBounds i true).setIfInBounds z true) s.m js ms=xz.2:=by
     have:=Uz (listed:=(l0.setIfInBounds i true).setIfInBounds z true) (m:=s.m) (a:=az+2) aH zE (fun b j hb hj=>?_) (fun j hj=>?_)
     ·rw[this];simp[Vz,List.getD,hxz]
     ·rcases zzaa b (az+1)with h|h
      ·have hjz:j≠z:=by
        rintro rfl;have:=Ud iL hj tQ;omega
       rw[Qw hjz];exact CL b j h hj
      obtain rfl:b=az+1:=zE
      rw[tQ]at hj;cases hj;exact Xq (Nm arf)
     have hjz:j≠z:=by
      rintro rfl;have:=Ud iL hj tQ;omega
     rw[Qw hjz];cases hl:(l0.setIfInBounds i true).getD j false with
     |false=>rfl
     |true=>
      have:=Qbt lJ.ch (zzez (az+1)) tQ hj hl;rw[hz0]at this;cases this
    have gR:=lJ.mm;have iK:=lJ.ls;rw[tN]at gR iK;have aL:(Vz s.m ms (az+1)).B (Vz s.m ms (az+1)).boxes.length=none:=by simp[AM.B]
    have bP:=gR.oR _ aL ws.heap.size;refine⟨by simp[hH.inv.size],fun j dX oq=>by rw[Qw zE];exact lJ.tail j dX oq,uA lJ.ch (fun b j g1 g2=>?_),zI,?_,?_,lJ.rd.aU bP.cH,lJ.tl,fun t'=>?_,lJ.d.aU bP.cH,fun g=>(lJ.g g).aU bP.cH.cU,hyk _ _ _,lJ.e.trans bP.cH⟩
    ·have:b+1=az+1:=Ud iL g2 tQ;obtain rfl:b=az:=zE
     exact CL _ j (zzez _) g1
    ·rw[zm,e3];have hmA:=gR.arc w0 (te:=zj) aL hH.hN c3 c4 c5 (hH.zr w' γ').toP (Yl (hH.zr w' γ') hH.zc) (w0.st γs ws _ w' hH.st ⟨c1.os,c1.tape,c1.output,c1.size,c1.same,c1.ro,fun b hb=>?_,c1.ron⟩)
     ·have hB:({Vz s.m ms (az+1)with boxes:=(Vz s.m ms (az+1)).boxes++[zs]}:AM).B=fun i=>if i=(Vz s.m ms (az+1)).boxes.length then some zs else(Vz s.m ms (az+1)).B i:=Sw _ _;rw[hB];exact hmA
     obtain⟨i',dn⟩|hb|hb:=hb
     ·by_cases h:i'=(Vz s.m ms (az+1)).boxes.length
      ·simp[G.box,h]at dn;exact .inr zE
      simp[G.box,h]at dn;exact c1.oi b (.inl ⟨i',dn⟩)
     ·exact c1.oi b (.inr (.inl hb))
     exact c1.oi b (.inr (.inr hb))
    ·rw[zm,e3];exact iK.mono' bP rfl
    rw[CK hc (by simp[hH.inv.size]) Wa adV];by_cases CM:oz.dst=some t'/\t'<s.T.length
    ·rw[if_pos CM];rw[hdz]at CM;obtain⟨awC,J4⟩:=CM;cases awC;rw[Qcx (P:=P) (gl:=gl) (orc:=orc) (ops:=ops) (m:=s.m) iL tQ hxz,e2,aip J4];exact .ptr (by simp[G.box])
    rw[if_neg CM];exact(lJ.tt t').mono bP
   exact ih _ γ' w' a' (.inr ⟨l0.setIfInBounds i true,γs,ws,arr,zj,arh,by rw[Qw (Ne.symm hiz)];exact hH.zl,by rw[Qw (Ne.symm eG)];exact hH.pl,Fa.set hH.clo ho (by rw[hsz];exact ah) bT,lJ,hH.st,hH.hN,aip,hH.zr,hH.zc⟩) jh
 have tO:∀j,(Array.replicate ops.size false).getD j false=false:=fun j=>by
  rcases zzaa j ops.size with h|h<;>simp[h]
 have nj:∀V5:Pa,chn (Array.replicate ops.size false) V5:=fun V5=>by
  induction V5 with
  |nil=>trivial
  |cons j r ih=>
   cases r with
   |nil=>trivial
   |cons j' r=>exact⟨fun h=>(by rw[tO]at h;cases h),ih⟩
 have JX:Yy (Array.replicate ops.size false) s.m js ms=s.m:=Uz (a:=0) aH zE (fun b j hb=>zE) (fun j _=>tO j);refine main ops.size _ γ w.drew a (.inl ⟨zd,fun i _ hi=>by simp[hi],nj js,fun j o h=>(by rw[tO]at h;cases h),?_,?_,hs.rd.aU (Ev.drew w γ).cH,?_,fun t=>?_,hs.d.aU (Ev.drew w γ).cH,fun g=>(hs.g g).mono (Ev.drew w γ).cU,hs.y.mono (Ev.drew w γ).cH,hs.e.trans (Ev.drew w γ).cH⟩) ?_
 ·rw[JX];exact hs.m.drew
 ·rw[JX];exact hs.ls.mono (Ev.drew w γ)
 ·have:=hs.t.1;simp at this;omega
 ·have hw:wr ops p (Array.replicate ops.size false) t=false:=by
   unfold wr;rw[zzdm];intro j _;rw[tO j];simp
  unfold me;rw[hw];simp only[zzbh,if_false];have:=(hs.t.mono (Ev.drew w γ)).get t;simpa[List.getD]using this
 unfold uc;exact zzbc (zzet) zd
end
open Go Go.RowKit
inductive SC where
 |skip
 |ops (l:List SO)
 |draw (l l2:List SO)
 |drawE (fl:List Fg) (l l2:List SO)
 |drawZ (z:Nat) (fl:List Fg) (l l2:List SO)
 |seq (a b:SC)
 |cond (x:bE) (a b:SC)
 |block (id:Nat) (c:SC)
 |loop (c:SC)
 |exit (id:Nat)
 |scope (c:SC)
 |rfunc (g:bE) (ps:Pa) (iw body:SC)
 |ret
 |bad
def oS:Pa->SC->SC
 |[],c=>c
 |0::p,.seq x _=>oS p x
 |_::p,.seq _ x=>oS p x
 |0::p,.cond _ x _=>oS p x
 |_::p,.cond _ _ x=>oS p x
 |_::p,.block _ x=>oS p x
 |_::p,.loop x=>oS p x
 |_::p,.scope x=>oS p x
 |0::p,.rfunc _ _ x _=>oS p x
 |_::p,.rfunc _ _ _ x=>oS p x
 |_,c=>c
def zN:Pa->SC->SC->SC
 |[],_,t=>t
 |0::p,.seq x y,t=>.seq (zN p x t) y
 |_::p,.seq y x,t=>.seq y (zN p x t)
 |0::p,.cond c x y,t=>.cond c (zN p x t) y
 |_::p,.cond c y x,t=>.cond c y (zN p x t)
 |_::p,.block n x,t=>.block n (zN p x t)
 |_::p,.loop x,t=>.loop (zN p x t)
 |_::p,.scope x,t=>.scope (zN p x t)
 |0::p,.rfunc g l x y,t=>.rfunc g l (zN p x t) y
 |_::p,.rfunc g l y x,t=>.rfunc g l y (zN p x t)
 |_,c,_=>c
def alf(n:Nat):Pa->Pa
 |[]=>[n]
 |k::l=>bif n.ble k then(bif n.beq k then k::l else n::k::l)else k::alf n l
def CR(r:Pa):List SO->Pa
 |[]=>r
 |o::l=>match o.dst with|some n=>alf n (CR r l)|none=>CR r l
def ari(r:Pa):Pa->Pa
 |[]=>r
 |n::l=>alf n (ari r l)
def rW(r:Pa):SC->Pa
 |.ops l=>CR r l
 |.draw l k=>CR (CR r k) l
 |.drawE _ l k=>CR (CR r k) l
 |.drawZ _ _ l k=>CR (CR r k) l
 |.seq x y=>rW (rW r y) x
 |.cond _ x y=>rW (rW r y) x
 |.block _ x=>rW r x
 |.loop x=>rW r x
 |.scope x=>rW r x
 |.rfunc _ l x y=>rW (rW (ari r l) y) x
 |_=>r
abbrev J5(p:Pa)(c:SC):={x:SC // x=oS p c}
abbrev Fs(p:Pa)(c:SC):={x:SC->SC // ∀t,x t=zN p c t}
abbrev wT(p:Pa)(c:SC):={x:Pa // x=rW [] (oS p c)}
def Qbh{P:Program}{ops:Array Oper}{p:Nat}{js:Pa}(hc:uy ops p=true):(flags ops p js).length=((ops.toList.take p).map (Xe P ops)).length:=by
 have:=(Zb hc).1;simp[flags];omega
def alg{P:Program}{ops:Array Oper}{p:Nat}{js:Pa}(hc:uy ops p=true)(h:adU (flags ops p js++bkF ops p js) ((ops.toList.take p).map (Xe P ops))=true):wM ops p js=true:=by
 unfold adU at h;rw[<- Qbh (js:=js) hc,zzfz]at h;unfold bkF at h;cases hb:wM ops p js with
 |true=>rfl
 |false=>rw[hb]at h;simp at h
def Yj(P:Program):Code->SC
 |.skip=>.skip
 |.region _ ops false=>.ops (ops.toList.map (Xe P ops))
 |.region _ ops true=>if P.follows .mixedOrders&&uy ops (SA ops)then(match Qeg ops (SA ops)with
  |some js=>.drawE (flags ops (SA ops) js++bkF ops (SA ops) js) ((ops.toList.take (SA ops)).map (Xe P ops)) ((ops.toList.drop (SA ops)).map (Xe P ops))
  |none=>(match NG ops (SA ops)with
   |some (js,_,_,t)=>.drawZ t (flags ops (SA ops) js) ((ops.toList.take (SA ops)).map (Xe P ops)) ((ops.toList.drop (SA ops)).map (Xe P ops))
   |none=>.draw ((ops.toList.take (SA ops)).map (Xe P ops)) ((ops.toList.drop (SA ops)).map (Xe P ops))))else .bad
 |.seq a b=>.seq (Yj P a) (Yj P b)
 |.cond c a b=>.cond (aC c) (Yj P a) (Yj P b)
 |.block id c=>.block id (Yj P c)
 |.loop c=>.loop (Yj P c)
 |.exit id=>.exit id
 |.label _=>.skip
 |.scope c=>.scope (Yj P c)
 |.rangeFunc g ps iw body=>.rfunc (aC g) ps.toList (Yj P iw) (Yj P body)
 |.ret=>.ret
 |_=>.bad
def uC(st:Nat->LS)(l:Nat)(x:LS):Nat->LS:=fun i=>if i=l then x else st i
def AM.at_(m:AM)(l:Nat)(x:LS):AM:={m with st:=uC m.st l x}
def AM.bK(m:AM):AM:={m with st:=uC m.st m.ln .ready,ln:=m.ln+1}
def Qaq(T:P2):Pa->P2->P2
 |p::ps,x::xs=>Qaq (T.set p x) ps xs
 |_,_=>T
section vc
variable (P:Program) (gl:Nat->AV) (orc:UV) (Y:YT)
def Wc(k:AS->(R0)->Prop)(Q:R0):R0
 |.normal,s=>k s Q
 |ex,s=>Q ex s
def nq(id:Nat)(Q:R0):R0
 |.exit id',s=>if id'=id then Q .normal s else Q (.exit id') s
 |ex,s=>Q ex s
def wP(Q:R0):R0
 |.goto _,_=>False
 |ex,s=>Q ex s
def nr(I:AS->Prop)(μ:AS->Nat)(s:AS)(Q:R0):R0
 |.normal,s'=>I s'/\μ s'<μ s
 |ex,s'=>Q ex s'
def P4(l:Nat)(K:Bool->AM->Prop):R0
 |.normal,s=>K true (s.m.at_ l .ready)
 |.ret,s=>K false (s.m.at_ l (.done .ret))
 |.exit id,s=>K false (s.m.at_ l (.done (.exit id)))
 |_,_=>False
def J6(l:Nat)(k:AS->Prop):R0
 |.normal,s=>s.m.st l=.ready/\k ⟨s.T,s.m.at_ l .busy⟩
 |_,_=>False
def CS(l:Nat)(T:P2)(m:AM)(Q:R0):LS->Prop
 |.ready=>Q .normal ⟨T,m.at_ l .gone⟩
 |.done ex=>Q ex ⟨T,m.at_ l .gone⟩
 |_=>False
def Yin(l n:Nat)(k:P2->AM->(Bool->AM->Prop)->Prop):YT:=fun l' args m K=>if l'=l then m.st l=.ready/\args.length=n/\k args m K else Y l' args m K
def vc:SC->AS->(R0)->Prop
 |.skip,s,Q=>Q .normal s
 |.ops l,s,Q=>Zo P gl orc Y l s (Q .normal)
 |.draw l l2,s,Q=>SB P gl orc Y l2 (Q .normal) l s.T s.m []
 |.drawE fl l l2,s,Q=>SB P gl orc Y l2 (Q .normal) l s.T s.m []\/(∃ms,nh P gl orc Y l2 (Q .normal) s.m ms l fl ms s.m s.T)\/(adU fl l=true/\∃(ms:QP)(R:So),(∃x:AV×AM,R x.1 x.2)/\∀x:AV×AM,R x.1 x.2->iN P gl orc Y R l2 (Q .normal) s.m (ms++[x]) l fl (ms++[x]) s.m s.T)\/(∃(ms:QP)(R:So)(Vs:P2),(∃x:AV×AM,R x.1 x.2)/\∀x:AV×AM,R x.1 x.2->iN P gl orc Y R l2 (Q .normal) s.m (ms++[x]) l fl (ms++[x]) s.m s.T/\Zk P gl orc s.m l fl (ms++[x]) s.T=Vs)\/∃ms,ir P gl orc Y l2 (Q .normal) s.m ms l fl ms s.m s.T
 |.drawZ z fl l l2,s,Q=>(∀i as' m K,¬Y i as' m K)/\s.T.getD z .junk=.junk/\∃ms,ir P gl orc Y l2 (Q .normal) s.m ms l fl ms s.m s.T
 |.seq a b,s,Q=>vc a s (Wc (vc b) Q)
 |.cond x a b,s,Q=>match ev gl s.T x with
  |.bool t=>(t=true->vc a s Q)/\(t=false->vc b s Q)
  |_=>False
 |.block id c,s,Q=>vc c s (nq id Q)
 |.loop c,s,Q=>∃(I:AS->Prop)(μ:AS->Nat),I s/\∀s',I s'->vc c s' (nr I μ s' Q)
 |.exit id,s,Q=>Q (.exit id) s
 |.scope c,s,Q=>vc c s (wP Q)
 |.rfunc g ps iw body,s,Q=>match ev gl s.T g with
  |.fn f first cap=>s.m.st s.m.ln=.gone->aB P gl (Yin Y s.m.ln ps.length fun args m K=>vc iw ⟨Qaq s.T ps args,m⟩ (J6 s.m.ln fun s'=>vc body s' (P4 s.m.ln K))) f (first++[.yld s.m.ln]++cap) (s.m.bK)
    fun _ m'=>CS s.m.ln s.T m' Q (m'.st s.m.ln)
  |_=>False
 |.ret,s,Q=>Q .ret s
 |.bad,_,_=>False
end vc
section
variable {N:Nat} {w0:eR} {r:Option Nat} {an:Nat->Nat->Prop} {S:G×World} {Y:YT} {P:Program} {gl:Nat->AV} {orc:UV} {γ:G} {w:World}
def lift(N:Nat)(w0:eR)(r:Option Nat)(an:Nat->Nat->Prop)(S:G×World)(P:Program)(gl:Nat->AV)(Y:YT)(Q:R0):PP:=fun ex a w=>∃γ s,ew N w0 r an S P gl Y γ w s a/\Q ex s
def au.Wf{B:Nat->PH}{L:Nat->Option Nat}(hm:au N w0 an γ w B L)(o:Obj):
  au N w0 an {γ with sp:=fun b=>γ.sp b\/b=w.heap.size} (w.alloc o) B L/\Ev w γ (w.alloc o) {γ with sp:=fun b=>γ.sp b\/b=w.heap.size}:=by
 have bP:Ev w γ (w.alloc o) {γ with sp:=fun b=>γ.sp b\/b=w.heap.size}:=
  ⟨zd,fun b o' hb hr=>⟨hr,cell_of_heap (Below.heap_alloc w o b hb)⟩,fun _ _ h=>h,fun _=>zzab _,fun _ _ h=>h,rfl,
   fun i b _ ho=>⟨ho,fun arr e he=>⟨arr,by rw[Below.heap_alloc w o b (hm.own i b ho).2.1];exact he,zzab _⟩,fun _ h=>h⟩,
   fun b hb=>⟨.inl hb,Below.heap_alloc w o b (hm.sp b hb).2.1⟩,Sz.of_same (Below.heap_alloc w o)⟩
 refine⟨⟨w0.st _ _ _ _ hm.bs ⟨rfl,rfl,rfl,zd,fun b hb _=>Below.heap_alloc w _ b hb,bP.ro,fun b hb=>?_,fun _ _ h=>.inl h⟩,by have:=hm.hN;simp;omega,hm.an,fun b o h=>by have:=hm.robd b o h;simp;omega,
  fun id cells b hb h1=>?_,fun id b hb=>?_,hm.inj,fun id b hb=>?_,hm.oinj,fun b hb=>?_,fun id b hb=>?_,hm.minj,hm.len,hm.cur0⟩,bP⟩
 ·obtain hb|hb|(hb|rfl)|hb:=hb
  ·exact .inl (.inl hb)
  ·exact .inl (.inr (.inl hb))
  ·exact .inl (.inr (.inr (.inl hb)))
  ·exact .inr (zzab _)
  exact .inl (.inr (.inr (.inr hb)))
 ·obtain⟨arr,e,h2,h3,h4⟩:=hm.box id cells b hb h1;exact⟨arr,e,by rw[Below.heap_alloc w _ b (aR h2)];exact h2,h3.mono bP,h4⟩
 ·obtain⟨h1,h2,h3⟩:=hm.β id b hb;exact⟨h1,by simp;omega,h3⟩
 ·obtain⟨h1,h2,h3⟩:=hm.own id b hb;exact⟨h1,by simp;omega,h3⟩
 ·obtain hb|rfl:=hb
  ·obtain⟨h1,h2,h3⟩:=hm.sp b hb;exact⟨h1,by simp;omega,h3⟩
  refine⟨hm.hN,zd,fun o' h=>?_,fun id h=>?_,fun id h=>?_⟩
  ·have:=hm.robd _ _ h;omega
  ·have:=(hm.β id _ h).2.1;omega
  have:=(hm.own id _ h).2.1;omega
 obtain⟨h1,h2,h3,h4,h5,h6,h8,h7⟩:=hm.mm id b hb;refine⟨h1,by simp;omega,h3,h4,h5,?_,h8,h7.mono bP.cH.AB (Below.heap_alloc w o b h2)⟩;rintro(h|rfl)
 ·exact h6 h
 omega
def au.aiq{B:Nat->PH}{L:Nat->Option Nat}(hm:au N w0 an γ w B L){D:Nat}(hD:γ.sp D){o o0:Obj}(h0:w.heap[D]?=some o0)(hnc:∀c e f,o0≠.cells c e f)(awD:∀c e f,o≠.cells c e f)
  {γ':G}(hγ:γ'=γ\/γ'={γ with sp:=fun b=>γ.sp b/\b≠D})(Wg:γ'=γ->qE (some o0) (some o)):
  au N w0 an γ' (w.putObj D o) B L/\No w γ (w.putObj D o) γ'/\(∀wS γS,eD wS γS w γ->(γ'=γ\/¬γS.sp D)->eD wS γS (w.putObj D o) γ'):=by
 have ah:D<w.heap.size:=aR h0;have cQ:∀b,b≠D->(w.putObj D o).heap[b]?=w.heap[b]?:=fun b hb=>World.putObj_heap_other hb;have E4:(w.putObj D o).heap[D]?=some o:=World.putObj_heap_same ah
 have bL:∀b o',(w.putObj D o).cell? ⟨b,o',none⟩=w.cell? ⟨b,o',none⟩:=fun b o'=>by
  by_cases hb:b=D
  ·subst hb;simp only[World.cell?,E4,h0];cases o<;>cases o0<;>first|rfl|exact absurd rfl (hnc _ _ _)|exact absurd rfl (awD _ _ _)
  exact cell_of_heap (cQ b hb)
 have hβ:γ'.β=γ.β:=by rcases hγ with rfl|rfl<;>rfl
 have cr:γ'.own=γ.own:=by rcases hγ with rfl|rfl<;>rfl
 have cZ:γ'.cur=γ.cur:=by rcases hγ with rfl|rfl<;>rfl
 have gi:γ'.ro=γ.ro:=by rcases hγ with rfl|rfl<;>rfl
 have gR:γ'.mm=γ.mm:=by rcases hγ with rfl|rfl<;>rfl
 have hlp:γ'.lp=γ.lp:=by rcases hγ with rfl|rfl<;>rfl
 have cW:∀b,γ'.sp b->γ.sp b:=by obtain rfl|rfl:=hγ;exact fun _ h=>h;exact fun _ h=>h.1
 have alh:∀b,γ.sp b->b≠D->γ'.sp b:=fun b hb h=>by
  obtain rfl|rfl:=hγ
  ·exact hb
  exact⟨hb,h⟩
 have hsz:Sz w (w.putObj D o):=fun b' arr e f h=>⟨arr,by rw[cQ b' (by rintro rfl;rw[h0]at h;cases h;exact hnc _ _ _ rfl)];exact h,rfl⟩
 have adW:No w γ (w.putObj D o) γ':=by
  refine⟨zd,fun b o' _ hr=>⟨by rw[gi];exact hr,bL b o'⟩,fun _ _ h=>by rw[hβ];exact h,fun _=>by rw[cZ];exact zzab _,fun _ _ h=>by rw[gR];exact h,fun _ _ h=>by rw[hlp];exact h,fun id b _ ho=>⟨by rw[cr];exact ho,fun arr e he=>⟨arr,?_,zzab _⟩,fun _ h=>by rw[gi]at h;exact h⟩,hsz⟩;rw[cQ b (by rintro rfl;exact(hm.sp b hD).2.2.2.2 id ho)];exact he
 refine⟨⟨w0.st _ _ _ _ hm.bs ⟨rfl,rfl,rfl,zd,fun b _ iI=>cQ b (by rintro rfl;exact iI (.inr (.inr (.inl hD)))),adW.ro,fun b hb=>.inl ?_,fun b o' h=>.inl (by rw[gi]at h;exact h)⟩,Nm hm.hN,
  fun b o' h=>hm.an b o' (by rw[gi]at h;exact h),fun b o' h=>by rw[gi]at h;simpa using hm.robd b o' h,fun id cells b hb h1=>?_,fun id b hb=>?_,fun id id' b h h'=>hm.inj id id' b (by rw[hβ]at h;exact h) (by rw[hβ]at h';exact h'),
  fun id b hb=>?_,fun id id' b h h'=>hm.oinj id id' b (by rw[cr]at h;exact h) (by rw[cr]at h';exact h'),fun b hb=>?_,fun id b hb=>?_,fun id id' b h h'=>hm.minj id id' b (by rw[gR]at h;exact h) (by rw[gR]at h';exact h'),fun id n h=>by rw[cZ];exact hm.len id n h,fun id h=>by rw[cZ];exact hm.cur0 id h⟩,adW,fun wS γS e hc=>?_⟩
 ·obtain⟨id,hb⟩|⟨id,hb⟩|hb|⟨F,hb⟩:=hb
  ·rw[hβ]at hb;exact .inl ⟨id,hb⟩
  ·rw[cr]at hb;exact .inr (.inl ⟨id,hb⟩)
  ·exact .inr (.inr (.inl (cW b hb)))
  rw[gR]at hb;exact .inr (.inr (.inr ⟨F,hb⟩))
 ·rw[hβ]at h1;obtain⟨arr,e,h2,h3,h4⟩:=hm.box id cells b hb h1;exact⟨arr,e,by rw[cQ b (by rintro rfl;exact(hm.sp b hD).2.2.2.1 id h1)];exact h2,h3.eP adW,h4⟩
 ·rw[hβ]at hb;obtain⟨h1,h2,h3,h4,h5⟩:=hm.β id b hb;exact⟨h1,Nm h2,by rw[gi];exact h3,by rw[cr];exact h4,h5⟩
 ·rw[cr]at hb;simpa using hm.own id b hb
 ·obtain⟨h1,h2,h3,h4,h5⟩:=hm.sp b (cW b hb);exact⟨h1,Nm h2,by rw[gi];exact h3,by rw[hβ];exact h4,by rw[cr];exact h5⟩
 ·rw[gR]at hb;obtain⟨h1,h2,h3,h4,h5,h6,h8,h7⟩:=hm.mm id b hb;exact⟨h1,Nm h2,by rw[gi];exact h3,by rw[hβ];exact h4,by rw[cr];exact h5,fun h=>h6 (cW b h),by rw[hβ];exact h8,h7.mono adW (cQ b (by rintro rfl;exact h6 hD))⟩
 refine⟨Nm e.size,fun b o' hb hr=>⟨by rw[gi];exact(e.ro b o' hb hr).1,(bL b o').trans (e.ro b o' hb hr).2⟩,fun id b h=>by rw[hβ];exact e.β id b h,fun id=>by rw[cZ];exact e.cur id,fun b F h=>by rw[gR];exact e.mm b F h,fun i l h=>by rw[hlp];exact e.lp i l h,fun id b uv ho=>?_,fun b hb=>?_,e.ss.trans hsz⟩
 ·rw[cZ]at uv;obtain⟨g1,g2,g3⟩:=e.own id b uv ho;refine⟨by rw[cr];exact g1,fun arr te he=>?_,fun o' h=>g3 o' (by rw[gi]at h;exact h)⟩;obtain⟨bN,k1,k2⟩:=g2 arr te he;exact⟨bN,by rw[cQ b (by rintro rfl;exact(hm.sp b hD).2.2.2.2 id g1)];exact k1,k2⟩
 obtain⟨g1,g2⟩:=e.sp b hb;by_cases hbD:b=D
 ·subst hbD;obtain rfl|hc:=hc
  ·refine⟨g1,g2.trans ?_⟩;rw[h0,E4];exact Wg rfl
  exact absurd hb hc
 exact⟨alh b g1 hbD,by rw[cQ b hbD];exact g2⟩
def Jv{b:Frame}{a:Act}{k:List Item}{cs:List Frame}{w:World}{c:Code}:step P (lone (b.atR a (.code (.scope c)::k)) cs w)=.next (lone (b.atR a (.code c::.inScope c::k)) cs w):=
 step_lone_go (by simp[stepG,stepG.exec,Frame.atR])
def zP{b:Frame}{a:Act}{k:List Item}{cs:List Frame}{w:World}{c:Code}:step P (lone (b.atR a (.inScope c::k)) cs w)=.next (lone (b.atR a k) cs w):=
 step_lone_go (by simp[stepG,stepG.exec,Frame.atR])
def lK{c:Code}{Q:PP}{a:Act}{w:World}(h:c.wpIn (FW r) 0 P (Exit.noGoto Q) a w):(Code.scope c).wpIn (FW r) 0 P Q a w:=by
 intro b k cs gi hb hr;obtain⟨e,a₁,w₁,hq,fc⟩:=h b (.inScope c::k) cs gi hb hr;have h0:(lone (b.atR a (.code (.scope c)::k)) cs w).fenced P (FW r):=fenced_calm hb hr rfl;cases e with
 |normal=>exact⟨.normal,a₁,w₁,hq,.head h0 Jv (StepsIn.trans fc (.one (fenced_calm hb hr rfl) zP))⟩
 |exit id=>
  refine⟨.exit id,a₁,w₁,hq,fun k' hk=>.head h0 Jv (fc.1 k' (by simp[exitTo,hk])),fun mW hk=>?_⟩;obtain⟨k₁,h1,h2⟩:=fc.2 mW (by simp[exitTo,hk]);exact⟨k₁,h1,.head h0 Jv h2⟩
 |goto l=>exact hq.elim
 |ret=>exact⟨_,a₁,w₁,hq,.of_steps (.one h0 Jv) fc⟩
 |panic ch=>exact⟨_,a₁,w₁,hq,.of_steps (.one h0 Jv) fc⟩
 |outgrown=>exact⟨_,a₁,w₁,hq,.of_steps (.one h0 Jv) fc⟩
def Ft{γ:G}{w:World}:∀(ps:Pa)(args:P2)(vs:PQ)(T:P2)(arr:P1),args.length=ps.length->ak w γ args vs->ak w γ T arr.toList->
  ak w γ (Qaq T ps args) ((ps.toArray.zip vs.toArray).foldl (fun(tmps:P1)(p:Nat×Value)=>tmps.setIfInBounds p.1 p.2) arr).toList:=by
 intro ps args vs T arr hl hr ht
 have e:(ps.toArray.zip vs.toArray).foldl (fun(tmps:P1)(p:Nat×Value)=>tmps.setIfInBounds p.1 p.2) arr=(ps.zip vs).foldl (fun(tmps:P1)(p:Nat×Value)=>tmps.setIfInBounds p.1 p.2) arr:=by
  rw[<- Array.foldl_toList];simp
 rw[e];clear e;induction ps generalizing args vs T arr with
 |nil=>
  cases args with
  |nil=>simpa[Qaq]using ht
  |cons x xs=>simp at hl
 |cons p ps ih=>
  cases args with
  |nil=>simp at hl
  |cons x xs=>
   cases vs with
   |nil=>have:=hr.1;simp at this
   |cons v vs=>
    have h0:aA w γ x v:=hr.2 0 x v rfl rfl;have hs:ak w γ xs vs:=⟨by have:=hr.1;simpa using this,fun i x y h1 h2=>hr.2 (i+1) x y (Nm h1) (Nm h2)⟩;simp only[zzdk,zzcz,Qaq];refine ih xs vs _ _ (Nm hl) hs ?_;rw[zzdn];exact ht.set p h0
def cS.put{m:AM}{i l:Nat}{rc:Loop}{x:LS}(h:cS γ w m)(hi:γ.lp i=some l)(cW:γ.sp l)(hl:l<w.heap.size)(hx:JT x rc):cS γ (w.putObj l (.loop rc)) (m.at_ i x):=by
 refine⟨fun i'=>?_,h.2.1,h.2.2.1,fun i' l' eX=>?_⟩
 rotate_left
 ·obtain⟨q1,r,q2⟩:=h.2.2.2 i' l' eX;by_cases Ei:l'=l
  ·subst Ei;exact⟨q1,rc,World.putObj_heap_same hl⟩
  exact⟨q1,r,(World.putObj_heap_other Ei).trans q2⟩
 by_cases dn:i'=i
 ·subst dn;exact .inr ⟨l,hi,cW,rc,World.putObj_heap_same hl,by simpa[AM.at_,uC]using hx⟩
 rcases h.1 i' with h'|⟨l',h0,h1,r,h2,h3⟩
 ·exact .inl (by simp[AM.at_,uC,dn,h'])
 have eX:l'≠l:=by rintro rfl;exact dn (h.2.2.1 _ _ _ h0 hi)
 exact .inr ⟨l',h0,h1,r,(World.putObj_heap_other eX).trans h2,by simpa[AM.at_,uC,dn]using h3⟩
def G.dQ(γ:G)(i l:Nat):G:={γ with lp:=fun j=>if j=i then some l else γ.lp j}
def Fu(w:World){γ:G}{i l:Nat}(h:γ.lp i=none):eD w γ w (γ.dQ i l):=
 ⟨zzab _,fun _ _ _ h=>⟨h,rfl⟩,fun _ _ h=>h,fun _=>zzab _,fun _ _ h=>h,fun j l' hj=>by
  have:j≠i:=by rintro rfl;rw[h]at hj;cases hj
  simp[G.dQ,this,hj],fun _ _ _ h=>⟨h,fun arr _ h=>⟨arr,h,zzab _⟩,fun _ h=>h⟩,fun _ h=>⟨h,.inl rfl⟩,Sz.refl w⟩
def au.dQ{B:Nat->PH}{L:Nat->Option Nat}(hm:au N w0 an γ w B L){i l:Nat}(h:γ.lp i=none):au N w0 an (γ.dQ i l) w B L:=by
 have bP:=(Fu w h (l:=l)).AB;refine⟨w0.st _ _ _ _ hm.bs ⟨rfl,rfl,rfl,zzab _,fun _ _ _=>rfl,fun _ _ _ h=>⟨h,rfl⟩,fun _ hb=>.inl hb,fun _ _ h=>.inl h⟩,hm.hN,hm.an,hm.robd,fun id cells b hb h1=>?_,hm.β,hm.inj,hm.own,hm.oinj,hm.sp,fun id b hb=>?_,hm.minj,hm.len,hm.cur0⟩
 ·obtain⟨arr,e,h2,h3,h4⟩:=hm.box id cells b hb h1;exact⟨arr,e,h2,h3.eP bP,h4⟩
 obtain⟨h1,h2,h3,h4,h5,h6,h8,h7⟩:=hm.mm id b hb;exact⟨h1,h2,h3,h4,h5,h6,h8,h7.mono bP rfl⟩
def oT{B:Nat->PH}{L:Nat->Option Nat}(hm:au N w0 an γ w B L){l:Nat}(hl:γ.sp l){rc:Loop}(h0:w.heap[l]?=some (.loop rc))(st:LoopState)(pd:Option Code):
  au N w0 an γ (w.putObj l (.loop {rc with state:=st,pending:=pd})) B L/\eD w γ (w.putObj l (.loop {rc with state:=st,pending:=pd})) γ:=by
 obtain⟨h1,_,h3⟩:=hm.aiq hl (o:=.loop {rc with state:=st,pending:=pd}) h0 (fun _ _ _ h=>by cases h) (fun _ _ _ h=>by cases h) (.inl rfl) (fun _=>.inr ⟨rc,st,pd,rfl,rfl⟩);exact⟨h1,h3 w γ (Ev.refl w γ).cH (.inl rfl)⟩
def Fv{g:Operand}{ps:Array Tmp}{iw body:Code}
  (ihA:∀(l:Nat)(S:G×World)(γ:G)(w:World)(s:AS)(a:Act)(Q:R0),vc P gl orc Y (Yj P iw) s Q->ew N w0 (some l) an S P gl Y γ w s a->iw.wpIn (FW (some l)) 0 P (lift N w0 (some l) an S P gl Y Q) a w)
  (ihB:∀(l:Nat)(S:G×World)(γ:G)(w:World)(s:AS)(a:Act)(Q:R0),vc P gl orc Y (Yj P body) s Q->ew N w0 (some l) an S P gl Y γ w s a->body.wpIn (FW (some l)) 0 P (lift N w0 (some l) an S P gl Y Q) a w)
  {s:AS}{a:Act}{Q:R0}(h:vc P gl orc Y (Yj P (.rangeFunc g ps iw body)) s Q)(hs:ew N w0 r an S P gl Y γ w s a):
  (Code.rangeFunc g ps iw body).wpIn (FW r) 0 P (lift N w0 r an S P gl Y Q) a w:=by
 simp only[Yj,vc]at h;have hg:=hs.ev g;split at h
 case h_2=>exact h.elim
 rename_i f first cap e1
 rw[e1]at hg;obtain⟨fa,ca,hv,r1,r2⟩:=hg.qG;refine wpIn_rangeFunc fun fn _=>?_
 obtain⟨l,mark,w1,γ1',rc,he,ot,hsp1',hm1',hev1',hd1',UX⟩:∃(l:Nat)(mark:List Deferred)(w1:World)(γ1:G)(df:Nat),
   (Instr.enterLoop fn a.tmps ps iw body (FW r).round).run P w=.ok (l,mark) w1/\w1.heap[l]?=some (.loop {state:=.ready,pending:=none,fn,tmps:=a.tmps,params:=ps,assign:=iw,body,defers:=df})/\γ1.sp l/\
   au N w0 an γ1 w1 s.m.B s.m.L/\Ev w γ w1 γ1/\Dfr S.2.heap.size γ1 w1 (mark++a.defers)/\w.heap.size<=l:=by
  cases r with
  |none=>
   obtain⟨tN,fe⟩:=hs.m.Wf (.deferred (some []));obtain⟨zm,arj⟩:=tN.Wf (.loop {state:=.ready,pending:=none,fn,tmps:=a.tmps,params:=ps,assign:=iw,body,defers:=w.heap.size});refine⟨w.heap.size+1,_,_,_,w.heap.size,run_enterLoop_outer fn a.tmps ps iw body,?_,Or.inr zd,zm,fe.trans arj,?_,zE⟩
   ·have:=World.alloc_heap_new (w.alloc (.deferred (some []))) (.loop {state:=.ready,pending:=none,fn,tmps:=a.tmps,params:=ps,assign:=iw,body,defers:=w.heap.size});simpa using this
   have hd:=hs.d.aU (fe.trans arj).cH
   have oP:∀x∈a.defers,∀D,x.target=.collected D->D<w.heap.size:=fun x hx D hD=>by
    obtain⟨D',q1,_,_,q4⟩:=hs.d.2.1 x hx;rw[hD]at q1;cases q1;exact aR q4
   refine⟨hd.1,fun x hx=>?_,?_⟩
   ·simp only[zzae,zzai,zzam]at hx;obtain rfl|hx:=hx
    ·refine⟨w.heap.size,rfl,hs.d.1,.inl (.inr rfl),?_⟩;rw[Below.heap_alloc _ _ _ zd];exact World.alloc_heap_new w _
    exact hd.2.1 x hx
   simp only[zzae,zzai,zzcd];refine⟨fun x hx D hD iJ=>?_,hd.2.2⟩;simp at hD;have:=oP x hx D iJ;omega
  |some l0=>
   obtain⟨qp,ark,arl⟩:=hs.rd l0 rfl;obtain⟨tN,fe⟩:=hs.m.Wf (.loop {state:=.ready,pending:=none,fn,tmps:=a.tmps,params:=ps,assign:=iw,body,defers:=ark.defers});exact⟨w.heap.size,[],_,_,ark.defers,run_enterLoop_inner arl fn a.tmps ps iw body,World.alloc_heap_new w _,Or.inr rfl,tN,fe,hs.d.aU fe.cH,zzab _⟩
 have gP:l<w1.heap.size:=aR ot;generalize dA:s.m.ln=i at h;have Wr:=hs.ls.mono hev1';have air:γ1'.lp i=none:=Wr.2.1 i zE
 have PZ:∀j,γ1'.lp j≠some l:=fun j hj=>by
  rw[hev1'.lp]at hj;have:=(hs.m.sp l (hs.ls.2.2.2 j l hj).1).2.1;omega
 let γ1:=γ1'.dQ i l
 have arn:eD w1 γ1' w1 γ1:=Fu w1 air;have fe:eD w γ w1 γ1:=hev1'.cH.trans arn;have tN:au N w0 an γ1 w1 s.m.B s.m.L:=hm1'.dQ air;have WA:γ1.sp l:=hsp1';have WB:γ1.lp i=some l:=by simp[γ1,G.dQ]
 have hd1:=hd1'.aU arn
 have hE:=h (by
  rcases hs.ls.1 i with h|⟨l',h0,_⟩
  ·exact h
  rw[hs.ls.2.1 i zE]at h0;cases h0)
 have oG:ak w1 γ1 (first++[.yld i]++cap) (fa.toList++[.func (.yield l) #[] #[]]++ca.toList):=((r1.aU fe).append (ak.cons (.yld WB) ak.nil)).append (r2.aU fe)
 have awE:cS γ1 w1 s.m.bK:=by
  refine⟨fun j=>?_,fun j hj=>?_,fun j j' l' h1 h2=>?_,fun j l' h1=>?_⟩
  ·by_cases hj:j=i
   ·subst hj;exact .inr ⟨l,WB,WA,_,ot,by simp[AM.bK,uC,dA,JT]⟩
   rcases Wr.1 j with h|⟨l',h0,h1,r',h2,h3⟩
   ·exact .inl (by simp[AM.bK,uC,dA,hj,h])
   exact .inr ⟨l',by simp[γ1,G.dQ,hj,h0],h1,r',h2,by simpa[AM.bK,uC,dA,hj]using h3⟩
  ·have Nr:i+1<=j:=by simpa[AM.bK,dA]using hj
   have:j≠i:=zE
   simp[γ1,G.dQ,this,Wr.2.1 j zE]
  ·by_cases hj:j=i<;>by_cases Nr:j'=i
   ·rw[hj,Nr]
   ·simp[γ1,G.dQ,hj]at h1;simp[γ1,G.dQ,Nr]at h2;subst h1;exact absurd h2 (PZ j')
   ·simp[γ1,G.dQ,hj]at h1;simp[γ1,G.dQ,Nr]at h2;subst h2;exact absurd h1 (PZ j)
   simp[γ1,G.dQ,hj]at h1;simp[γ1,G.dQ,Nr]at h2;exact Wr.2.2.1 j j' l' h1 h2
  by_cases hj:j=i
  ·simp[γ1,G.dQ,hj]at h1;subst h1;exact⟨WA,_,ot⟩
  simp[γ1,G.dQ,hj]at h1;exact Wr.2.2.2 j l' h1
 refine⟨l,mark,w1,{target:=.fn (.func f) ca,args:=fa++#[.func (.yield l) #[] #[]]},w1,f,(fa.toList++[Value.func (.yield l) #[] #[]]++ca.toList).toArray,w1,he,?_,fun _ _=>trivial,?_,fun h=>by simp[FW,Fence.wide]at h,?_⟩
 ·have hc:a.eval (.const (.func (.yield l) #[] #[]))=.func (.yield l) #[] #[]:=rfl;simp[resolve,hv,hc,Deferred.ofValue,rangeCall]
 ·simp[invoke,Qea hE.1]
 have WC:=hE.2 N w0 an γ1 w1 _ tN awE (fun g=>(hs.g g).aU fe.cU) ?_ oG
 ·refine CallsIn.mono (F:=FW r) (n:=0) (show CallsIn (FW r) 0 P f _ w1 _ from WC) ?_;rintro en w3 ⟨v,γ3,r',m',rfl,g1,g2,g3,g4,g5⟩;have awF:=(g1.sp l WA).1
  have fin:∀(P5:Loop)(pd:Option Code),w3.heap[l]?=some (.loop P5)->(∀ex,ex=Exit.normal/\pd=none\/pd=qO ex/\pd.isSome=true->P5.state≠.busy->P5.pending=pd->Q ex ⟨s.T,m'.at_ i .gone⟩->rangePost (FW r) 0 P l (lift N w0 r an S P gl Y Q) {a with defers:=mark++a.defers} (.returned v) w3):=by
   intro P5 pd aro ex hex NI hpd hQ;obtain⟨hm4,arp⟩:=oT g2 awF aro .exhausted P5.pending;refine⟨P5.pending,_,run_endLoop aro NI,?_⟩;have bP:eD w γ (w3.putObj l (.loop {P5 with state:=.exhausted})) γ3:=(fe.trans g1).trans arp
   have zK:ew N w0 r an S P gl Y γ3 (w3.putObj l (.loop {P5 with state:=.exhausted})) ⟨s.T,m'.at_ i .gone⟩ {a with defers:=mark++a.defers}:=by
    have adX:=g1.lp i l WB;refine⟨hm4,?_,hs.rd.aU bP,hs.t.aU bP,hd1.aU (g1.trans arp),fun g=>(hs.g g).aU bP.cU,hs.y.mono bP,hs.e.trans bP⟩;refine⟨fun j=>?_,g3.2.1,g3.2.2.1,fun j l' eX=>?_⟩
    rotate_left
    ·obtain⟨q1,r,q2⟩:=g3.2.2.2 j l' eX;by_cases Ei:l'=l
     ·subst Ei;exact⟨q1,_,World.putObj_heap_same (aR q2)⟩
     exact⟨q1,r,(World.putObj_heap_other Ei).trans q2⟩
    by_cases hj:j=i
    ·exact .inl (by simp[AM.at_,uC,hj])
    rcases g3.1 j with h|⟨l',h0,h1,r',h2,h3⟩
    ·exact .inl (by simp[AM.at_,uC,hj,h])
    have eX:l'≠l:=by rintro rfl;exact hj (g3.2.2.1 _ _ _ h0 adX)
    exact .inr ⟨l',h0,h1,r',(World.putObj_heap_other eX).trans h2,by simpa[AM.at_,uC,hj]using h3⟩
   generalize w3.putObj l (.loop {P5 with state:=.exhausted})=w4 at zK;rw[hpd];obtain⟨rfl,rfl⟩|⟨hex,WD⟩:=hex
   ·exact⟨γ3,_,zK,hQ⟩
   cases ex with
   |ret=>simp only[qO]at hex;subst hex;exact wpIn_ret ⟨γ3,_,zK,hQ⟩
   |exit id=>simp only[qO]at hex;subst hex;exact wpIn_exit ⟨γ3,_,zK,hQ⟩
   |_=>simp only[qO]at hex;subst hex;cases WD
  have hl3:=g3.1 i;have adX:=g1.lp i l WB;cases bY:m'.st i with
  |gone=>rw[bY]at g5;exact g5.elim
  |busy=>rw[bY]at g5;exact g5.elim
  |ready=>
   rw[bY]at g5 hl3;obtain hl3|⟨l',q0,_,P5,q1,q2⟩:=hl3
   ·cases hl3
   obtain rfl:l'=l:=Option.some.inj (q0.symm.trans adX);exact fin P5 none q1 .normal (.inl ⟨rfl,rfl⟩) (by rw[q2.1];simp) q2.2 g5
  |done ex=>
   rw[bY]at g5 hl3;obtain hl3|⟨l',q0,_,P5,q1,q2⟩:=hl3
   ·cases hl3
   obtain rfl:l'=l:=Option.some.inj (q0.symm.trans adX);exact fin P5 _ q1 ex (.inr ⟨rfl,q2.2.2⟩) (by rw[q2.1];simp) q2.2.1 g5
 intro γ' w' WE i' args m K vs fI arq mW hY l' adY;unfold Yin at hY;split at hY
 case isFalse=>exact hs.y γ' w' (fe.trans WE) i' args m K vs fI arq mW hY l' adY
 rename_i dn;subst dn;obtain rfl:l'=l:=Option.some.inj (adY.symm.trans (WE.lp _ _ WB));obtain⟨iM,aH,hY⟩:=hY
 have NJ:∃st pd,w'.heap[l']?=some (.loop {state:=st,pending:=pd,fn,tmps:=a.tmps,params:=ps,assign:=iw,body,defers:=rc}):=by
  rcases(WE.sp l' WA).2 with h|⟨r0,st,pd,h,h'⟩
  ·rw[ot]at h;exact⟨_,_,h⟩
  rw[ot]at h;cases h;exact⟨st,pd,h'⟩
 obtain⟨st,pd,NJ⟩:=NJ;have alh:=(WE.sp l' WA).1;have ali:=fe.trans WE;have hps:vs.toArray.size=ps.size:=by have:=mW.1;simp at this aH |-;omega
 refine⟨fn,_,iw,body,run_yield NJ hps,roundIn_of_wpIn (F:=FW none) trivial ?_⟩
 have ars:ew N w0 (some l') an (γ',w') P gl Y γ' w' ⟨Qaq s.T ps.toList args,m⟩ {tmps:=(ps.zip vs.toArray).foldl (fun(tmps:P1)(p:Nat×Value)=>tmps.setIfInBounds p.1 p.2) a.tmps,defers:=[]}:=by
  refine⟨fI,arq,fun l hl=>?_,?_,⟨zzab _,fun x hx=>(by cases hx),List.Pairwise.nil⟩,fun g=>(hs.g g).aU ali.cU,hs.y.mono ali,(Ev.refl w' γ').cH⟩
  ·cases hl;exact⟨alh,_,NJ⟩
  have:=Ft ps.toList args vs s.T a.tmps aH mW (hs.t.aU ali);simpa using this
 refine wpIn_mono (ihA l' (γ',w') γ' w' _ _ _ hY ars) ?_;rintro ex a2 w2 ⟨γ2,s2,J7,hq2⟩;cases ex with
 |normal=>
  obtain⟨awG,hq2⟩:=hq2;have CT:=J7.ls.1 i';rw[awG]at CT;have art:=J7.e.lp _ _ adY;obtain CT|⟨l2,q0,hsp2,rc2,q1,q2⟩:=CT
  ·cases CT
  obtain rfl:l'=l2:=Option.some.inj (art.symm.trans q0);obtain⟨hm3,P6⟩:=oT J7.m hsp2 q1 .busy rc2.pending;refine⟨_,run_beginRound q1 q2.1,?_⟩
  have aru:ew N w0 (some l') an (γ',w') P gl Y γ2 (w2.putObj l' (.loop {rc2 with state:=.busy})) ⟨s2.T,s2.m.at_ i' .busy⟩ a2:=
   ⟨hm3,J7.ls.put art hsp2 (aR q1) rfl,J7.rd.aU P6,J7.t.aU P6,J7.d.aU P6,fun g=>(J7.g g).aU P6.cU,J7.y.mono P6,J7.e.trans P6⟩
  refine wpIn_mono (ihB l' (γ',w') γ2 _ _ _ _ hq2 aru) ?_;rintro ex a4 w4 ⟨γ4,s4,hs4,hq4⟩;obtain⟨P7,rc4,q4⟩:=hs4.rd _ rfl;have alj:=hs4.e.lp _ _ adY;cases ex with
  |normal=>
   obtain⟨hm5,WG⟩:=oT hs4.m P7 q4 .ready none;exact⟨_,_,run_endRound none q4,true,γ4,s4.m.at_ i' .ready,rfl,hs4.e.trans WG,hm5,hs4.ls.put alj P7 (aR q4) ⟨rfl,rfl⟩,hq4⟩
  |ret=>
   obtain⟨hm5,WG⟩:=oT hs4.m P7 q4 .done (some .ret);exact⟨_,_,run_endRound (some .ret) q4,false,γ4,s4.m.at_ i' (.done .ret),rfl,hs4.e.trans WG,hm5,hs4.ls.put alj P7 (aR q4) ⟨rfl,rfl,rfl⟩,hq4⟩
  |exit id=>
   obtain⟨hm5,WG⟩:=oT hs4.m P7 q4 .done (some (.exit id));exact⟨_,_,run_endRound (some (.exit id)) q4,false,γ4,s4.m.at_ i' (.done (.exit id)),rfl,hs4.e.trans WG,hm5,hs4.ls.put alj P7 (aR q4) ⟨rfl,rfl,rfl⟩,hq4⟩
  |_=>exact hq4.elim
 |_=>exact hq2.elim
def Ji:∀(c:Code)(r:Option Nat)(S:G×World)(γ:G)(w:World)(s:AS)(a:Act)(Q:R0),vc P gl orc Y (Yj P c) s Q->ew N w0 r an S P gl Y γ w s a->c.wpIn (FW r) 0 P (lift N w0 r an S P gl Y Q) a w
 |.skip,r,S,γ,w,s,a,Q,h,hs=>wpIn_skip ⟨γ,s,hs,h⟩
 |.label _,r,S,γ,w,s,a,Q,h,hs=>wpIn_label ⟨γ,s,hs,h⟩
 |.region id ops false,r,S,γ,w,s,a,Q,h,hs=>by
  refine wpIn_region ?_;have:=sw (P:=P) (orc:=orc) (ops:=ops) (Q:=lift N w0 r an S P gl Y Q) (K:=Q .normal) (fun γ w s a hK hs=>⟨γ,s,hs,hK⟩) ops.size 0 γ w s a zd (by simpa[Yj,vc]using h) hs;rwa [zzfn]
 |.region id ops true,r,S,γ,w,s,a,Q,h,hs=>by
  simp only[Yj]at h;split at h
  case isFalse=>exact h.elim
  rename_i hc;simp only[zzac]at hc;split at h
  ·rename_i j hj;obtain h|⟨ms,h⟩|⟨hb,ms,R,hR,h⟩|⟨ms,R,Vs,hR,h⟩|⟨ms,h⟩:=h
   ·exact wpIn_region_any hc.1 (wG (Q:=lift N w0 r an S P gl Y Q) (K:=Q .normal) (fun γ w s a hK hs=>⟨γ,s,hs,hK⟩) hc.2 h hs)
   ·exact wpIn_region_any hc.1 (sx (Q:=lift N w0 r an S P gl Y Q) (K:=Q .normal) (fun γ w s a hK hs=>⟨γ,s,hs,hK⟩) hc.2 hj (jm _ _ _ _ (Qbh hc.2) (NC _ _ _ _ h)) hs)
   ·exact wpIn_region_any hc.1 (Fl (Q:=lift N w0 r an S P gl Y Q) (K:=Q .normal) (fun γ w s a hK hs=>⟨γ,s,hs,hK⟩) hc.2 hj (alg hc.2 hb) hR (fun x hx=>jo _ _ _ _ (Qbh hc.2) (h x hx)) hs)
   ·exact wpIn_region_any hc.1 (Fo (Q:=lift N w0 r an S P gl Y Q) (K:=Q .normal) (fun γ w s a hK hs=>⟨γ,s,hs,hK⟩) hc.2 hj hR (fun x hx=>jo _ _ _ _ (Qbh hc.2) (h x hx).1) (fun x hx=>(Jp P gl orc (Qbh hc.2)).symm.trans (h x hx).2) hs)
   exact wpIn_region_any hc.1 (sx (Q:=lift N w0 r an S P gl Y Q) (K:=Q .normal) (fun γ w s a hK hs=>⟨γ,s,hs,hK⟩) hc.2 hj (jm _ _ _ _ (Qbh hc.2) h) hs)
  split at h
  ·rename_i js jp z t hz;obtain⟨hY,hT,ms,h⟩:=h;exact wpIn_region_any hc.1 (Fq (Q:=lift N w0 r an S P gl Y Q) (K:=Q .normal) (fun γ w s a hK hs=>⟨γ,s,hs,hK⟩) hc.2 hz hY h hT hs)
  exact wpIn_region_any hc.1 (wG (Q:=lift N w0 r an S P gl Y Q) (K:=Q .normal) (fun γ w s a hK hs=>⟨γ,s,hs,hK⟩) hc.2 h hs)
 |.seq x y,r,S,γ,w,s,a,Q,h,hs=>by
  refine wpIn_seq (wpIn_mono (Ji x r S γ w s a _ h hs) ?_);rintro ex a' w' ⟨γ',s',dM,h'⟩;cases ex with
  |normal=>exact Ji y r S γ' w' s' a' Q h' dM
  |_=>exact⟨γ',s',dM,h'⟩
 |.cond c x y,r,S,γ,w,s,a,Q,h,hs=>by
  simp only[Yj,vc]at h;have hr:=hs.ev c;split at h
  case h_2=>exact h.elim
  rename_i t ht;rw[ht]at hr;exact wpIn_cond_split hr.bw (fun e=>Ji x r S γ w s a Q (h.1 e) hs) fun e=>Ji y r S γ w s a Q (h.2 e) hs
 |.block id c,r,S,γ,w,s,a,Q,h,hs=>by
  refine wpIn_block (wpIn_mono (Ji c r S γ w s a _ h hs) ?_);rintro ex a' w' ⟨γ',s',dM,h'⟩;cases ex with
  |exit id'=>
   simp only[Exit.inBlock,nq]at h' |-
   split
   ·rename_i aL;rw[if_pos aL]at h';exact⟨γ',s',dM,h'⟩
   rename_i aL;rw[if_neg aL]at h';exact⟨γ',s',dM,h'⟩
  |_=>exact⟨γ',s',dM,h'⟩
 |.loop c,r,S,γ,w,s,a,Q,h,hs=>by
  obtain⟨I,μ,h0,mW⟩:=h;intro b k cs gi hb hr
  have key:∀j γ w s a,μ s=j->I s->ew N w0 r an S P gl Y γ w s a->∃e a' w',lift N w0 r an S P gl Y Q e a' w'/\ArrivesIn (Machine.fenced P (FW r)) P (lone (b.atR a (.code c::.inLoop c::k)) cs w) b k cs e a' w':=by
   intro j;induction j using Nat.strongRecOn with
   |_ j ih=>
    intro γ w s a hn hI hs;obtain⟨e,a₁,w₁,⟨γ₁,s₁,hs₁,hq⟩,fc⟩:=Ji c r S γ w s a _ (mW s hI) hs b (.inLoop c::k) cs gi hb hr;cases e with
    |normal=>
     obtain⟨hI₁,ah⟩:=hq;obtain⟨e₂,a₂,w₂,hq₂,arw⟩:=ih (μ s₁) (hn ▸ ah) γ₁ w₁ s₁ a₁ rfl hI₁ hs₁;exact⟨e₂,a₂,w₂,hq₂,.of_steps (StepsIn.trans fc (.one (fenced_calm hb hr rfl) stepR_inLoop)) arw⟩
    |exit id=>exact⟨_,a₁,w₁,⟨γ₁,s₁,hs₁,hq⟩,.pass (x:=.inLoop c) rfl (fun _ _=>.inl zd) fc⟩
    |goto l=>exact⟨_,a₁,w₁,⟨γ₁,s₁,hs₁,hq⟩,.pass (x:=.inLoop c) rfl (fun _ _=>.inl zd) fc⟩
    |ret=>exact⟨_,a₁,w₁,⟨γ₁,s₁,hs₁,hq⟩,.pass (x:=.inLoop c) rfl (fun _ _=>.inl zd) fc⟩
    |panic ch=>exact⟨_,a₁,w₁,⟨γ₁,s₁,hs₁,hq⟩,.pass (x:=.inLoop c) rfl (fun _ _=>.inl zd) fc⟩
    |outgrown=>exact⟨_,a₁,w₁,⟨γ₁,s₁,hs₁,hq⟩,.pass (x:=.inLoop c) rfl (fun _ _=>.inl zd) fc⟩
  obtain⟨e,a',w',hq,fc⟩:=key _ γ w s a rfl h0 hs;exact⟨e,a',w',hq,.of_steps (.one (fenced_calm hb hr rfl) stepR_loop) fc⟩
 |.exit id,r,S,γ,w,s,a,Q,h,hs=>wpIn_exit ⟨γ,s,hs,h⟩
 |.ret,r,S,γ,w,s,a,Q,h,hs=>wpIn_ret ⟨γ,s,hs,h⟩
 |.scope c,r,S,γ,w,s,a,Q,h,hs=>by
  refine lK (wpIn_mono (Ji c r S γ w s a _ h hs) ?_);rintro ex a' w' ⟨γ',s',dM,h'⟩;cases ex with
  |goto l=>exact h'.elim
  |_=>exact⟨γ',s',dM,h'⟩
 |.rangeFunc g ps iw body,r,S,γ,w,s,a,Q,h,hs=>Fv (fun l S γ w s a Q h hs=>Ji iw (some l) S γ w s a Q h hs) (fun l S γ w s a Q h hs=>Ji body (some l) S γ w s a Q h hs) h hs
 |.goto l,r,S,γ,w,s,a,Q,h,hs=>h.elim
 |.refuse why,r,S,γ,w,s,a,Q,h,hs=>h.elim
end
open Go Go.RowKit
section
variable {N:Nat} {w0:eR} {an:Nat->Nat->Prop} {γ:G} {w:World} {B:Nat->PH} {L:Nat->Option Nat} {P:Program} {gl:Nat->AV} {orc:UV} {e:bE->AV} {m:AM}
def WH(P:Program)(t:TypeId)(x:bE):aF:=
 (match P.info? t,P.underlying t with|some i,some _=>if Ki P t then .load true i.size x else .load false 1 x|_,_=>.bad)
def WI(hm:au N w0 an γ w B L)(hB:∀id cells,m.boxes[id]?=some cells->B id=some cells){t:TypeId}{x:bE}{v0:Value}(h1:aA w γ (e x) v0)
  (hc:(rop P gl orc e m none (WH P t x)).1):∃b o v,v0=.pointer (some ⟨b,o,none⟩)/\(loadVar t ⟨b,o,none⟩).run P w=.ok v w/\aA w γ (rop P gl orc e m none (WH P t x)).2 v:=by
 unfold WH at hc |-
 split at hc
 case h_2=>exact hc.elim
 rename_i i d hi hd
 have main:∀(agg:Bool)(n:Nat),Ki P t=agg->(agg=true->n=i.size)->(rop P gl orc e m none (.load agg n x)).1->
   ∃b o v,v0=.pointer (some ⟨b,o,none⟩)/\(loadVar t ⟨b,o,none⟩).run P w=.ok v w/\aA w γ (rop P gl orc e m none (.load agg n x)).2 v:=by
  intro agg n bJ hn hc
  have conv:∀b o v,(Instr.loadAt t (.pointer (some ⟨b,o,none⟩))).run P w=.ok v w->(loadVar t ⟨b,o,none⟩).run P w=.ok v w:=fun b o v h=>by
   simpa[Instr.loadAt,Instr.sureAddr]using h
  simp only[rop]at hc |-
  split at hc
  ·rename_i id o' he;try simp only[he]
   rw[he]at h1;obtain⟨b,hb,hv⟩:=h1.dL;cases gO:m.boxes[id]? with
   |none=>
    have e0:m.boxes.getD id []=[]:=by simp[List.getD,gO]
    rw[e0]at hc |-
    obtain⟨v,h2,h3⟩:=Qdo (P:=P) (w:=w) (γ:=γ) (b:=b) (o:=o') (cv:=fun _=>undef) hi hd bJ hn (fun j c hj=>by simp at hj) (fun j c hj=>by simp at hj) hc;exact⟨b,o',v,hv,conv _ _ _ h2,h3⟩
   |some cells=>
    have e0:m.boxes.getD id []=cells:=by simp[List.getD,gO]
    rw[e0]at hc |-
    obtain⟨arr,te,g2,g3,g4⟩:=hm.box id cells b (hB id cells gO) hb
    have cn:∀(j:Nat)(c:AV),(cells.drop o')[j]?=some c->arr[o'+j]?=some (arr.getD (o'+j) undef)/\aA w γ c (arr.getD (o'+j) undef):=fun j c hj=>by
     rw[zzbl]at hj
     have ah:o'+j<arr.size:=by
      have:=(zza.1 hj).1;have h0:=g3.1;simp at h0;omega
     have hu:arr[o'+j]?=some (arr.getD (o'+j) undef):=by simp[ah]
     exact⟨hu,g3.2 _ _ _ hj (Nm hu)⟩
    obtain⟨v,h2,h3⟩:=Qdo (P:=P) (w:=w) (γ:=γ) (b:=b) (o:=o') (cv:=fun j=>arr.getD (o'+j) undef) hi hd bJ hn (fun j c hj=>by rw[aM g2];exact(cn j c hj).1) (fun j c hj=>(cn j c hj).2) hc;exact⟨b,o',v,hv,conv _ _ _ h2,h3⟩
  ·rename_i row o' he;try simp only[he]
   rw[he]at h1;obtain⟨b,off,cv,hv,hb,bL,zB⟩:=h1.iY;have cn:∀(j:Nat)(c:AV),(row.drop o')[j]?=some c->row[o'+j]?=some c:=fun j c hj=>by rw[zzbl]at hj;exact hj
   obtain⟨v,h2,h3⟩:=Qdo (P:=P) (w:=w) (γ:=γ) (b:=b) (o:=off+o') (cv:=fun j=>cv (o'+j)) hi hd bJ hn
    (fun j c hj=>by rw[zzan];exact(bL _ _ (cn j c hj)).1) (fun j c hj=>(zB _ _ (cn j c hj)).gp) hc
   exact⟨b,off+o',v,hv,conv _ _ _ h2,h3⟩
  exact hc.elim
 cases bJ:Ki P t with
 |true=>simp only[bJ,if_true]at hc |-;exact main true _ bJ (fun _=>rfl) hc
 |false=>simp only[bJ]at hc |-;exact main false 1 bJ (fun h=>by cases h) hc
end
def fM(P:Program)(rs:List ResultVar):List aF:=rs.map fun
 |.tmp t=>.mv (.tmp t)
 |.cell a t=>WH P t (.tmp a)
def Jq(P:Program)(gl:Nat->AV)(orc:UV)(s:AS):List aF->Prop×P2
 |[]=>(True,[])
 |o::r=>((rop P gl orc (ev gl s.T) s.m none o).1/\(Jq P gl orc s r).1,(rop P gl orc (ev gl s.T) s.m none o).2::(Jq P gl orc s r).2)
def oneOf:P2->AV
 |[a]=>a
 |l=>.aS l
section
variable {N:Nat} {w0:eR} {r:Option Nat} {an:Nat->Nat->Prop} {S:G×World} {Y:YT} {γ:G} {w:World} {P:Program} {gl:Nat->AV} {orc:UV} {s:AS} {a:Act}
def NK(hs:ew N w0 r an S P gl Y γ w s a):∀(rs:List ResultVar),(Jq P gl orc s (fM P rs)).1->
  ∃vs:PQ,(rs.mapM fun(r:ResultVar)=>(match r with|.tmp t=>pure (a.tmps.getD t undef)|.cell x t=>do loadVar t (<- asAddr (a.tmps.getD x undef)):Sem Value)).run P w=.ok vs w/\
   ak w γ (Jq P gl orc s (fM P rs)).2 vs
 |[],_=>⟨[],zd,ak.nil⟩
 |r::rs,hc=>by
  obtain⟨h1,h2⟩:=hc;obtain⟨vs,g1,g2⟩:=NK hs rs h2
  have key:∃v,(match r with|.tmp t=>pure (a.tmps.getD t undef)|.cell x t=>do loadVar t (<- asAddr (a.tmps.getD x undef)):Sem Value).run P w=.ok v w/\
    aA w γ (rop P gl orc (ev gl s.T) s.m none ((fun(r:ResultVar)=>match r with|.tmp t=>aF.mv (.tmp t)|.cell a t=>WH P t (.tmp a)) r)).2 v:=by
   cases r with
   |tmp t=>exact⟨a.tmps.getD t undef,zd,hs.ev (.tmp t)⟩
   |cell x t=>
    obtain⟨b,o,v,e1,e2,e3⟩:=WI (P:=P) (gl:=gl) (orc:=orc) (e:=ev gl s.T) (m:=s.m) hs.m (fun _ _ h=>h) (t:=t) (x:=.tmp x) (v0:=a.tmps.getD x undef) (hs.ev (.tmp x)) h1;refine⟨v,?_,e3⟩;simp only[e1,Sem.run_bind,asAddr,Sem.run_pure,Result.andThen_ok,e2]
  obtain⟨v,k1,k2⟩:=key;refine⟨v::vs,?_,ak.cons k2 g2⟩;simp only[zzgx,Sem.run_bind,k1,Result.andThen_ok,g1,Sem.run_pure]
def Fw(hs:ew N w0 r an S P gl Y γ w s a){fn:Func}(hc:(Jq P gl orc s (fM P fn.results.toList)).1):∃v,(results fn a.tmps).run P w=.ok v w/\aA w γ (oneOf (Jq P gl orc s (fM P fn.results.toList)).2) v:=by
 obtain⟨vs,h1,h2⟩:=NK (P:=P) (orc:=orc) hs fn.results.toList hc
 have aZ:(results fn a.tmps).run P w=.ok (if h:vs.toArray.size=1 then vs.toArray[0]else .tuple vs.toArray) w:=by
  simp only[results,Sem.run_bind,Array.mapM_eq_mapM_toList,Sem.run_map];exact congrArg (fun(z:Result (PQ))=>(z.andThen fun a w'=>Result.ok a.toArray w').andThen fun(a:P1)w'=>Sem.run P (pure (if h:a.size=1 then a[0]else Value.tuple a):Sem Value) w') h1
 refine⟨_,aZ,?_⟩;generalize(Jq P gl orc s (fM P fn.results.toList)).2=as' at h2
 match as',vs,h2 with
 |[],[],h2=>exact .aS rfl fun i c v h=>by simp at h
 |[],_::_,h2=>have:=h2.1;simp at this
 |_::_,[],h2=>have:=h2.1;simp at this
 |[x],[v],h2=>exact h2.2 0 x v rfl rfl
 |[x],_::_::_,h2=>have:=h2.1;simp at this
 |_::_::_,[v],h2=>have:=h2.1;simp at this
 |x::y::as',v::u::vs,h2=>
  simp only[oneOf];rw[dif_neg zd];exact .aS (Nm h2.1) fun i c v' g1 g2=>h2.2 i c v' g1 (Nm g2)
def post(P:Program)(gl:Nat->AV)(orc:UV)(rs:List aF)(r:AV):R0
 |.normal,s=>(Jq P gl orc s rs).1/\bA s.m 6 (oneOf (Jq P gl orc s rs).2)=r
 |.ret,s=>(Jq P gl orc s rs).1/\bA s.m 6 (oneOf (Jq P gl orc s rs).2)=r
 |_,_=>False
def wQ(P:Program)(gl:Nat->AV)(orc:UV)(rs:List aF)(K:So):R0
 |.normal,s=>(Jq P gl orc s rs).1/\K (oneOf (Jq P gl orc s rs).2) s.m
 |.ret,s=>(Jq P gl orc s rs).1/\K (oneOf (Jq P gl orc s rs).2) s.m
 |_,_=>False
def Y0:YT:=fun _ _ _ _=>False
def ew.y0(h:ew N w0 r an S P gl Y γ w s a):ew N w0 r an S P gl Y0 γ w s a:=⟨h.m,h.ls,h.rd,h.t,h.d,h.g,fun _ _ _ _ _ _ _ _ _ _ _ hY _ _=>hY.elim,h.e⟩
def sB{fn:Func}{R:Ending->World->Prop}(hS:∀b,S.1.sp b->b<S.2.heap.size):∀(ds:List Deferred)(γ:G)(w:World)(s:AS)(a:Act),a.defers=ds->ew N w0 none an S P gl Y0 γ w s a->
  (Jq P gl orc s (fM P fn.results.toList)).1->
  (∀v w' γ',eD S.2 S.1 w' γ'->au N w0 an γ' w' s.m.B s.m.L->cS γ' w' s.m->aA w' γ' (oneOf (Jq P gl orc s (fM P fn.results.toList)).2) v->R (.returned v) w')->LeavesInM (FW none) 0 P fn a.tmps R ds .returning w
 |[],γ,w,s,a,_,hs,h1,hR=>by
  obtain⟨v,g1,g2⟩:=Fw (P:=P) (orc:=orc) hs h1;exact⟨v,g1,hR v w γ hs.e hs.m hs.ls g2⟩
 |d::ds,γ,w,s,a,hd,hs,hc,hR=>by
  obtain⟨D,e1,e0,e2,e3⟩:=hs.d.2.1 d (by rw[hd];simp);refine⟨zd,.inl ⟨D,w.putObj D (.deferred none),e1,run_takeDeferred e3,?_⟩⟩;have hDS:¬S.1.sp D:=fun h=>by have:=hS D h;omega
  obtain⟨fI,bP,awH⟩:=hs.m.aiq e2 (o:=.deferred none) e3 (fun _ _ _ h=>by cases h) (fun _ _ _ h=>by cases h) (γ':={γ with sp:=fun b=>γ.sp b/\b≠D}) (.inr rfl) (fun h=>by
   have:=congrFun (congrArg G.sp h) D;simp[e2]at this)
  have hpw:=hs.d.2.2;rw[hd,zzcd]at hpw;refine sB hS ds {γ with sp:=fun b=>γ.sp b/\b≠D} (w.putObj D (.deferred none)) s {a with defers:=ds} rfl ⟨fI,⟨fun i=>?_,hs.ls.2.1,hs.ls.2.2.1,fun i l hl=>?_⟩,fun l h=>(by cases h),hs.t.eP bP,⟨Nm hs.d.1,fun x hx=>?_,hpw.2⟩,fun g=>(hs.g g).eP bP.cU,fun _ _ _ _ _ _ _ _ _ _ _ hY _ _=>hY.elim,awH _ _ hs.e (.inr hDS)⟩ hc hR
  ·rcases hs.ls.1 i with h|⟨l,h0,h1,rc,h2,h3⟩
   ·exact .inl h
   have aO:l≠D:=by rintro rfl;rw[e3]at h2;cases h2
   exact .inr ⟨l,h0,⟨h1,aO⟩,rc,(World.putObj_heap_other aO).trans h2,h3⟩
  ·obtain⟨h1,rc,h2⟩:=hs.ls.2.2.2 i l hl;have aO:l≠D:=by rintro rfl;rw[e3]at h2;cases h2
   exact⟨⟨h1,aO⟩,rc,(World.putObj_heap_other aO).trans h2⟩
  obtain⟨D',q1,q0,q2,q3⟩:=hs.d.2.1 x (by rw[hd];simp[hx]);have aO:D'≠D:=by rintro rfl;exact hpw.1 x hx D' e1 q1
  exact⟨D',q1,q0,⟨q2,aO⟩,(World.putObj_heap_other aO).trans q3⟩
def adZ(w0:World):eR where
 p γ w:=Below w0.heap.size w0 w/\∀b,OI γ b->w0.heap.size<=b
 st γ w γ' w' h hc:=by
  refine⟨h.1.trans ⟨hc.os,hc.tape,hc.output,hc.size,fun b hb=>hc.same b (zzba hb h.1.size) fun ho=>?_⟩,fun b hb=>?_⟩
  ·have:=h.2 b ho;omega
  rcases hc.oi b hb with hb|hb
  ·exact h.2 b hb
  exact zzbc h.1.size hb
def P8{as':P2}{vs:PQ}{k:Nat}(h:ak w γ as' vs):ak w γ (as'++List.replicate (k-as'.length) .junk) (vs.toArray++Array.replicate (k-vs.toArray.size) undef).toList:=by
 have aH:=h.1
 have h2:ak w γ (List.replicate (k-as'.length) .junk) (List.replicate (k-vs.length) undef):=⟨by simp[aH],fun i x v hx _=>by
  rw[zzcm]at hx;split at hx
  ·cases hx;exact .junk _
  cases hx⟩
 simpa using h.append h2
def c9(P:Program)(f:FuncId)(sc:SC)(rs:List aF)(n:Nat):Prop:=
 ∃fn c,P.funcs[f]?=some fn/\fn.body=some c/\(fn.name== "runtime.NumGoroutine")=false/\Yj P c=sc/\fM P fn.results.toList=rs/\fn.ntmps=n
def fco{P:Program}{f:FuncId}{fn:Func}{c:Code}{sc:SC}{rs:List aF}{n:Nat}(h:P.funcs[f]?=some fn)(hb:fn.body=some c)(hk:((fn.name== "runtime.NumGoroutine"),Yj P c,fM P fn.results.toList,fn.ntmps)=(false,sc,rs,n)):c9 P f sc rs n:=by
 obtain⟨h1,h2⟩:=Prod.mk.inj hk;obtain⟨h2,h3⟩:=Prod.mk.inj h2;obtain⟨h3,h4⟩:=Prod.mk.inj h3;exact⟨fn,c,h,hb,h1,h2,h3,h4⟩
def aK{P:Program}{f:FuncId}{fn:Func}{c:Code}{sc:SC}{rs:List aF}{n:Nat}(h:P.funcs[f]?=some fn)(hb:fn.body=some c:=by rfl)(hk:((fn.name== "runtime.NumGoroutine"),Yj P c,fM P fn.results.toList,fn.ntmps)=(false,sc,rs,n):=by kernel_rfl):c9 P f sc rs n:=fco h hb hk
def alk{f:FuncId}{sc:SC}{rs:List aF}{n:Nat}(hc:c9 P f sc rs n)(orc:UV){as':P2}{m:AM}{K:So}
  (h:vc P gl orc Y sc ⟨as'++List.replicate (n-as'.length) .junk,m⟩ (wQ P gl orc rs K)){vs:PQ}(hm:au N w0 an γ w m.B m.L)(hl:cS γ w m)(hg:∀g,aA w γ.cU (gl g) (.pointer (some ⟨g,0,none⟩)))
  (hy:YOK N w0 an P Y γ w)(hr:ak w γ as' vs):
  CallsIn (FW none) 0 P f vs.toArray w fun e w'=>∃v γ' r m',e=.returned v/\eD w γ w' γ'/\au N w0 an γ' w' m'.B m'.L/\cS γ' w' m'/\aA w' γ' r v/\K r m':=by
 obtain⟨fn,c,hf,hb,ais,rfl,rfl,rfl⟩:=hc;refine callsIn_of_wp_marks (F:=FW none) hf hb trivial ?_
 have hs:ew N w0 none an (γ,w) P gl Y γ w ⟨as'++List.replicate (fn.ntmps-as'.length) .junk,m⟩ {tmps:=vs.toArray++Array.replicate (fn.ntmps-vs.toArray.size) undef,defers:=[]}:=
  ⟨hm,hl,fun l h=>(by cases h),P8 hr,⟨zzab _,fun x hx=>(by cases hx),List.Pairwise.nil⟩,hg,hy,(Ev.refl w γ).cH⟩
 refine wpIn_mono (Ji c none (γ,w) γ w _ _ _ h hs) ?_
 have fin:∀γ' w' s a,ew N w0 none an (γ,w) P gl Y γ' w' s a->(Jq P gl orc s (fM P fn.results.toList)).1/\K (oneOf (Jq P gl orc s (fM P fn.results.toList)).2) s.m->
   LeavesInM (FW none) 0 P fn a.tmps (fun e w'=>∃v γ' r m',e=.returned v/\eD w γ w' γ'/\au N w0 an γ' w' m'.B m'.L/\cS γ' w' m'/\aA w' γ' r v/\K r m') a.defers .returning w':=
  fun γ' w' s a dM hc=>sB (S:=(γ,w)) (fun b hb=>(hm.sp b hb).2.1) a.defers γ' w' s a rfl dM.y0 hc.1 fun v qF Ee q1 q2 q3 q4=>⟨v,Ee,_,_,rfl,q1,q2,q3,q4,hc.2⟩
 rintro ex a w' ⟨γ',s,dM,h'⟩;cases ex with
 |normal=>exact fin γ' w' s a dM h'
 |ret=>exact fin γ' w' s a dM h'
 |_=>exact h'.elim
def c9.bz{f:FuncId}{sc:SC}{rs:List aF}{n:Nat}(hc:c9 P f sc rs n):bz P f:=by
 obtain⟨fn,c,hf,hb,ais,_⟩:=hc;exact⟨fn,hf,by simp[hb],ais⟩
def J8{f:FuncId}{sc:SC}{rs:List aF}{n:Nat}(hc:c9 P f sc rs n)(orc:UV){as':P2}{m:AM}{K:So}
  (h:vc P gl orc Y sc ⟨as'++List.replicate (n-as'.length) .junk,m⟩ (wQ P gl orc rs K)):aB P gl Y f as' m K:=
 ⟨hc.bz,fun _ _ _ _ _ _ hm hl hg hy hr=>alk hc orc h hm hl hg hy hr⟩
def AM.none:AM:=⟨[],[],fun _=>.gone,0⟩
def sC{f:FuncId}{as':P2}{r:AV}(h:aB P gl Y0 f as' ⟨[],[],fun _=>.gone,0⟩ fun x m'=>bA m' 6 x=r):Pure P gl f as' r:=by
 refine⟨h.1,fun ro w vs lG hr=>?_⟩;refine(callsIn_wide (n:=0)).1 ?_
 let γ0:G:=G0 fun b o=>ro b o/\b<w.heap.size
 have bP:Ev w (G0 ro) w γ0:=⟨zzab _,fun b o hb h=>⟨⟨h,hb⟩,rfl⟩,fun _ _ h=>(by cases h),fun _=>zzab _,fun _ _ h=>(by cases h),rfl,fun _ _ _ h=>(by cases h),fun _ h=>h.elim,Sz.refl w⟩
 have hm:au w.heap.size (adZ w) ro γ0 w (⟨[],[],fun _=>.gone,0⟩:AM).B (⟨[],[],fun _=>.gone,0⟩:AM).L:=by
  refine⟨⟨Below.refl _ _,fun b hb=>?_⟩,zzab _,fun b o h=>.inl h.1,fun b o h=>h.2,fun id cells b h=>by simp[AM.B]at h,fun id b h=>(by cases h),fun id id' b h=>(by cases h),fun id b h=>(by cases h),fun id id' b h=>(by cases h),fun b h=>h.elim,fun id b h=>(by cases h),fun id id' b h=>(by cases h),fun id n h=>by simp[AM.L]at h,fun _ _=>rfl⟩;obtain⟨_,hb⟩|⟨_,hb⟩|hb|⟨_,hb⟩:=hb
  ·cases hb
  ·cases hb
  ·exact hb.elim
  cases hb
 refine CallsIn.mono (h.2 _ _ _ _ _ _ hm ⟨fun _=>.inl rfl,fun _ _=>rfl,fun _ _ _ h=>(by cases h),fun _ _ h=>(by cases h)⟩ (fun g=>(lG g).mono bP) (fun _ _ _ _ _ _ _ _ _ _ _ hY _ _=>hY.elim) (hr.mono bP)) ?_;rintro e w' ⟨v,γ',x,m',rfl,_,h2,_,h4,h5⟩;refine⟨v,rfl,h2.bs.1,?_⟩;rw[<- h5];exact kH h2 (fun _ _ h=>h) h2.an 6 _ v h4 fun _ id b hb o=>.inr (h2.β id b hb).1
def ad0{f:FuncId}{sc:SC}{rs:List aF}{n:Nat}(hc:c9 P f sc rs n)(orc:UV){as':P2}{r:AV}
  (h:vc P gl orc Y0 sc ⟨as'++List.replicate (n-as'.length) .junk,⟨[],[],fun _=>.gone,0⟩⟩ (post P gl orc rs r)):Pure P gl f as' r:=by
 have arx:post P gl orc rs r=wQ P gl orc rs fun x m'=>bA m' 6 x=r:=by
  funext ex s;cases ex<;>rfl
 rw[arx]at h;exact sC (J8 hc orc h)
end
end Go.Abs
