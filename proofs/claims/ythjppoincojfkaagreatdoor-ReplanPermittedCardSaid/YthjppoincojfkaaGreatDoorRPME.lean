import Derived.Test.YthjppoincojfkaaGreatDoorRPMD
import Derived.RangeFuncNested
set_option linter.all false
namespace Go.Abs
open Go Go.RowKit
def Xx(o:Oper):Pa:=(o.after.toList.filter fun e=>Region.binds .any e).map (·.on)
def vY(ops:Array Oper)(i j:Nat):Bool:=
 match ops[i]? with
 |some o=>(Xx o).contains j
 |none=>false
def CB(ops:Array Oper)(i:Nat):Bool:=(List.range i).all fun j=>(List.range (i-j)).any fun d=>vY ops (i-d) j
def vZ(ops:Array Oper):Nat->Nat
 |0=>0
 |k+1=>if CB ops k then vZ ops k else k+1
def Sm(ops:Array Oper):Nat:=vZ ops ops.size
def Vg(ops:Array Oper)(i:Nat):Option Nat:=(ops[i]?).bind (·.dst)
def um(ops:Array Oper)(p:Nat):Bool:=
 decide (p<=ops.size)&&(List.range ops.size).all fun i=>
  match ops[i]? with
  |none=>false
  |some o=>(Xx o).all (fun j=>decide (j<i))&&
   (
    if i<p then
    ((o.looksAt ops).all fun t=>(List.range p).all fun j=>!(Vg ops j==some t)||j==i||(decide (j<i)&&(Xx o).contains j))&&
    ((List.range i).all fun j=>(Vg ops j).isNone||!(Vg ops j==o.dst))
   else CB ops i)
section
variable (P:Program) (gl:Nat->AV) (orc:UV)
def dop(o:SO)(T:P2)(m:AM)(nb:T5):Prop×AV×T5:=
 match o.guard with
 |none=>match o.op with
  |.alloc zs=>(zs.all Qx=true,.ptr (m.boxes.length+nb.length) 0,nb++[zs])
  |.box x=>(bare (ev gl T x)=true/\(cellsOf (ev gl T x)).all Qx=true,.ptr (m.boxes.length+nb.length) 0,nb++[cellsOf (ev gl T x)])
  |.mks sz bytes zs l c=>(match ev gl T l,ev gl T c with
   |.int _ l,.int _ c=>((0<=l/\l<=c/\bytes*c<=281474976710656/\c<=9223372036854775807)/\zs.length=sz/\zs.all Qx=true,.bs (m.boxes.length+nb.length) 0 l.toNat sz,nb++[bF c.toNat zs])
   |_,_=>(False,.junk,nb))
  |op=>((rop P gl orc (ev gl T) m o.dst op).1,(rop P gl orc (ev gl T) m o.dst op).2,nb)
 |some (some t,want)=>match Ec want (T.getD t .junk)with
  |some gw=>(gok gl T gw (gxs o.op o.xs)/\(gw=true->(rop P gl orc (evG gl T o.op) m o.dst o.op).1),.gd gw (rop P gl orc (evG gl T o.op) m o.dst o.op).2,nb)
  |none=>(False,.junk,nb)
 |some (none,_)=>(False,.junk,nb)
def Sn(Y:YT)(l2:List SO)(K:AS->Prop):List SO->P2->AM->T5->Prop
 |[],T,m,nb=>Zo P gl orc Y l2 ⟨T,{m with boxes:=m.boxes++nb}⟩ K
 |o::r,T,m,nb=>(dop P gl orc o T m nb).1/\Sn Y l2 K r (put T o.dst (dop P gl orc o T m nb).2.1) m (dop P gl orc o T m nb).2.2
def Xi(ops:Array Oper)(T0:P2)(m:AM):Nat->P2×T5
 |0=>(T0,[])
 |k+1=>match ops[k]? with
  |some o=>(put (Xi ops T0 m k).1 o.dst (dop P gl orc (Xf P ops o) (Xi ops T0 m k).1 m (Xi ops T0 m k).2).2.1,(dop P gl orc (Xf P ops o) (Xi ops T0 m k).1 m (Xi ops T0 m k).2).2.2)
  |none=>Xi ops T0 m k
end
section
variable {N:Nat} {w0:eN} {r:Option Nat} {an:Nat->Nat->Prop} {S:G×World} {Y:YT} {P:Program} {gl:Nat->AV} {orc:UV} {ops:Array Oper} {T0:P2} {m:AM} {p:Nat}
def Wo{k:Nat}{o:Oper}(h:ops[k]?=some o):Xi P gl orc ops T0 m (k+1)=
  (put (Xi P gl orc ops T0 m k).1 o.dst (dop P gl orc (Xf P ops o) (Xi P gl orc ops T0 m k).1 m (Xi P gl orc ops T0 m k).2).2.1,(dop P gl orc (Xf P ops o) (Xi P gl orc ops T0 m k).1 m (Xi P gl orc ops T0 m k).2).2.2):=by
 simp only[Xi,h]
def NA(l2:List SO)(K:AS->Prop)(hp:p<=ops.size):∀(n k:Nat),k+n=p->Sn P gl orc Y l2 K (((ops.toList.take p).drop k).map (Xf P ops)) (Xi P gl orc ops T0 m k).1 m (Xi P gl orc ops T0 m k).2->
  (∀i o,k<=i->i<p->ops[i]?=some o->(dop P gl orc (Xf P ops o) (Xi P gl orc ops T0 m i).1 m (Xi P gl orc ops T0 m i).2).1)/\
  Zo P gl orc Y l2 ⟨(Xi P gl orc ops T0 m p).1,{m with boxes:=m.boxes++(Xi P gl orc ops T0 m p).2}⟩ K
 |0,k,hk,h=>by
  obtain rfl:k=p:=zE
  have:(ops.toList.take k).drop k=[]:=zzal (by simp;omega);rw[this]at h;exact⟨fun i o h1 h2=>zE,h⟩
 |n+1,k,hk,h=>by
  have ai:k<ops.size:=zE
  have ho:ops[k]?=some ops[k]:=zzah ai
  have hd:(ops.toList.take p).drop k=ops[k]::(ops.toList.take p).drop (k+1):=by
   rw[zzag (by simp;omega)];simp
  rw[hd,zzbb]at h;obtain⟨h1,h2⟩:=h;have EZ:=Wo (P:=P) (gl:=gl) (orc:=orc) (T0:=T0) (m:=m) ho;have:=NA l2 K hp n (k+1) zE (by rw[EZ];exact h2);refine⟨fun i o hi c9 AJ=>?_,this.2⟩;rcases zzaa k i with eO|eO
  ·exact this.1 i o eO c9 AJ
  obtain rfl:i=k:=zE
  rw[ho]at AJ;cases AJ;exact h1
def v7(T:P2)(d:Option Nat)(x:AV):(put T d x).length=T.length:=by cases d<;>simp[put]
def iW:∀k,(Xi P gl orc ops T0 m k).1.length=T0.length
 |0=>rfl
 |k+1=>by
  cases h:ops[k]? with
  |none=>simp only[Xi,h];exact iW k
  |some o=>rw[Wo h,v7];exact iW k
def Qcj{T:P2}{d:Option Nat}{x:AV}{t:Nat}(h:d≠some t):(put T d x).getD t .junk=T.getD t .junk:=by
 cases d with
 |none=>rfl
 |some d=>simp only[put,List.getD];rw[zzbn (by rintro rfl;exact h rfl)]
def Ww{T:P2}{t:Nat}{x:AV}(h:t<T.length):(put T (some t) x).getD t .junk=x:=by
 simp[put,List.getD,h]
def Qek{t:Nat}:∀k,(∀j,j<k->Vg ops j≠some t)->(Xi P gl orc ops T0 m k).1.getD t .junk=T0.getD t .junk
 |0,_=>rfl
 |k+1,h=>by
  cases ho:ops[k]? with
  |none=>simp only[Xi,ho];exact Qek k fun j hj=>h j zE
  |some o=>
   rw[Wo ho,Qcj (by have:=h k zE;simpa[Vg,ho]using this)];exact Qek k fun j hj=>h j zE
def kK{t k:Nat}:∀n,(∀j,k<=j->j<k+n->Vg ops j≠some t)->(Xi P gl orc ops T0 m (k+n)).1.getD t .junk=(Xi P gl orc ops T0 m k).1.getD t .junk
 |0,_=>rfl
 |n+1,h=>by
  rw[<- zzan];cases ho:ops[k+n]? with
  |none=>simp only[Xi,ho];exact kK n fun j h1 h2=>h j h1 zE
  |some o=>
   rw[Wo ho,Qcj (by have:=h (k+n) zE zE;simpa[Vg,ho]using this)];exact kK n fun j h1 h2=>h j h1 zE
def alb{o:Oper}{T:P2}{nb:T5}:
  ((dop P gl orc (Xf P ops o) T m nb).2.2=nb)\/(∃cells,(dop P gl orc (Xf P ops o) T m nb).2.2=nb++[cells]):=by
 unfold dop;split
 ·split
  ·exact .inr ⟨_,rfl⟩
  ·exact .inr ⟨_,rfl⟩
  ·split
   ·exact .inr ⟨_,rfl⟩
   exact .inl rfl
  exact .inl rfl
 ·split
  ·exact .inl rfl
  exact .inl rfl
 exact .inl rfl
def kL(P:Program)(gl:Nat->AV)(orc:UV)(ops:Array Oper)(T0:P2)(m:AM)(k:Nat):Nat:=(Xi P gl orc ops T0 m k).2.length
def NB(k:Nat):(Xi P gl orc ops T0 m (k+1)).2=(Xi P gl orc ops T0 m k).2\/∃cells,(Xi P gl orc ops T0 m (k+1)).2=(Xi P gl orc ops T0 m k).2++[cells]:=by
 cases ho:ops[k]? with
 |none=>exact .inl (by simp only[Xi,ho])
 |some o=>rw[Wo ho];exact alb
def E3(k:Nat):kL P gl orc ops T0 m (k+1)=kL P gl orc ops T0 m k\/kL P gl orc ops T0 m (k+1)=kL P gl orc ops T0 m k+1:=by
 unfold kL;rcases NB (P:=P) (gl:=gl) (orc:=orc) (ops:=ops) (T0:=T0) (m:=m) k with h|⟨c,h⟩
 ·rw[h];exact .inl rfl
 rw[h];exact .inr zd
def E4{j:Nat}:∀n,kL P gl orc ops T0 m j<=kL P gl orc ops T0 m (j+n)
 |0=>zzab _
 |n+1=>by
  have:=E4 (j:=j) n;rcases E3 (P:=P) (gl:=gl) (orc:=orc) (ops:=ops) (T0:=T0) (m:=m) (j+n)with h|h<;>rw[<- zzan]<;>omega
def VK{i j:Nat}(h:i<=j):kL P gl orc ops T0 m i<=kL P gl orc ops T0 m j:=by
 have:=E4 (P:=P) (gl:=gl) (orc:=orc) (ops:=ops) (T0:=T0) (m:=m) (j:=i) (j-i);rwa [show i+(j-i)=j by omega]at this
def VL{i:Nat}:∀n{q:Nat}{c:P2},(Xi P gl orc ops T0 m i).2[q]?=some c->(Xi P gl orc ops T0 m (i+n)).2[q]?=some c
 |0,_,_,h=>h
 |n+1,q,c,h=>by
  have ih:=VL n h;rw[<- zzan];rcases NB (P:=P) (gl:=gl) (orc:=orc) (ops:=ops) (T0:=T0) (m:=m) (i+n)with e|⟨c',e⟩
  ·rw[e];exact ih
  rw[e,zzaj (zza.1 ih).1];exact ih
def Iw(P:Program)(gl:Nat->AV)(orc:UV)(ops:Array Oper)(T0:P2)(m:AM)(i:Nat):Bool:=kL P gl orc ops T0 m (i+1)==kL P gl orc ops T0 m i+1
def E5{q:Nat}:∀k,q<kL P gl orc ops T0 m k->∃i,i<k/\Iw P gl orc ops T0 m i=true/\kL P gl orc ops T0 m i=q
 |0,h=>by simp[kL,Xi]at h
 |k+1,h=>by
  rcases zzaa q (kL P gl orc ops T0 m k)with h'|h'
  ·obtain⟨i,h1,h2,h3⟩:=E5 k h';exact⟨i,zE,h2,h3⟩
  rcases E3 (P:=P) (gl:=gl) (orc:=orc) (ops:=ops) (T0:=T0) (m:=m) k with e|e
  ·omega
  exact⟨k,zE,by simp[Iw,e],zE⟩
def AK(P:Program)(gl:Nat->AV)(orc:UV)(ops:Array Oper)(T0:P2)(m:AM)(p:Nat)(listed:Array Bool)(id:Nat):PH:=
 if id<m.boxes.length then m.boxes[id]?
 else if(List.range p).any fun i=>listed.getD i false&&(Iw P gl orc ops T0 m i&&decide (m.boxes.length+kL P gl orc ops T0 m i=id))then(Xi P gl orc ops T0 m p).2[id-m.boxes.length]? else none
def wr(ops:Array Oper)(p:Nat)(listed:Array Bool)(t:Nat):Bool:=(List.range p).any fun i=>listed.getD i false&&(Vg ops i==some t)
def At(P:Program)(gl:Nat->AV)(orc:UV)(ops:Array Oper)(T0:P2)(m:AM)(p:Nat)(listed:Array Bool)(t:Nat):AV:=
 if wr ops p listed t then(Xi P gl orc ops T0 m p).1.getD t .junk else T0.getD t .junk
structure PN (N:Nat) (w0:eN) (r:Option Nat) (an:Nat->Nat->Prop) (S:G×World) (Y:YT) (P:Program) (gl:Nat->AV) (orc:UV) (ops:Array Oper) (T0:P2) (m:AM) (p:Nat) (listed:Array Bool) (γ:G) (w:World) (a:Act):Prop where
 size:listed.size=ops.size
 tail:∀i,p<=i->i<ops.size->listed.getD i true=false
 clo:∀i o,listed.getD i false=true->ops[i]?=some o->∀j∈Xx o,listed.getD j false=true
 mm:au N w0 an γ w (AK P gl orc ops T0 m p listed) m.L
 ls:cS γ w m
 rd:Rdr r γ w
 tl:a.tmps.size=T0.length
 tt:∀t,aA w γ (At P gl orc ops T0 m p listed t) (a.tmps.getD t undef)
 d:Dfr S.2.heap.size γ w a.defers
 g:∀g,aA w γ.cT (gl g) (.pointer (some ⟨g,0,none⟩))
 y:YOK N w0 an P Y γ w
 e:eC S.2 S.1 w γ
def Xt{listed:Array Bool}{i:Nat}{b:Bool}(h:i<listed.size):(listed.setIfInBounds i true).getD i b=true:=by
 simp[h]
def Qw{listed:Array Bool}{i j:Nat}{b:Bool}(h:j≠i):(listed.setIfInBounds i true).getD j b=listed.getD j b:=by
 simp[zzcp (Ne.symm h)]
def adT{listed:Array Bool}{id:Nat}{cells:P2}(h:m.boxes[id]?=some cells):AK P gl orc ops T0 m p listed id=some cells:=by
 unfold AK;rw[if_pos (zza.1 h).1];exact h
def VM{listed:Array Bool}{i:Nat}(hn:Iw P gl orc ops T0 m i=false):AK P gl orc ops T0 m p (listed.setIfInBounds i true)=AK P gl orc ops T0 m p listed:=by
 funext id;unfold AK;congr 1
 have:((List.range p).any fun j=>(listed.setIfInBounds i true).getD j false&&(Iw P gl orc ops T0 m j&&decide (m.boxes.length+kL P gl orc ops T0 m j=id)))=
   ((List.range p).any fun j=>listed.getD j false&&(Iw P gl orc ops T0 m j&&decide (m.boxes.length+kL P gl orc ops T0 m j=id))):=by
  congr 1;funext j;by_cases hj:j=i
  ·subst hj;simp[hn]
  rw[Qw hj]
 rw[this]
def adU{i j:Nat}(hi:Iw P gl orc ops T0 m i=true)(hj:Iw P gl orc ops T0 m j=true)(h:kL P gl orc ops T0 m i=kL P gl orc ops T0 m j):i=j:=by
 simp only[Iw,beq_iff_eq]at hi hj;rcases zzdv i j with h'|h'|h'
 ·have:=VK (P:=P) (gl:=gl) (orc:=orc) (ops:=ops) (T0:=T0) (m:=m) (i:=i+1) (j:=j) h';omega
 ·exact h'
 have:=VK (P:=P) (gl:=gl) (orc:=orc) (ops:=ops) (T0:=T0) (m:=m) (i:=j+1) (j:=i) h';omega
def AL{listed:Array Bool}{i:Nat}(hn:Iw P gl orc ops T0 m i=true)(hl:listed.getD i false=false):AK P gl orc ops T0 m p listed (m.boxes.length+kL P gl orc ops T0 m i)=none:=by
 unfold AK;rw[if_neg zE,if_neg];intro h;obtain⟨j,_,h⟩:=zzbr.1 h;simp only[zzac,decide_eq_true_eq]at h;obtain⟨h1,h2,h3⟩:=h;have:=adU h2 hn zE;subst this;rw[hl]at h1;cases h1
def NC{listed:Array Bool}{i:Nat}{cells:P2}(c9:i<p)(hsz:i<listed.size)(hn:Iw P gl orc ops T0 m i=true)(hc:(Xi P gl orc ops T0 m p).2[kL P gl orc ops T0 m i]?=some cells):
  AK P gl orc ops T0 m p (listed.setIfInBounds i true)=fun id=>if id=m.boxes.length+kL P gl orc ops T0 m i then some cells else AK P gl orc ops T0 m p listed id:=by
 funext id;by_cases aL:id=m.boxes.length+kL P gl orc ops T0 m i
 ·rw[if_pos aL];unfold AK;rw[if_neg zE,if_pos]
  ·rw[aL,zzdy];exact hc
  rw[zzbr];exact⟨i,zzaw.2 c9,by rw[Xt hsz,hn];simp[aL]⟩
 rw[if_neg aL];unfold AK;congr 1
 have:((List.range p).any fun j=>(listed.setIfInBounds i true).getD j false&&(Iw P gl orc ops T0 m j&&decide (m.boxes.length+kL P gl orc ops T0 m j=id)))=
   ((List.range p).any fun j=>listed.getD j false&&(Iw P gl orc ops T0 m j&&decide (m.boxes.length+kL P gl orc ops T0 m j=id))):=by
  congr 1;funext j;by_cases hj:j=i
  ·subst hj;have:decide (m.boxes.length+kL P gl orc ops T0 m j=id)=false:=by simp;omega
   simp[this]
  rw[Qw hj]
 rw[this]
def adV{listed:Array Bool}(bD:∀i,i<p->listed.getD i false=true):AK P gl orc ops T0 m p listed=({m with boxes:=m.boxes++(Xi P gl orc ops T0 m p).2}:AM).B:=by
 funext id;unfold AK;simp only[AM.B];split
 ·rename_i h;rw[zzaj h]
 rename_i h;rw[zzao zE];split
 ·rfl
 rename_i hn;rcases zzaa (id-m.boxes.length) (Xi P gl orc ops T0 m p).2.length with hq|hq
 ·obtain⟨i,h1,h2,h3⟩:=E5 (P:=P) (gl:=gl) (orc:=orc) (ops:=ops) (T0:=T0) (m:=m) (q:=id-m.boxes.length) p hq;exfalso;apply hn;rw[zzbr];exact⟨i,zzaw.2 h1,by rw[bD i h1,h2];simp;omega⟩
 rw[zzas hq]
def AN{α:Type}{f g:α->Bool}:∀{l:List α}{x:α},(∀y,f y=true->g y=true)->x∈l->g x=true->f x=false->l.countP f<l.countP g
 |y::l,x,hfg,hx,hg,hf=>by
  have cn:l.countP f<=l.countP g:=List.countP_mono_left fun y _=>hfg y;rw[List.countP_cons,List.countP_cons];rcases zzap.1 hx with rfl|hx
  ·rw[hg,hf];simp;omega
  have:=AN hfg hx hg hf;by_cases h1:f y=true
  ·rw[h1,hfg y h1];simp;omega
  have mX:f y=false:=by simpa using h1
  rw[mX];simp only[zzbh,if_false,zzcn];exact zzba this (Nat.le_add_right _ _)
def uc(ops:Array Oper)(listed:Array Bool):Nat:=(List.range ops.size).countP fun i=>!listed.getD i true
def iX{listed:Array Bool}{i:Nat}(hsz:listed.size=ops.size)(hi:i<ops.size)(hl:listed.getD i true=false):uc ops (listed.setIfInBounds i true)<uc ops listed:=by
 unfold uc;refine AN (x:=i) (fun j hj=>?_) (zzaw.2 hi) (by rw[hl];rfl) (by rw[Xt zE];rfl);by_cases Aq:j=i
 ·subst Aq;rw[hl];rfl
 rw[Qw Aq]at hj;exact hj
def Qdx{listed:Array Bool}(h:uc ops listed=0){i:Nat}(hi:i<ops.size):listed.getD i true=true:=by
 unfold uc at h;have:=List.countP_eq_zero.1 h i (zzaw.2 hi);simpa using this
def Xc{listed:Array Bool}{i:Nat}(hi:i<listed.size)(b b':Bool):listed.getD i b=listed.getD i b':=by simp[hi]
def Zb(h:um ops p=true):p<=ops.size/\∀i o,ops[i]?=some o->(∀j∈Xx o,j<i)/\
  (i<p->(∀t∈o.looksAt ops,∀j,j<p->Vg ops j=some t->j≠i->j<i/\j∈Xx o)/\(∀j,j<i->∀t,Vg ops j=some t->o.dst≠some t))/\
  (p<=i->CB ops i=true):=by
 unfold um at h;simp only[zzac,decide_eq_true_eq,zzay]at h;obtain⟨hp,h⟩:=h;refine⟨hp,fun i o ho=>?_⟩;have hi:i<ops.size:=(zzbx.1 ho).1;have:=h i (zzaw.2 hi);simp only[ho,zzac,zzay,decide_eq_true_eq]at this;obtain⟨h1,h2⟩:=this;refine⟨h1,fun c9=>?_,fun c9=>?_⟩
 ·rw[if_pos c9]at h2;simp only[zzac,zzay]at h2;obtain⟨h3,h4⟩:=h2;refine⟨fun t ht j hj hd aO=>?_,fun j hj t hd cO=>?_⟩
  ·have:=h3 t ht j (zzaw.2 hj);simp[hd,aO]at this;exact⟨this.1,this.2⟩
  have:=h4 j (zzaw.2 hj);simp[hd,cO]at this
 rw[if_neg zE]at h2;exact h2
def E6(ops:Array Oper)(listed:Array Bool):Prop:=∀i o,listed.getD i false=true->ops[i]?=some o->∀j∈Xx o,listed.getD j false=true
def E6.set{listed:Array Bool}(h:E6 ops listed){i:Nat}{o:Oper}(ho:ops[i]?=some o)(hsz:i<listed.size)(bS:∀j∈Xx o,listed.getD j false=true):E6 ops (listed.setIfInBounds i true):=by
 have air:∀k,listed.getD k false=true->(listed.setIfInBounds i true).getD k false=true:=fun k hk=>by
  by_cases qP:i=k
  ·subst qP;exact Xt hsz
  rw[Qw (Ne.symm qP)];exact hk
 intro k o' hk cO j hj;by_cases qP:i=k
 ·subst qP;rw[ho]at cO;cases cO;exact air j (bS j hj)
 rw[Qw (Ne.symm qP)]at hk;exact air j (h k o' hk cO j hj)
def Qbn{listed:Array Bool}(zq:E6 ops listed){i:Nat}{o:Oper}(ho:ops[i]?=some o)(ht:CB ops i=true)(bS:∀j∈Xx o,listed.getD j false=true):∀(n j:Nat),j<i->i-j<=n->listed.getD j false=true
 |0,j,h1,h2=>zE
 |n+1,j,h1,h2=>by
  obtain⟨d,hd,hw⟩:=zzbr.1 (zzay.1 ht j (zzaw.2 h1));have hdl:=zzaw.1 hd;unfold vY at hw;split at hw
  ·rename_i o' cO;have hm:j∈Xx o':=by simpa using hw
   by_cases h0:d=0
   ·subst h0;rw[zzer,ho]at cO;cases cO;exact bS j hm
   exact zq (i-d) o' (Qbn zq ho ht bS n (i-d) zE zE) cO j hm
  cases hw
def nk{o:Oper}{j:Nat}:j∈Xx o<->∃e∈o.after,Region.binds .any e=true/\e.on=j:=by
 simp[Xx];constructor
 ·rintro⟨e,⟨h1,h2⟩,rfl⟩;exact⟨e,h1,h2,rfl⟩
 rintro⟨e,h1,h2,rfl⟩;exact⟨e,⟨h1,h2⟩,rfl⟩
def Uo(hc:um ops p=true){listed:Array Bool}(hsz:listed.size=ops.size):∀(n i:Nat),i<=n->i<ops.size->listed.getD i true=false->∃j,j∈Region.ready .any ops listed
 |0,i,bO,hi,hl=>by
  obtain rfl:i=0:=zE
  have ho:ops[0]?=some ops[0]:=zzah hi;refine⟨0,mem_ready.2 ⟨hl,ops[0],ho,fun e he hb=>?_⟩⟩;have:=((Zb hc).2 0 _ ho).1 e.on (nk.2 ⟨e,he,hb,rfl⟩);omega
 |n+1,i,bO,hi,hl=>by
  by_cases hex:∃j,j<i/\listed.getD j true=false
  ·obtain⟨j,hj,JU⟩:=hex;exact Uo hc hsz n j zE zE JU
  have ho:ops[i]?=some ops[i]:=zzah hi;refine⟨i,mem_ready.2 ⟨hl,ops[i],ho,fun e he hb=>?_⟩⟩;have ai:=((Zb hc).2 i _ ho).1 e.on (nk.2 ⟨e,he,hb,rfl⟩)
  have:listed.getD e.on true=true:=by
   cases h:listed.getD e.on true with
   |true=>rfl
   |false=>exact absurd ⟨e.on,ai,h⟩ hex
  rw[Xc zE false true];exact this
def Uq(hc:um ops p=true){listed:Array Bool}{i:Nat}(hr:i∈Region.ready .any ops listed):i<ops.size/\listed.getD i true=false/\∃o,ops[i]?=some o/\∀j∈Xx o,listed.getD j false=true:=by
 obtain⟨h1,o,ho,h2⟩:=mem_ready.1 hr;refine⟨(zzbx.1 ho).1,h1,o,ho,fun j hj=>?_⟩;obtain⟨e,he,hb,rfl⟩:=nk.1 hj;exact h2 e he hb
def Qdy{Q:PP}{K:AS->Prop}(hQ:∀γ w s a,K s->eu N w0 r an S P gl Y γ w s a->Q .normal a w)(hc:um ops p=true):
  ∀(aT k:Nat)(listed:Array Bool)(γ:G)(w:World)(s:AS)(a:Act),p<=k->k<=ops.size->listed.size=ops.size->(∀j,j<k->listed.getD j false=true)->(∀j,k<=j->j<ops.size->listed.getD j true=false)->
   uc ops listed<=aT->Zo P gl orc Y ((ops.toList.drop k).map (Xf P ops)) s K->eu N w0 r an S P gl Y γ w s a->wpAnyIn (FW r) 0 P .any ops Q aT listed a w:=by
 intro aT;induction aT with
 |zero=>
  intro k listed γ w s a E7 hk hsz hlo hhi iY h hs
  have Eb:k=ops.size:=by
   rcases zzaa k ops.size with h'|h'
   ·have:=Qdx (zzfa.1 iY) h';rw[hhi k (zzab _) h']at this;cases this
   omega
  have hd:ops.toList.drop k=[]:=zzal (by simp;omega);rw[hd]at h;refine⟨?_,hQ γ w s a h hs⟩;rw[List.eq_nil_iff_forall_not_mem];intro i hi;obtain⟨ai,hu,_⟩:=Uq hc hi;have:=Qdx (zzfa.1 iY) ai;rw[hu]at this;cases this
 |succ aT ih=>
  intro k listed γ w s a E7 hk hsz hlo hhi iY h hs;refine⟨fun hr=>?_,fun i hi=>?_⟩
  ·have Eb:k=ops.size:=by
    rcases zzaa k ops.size with h'|h'
    ·obtain⟨j,hj⟩:=Uo hc hsz k k (zzab _) h' (hhi k (zzab _) h');rw[hr]at hj;cases hj
    omega
   have hd:ops.toList.drop k=[]:=zzal (by simp;omega);rw[hd]at h;exact hQ γ w s a h hs
  obtain⟨ai,hu,o,ho,bS⟩:=Uq hc hi
  have eO:k<=i:=by
   rcases zzaa i k with h'|h'
   ·have:=hlo i h';rw[Xc zE false true,hu]at this;cases this
   exact h'
  have qP:i=k:=by
   rcases zzaa k i with h'|h'
   ·have zq:E6 ops listed:=fun x ox hx hox j hj=>by
     have hxk:x<k:=by
      rcases zzaa x k with h1|h1
      ·exact h1
      have hxs:x<ops.size:=(zzbx.1 hox).1;rw[Xc zE false true,hhi x h1 hxs]at hx;cases hx
     have:=((Zb hc).2 x ox hox).1 j hj;exact hlo j zE
    have:=Qbn zq ho (((Zb hc).2 i o ho).2.2 zE) bS i k h' zE;rw[Xc zE false true,hhi k (zzab _) zE]at this;cases this
   omega
  subst qP;refine wpOpIn_mono ?_ (vX ai hs h);rintro a' w' ⟨γ',s',dK,h'⟩;refine ih (i+1) _ γ' w' s' a' zE ai (by simp[hsz]) (fun j hj=>?_) (fun j dW ov=>?_) ?_ h' dK
  ·rcases zzaa j i with h'|h'
   ·rw[Qw zE];exact hlo j h'
   obtain rfl:j=i:=zE
   exact Xt zE
  ·rw[Qw zE];exact hhi j zE ov
  have:=iX hsz ai hu;omega
def adW{P:Program}{w:World}{γ:G}{te:TypeId}{zs:P2}{i:TypeInfo}{z:Value}{n:Nat}(JI:ak w γ zs z.cells.toList)(g5:zs.all Qx=true)(g4:zs.length=i.size):
  cr w γ (bF n zs) (madeCells z.cells (n*i.size)).toList/\∀v∈(madeCells z.cells (n*i.size)).toList,v.oneCell'=true:=by
 have gp:=Yn JI g5;have EV:z.cells.size=zs.length:=by have:=JI.1;simp at this;omega
 refine⟨⟨by simp[Kt,size_madeCells,g4],fun k c v j1 j2=>?_⟩,fun v hv=>?_⟩
 ·obtain⟨q1,q2⟩:=kJ j1
  have h0:0<zs.length:=by
   rcases zzck zs.length with h0|h0
   ·simp[h0]at q1
   exact h0
  have ai:k%zs.length<z.cells.size:=by rw[EV];exact zzee _ h0
  have ER:v=z.cells[k%zs.length]:=by
   simp only[madeCells,zzcd,zzgb]at j2;rw[zzah (by simp;rw[<- g4];exact q1)]at j2;simp[EV]at j2;rw[<- j2,getElem!_pos z.cells _ ai]
  subst ER;exact JI.2 _ c _ q2 (by simp[ai])
 simp[madeCells]at hv;obtain⟨k,hk,rfl⟩:=hv
 have h0:0<z.cells.size:=by
  rcases zzck z.cells.size with h0|h0
  ·rw[h0]at EV;rw[<- g4,<- EV]at hk;simp at hk
  exact h0
 have ai:k%z.cells.size<z.cells.size:=zzee _ h0;rw[getElem!_pos z.cells _ ai];exact gp _ zd
def alc{o:Oper}{sz bytes:Nat}{zs:P2}{x y:bE}(h:tr P o=.mks sz bytes zs x y):∃t l c te i,o.op=.makeSlice t l c/\x=aC l/\y=aC c/\P.underlying t=some (.slice te)/\P.info? te=some i/\sz=i.size/\bytes=i.bytes/\zc P te=some zs:=by
 obtain⟨dst,op,ty,pos,after,guard⟩:=o;cases op
 case makeSlice t l c=>
  simp only[tr]at h;split at h
  ·rename_i te hu;split at h
   ·split at h<;>cases h
   ·rename_i i hi _;split at h
    ·rename_i zs' hz;cases h;exact⟨t,_,_,te,i,rfl,rfl,rfl,hu,hi,rfl,rfl,hz⟩
    cases h
   cases h
  cases h
 case call c=>
  simp only[tr,Zr]at h;repeat' split at h
  all_goals cases h
 case build t parts=>
  simp only[tr,Wt]at h;repeat' split at h
  all_goals cases h
 case slice t x lo hi mx=>cases mx<;>simp only[tr]at h<;>(repeat' split at h)<;>cases h
 case makeFunc fn a b=>cases fn<;>cases h
 case next x s=>cases s<;>cases h
 case makeMap t r=>cases r<;>simp only[tr]at h<;>(repeat' split at h)<;>cases h
 case binOp op t x y t'=>
  simp only[tr,lZ,Qcq,zh]at h;repeat' split at h
  all_goals cases h
 all_goals first|(cases h;done)|(
  simp only[tr]at h;repeat' split at h
  all_goals cases h)
def v8(c:Call)(zs:P2):Zr P c≠.alloc zs:=by
 intro h;obtain⟨callee,args,ts⟩:=c;cases callee with
 |builtin b=>cases b<;>simp only[Zr]at h<;>(repeat' split at h)<;>cases h
 |_=>cases h
def CD(c:Call)(x:bE):Zr P c≠.box x:=by
 intro h;obtain⟨callee,args,ts⟩:=c;cases callee with
 |builtin b=>cases b<;>simp only[Zr]at h<;>(repeat' split at h)<;>cases h
 |_=>cases h
def VN{o:Oper}{zs:P2}(h:tr P o=.alloc zs):∃t,o.op=.alloc t/\zc P t=some zs:=by
 obtain⟨dst,op,ty,pos,after,guard⟩:=o;cases op
 case alloc t=>
  simp only[tr]at h;split at h
  ·rename_i zs' hz;cases h;exact⟨t,rfl,hz⟩
  cases h
 case call c=>exact absurd h (v8 c zs)
 case build t parts=>
  simp only[tr,Wt]at h;repeat' split at h
  all_goals cases h
 case slice t x lo hi mx=>cases mx<;>simp only[tr]at h<;>(repeat' split at h)<;>cases h
 case makeFunc fn a b=>cases fn<;>cases h
 case next x s=>cases s<;>cases h
 case makeMap t r=>cases r<;>simp only[tr]at h<;>(repeat' split at h)<;>cases h
 case binOp op t x y t'=>
  simp only[tr,lZ,Qcq,zh]at h;repeat' split at h
  all_goals cases h
 all_goals first|(cases h;done)|(
  simp only[tr]at h;repeat' split at h
  all_goals cases h)
def ald{o:Oper}{x:bE}(h:tr P o=.box x):∃t y,o.op=.box t y/\x=aC y:=by
 obtain⟨dst,op,ty,pos,after,guard⟩:=o;cases op
 case box t y=>cases h;exact⟨t,y,rfl,rfl⟩
 case call c=>exact absurd h (CD c x)
 case build t parts=>
  simp only[tr,Wt]at h;repeat' split at h
  all_goals cases h
 case slice t x lo hi mx=>cases mx<;>simp only[tr]at h<;>(repeat' split at h)<;>cases h
 case makeFunc fn a b=>cases fn<;>cases h
 case next x s=>cases s<;>cases h
 case makeMap t r=>cases r<;>simp only[tr]at h<;>(repeat' split at h)<;>cases h
 case binOp op t x y t'=>
  simp only[tr,lZ,Qcq,zh]at h;repeat' split at h
  all_goals cases h
 all_goals first|(cases h;done)|(
  simp only[tr]at h;repeat' split at h
  all_goals cases h)
def awF(hc:um ops p=true){listed:Array Bool}(hsz:listed.size=ops.size){i:Nat}{o:Oper}(ho:ops[i]?=some o)(c9:i<p)(hu:listed.getD i true=false)(bS:∀j∈Xx o,listed.getD j false=true)
  {t:Nat}(ht:t∈o.looksAt ops):(Xi P gl orc ops T0 m i).1.getD t .junk=At P gl orc ops T0 m p listed t:=by
 have hi:i<ops.size:=(zzbx.1 ho).1;obtain⟨hp,cV⟩:=Zb hc;unfold At;by_cases hex:∃j,j<p/\Vg ops j=some t/\j≠i
 ·obtain⟨j,hj,hd,aO⟩:=hex;obtain⟨Aq,hja⟩:=((cV i o ho).2.1 c9).1 t ht j hj hd aO
  have hw:wr ops p listed t=true:=by
   unfold wr;rw[zzbr];exact⟨j,zzaw.2 hj,by rw[bS j hja,hd];simp⟩
  rw[if_pos hw]
  have:=kK (P:=P) (gl:=gl) (orc:=orc) (ops:=ops) (T0:=T0) (m:=m) (t:=t) (k:=i) (p-i) fun k dA ef E8=>by
   have hk:k<ops.size:=zE
   have E9:ops[k]?=some ops[k]:=zzah hk;have:=((cV k _ E9).2.1 zE).2 j zE t hd;simp[Vg,E9]at E8;exact this E8
  rw[show i+(p-i)=p by omega]at this;exact this.symm
 have hw:wr ops p listed t=false:=by
  unfold wr;rw[zzdi];intro j hj;simp only[zzac,beq_iff_eq,not_and];intro hl hd;by_cases Aq:j=i
  ·subst Aq;rw[Xc zE false true,hu]at hl;cases hl
  exact hex ⟨j,zzaw.1 hj,hd,Aq⟩
 rw[hw];simp only[zzbh,if_false];exact Qek i fun j hj hd=>hex ⟨j,zE,hd,zE⟩
def ale(hc:um ops p=true){listed:Array Bool}(hsz:listed.size=ops.size){i:Nat}{o:Oper}(ho:ops[i]?=some o)(c9:i<p){t:Nat}:
  At P gl orc ops T0 m p (listed.setIfInBounds i true) t=if o.dst=some t/\t<T0.length then(dop P gl orc (Xf P ops o) (Xi P gl orc ops T0 m i).1 m (Xi P gl orc ops T0 m i).2).2.1 else At P gl orc ops T0 m p listed t:=by
 have hi:i<ops.size:=(zzbx.1 ho).1;obtain⟨hp,cV⟩:=Zb hc;by_cases hd:o.dst=some t
 ·have hw:wr ops p (listed.setIfInBounds i true) t=true:=by
   unfold wr;rw[zzbr];exact⟨i,zzaw.2 c9,by rw[Xt zE];simp[Vg,ho,hd]⟩
  have hl:=kK (P:=P) (gl:=gl) (orc:=orc) (ops:=ops) (T0:=T0) (m:=m) (t:=t) (k:=i+1) (p-(i+1)) fun k dA ef E8=>by
   have hk:k<ops.size:=zE
   have E9:ops[k]?=some ops[k]:=zzah hk;have:=((cV k _ E9).2.1 zE).2 i zE t (by simp[Vg,ho,hd]);simp[Vg,E9]at E8;exact this E8
  rw[show i+1+(p-(i+1))=p by omega]at hl;by_cases ht:t<T0.length
  ·rw[if_pos ⟨hd,ht⟩];unfold At;rw[if_pos hw,hl,Wo ho,hd];exact Ww (by rw[iW];exact ht)
  rw[if_neg (by simp[ht])]
  have h1:∀k,(Xi P gl orc ops T0 m k).1.getD t .junk=.junk:=fun k=>by
   have:=iW (P:=P) (gl:=gl) (orc:=orc) (ops:=ops) (T0:=T0) (m:=m) k;simp only[List.getD];rw[zzas zE];rfl
  have h2:T0.getD t .junk=.junk:=h1 0;unfold At;rw[h1 p,h2];simp
 rw[if_neg (by simp[hd])]
 have hw:wr ops p (listed.setIfInBounds i true) t=wr ops p listed t:=by
  unfold wr;congr 1;funext j;by_cases hj:j=i
  ·subst hj;have hb:(o.dst==some t)=false:=by simpa using hd
   simp[Vg,ho,hb]
  rw[Qw hj]
 unfold At;rw[hw]
def JV(hc:um ops p=true){Q:PP}{listed:Array Bool}{γ:G}{w:World}{a:Act}(hI:PN N w0 r an S Y P gl orc ops T0 m p listed γ w a){i:Nat}{o:Oper}(ho:ops[i]?=some o)(c9:i<p)
  (hu:listed.getD i true=false)(bS:∀j∈Xx o,listed.getD j false=true)(bQ:(dop P gl orc (Xf P ops o) (Xi P gl orc ops T0 m i).1 m (Xi P gl orc ops T0 m i).2).1):
  wpOpIn (FW r) 0 P ops Q i (fun a' w'=>∃γ',PN N w0 r an S Y P gl orc ops T0 m p (listed.setIfInBounds i true) γ' w' a') a w:=by
 have hi:i<ops.size:=(zzbx.1 ho).1
 have zu:∀t∈o.looksAt ops,aA w γ ((Xi P gl orc ops T0 m i).1.getD t .junk) (a.tmps.getD t undef):=fun t ht=>by
  rw[awF (P:=P) (gl:=gl) (orc:=orc) (T0:=T0) (m:=m) hc hI.size ho c9 hu bS ht];exact hI.tt t
 have dm:∀x∈o.op.operands,aA w γ (ev gl (Xi P gl orc ops T0 m i).1 (aC x)) (a.eval x):=fun x hx=>by
  cases x with
  |tmp t=>exact zu t (by simp only[Oper.looksAt,zzam,zzff];exact .inl ⟨.tmp t,Nm hx,rfl⟩)
  |const v=>exact Kc w γ v
  |func f=>exact .fn rfl (fun i c v h=>by simp at h) rfl fun i c v h=>by simp at h
  |global g=>exact(hI.g g).gh
 have hB:∀id cells,m.boxes[id]?=some cells->AK P gl orc ops T0 m p listed id=some cells:=fun id cells h=>adT h
 have fin:∀{v:Value}{w':World}{γ':G},Ev w γ w' γ'->au N w0 an γ' w' (AK P gl orc ops T0 m p (listed.setIfInBounds i true)) m.L->
   aA w' γ' (dop P gl orc (Xf P ops o) (Xi P gl orc ops T0 m i).1 m (Xi P gl orc ops T0 m i).2).2.1 v->∃γ',PN N w0 r an S Y P gl orc ops T0 m p (listed.setIfInBounds i true) γ' w' (a.put o.dst v):=fun{v w' γ'}he hm hr=>by
  refine⟨γ',by simp[hI.size],fun j dW ov=>by rw[Qw zE];exact hI.tail j dW ov,E6.set hI.clo ho (by rw[hI.size];exact hi) bS,hm,hI.ls.mono he,hI.rd.aU he.cG,?_,fun t=>?_,?_,fun g=>(hI.g g).mono he.cT,hI.y.mono he.cG,hI.e.trans he.cG⟩
  ·cases hd:o.dst<;>simp[Act.put,hI.tl]
  ·rw[ale hc hI.size ho c9];by_cases hd:o.dst=some t
   ·by_cases ht:t<T0.length
    ·rw[if_pos ⟨hd,ht⟩,hd];have:(a.put (some t) v).tmps.getD t undef=v:=by simp[Act.put,hI.tl,ht]
     rw[this];exact hr
    rw[if_neg (by simp[ht]),hd];have:(a.put (some t) v).tmps.getD t undef=a.tmps.getD t undef:=by simp[Act.put,hI.tl,ht]
    rw[this];exact(hI.tt t).mono he
   rw[if_neg (by simp[hd])]
   have:(a.put o.dst v).tmps.getD t undef=a.tmps.getD t undef:=by
    cases zj:o.dst with
    |none=>rfl
    |some d=>simp only[Act.put];simp;rw[zzcp (by rintro rfl;exact hd zj)]
   rw[this];exact(hI.tt t).mono he
  cases hd:o.dst<;>exact hI.d.aU he.cG
 have dM:=Wo (P:=P) (gl:=gl) (orc:=orc) (T0:=T0) (m:=m) ho
 have PO:∀cells,(dop P gl orc (Xf P ops o) (Xi P gl orc ops T0 m i).1 m (Xi P gl orc ops T0 m i).2).2.2=(Xi P gl orc ops T0 m i).2++[cells]->Iw P gl orc ops T0 m i=true/\(Xi P gl orc ops T0 m p).2[kL P gl orc ops T0 m i]?=some cells:=fun cells h=>by
  refine⟨by simp only[Iw,kL,dM,h];simp,?_⟩;have:=VL (P:=P) (gl:=gl) (orc:=orc) (ops:=ops) (T0:=T0) (m:=m) (i:=i+1) (p-(i+1)) (q:=kL P gl orc ops T0 m i) (c:=cells) (by rw[dM];simp only[h,kL];simp);rwa [show i+1+(p-(i+1))=p by omega]at this
 have iU:(dop P gl orc (Xf P ops o) (Xi P gl orc ops T0 m i).1 m (Xi P gl orc ops T0 m i).2).2.2=(Xi P gl orc ops T0 m i).2->AK P gl orc ops T0 m p (listed.setIfInBounds i true)=AK P gl orc ops T0 m p listed:=fun h=>
  VM (by simp only[Iw,kL,dM,h];simp)
 have tJ:listed.getD i false=false:=by rw[Xc (by rw[hI.size];exact hi) false true];exact hu
 have box:∀{cells:P2}{arr:P1}{te:TypeId},ak w γ cells arr.toList->cells.all Qx=true->
   (dop P gl orc (Xf P ops o) (Xi P gl orc ops T0 m i).1 m (Xi P gl orc ops T0 m i).2).2=(.ptr (m.boxes.length+(Xi P gl orc ops T0 m i).2.length) 0,(Xi P gl orc ops T0 m i).2++[cells])->
   (execOp a.eval o).run P w=.ok (.value (.pointer (some ⟨w.heap.size,0,none⟩))) (w.alloc (.cells arr te))->
   o.wpIn (FW r) 0 P a w (fun a' w'=>∃γ',PN N w0 r an S Y P gl orc ops T0 m p (listed.setIfInBounds i true) γ' w' a') Q:=fun{cells arr te}hr bL hd aZ=>by
  obtain⟨qp,y6⟩:=PO cells (by rw[hd]);have aL:=AL (p:=p) qp tJ;refine Zk aZ (fin (hI.mm.dw _ aL _) ?_ ?_)
  ·rw[NC c9 (by rw[hI.size];exact hi) qp y6];exact hI.mm.eW _ aL hr.toP (Yn hr bL)
  rw[hd];exact .ptr (by simp[G.box,kL])
 simp only[wpOpIn,ho];cases hg:o.guard with
 |none=>
  have hw:Region.wanted o (yielded ops a.tmps)=true:=by simp[Region.wanted,hg]
  rw[if_pos hw];have e1:(Xf P ops o).guard=none:=by simp[Xf,hg]
  cases PR:tr P o with
  |alloc zs=>
   have hd:dop P gl orc (Xf P ops o) (Xi P gl orc ops T0 m i).1 m (Xi P gl orc ops T0 m i).2=(zs.all Qx=true,.ptr (m.boxes.length+(Xi P gl orc ops T0 m i).2.length) 0,(Xi P gl orc ops T0 m i).2++[zs]):=by
    have e2:(Xf P ops o).op=.alloc zs:=PR;simp only[dop,e1,e2]
   rw[hd]at bQ;obtain⟨t,VO,hz⟩:=VN PR;obtain⟨i',z,di,iR,hr⟩:=iQ (w:=w) (γ:=γ) hz;refine box (te:=t) hr bQ (by rw[hd]) ?_;obtain⟨d',op',ty',aq7,af',gu'⟩:=o;simp only at VO;subst VO;simp[execOp,Instr.alloc,zeroValue,typeInfo,di,iR,newVar,newRow]
  |box x=>
   have hd:dop P gl orc (Xf P ops o) (Xi P gl orc ops T0 m i).1 m (Xi P gl orc ops T0 m i).2=(bare (ev gl (Xi P gl orc ops T0 m i).1 x)=true/\(cellsOf (ev gl (Xi P gl orc ops T0 m i).1 x)).all Qx=true,
     .ptr (m.boxes.length+(Xi P gl orc ops T0 m i).2.length) 0,(Xi P gl orc ops T0 m i).2++[cellsOf (ev gl (Xi P gl orc ops T0 m i).1 x)]):=by
    have e2:(Xf P ops o).op=.box x:=PR;simp only[dop,e1,e2]
   rw[hd]at bQ;obtain⟨t,y,VO,rfl⟩:=ald PR;have hry:=dm y (by rw[VO];simp[Op.operands]);refine box (te:=t) (kz hry bQ.1) bQ.2 (by rw[hd]) ?_;obtain⟨d',op',ty',aq7,af',gu'⟩:=o;simp only at VO;subst VO;simp[execOp,Instr.box,newVar,newRow]
  |mks sz bytes zs x y=>
   obtain⟨t,l,c,te,i',VO,rfl,rfl,hu,di,rfl,rfl,Cq⟩:=alc PR;have e2:(Xf P ops o).op=.mks i'.size i'.bytes zs (aC l) (aC c):=PR;simp only[dop,e1,e2]at bQ PO;have hl:=dm l (by rw[VO];simp[Op.operands]);have hc:=dm c (by rw[VO];simp[Op.operands]);split at bQ
   case h_2=>exact bQ.elim
   rename_i k1 n1 k2 n2 q1 q2;rw[q1]at hl;rw[q2]at hc;obtain⟨⟨g0,g1,g2,g3⟩,g4,g5⟩:=bQ;obtain⟨i2,z,hi2,hz,JI⟩:=iQ (w:=w) (γ:=γ) Cq;rw[di]at hi2;cases hi2
   have hd:dop P gl orc (Xf P ops o) (Xi P gl orc ops T0 m i).1 m (Xi P gl orc ops T0 m i).2=((0<=n1/\n1<=n2/\i'.bytes*n2<=281474976710656/\n2<=9223372036854775807)/\zs.length=i'.size/\zs.all Qx=true,.bs (m.boxes.length+(Xi P gl orc ops T0 m i).2.length) 0 n1.toNat i'.size,(Xi P gl orc ops T0 m i).2++[bF n2.toNat zs]):=by
    simp only[dop,e1,e2,q1,q2]
   have aZ:=run_make (P:=P) w t te i' z hu di hz k1 k2 n1 n2 g0 zE g2 g3;obtain⟨Sl,oM⟩:=adW (P:=P) (te:=te) (n:=n2.toNat) JI g5 g4;obtain⟨qp,y6⟩:=PO (bF n2.toNat zs) (by simp only[q1,q2]);have aL:=AL (p:=p) qp tJ
   have aq8:(execOp a.eval o).run P w=.ok (.value (.slice (some ⟨w.heap.size,0,none⟩) n1.toNat n2.toNat)) (w.alloc (.cells (madeCells z.cells (n2.toNat*i'.size)) te)):=by
    obtain⟨d',op',ty',aq7,af',gu'⟩:=o;simp only at VO;subst VO;simp[execOp,hl.aI,hc.aI,aZ]
   refine Zk aq8 (fin (hI.mm.dw _ aL _) ?_ ?_)
   ·rw[NC c9 (by rw[hI.size];exact hi) qp y6];exact hI.mm.eW _ aL Sl oM
   rw[hd];exact .bs (arr:=madeCells z.cells (n2.toNat*i'.size)) (e:=te) (by simp[G.box,kL]) zE (by show(w.heap.push _)[w.heap.size]?=_;simp) (by rw[zzbs,size_madeCells];exact zzab _)
  |_=>
   have hd:dop P gl orc (Xf P ops o) (Xi P gl orc ops T0 m i).1 m (Xi P gl orc ops T0 m i).2=((rop P gl orc (ev gl (Xi P gl orc ops T0 m i).1) m o.dst (tr P o)).1,(rop P gl orc (ev gl (Xi P gl orc ops T0 m i).1) m o.dst (tr P o)).2,(Xi P gl orc ops T0 m i).2):=by
    have e2:(Xf P ops o).op=tr P o:=rfl;rw[PR]at e2;simp only[dop,e1,e2,PR];rfl
   rw[hd]at bQ;have eP:=iU (by rw[hd]);rw[hd,eP]at fin;exact Qdc hI.mm hB hI.g dm bQ r _ Q fun v w' γ' h1 h2 h3=>fin h1 h2 h3
 |some q=>
  obtain⟨j,want⟩:=q;have e1:(Xf P ops o).guard=some ((ops[j]?).bind (·.dst),want):=by simp[Xf,hg]
  cases hj:(ops[j]?).bind (·.dst)with
  |none=>
   rw[hj]at e1;simp only[dop,e1]at bQ
  |some t=>
   rw[hj]at e1;have mj:t∈o.looksAt ops:=by simp[Oper.looksAt,hg,hj]
   have aX:=zu t mj;cases lH:Ec want ((Xi P gl orc ops T0 m i).1.getD t .junk)with
   |none=>simp only[dop,e1,lH]at bQ
   |some gw=>
    have hd:dop P gl orc (Xf P ops o) (Xi P gl orc ops T0 m i).1 m (Xi P gl orc ops T0 m i).2=(gok gl (Xi P gl orc ops T0 m i).1 gw (gxs (tr P o) (Xf P ops o).xs)/\(gw=true->(rop P gl orc (evG gl (Xi P gl orc ops T0 m i).1 (tr P o)) m o.dst (tr P o)).1),
      .gd gw (rop P gl orc (evG gl (Xi P gl orc ops T0 m i).1 (tr P o)) m o.dst (tr P o)).2,(Xi P gl orc ops T0 m i).2):=by
     simp only[dop,e1,lH];rfl
    rw[hd]at bQ;have eP:=iU (by rw[hd]);rw[hd,eP]at fin
    have VI:Region.wanted o (yielded ops a.tmps)=gw:=by
     have hyv:∀b,a.tmps.getD t undef=.bool b->yielded ops a.tmps j=some b:=fun b hb=>by
      have bZ:t<a.tmps.size:=by
       rcases zzaa t a.tmps.size with h|h
       ·exact h
       simp[zzbo h,undef]at hb
      simp[bZ]at hb;simp only[yielded,hj,zzcv,zzah bZ,hb]
     have hyu:a.tmps.getD t undef=undef->yielded ops a.tmps j=none:=fun hb=>by
      rcases zzaa t a.tmps.size with bZ|h
      ·simp[bZ]at hb;simp only[yielded,hj,zzcv,zzah bZ,hb];rfl
      simp only[yielded,hj,zzcv,zzbo h]
     generalize(Xi P gl orc ops T0 m i).1.getD t .junk=gv at lH aX;cases gv with
     |bool g=>
      simp only[Ec,Option.some.injEq]at lH;subst lH;simp only[Region.wanted,hg,hyv g aX.bu];cases g<;>cases want<;>rfl
     |gd d x=>
      cases d with
      |false=>
       simp only[Region.wanted,hg,hyu aX.Ns];cases x<;>simp[Ec]at lH<;>subst lH<;>cases want<;>rfl
      |true=>
       cases x<;>simp[Ec]at lH;rename_i b;subst lH;simp only[Region.wanted,hg,hyv b (aX.Cm rfl).bu];cases b<;>cases want<;>rfl
     |_=>simp[Ec]at lH
    rw[VI];obtain⟨h1,h2⟩:=bQ;cases AI:gw with
    |true=>
     rw[AI]at h1 h2 fin;simp only[if_true];refine Qdc (e:=evG gl (Xi P gl orc ops T0 m i).1 (tr P o)) hI.mm hB hI.g (fun x hx=>?_) (h2 rfl) r _ Q fun v w' γ' q1 q2 q3=>fin q1 q2 (.gd (fun _=>q3) (fun h=>by cases h));unfold evG;cases gV:rawOp (tr P o)with
     |true=>exact dm x hx
     |false=>
      refine AH (dm x hx) fun g' b hgb=>CA h1 (aC x) ?_ g' b hgb rfl;simp only[gxs,gV,cond_false];simp[Xf,hg];exact⟨x,Nm hx,rfl⟩
    |false=>
     rw[AI]at fin;simp only[zzbh,if_false];exact⟨fun _ _=>trivial,fin (Ev.refl _ _) hI.mm (.gd (fun h=>by cases h) (fun _=>rfl))⟩
def Fa{Q:PP}{K:AS->Prop}(hQ:∀γ w s a,K s->eu N w0 r an S P gl Y γ w s a->Q .normal a w)(hc:um ops p=true)
  (alf:∀i o,i<p->ops[i]?=some o->(dop P gl orc (Xf P ops o) (Xi P gl orc ops T0 m i).1 m (Xi P gl orc ops T0 m i).2).1)
  (aq9:Zo P gl orc Y ((ops.toList.drop p).map (Xf P ops)) ⟨(Xi P gl orc ops T0 m p).1,{m with boxes:=m.boxes++(Xi P gl orc ops T0 m p).2}⟩ K):
  ∀(aT:Nat)(listed:Array Bool)(γ:G)(w:World)(a:Act),PN N w0 r an S Y P gl orc ops T0 m p listed γ w a->uc ops listed<=aT->wpAnyIn (FW r) 0 P .any ops Q aT listed a w:=by
 obtain⟨hp,cV⟩:=Zb hc
 have full:∀(aT:Nat)(listed:Array Bool)(γ:G)(w:World)(a:Act),PN N w0 r an S Y P gl orc ops T0 m p listed γ w a->uc ops listed<=aT->(∀i,i<p->listed.getD i false=true)->wpAnyIn (FW r) 0 P .any ops Q aT listed a w:=by
  intro aT listed γ w a hI iY bD;refine Qdy hQ hc aT p listed γ w _ a (zzab _) hp hI.size bD hI.tail iY aq9 ⟨?_,hI.ls,hI.rd,⟨?_,fun t x v hx hv=>?_⟩,hI.d,hI.g,hI.y,hI.e⟩
  ·have:=hI.mm;rw[adV bD]at this;exact this
  ·simp[iW,hI.tl]
  have h1:=hI.tt t
  have hAt:At P gl orc ops T0 m p listed t=x:=by
   have iy:(Xi P gl orc ops T0 m p).1.getD t .junk=x:=by simp only at hx;simp[List.getD,hx]
   unfold At;split
   ·exact iy
   rename_i hw;rw[<- iy];refine(Qek p fun j hj hd=>hw ?_).symm;unfold wr;rw[zzbr];exact⟨j,zzaw.2 hj,by rw[bD j hj,hd];simp⟩
  rw[hAt]at h1;have:a.tmps.getD t undef=v:=by simp at hv;simp[hv]
  rwa [this]at h1
 intro aT;induction aT with
 |zero=>
  intro listed γ w a hI iY
  exact full 0 listed γ w a hI iY fun i hi=>by
   rw[Xc (by rw[hI.size];omega) false true];exact Qdx (zzfa.1 iY) zE
 |succ aT ih=>
  intro listed γ w a hI iY;by_cases bD:∀i,i<p->listed.getD i false=true
  ·exact full (aT+1) listed γ w a hI iY bD
  have hex:∃k,k<p/\listed.getD k true=false:=by
   refine Classical.byContradiction fun hn=>bD fun i hi=>?_;rw[Xc (by rw[hI.size];omega) false true];cases hl:listed.getD i true with
   |true=>rfl
   |false=>exact absurd ⟨i,hi,hl⟩ hn
  obtain⟨k,hk,VQ⟩:=hex;refine⟨fun hr=>?_,fun i hi=>?_⟩
  ·obtain⟨j,hj⟩:=Uo hc hI.size k k (zzab _) zE VQ;rw[hr]at hj;cases hj
  obtain⟨ai,hu,o,ho,bS⟩:=Uq hc hi
  have c9:i<p:=by
   rcases zzaa i p with h|h
   ·exact h
   have:=Qbn hI.clo ho ((cV i o ho).2.2 h) bS i k zE zE;rw[Xc (by rw[hI.size];omega) false true,VQ]at this;cases this
  refine wpOpIn_mono ?_ (JV hc hI ho c9 hu bS (alf i o c9 ho));rintro a' w' ⟨γ',lI⟩;refine ih _ γ' w' a' lI ?_;have:=iX hI.size ai hu;omega
def we{Q:PP}{K:AS->Prop}{γ:G}{w:World}{s:AS}{a:Act}(hQ:∀γ w s a,K s->eu N w0 r an S P gl Y γ w s a->Q .normal a w)(hc:um ops p=true)
  (h:Sn P gl orc Y ((ops.toList.drop p).map (Xf P ops)) K ((ops.toList.take p).map (Xf P ops)) s.T s.m [])(hs:eu N w0 r an S P gl Y γ w s a):
  wpAnyIn (FW r) 0 P .any ops Q ops.size (Array.replicate ops.size false) a {w with drawn:=w.drawn+1}:=by
 have hp:=(Zb hc).1;obtain⟨h1,h2⟩:=NA (P:=P) (gl:=gl) (orc:=orc) (T0:=s.T) (m:=s.m) ((ops.toList.drop p).map (Xf P ops)) K hp p 0 zd (by rw[zzd];exact h);refine Fa (T0:=s.T) (m:=s.m) hQ hc (fun i o hi ho=>h1 i o (zzbp _) hi ho) h2 ops.size _ γ w.drew a ⟨zd,fun i _ hi=>by simp[hi],fun i o h=>(by rcases zzaa i ops.size with h'|h'<;>simp[h']at h),?_,hs.ls.mono (Ev.drew w γ),hs.rd.aU (Ev.drew w γ).cG,?_,fun t=>?_,hs.d.aU (Ev.drew w γ).cG,fun g=>(hs.g g).mono (Ev.drew w γ).cT,hs.y.mono (Ev.drew w γ).cG,hs.e.trans (Ev.drew w γ).cG⟩ ?_
 ·have hB:AK P gl orc ops s.T s.m p (Array.replicate ops.size false)=s.m.B:=by
   funext id;unfold AK;simp only[AM.B];split
   ·rfl
   rename_i aL;rw[if_neg,zzas zE];rw[zzbr];rintro⟨j,_,hj⟩
   have:(Array.replicate ops.size false).getD j false=false:=by
    rcases zzaa j ops.size with h|h<;>simp[h]
   rw[this]at hj;cases hj
  rw[hB];exact hs.m.drew
 ·have:=hs.t.1;simp at this;omega
 ·have hw:wr ops p (Array.replicate ops.size false) t=false:=by
   unfold wr;rw[zzdi];intro j _
   have:(Array.replicate ops.size false).getD j false=false:=by
    rcases zzaa j ops.size with h|h<;>simp[h]
   rw[this];simp
  unfold At;rw[hw];simp only[zzbh,if_false];have:=(hs.t.mono (Ev.drew w γ)).get t;simpa[List.getD]using this
 unfold uc;exact zzbd (zzes) zd
end
open Go Go.RowKit
def VR(o:Oper):Bool:=o.guard.isNone
def ara(f:FuncId):Bool:=f==229||f==169||f==114||f==43||f==44
def ais(o:Oper):Bool:=match o.op with
 |.call ⟨.value (.tmp _),_,_⟩=>o.dst.isSome
 |.call ⟨.value (.func f),_,_⟩=>o.dst.isSome&&ara f
 |.call ⟨.builtin .copy,_,_⟩=>true
 |.call ⟨.builtin .append,_,_⟩=>o.dst.isSome
 |.store _ _ _=>true
 |.mapUpdate _ _ _ _=>true
 |.mapEntry _ _ _=>true
 |.entryStore _ _ _ _=>true
 |_=>false
def wg(o:Oper):Bool:=ais o||(match o.op with
 |.alloc _|.box _ _|.makeMap _ _|.range _ _=>true
 |_=>false)
def arb(f:FuncId):Bool:=f==0
def arc(o:Oper):Bool:=match o.op with
 |.call ⟨.value (.func f),_,_⟩=>arb f
 |_=>false
def dB(ops:Array Oper)(p:Oper->Bool)(i:Nat):Bool:=match ops[i]? with
 |some o=>p o
 |none=>false
def PS(ops:Array Oper):Pa->Bool
 |j::j'::r=>(match ops[j']? with|some o=>(Xx o).contains j|none=>false)&&PS ops (j'::r)
 |_=>true
def Qei(ops:Array Oper)(p:Nat):Option (Pa):=
 let js:=(List.range p).filter (dB ops wg)
 if(List.range p).any (dB ops ais)&&PS ops js&&((List.range p).all (dB ops VR)||(List.range p).any (dB ops arc))&&(List.range p).all (fun i=>ops[i]?.isSome)then some js else none
inductive Fg
 |eff
 |pre
 |oth
def Fb(ops:Array Oper):Nat->Pa->Pa
 |0,s=>s
 |k+1,s=>bif s.any fun i=>vY ops i k then Fb ops k (k::s)else Fb ops k s
def uo{ops:Array Oper}{listed:Array Bool}(h:E6 ops listed):∀(k:Nat)(s:Pa),(∀i∈s,listed.getD i false=true)->∀i∈Fb ops k s,listed.getD i false=true
 |0,_,hs,i,hi=>hs i hi
 |k+1,s,hs,i,hi=>by
  simp only[Fb]at hi;cases hc:s.any fun i=>vY ops i k with
  |false=>rw[hc]at hi;exact uo h k s hs i hi
  |true=>
   rw[hc]at hi;refine uo h k (k::s) (fun j hj=>?_) i hi;rcases zzap.1 hj with rfl|hj
   ·obtain⟨x,hx,hw⟩:=zzbr.1 hc;unfold vY at hw;split at hw
    ·rename_i o ho;exact h x o (hs x hx) ho j (Nm hw)
    cases hw
   exact hs j hj
def iZ(ops:Array Oper)(js:Pa)(i:Nat):Bool:=match js with
 |j::_=>(Fb ops j [j]).contains i
 |[]=>false
def Vm(ops:Array Oper)(js:Pa)(i:Nat):Fg:=bif js.contains i then .eff else bif iZ ops js i then .pre else .oth
def flags(ops:Array Oper)(p:Nat)(js:Pa):List Fg:=(List.range p).map (Vm ops js)
section
variable (P:Program) (gl:Nat->AV) (orc:UV) (Y:YT)
def memEff:aF->Bool
 |.store _ _ _|.cpy _ _ _|.mupd _ _ _ _|.ment _ _ _ _|.esto _ _ _|.alloc _|.box _|.mkmap _|.rng _|.app _ _ _ _=>true
 |_=>false
def effV(v:AV):aF->AV
 |.alloc _|.box _|.mkmap _|.rng _|.ment _ _ _ _|.app _ _ _ _=>v
 |_=>.junk
def effC(e:bE->AV)(m:AM)(dst:Option Nat)(av:AV)(m1:AM):aF->Prop
 |.call f args=>(match e f with
  |.fn g first cap=>aB P gl Y g (first++args.map e++cap) m (fun x m2=>x=av/\m2=m1)
  |_=>False)
 |so=>memEff so=true/\(sop P gl orc e m dst so).1/\av=effV (sop P gl orc e m dst so).2.1 so/\m1=(sop P gl orc e m dst so).2.2
def Zx(T:P2)(o:SO):Prop:=match o.guard with
 |none=>True
 |some (some t,b)=>T.getD t .junk=.bool b
 |some (none,_)=>False
def nq(l2:List SO)(K:AS->Prop)(m:AM)(ms:QP):List SO->List Fg->QP->AM->P2->Prop
 |[],_,q,mc,T=>q=[]/\Zo P gl orc Y l2 ⟨T,mc⟩ K
 |_::_,[],_,_,_=>False
 |o::r,.eff::fl,q,mc,T=>(match q with
  |[]=>False
  |x::q=>Zx T o/\effC P gl orc Y (ev gl T) mc o.dst x.1 x.2 o.op/\nq l2 K m ms r fl q x.2 (put T o.dst x.1))
 |o::r,.pre::fl,q,mc,T=>Zx T o/\(rop P gl orc (ev gl T) m o.dst o.op).1/\nq l2 K m ms r fl q mc (put T o.dst (rop P gl orc (ev gl T) m o.dst o.op).2)
 |o::r,.oth::fl,q,mc,T=>Zx T o/\(rop P gl orc (ev gl T) m o.dst o.op).1/\(∀x∈ms,rop P gl orc (ev gl T) x.2 o.dst o.op=rop P gl orc (ev gl T) m o.dst o.op)/\nq l2 K m ms r fl q mc (put T o.dst (rop P gl orc (ev gl T) m o.dst o.op).2)
def rdC(e:bE->AV)(m:AM)(dst:Option Nat)(x:AM):aF->Prop
 |.call f args=>(match e f with
  |.fn g first cap=>aB P gl Y g (first++args.map e++cap) x (fun y m2=>y=(rop P gl orc e m dst (.call f args)).2/\m2=x)
  |_=>False)
 |_=>False
def ard(m:AM)(ms:QP)(e:bE->AV)(dst:Option Nat)(so:aF):Prop:=
 ((rop P gl orc e m dst so).1/\∀x∈ms,rop P gl orc e x.2 dst so=rop P gl orc e m dst so)\/(rdC P gl orc Y e m dst m so/\∀x∈ms,rdC P gl orc Y e m dst x.2 so)
def gW(l2:List SO)(K:AS->Prop)(m:AM)(ms:QP):List SO->List Fg->QP->AM->P2->Prop
 |[],_,q,mc,T=>q=[]/\Zo P gl orc Y l2 ⟨T,mc⟩ K
 |_::_,[],_,_,_=>False
 |o::r,.eff::fl,q,mc,T=>(match q with
  |[]=>False
  |x::q=>Zx T o/\effC P gl orc Y (ev gl T) mc o.dst x.1 x.2 o.op/\gW l2 K m ms r fl q x.2 (put T o.dst x.1))
 |o::r,.pre::fl,q,mc,T=>Zx T o/\(rop P gl orc (ev gl T) m o.dst o.op).1/\gW l2 K m ms r fl q mc (put T o.dst (rop P gl orc (ev gl T) m o.dst o.op).2)
 |o::r,.oth::fl,q,mc,T=>Zx T o/\ard P gl orc Y m ms (ev gl T) o.dst o.op/\gW l2 K m ms r fl q mc (put T o.dst (rop P gl orc (ev gl T) m o.dst o.op).2)
def ND{l2:List SO}{K:AS->Prop}{m:AM}{ms:QP}:∀{l:List SO}{fl:List Fg}{q:QP}{mc:AM}{T:P2},nq P gl orc Y l2 K m ms l fl q mc T->gW P gl orc Y l2 K m ms l fl q mc T
 |[],fl,q,mc,T,h=>by simp only[nq]at h;simp only[gW];exact h
 |_::_,[],_,_,_,h=>by simp only[nq]at h
 |o::r,.eff::fl,[],mc,T,h=>by simp only[nq]at h
 |o::r,.eff::fl,x::q,mc,T,h=>by
  simp only[nq]at h;simp only[gW];exact⟨h.1,h.2.1,ND h.2.2⟩
 |o::r,.pre::fl,q,mc,T,h=>by
  simp only[nq]at h;simp only[gW];exact⟨h.1,h.2.1,ND h.2.2⟩
 |o::r,.oth::fl,q,mc,T,h=>by
  simp only[nq]at h;simp only[gW];exact⟨h.1,.inl ⟨h.2.1,h.2.2.1⟩,ND h.2.2.2⟩
end
def Fc:QQ->Nat->Option AV
 |[],_=>none
 |(k,a)::r,d=>if k=d then some a else Fc r d
def Xa:Pa->QP->QQ
 |j::js,x::q=>(j,x.1)::Xa js q
 |_,_=>[]
def Ua(listed:Array Bool):AM->Pa->QP->AM
 |m,j::js,x::q=>if listed.getD j false then Ua listed x.2 js q else m
 |m,_,_=>m
def Vy(m:AM)(ms:QP):Nat->AM
 |0=>m
 |a+1=>(ms.getD a (.junk,m)).2
def chn(listed:Array Bool):Pa->Prop
 |j::j'::r=>(listed.getD j' false=true->listed.getD j false=true)/\chn listed (j'::r)
 |_=>True
section
variable {N:Nat} {w0:eN} {r:Option Nat} {an:Nat->Nat->Prop} {S:G×World} {Y:YT} {P:Program} {gl:Nat->AV} {orc:UV} {ops:Array Oper} {T0:P2} {m:AM} {p:Nat}
def wj(listed:Array Bool):∀(js:Pa)(ms:QP)(m:AM),Ua listed m js ms=m\/∃x∈ms,Ua listed m js ms=x.2
 |[],ms,m=>.inl (by cases ms<;>rfl)
 |j::js,[],m=>.inl rfl
 |j::js,x::q,m=>by
  simp only[Ua];split
  ·rcases wj listed js q x.2 with h|⟨y,hy,h⟩
   ·exact .inr ⟨x,zd,h⟩
   exact .inr ⟨y,by simp[hy],h⟩
  exact .inl rfl
def Uz{listed:Array Bool}:∀{js:Pa}{ms:QP}{m:AM}{a:Nat},js.length=ms.length->a<=js.length->(∀b j,b<a->js[b]?=some j->listed.getD j false=true)->(∀j,js[a]?=some j->listed.getD j false=false)->
  Ua listed m js ms=Vy m ms a
 |[],[],m,a,_,ha,_,_=>by
  have:a=0:=by simpa using ha
  subst this;rfl
 |[],_::_,_,_,h,_,_,_=>by simp at h
 |_::_,[],_,_,h,_,_,_=>by simp at h
 |j::js,x::q,m,0,_,_,_,h=>by
  simp only[Ua,Vy];rw[h j rfl];rfl
 |j::js,x::q,m,a+1,hl,ha,h1,h2=>by
  simp only[Ua];rw[h1 0 j zE rfl,if_pos rfl];rw[Uz (a:=a) (Nm hl) (Nm ha) (fun b j hb hj=>h1 (b+1) j zE (Nm hj)) (fun j hj=>h2 j (Nm hj))];cases a with
  |zero=>rfl
  |succ a=>
   simp only[Vy,List.getD_cons_succ];have:a<q.length:=by simp at ha hl;omega
   simp[List.getD,this]
def qQ{listed NF:Array Bool}:∀{js:Pa}{ms:QP}{m:AM},(∀j∈js,NF.getD j false=listed.getD j false)->Ua NF m js ms=Ua listed m js ms
 |[],_,_,_=>rfl
 |_::_,[],_,_=>rfl
 |j::js,x::q,m,h=>by
  simp only[Ua];rw[h j zd,qQ fun j hj=>h j (by simp[hj])]
def Qby{listed:Array Bool}:∀{js:Pa},chn listed js->∀{a b j j':Nat},a<b->js[a]?=some j->js[b]?=some j'->listed.getD j' false=true->listed.getD j false=true
 |[],_,a,b,j,j',_,h,_,_=>by simp at h
 |[x],_,a,b,j,j',hab,h,h',_=>by
  have:=(zza.1 h').1;simp at this;omega
 |x::y::r,hc,0,1,j,j',_,h,h',hl=>by
  simp at h h';subst h;subst h';exact hc.1 hl
 |x::y::r,hc,0,b+2,j,j',_,h,h',hl=>by
  simp at h;subst h;exact hc.1 (Qby hc.2 (a:=0) (b:=b+1) zE rfl (Nm h') hl)
 |x::y::r,hc,a+1,b+1,j,j',hab,h,h',hl=>Qby hc.2 (a:=a) (b:=b) zE (Nm h) (Nm h') hl
def uq{listed:Array Bool}{i:Nat}:∀{js:Pa},chn listed js->(∀a j,js[a]?=some j->js[a+1]?=some i->listed.getD j false=true)->chn (listed.setIfInBounds i true) js
 |[],_,_=>trivial
 |[_],_,_=>trivial
 |j::j'::r,hc,h=>by
  refine⟨fun hl=>?_,uq hc.2 fun a x hx iy=>h (a+1) x (Nm hx) (Nm iy)⟩
  have mono:∀k,listed.getD k false=true->(listed.setIfInBounds i true).getD k false=true:=fun k hk=>by
   by_cases qP:i=k
   ·subst qP
    have:i<listed.size:=by
     rcases zzaa i listed.size with h|h
     ·exact h
     simp[zzbk.2 h]at hk
    exact Xt this
   rw[Qw (Ne.symm qP)];exact hk
  by_cases eF:i=j'
  ·subst eF;exact mono j (h 0 j rfl rfl)
  rw[Qw (Ne.symm eF)]at hl;exact mono j (hc.1 hl)
def Ud{l:Pa}(h:l.Nodup){a b i:Nat}(h1:l[a]?=some i)(h2:l[b]?=some i):a=b:=by
 obtain⟨ha,ea⟩:=zza.1 h1;obtain⟨hb,eb⟩:=zza.1 h2;rcases zzdv a b with h'|h'|h'
 ·exact absurd (ea.trans eb.symm) (zzdr.1 h a b ha hb h')
 ·exact h'
 exact absurd (eb.trans ea.symm) (zzdr.1 h b a hb ha h')
def tK(P:Program)(gl:Nat->AV)(orc:UV)(ops:Array Oper)(m:AM)(L:QQ)(i:Nat)(T:P2):AV:=match Fc L i with
 |some av=>av
 |none=>match ops[i]? with
  |some o=>(rop P gl orc (ev gl T) m o.dst (tr P o)).2
  |none=>.junk
def bH(P:Program)(gl:Nat->AV)(orc:UV)(ops:Array Oper)(T0:P2)(m:AM)(L:QQ):Nat->P2
 |0=>T0
 |k+1=>match ops[k]? with
  |some o=>put (bH P gl orc ops T0 m L k) o.dst (tK P gl orc ops m L k (bH P gl orc ops T0 m L k))
  |none=>bH P gl orc ops T0 m L k
def Kv{L:QQ}{k:Nat}{o:Oper}(h:ops[k]?=some o):bH P gl orc ops T0 m L (k+1)=put (bH P gl orc ops T0 m L k) o.dst (tK P gl orc ops m L k (bH P gl orc ops T0 m L k)):=by
 simp only[bH,h]
def Qbe{L:QQ}:∀k,(bH P gl orc ops T0 m L k).length=T0.length
 |0=>rfl
 |k+1=>by
  cases h:ops[k]? with
  |none=>simp only[bH,h];exact Qbe k
  |some o=>rw[Kv h,v7];exact Qbe k
def Qbl{L:QQ}{t:Nat}:∀k,(∀j,j<k->Vg ops j≠some t)->(bH P gl orc ops T0 m L (k)).getD t .junk=T0.getD t .junk
 |0,_=>rfl
 |k+1,h=>by
  cases ho:ops[k]? with
  |none=>simp only[bH,ho];exact Qbl k fun j hj=>h j zE
  |some o=>
   rw[Kv ho,Qcj (by have:=h k zE;simpa[Vg,ho]using this)];exact Qbl k fun j hj=>h j zE
def Qdm{L:QQ}{t k:Nat}:∀n,(∀j,k<=j->j<k+n->Vg ops j≠some t)->(bH P gl orc ops T0 m L (k+n)).getD t .junk=(bH P gl orc ops T0 m L (k)).getD t .junk
 |0,_=>rfl
 |n+1,h=>by
  rw[<- zzan];cases ho:ops[k+n]? with
  |none=>simp only[bH,ho];exact Qdm n fun j h1 h2=>h j h1 zE
  |some o=>
   rw[Kv ho,Qcj (by have:=h (k+n) zE zE;simpa[Vg,ho]using this)];exact Qdm n fun j h1 h2=>h j h1 zE
def mq(P:Program)(gl:Nat->AV)(orc:UV)(ops:Array Oper)(T0:P2)(m:AM)(L:QQ)(p:Nat)(listed:Array Bool)(t:Nat):AV:=
 if wr ops p listed t then(bH P gl orc ops T0 m L (p)).getD t .junk else T0.getD t .junk
def ait{L:QQ}(hc:um ops p=true){listed:Array Bool}(hsz:listed.size=ops.size){i:Nat}{o:Oper}(ho:ops[i]?=some o)(c9:i<p)(hu:listed.getD i true=false)(bS:∀j∈Xx o,listed.getD j false=true)
  {t:Nat}(ht:t∈o.looksAt ops):(bH P gl orc ops T0 m L (i)).getD t .junk=mq P gl orc ops T0 m L p listed t:=by
 have hi:i<ops.size:=(zzbx.1 ho).1;obtain⟨hp,cV⟩:=Zb hc;unfold mq;by_cases hex:∃j,j<p/\Vg ops j=some t/\j≠i
 ·obtain⟨j,hj,hd,aO⟩:=hex;obtain⟨Aq,hja⟩:=((cV i o ho).2.1 c9).1 t ht j hj hd aO
  have hw:wr ops p listed t=true:=by
   unfold wr;rw[zzbr];exact⟨j,zzaw.2 hj,by rw[bS j hja,hd];simp⟩
  rw[if_pos hw]
  have:=Qdm (P:=P) (gl:=gl) (orc:=orc) (ops:=ops) (T0:=T0) (m:=m) (L:=L) (t:=t) (k:=i) (p-i) fun k dA ef E8=>by
   have hk:k<ops.size:=zE
   have E9:ops[k]?=some ops[k]:=zzah hk;have:=((cV k _ E9).2.1 zE).2 j zE t hd;simp[Vg,E9]at E8;exact this E8
  rw[show i+(p-i)=p by omega]at this;exact this.symm
 have hw:wr ops p listed t=false:=by
  unfold wr;rw[zzdi];intro j hj;simp only[zzac,beq_iff_eq,not_and];intro hl hd;by_cases Aq:j=i
  ·subst Aq;rw[Xc zE false true,hu]at hl;cases hl
  exact hex ⟨j,zzaw.1 hj,hd,Aq⟩
 rw[hw];simp only[zzbh,if_false];exact Qbl i fun j hj hd=>hex ⟨j,zE,hd,zE⟩
def CE{L:QQ}(hc:um ops p=true){listed:Array Bool}(hsz:listed.size=ops.size){i:Nat}{o:Oper}(ho:ops[i]?=some o)(c9:i<p){t:Nat}:
  mq P gl orc ops T0 m L p (listed.setIfInBounds i true) t=if o.dst=some t/\t<T0.length then tK P gl orc ops m L i (bH P gl orc ops T0 m L i)else mq P gl orc ops T0 m L p listed t:=by
 have hi:i<ops.size:=(zzbx.1 ho).1;obtain⟨hp,cV⟩:=Zb hc;by_cases hd:o.dst=some t
 ·have hw:wr ops p (listed.setIfInBounds i true) t=true:=by
   unfold wr;rw[zzbr];exact⟨i,zzaw.2 c9,by rw[Xt zE];simp[Vg,ho,hd]⟩
  have hl:=Qdm (P:=P) (gl:=gl) (orc:=orc) (ops:=ops) (T0:=T0) (m:=m) (L:=L) (t:=t) (k:=i+1) (p-(i+1)) fun k dA ef E8=>by
   have hk:k<ops.size:=zE
   have E9:ops[k]?=some ops[k]:=zzah hk;have:=((cV k _ E9).2.1 zE).2 i zE t (by simp[Vg,ho,hd]);simp[Vg,E9]at E8;exact this E8
  rw[show i+1+(p-(i+1))=p by omega]at hl;by_cases ht:t<T0.length
  ·rw[if_pos ⟨hd,ht⟩];unfold mq;rw[if_pos hw,hl,Kv ho,hd];exact Ww (by rw[Qbe];exact ht)
  rw[if_neg (by simp[ht])]
  have h1:∀k,(bH P gl orc ops T0 m L (k)).getD t .junk=.junk:=fun k=>by
   have:=Qbe (P:=P) (gl:=gl) (orc:=orc) (ops:=ops) (T0:=T0) (m:=m) (L:=L) k;simp only[List.getD];rw[zzas zE];rfl
  have h2:T0.getD t .junk=.junk:=h1 0;unfold mq;rw[h1 p,h2];simp
 rw[if_neg (by simp[hd])]
 have hw:wr ops p (listed.setIfInBounds i true) t=wr ops p listed t:=by
  unfold wr;congr 1;funext j;by_cases hj:j=i
  ·subst hj;have hb:(o.dst==some t)=false:=by simpa using hd
   simp[Vg,ho,hb]
  rw[Qw hj]
 unfold mq;rw[hw]
structure qR (N:Nat) (w0:eN) (r:Option Nat) (an:Nat->Nat->Prop) (S:G×World) (Y:YT) (P:Program) (gl:Nat->AV) (orc:UV) (ops:Array Oper) (T0:P2) (m:AM) (ms:QP) (js:Pa) (L:QQ) (p:Nat) (listed:Array Bool) (γ:G) (w:World) (a:Act):Prop where
 size:listed.size=ops.size
 tail:∀i,p<=i->i<ops.size->listed.getD i true=false
 ch:chn listed js
 clo:∀i o,listed.getD i false=true->ops[i]?=some o->∀j∈Xx o,listed.getD j false=true
 mm:au N w0 an γ w (Ua listed m js ms).B (Ua listed m js ms).L
 ls:cS γ w (Ua listed m js ms)
 rd:Rdr r γ w
 tl:a.tmps.size=T0.length
 tt:∀t,aA w γ (mq P gl orc ops T0 m L p listed t) (a.tmps.getD t undef)
 d:Dfr S.2.heap.size γ w a.defers
 g:∀g,aA w γ.cT (gl g) (.pointer (some ⟨g,0,none⟩))
 y:YOK N w0 an P Y γ w
 e:eC S.2 S.1 w γ
def Fe:∀(js:Pa)(ms:QP)(d:Nat),d ∉ js->Fc (Xa js ms) d=none
 |[],_,_,_=>rfl
 |_::_,[],_,_=>rfl
 |j::js,x::q,d,h=>by
  simp only[Xa,Fc];rw[if_neg (by rintro rfl;exact h zd)];exact Fe js q d fun h'=>h (by simp[h'])
def Ff:∀(js:Pa)(ms:QP)(a i:Nat)(x:AV×AM),js.Nodup->js[a]?=some i->ms[a]?=some x->Fc (Xa js ms) i=some x.1
 |[],_,_,_,_,_,h,_=>by simp at h
 |_::_,[],_,_,_,_,_,h=>by simp at h
 |j::js,y::q,0,i,x,_,h,hx=>by
  simp at h hx;subst h;subst hx;simp only[Xa,Fc,if_true]
 |j::js,y::q,a+1,i,x,hn,h,hx=>by
  have qt:=List.nodup_cons.1 hn;have h':js[a]?=some i:=by simpa using h
  simp only[Xa,Fc];rw[if_neg (by rintro rfl;exact qt.1 (zzad h'))];exact Ff js q a i x qt.2 h' (Nm hx)
def Qda{js:Pa}{ms:QP}{a i:Nat}{x:AV×AM}(hn:js.Nodup)(h:js[a]?=some i)(hx:ms[a]?=some x)(T:P2):tK P gl orc ops m (Xa js ms) i T=x.1:=by
 unfold tK;rw[Ff js ms a i x hn h hx]
def ja{js:Pa}{ms:QP}{i:Nat}{o:Oper}(h:i ∉ js)(ho:ops[i]?=some o)(T:P2):tK P gl orc ops m (Xa js ms) i T=(rop P gl orc (ev gl T) m o.dst (tr P o)).2:=by
 unfold tK;rw[Fe js ms i h,ho]
def wk{γ:G}{w:World}{a:Act}{o:Oper}{T:P2}(wm:Zx T (Xf P ops o))(zu:∀t∈o.looksAt ops,aA w γ (T.getD t .junk) (a.tmps.getD t undef)):Region.wanted o (yielded ops a.tmps)=true:=by
 cases hg:o.guard with
 |none=>simp[Region.wanted,hg]
 |some jw=>
  obtain⟨j,want⟩:=jw;have e1:(Xf P ops o).guard=some ((ops[j]?).bind (·.dst),want):=by simp[Xf,hg]
  unfold Zx at wm;rw[e1]at wm;cases hj:(ops[j]?).bind (·.dst)with
  |none=>rw[hj]at wm;exact wm.elim
  |some t=>
   rw[hj]at wm;simp only at wm;have mj:t∈o.looksAt ops:=by simp[Oper.looksAt,hg,hj]
   have aX:=zu t mj;rw[wm]at aX;have hb:=aX.bu
   have bZ:t<a.tmps.size:=by
    rcases zzaa t a.tmps.size with h|h
    ·exact h
    simp[zzbo h,undef]at hb
   simp[bZ]at hb;have hy:yielded ops a.tmps j=some want:=by simp only[yielded,hj,zzcv,zzah bZ,hb]
   simp only[Region.wanted,hg,hy];cases want<;>rfl
def Qcm{ms:QP}{js:Pa}(hc:um ops p=true){Q:PP}{listed:Array Bool}{γ:G}{w:World}{a:Act}
  (hI:qR N w0 r an S Y P gl orc ops T0 m ms js (Xa js ms) p listed γ w a){i:Nat}{o:Oper}(ho:ops[i]?=some o)(c9:i<p)(wm:Zx (bH P gl orc ops T0 m (Xa js ms) i) (Xf P ops o))(aH:js.length=ms.length)(ng:js.Nodup)
  (hu:listed.getD i true=false)(bS:∀j∈Xx o,listed.getD j false=true)(nr:∀a j,js[a]?=some j->js[a+1]?=some i->listed.getD j false=true)
  (aO:i ∉ js->((rop P gl orc (ev gl (bH P gl orc ops T0 m (Xa js ms) i)) m o.dst (tr P o)).1/\(iZ ops js i=false->∀x∈ms,rop P gl orc (ev gl (bH P gl orc ops T0 m (Xa js ms) i)) x.2 o.dst (tr P o)=rop P gl orc (ev gl (bH P gl orc ops T0 m (Xa js ms) i)) m o.dst (tr P o)))\/(rdC P gl orc Y (ev gl (bH P gl orc ops T0 m (Xa js ms) i)) m o.dst m (tr P o)/\∀x∈ms,rdC P gl orc Y (ev gl (bH P gl orc ops T0 m (Xa js ms) i)) m o.dst x.2 (tr P o)))
  (AA:∀k x,js[k]?=some i->ms[k]?=some x->effC P gl orc Y (ev gl (bH P gl orc ops T0 m (Xa js ms) i)) (Vy m ms k) o.dst x.1 x.2 (tr P o)):
  wpOpIn (FW r) 0 P ops Q i (fun a' w'=>∃γ',qR N w0 r an S Y P gl orc ops T0 m ms js (Xa js ms) p (listed.setIfInBounds i true) γ' w' a'/\∀t,o.dst≠some t->a'.tmps.getD t undef=a.tmps.getD t undef) a w:=by
 have hi:i<ops.size:=(zzbx.1 ho).1;have iV:i<listed.size:=by rw[hI.size];exact hi
 have zu:∀t∈o.looksAt ops,aA w γ ((bH P gl orc ops T0 m (Xa js ms) i).getD t .junk) (a.tmps.getD t undef):=fun t ht=>by
  rw[ait (P:=P) (gl:=gl) (orc:=orc) (T0:=T0) (m:=m) (L:=Xa js ms) hc hI.size ho c9 hu bS ht];exact hI.tt t
 have dm:∀x∈o.op.operands,aA w γ (ev gl (bH P gl orc ops T0 m (Xa js ms) i) (aC x)) (a.eval x):=fun x hx=>by
  cases x with
  |tmp t=>exact zu t (by simp only[Oper.looksAt,zzam,zzff];exact .inl ⟨.tmp t,Nm hx,rfl⟩)
  |const v=>exact Kc w γ v
  |func f=>exact .fn rfl (fun i c v h=>by simp at h) rfl fun i c v h=>by simp at h
  |global g=>exact(hI.g g).gh
 have gX:chn (listed.setIfInBounds i true) js:=uq hI.ch fun a j h1 h2=>nr a j h1 h2;have hpr:E6 ops (listed.setIfInBounds i true):=E6.set hI.clo ho iV bS
 have fin:∀{v:Value}{w':World}{γ':G},eC w γ w' γ'->au N w0 an γ' w' (Ua (listed.setIfInBounds i true) m js ms).B (Ua (listed.setIfInBounds i true) m js ms).L->cS γ' w' (Ua (listed.setIfInBounds i true) m js ms)->
   aA w' γ' (tK P gl orc ops m (Xa js ms) i (bH P gl orc ops T0 m (Xa js ms) i)) v->∃γ',qR N w0 r an S Y P gl orc ops T0 m ms js (Xa js ms) p (listed.setIfInBounds i true) γ' w' (a.put o.dst v)/\∀t,o.dst≠some t->(a.put o.dst v).tmps.getD t undef=a.tmps.getD t undef:=fun{v w' γ'}he hm hl hr=>by
  have awG:∀t,o.dst≠some t->(a.put o.dst v).tmps.getD t undef=a.tmps.getD t undef:=fun t hd=>by
   cases zj:o.dst with
   |none=>rfl
   |some d=>simp only[Act.put];simp;rw[zzcp (by rintro rfl;exact hd zj)]
  refine⟨γ',⟨by simp[hI.size],fun j dW ov=>by rw[Qw zE];exact hI.tail j dW ov,gX,hpr,hm,hl,hI.rd.aU he,?_,fun t=>?_,?_,fun g=>(hI.g g).aU he.cT,hI.y.mono he,hI.e.trans he⟩,awG⟩
  ·cases hd:o.dst<;>simp[Act.put,hI.tl]
  ·rw[CE hc hI.size ho c9];by_cases hd:o.dst=some t
   ·by_cases ht:t<T0.length
    ·rw[if_pos ⟨hd,ht⟩,hd];have:(a.put (some t) v).tmps.getD t undef=v:=by simp[Act.put,hI.tl,ht]
     rw[this];exact hr
    rw[if_neg (by simp[ht]),hd];have:(a.put (some t) v).tmps.getD t undef=a.tmps.getD t undef:=by simp[Act.put,hI.tl,ht]
    rw[this];exact(hI.tt t).aU he
   rw[if_neg (by simp[hd])]
   have:(a.put o.dst v).tmps.getD t undef=a.tmps.getD t undef:=by
    cases zj:o.dst with
    |none=>rfl
    |some d=>simp only[Act.put];simp;rw[zzcp (by rintro rfl;exact hd zj)]
   rw[this];exact(hI.tt t).aU he
  cases hd:o.dst<;>exact hI.d.aU he
 simp only[wpOpIn,ho];have hw:Region.wanted o (yielded ops a.tmps)=true:=wk wm zu;rw[if_pos hw];by_cases eF:i∈js
 ·obtain⟨k,hk⟩:=zzcq.1 eF;have qv:k<ms.length:=by rw[<- aH];exact(zza.1 hk).1
  obtain⟨x,hx⟩:∃x,ms[k]?=some x:=⟨ms[k],zzaf qv⟩;have h1:=AA k x hk hx;have h2:=Qda (P:=P) (gl:=gl) (orc:=orc) (ops:=ops) (m:=m) ng hk hx (bH P gl orc ops T0 m (Xa js ms) i);have JU:listed.getD i false=false:=by rw[Xc iV false true];exact hu
  have CF:∀b j,b<k->js[b]?=some j->listed.getD j false=true:=fun b j hb hj=>by
   have dx:k-1<js.length:=by have:=(zza.1 hk).1;omega
   obtain⟨j1,dW⟩:∃j1,js[k-1]?=some j1:=⟨js[k-1],zzaf dx⟩;have gJ:=nr (k-1) j1 dW (by rw[show k-1+1=k by omega];exact hk);rcases zzaa b (k-1)with h|h
   ·exact Qby hI.ch h hj dW gJ
   obtain rfl:b=k-1:=zE
   rw[hj]at dW;cases dW;exact gJ
  have JW:Ua listed m js ms=Vy m ms k:=Uz aH (by have:=(zza.1 hk).1;omega) CF (fun j hj=>by rw[hk]at hj;cases hj;exact JU)
  have tI:Ua (listed.setIfInBounds i true) m js ms=x.2:=by
   have:=Uz (listed:=listed.setIfInBounds i true) (m:=m) (a:=k+1) aH (by have:=(zza.1 hk).1;omega) (fun b j hb hj=>?_) (fun j hj=>?_)
   ·rw[this];simp[Vy,List.getD,hx]
   ·rcases zzaa b k with h|h
    ·have fG:j≠i:=by
      rintro rfl;have:=Ud ng hj hk;omega
     rw[Qw fG];exact CF b j h hj
    obtain rfl:b=k:=zE
    rw[hk]at hj;cases hj;exact Xt iV
   have fG:j≠i:=by
    rintro rfl;have:=Ud ng hj hk;omega
   rw[Qw fG];cases hl:listed.getD j false with
   |false=>rfl
   |true=>rw[Qby hI.ch (zzey k) hk hj hl]at JU;cases JU
  rw[tI,h2]at fin;have gL:=hI.mm;have me:=hI.ls;rw[JW]at gL me
  have zw:eu N w0 r an S P gl Y γ w ⟨(List.range T0.length).map fun t=>mq P gl orc ops T0 m (Xa js ms) p listed t,Vy m ms k⟩ a:=by
   refine⟨gL,me,hI.rd,⟨by simp[hI.tl],fun t x v hx hv=>?_⟩,hI.d,hI.g,hI.y,hI.e⟩
   ·have ai:t<T0.length:=by
     rcases zzaa t T0.length with h|h
     ·exact h
     simp[zzbk.2 h]at hx
    simp[ai]at hx;have:=hI.tt t;rw[hx]at this;have ER:a.tmps.getD t undef=v:=by simp at hv;simp[hv]
    rwa [ER]at this
  have mem:∀so,tr P o=so->memEff so=true->((sop P gl orc (ev gl (bH P gl orc ops T0 m (Xa js ms) i)) (Vy m ms k) o.dst so).1/\x.1=effV (sop P gl orc (ev gl (bH P gl orc ops T0 m (Xa js ms) i)) (Vy m ms k) o.dst so).2.1 so/\x.2=(sop P gl orc (ev gl (bH P gl orc ops T0 m (Xa js ms) i)) (Vy m ms k) o.dst so).2.2)->
    o.wpIn (FW r) 0 P a w (fun a' w'=>∃γ',qR N w0 r an S Y P gl orc ops T0 m ms js (Xa js ms) p (listed.setIfInBounds i true) γ' w' a'/\∀t,o.dst≠some t->a'.tmps.getD t undef=a.tmps.getD t undef) Q:=fun so PR _⟨k1,k2,k3⟩=>by
   refine AG (orc:=orc) (K:=fun av' m'=>x.1=effV av' so/\m'=x.2) gL hI.g dm ⟨by rw[PR];exact k1,by rw[PR];exact⟨k2,k3.symm⟩⟩ r _ Q fun v w' γ' av' m' hK h3 h4 h5 h6=>?_;obtain⟨VG,rfl⟩:=hK;refine fin h4.cG h5 (me.mono' h4 h3) ?_;rw[VG];unfold effV;split<;>first|exact h6|exact .junk _
  cases Iy:tr P o with
  |call f args=>
   rw[Iy]at h1
   have mX:Qao P gl Y (ev gl (bH P gl orc ops T0 m (Xa js ms) i)) (Vy m ms k) (fun y m2=>y=x.1/\m2=x.2) (tr P o):=by
    rw[Iy];simp only[effC]at h1;simp only[Qao];split at h1
    ·rename_i g first cap bT;simp only[bT];exact h1
    exact h1.elim
   refine Qdl zw dm mX fun v w' γ' av' m' hK h3 h4 h5 h6=>?_;obtain⟨rfl,rfl⟩:=hK;exact fin h3 h4 h5 h6
  |_=>rw[Iy]at h1;first|exact mem _ Iy h1.1 h1.2|exact absurd h1.1 (by simp[memEff])
 rcases aO eF with⟨h1,h2⟩|iC
 ·have bR:Ua (listed.setIfInBounds i true) m js ms=Ua listed m js ms:=qQ fun j hj=>Qw (by rintro rfl;exact eF hj);rw[bR]at fin;have gL:=hI.mm;have me:=hI.ls
  have are:rop P gl orc (ev gl (bH P gl orc ops T0 m (Xa js ms) i)) (Ua listed m js ms) o.dst (tr P o)=rop P gl orc (ev gl (bH P gl orc ops T0 m (Xa js ms) i)) m o.dst (tr P o):=by
   cases ku:iZ ops js i with
   |false=>
    rcases wj listed js ms m with h|⟨x,hx,h⟩
    ·rw[h]
    rw[h];exact h2 ku x hx
   |true=>
    have JW:Ua listed m js ms=m:=by
     cases js with
     |nil=>cases ms<;>rfl
     |cons j0 js=>
      simp only[iZ]at ku
      have hn:listed.getD j0 false=false:=by
       cases hl:listed.getD j0 false with
       |false=>rfl
       |true=>
        have:=uo (ops:=ops) (listed:=listed) hI.clo j0 [j0] (fun k hk=>by rw[zzca.1 hk];exact hl) i (Nm ku);rw[Xc iV false true,hu]at this;cases this
      cases ms with
      |nil=>rfl
      |cons x q=>simp only[Ua,hn];rfl
    rw[JW]
  generalize Ua listed m js ms=mL at*
  refine Qdc (m:=mL) gL (fun _ _ h=>h) hI.g dm (by rw[are];exact h1) r _ Q fun v w' γ' q1 q2 q3=>?_;rw[are]at q3;exact fin q1.cG q2 (me.mono q1) (by rw[ja eF ho];exact q3)
 have bR:Ua (listed.setIfInBounds i true) m js ms=Ua listed m js ms:=qQ fun j hj=>Qw (by rintro rfl;exact eF hj);rw[bR]at fin;have gL:=hI.mm;have me:=hI.ls
 have hL:rdC P gl orc Y (ev gl (bH P gl orc ops T0 m (Xa js ms) i)) m o.dst (Ua listed m js ms) (tr P o):=by
  rcases wj listed js ms m with h|⟨x,hx,h⟩
  ·rw[h];exact iC.1
  rw[h];exact iC.2 x hx
 generalize Ua listed m js ms=mL at*
 have zw:eu N w0 r an S P gl Y γ w ⟨(List.range T0.length).map fun t=>mq P gl orc ops T0 m (Xa js ms) p listed t,mL⟩ a:=by
  refine⟨gL,me,hI.rd,⟨by simp[hI.tl],fun t x v hx hv=>?_⟩,hI.d,hI.g,hI.y,hI.e⟩
  ·have ai:t<T0.length:=by
    rcases zzaa t T0.length with h|h
    ·exact h
    simp[zzbk.2 h]at hx
   simp[ai]at hx;have:=hI.tt t;rw[hx]at this;have ER:a.tmps.getD t undef=v:=by simp at hv;simp[hv]
   rwa [ER]at this
 cases Iy:tr P o with
 |call f args=>
  rw[Iy]at hL
  have mX:Qao P gl Y (ev gl (bH P gl orc ops T0 m (Xa js ms) i)) mL (fun y m2=>y=(rop P gl orc (ev gl (bH P gl orc ops T0 m (Xa js ms) i)) m o.dst (.call f args)).2/\m2=mL) (tr P o):=by
   rw[Iy];simp only[rdC]at hL;simp only[Qao];split at hL
   ·rename_i g first cap bT;simp only[bT];exact hL
   exact hL.elim
  refine Qdl zw dm mX fun v w' γ' av' m' hK h3 h4 h5 h6=>?_;obtain⟨rfl,rfl⟩:=hK;exact fin h3 h4 h5 (by rw[ja eF ho,Iy];exact h6)
 |_=>rw[Iy]at hL;exact(show False from hL).elim
def ur:∀{js:Pa},PS ops js=true->∀a j j' o,js[a]?=some j->js[a+1]?=some j'->ops[j']?=some o->j∈Xx o
 |[],_,a,j,j',o,h,_,_=>by simp at h
 |[x],_,a,j,j',o,h,h',_=>by
  have:=(zza.1 h').1;simp at this
 |x::y::r,hc,0,j,j',o,h,h',ho=>by
  simp at h h';subst h;subst h';simp only[PS,zzac,ho]at hc;simpa using hc.1
 |x::y::r,hc,a+1,j,j',o,h,h',ho=>by
  simp only[PS,zzac]at hc;exact ur hc.2 a j j' o (Nm h) (Nm h') ho
def Kh{js:Pa}(h:Qei ops p=some js):js=(List.range p).filter (dB ops wg)/\PS ops js=true/\∀i,i<p->∃o,ops[i]?=some o:=by
 unfold Qei at h;simp only at h;split at h
 case isFalse=>cases h
 rename_i bD;cases h;simp only[zzac]at bD;refine⟨rfl,bD.1.1.2,fun i hi=>?_⟩;have h1:=zzay.1 bD.2 i (zzaw.2 hi);exact zzcf.1 h1
def cR(ops:Array Oper)(k:Nat):Nat:=((List.range k).filter (dB ops wg)).length
def jb(k:Nat):cR ops (k+1)=cR ops k+(if dB ops wg k=true then 1 else 0):=by
 simp only[cR,zzfc,zzdg,zzak];cases h:dB ops wg k<;>simp[h]
def JX{i:Nat}(hi:i<p)(hd:dB ops wg i=true):((List.range p).filter (dB ops wg))[cR ops i]?=some i:=by
 obtain⟨n,rfl⟩:∃n,p=i+(n+1):=⟨p-i-1,zE⟩;rw[List.range_add,zzdg];have hl:cR ops i=((List.range i).filter (dB ops wg)).length:=rfl;rw[hl,zzao (zzab _),zzgx,zzbb,zzcn,zzdz hd];simp
def NG{ms:QP}{js:Pa}(l2:List SO)(K:AS->Prop)(hp:p<=ops.size)(fP:js=(List.range p).filter (dB ops wg)):∀(n k:Nat)(mc:AM),k+n=p->cR ops k<=ms.length->mc=Vy m ms (cR ops k)->
  gW P gl orc Y l2 K m ms (((ops.toList.take p).drop k).map (Xf P ops)) ((flags ops p js).drop k) (ms.drop (cR ops k)) mc (bH P gl orc ops T0 m (Xa js ms) k)->
  js.length=ms.length/\
  (
   ∀i o,k<=i->i<p->ops[i]?=some o->
   (i ∉ js->((rop P gl orc (ev gl (bH P gl orc ops T0 m (Xa js ms) i)) m o.dst (tr P o)).1/\(iZ ops js i=false->∀x∈ms,rop P gl orc (ev gl (bH P gl orc ops T0 m (Xa js ms) i)) x.2 o.dst (tr P o)=rop P gl orc (ev gl (bH P gl orc ops T0 m (Xa js ms) i)) m o.dst (tr P o)))\/(rdC P gl orc Y (ev gl (bH P gl orc ops T0 m (Xa js ms) i)) m o.dst m (tr P o)/\∀x∈ms,rdC P gl orc Y (ev gl (bH P gl orc ops T0 m (Xa js ms) i)) m o.dst x.2 (tr P o)))/\
   (∀b x,js[b]?=some i->ms[b]?=some x->effC P gl orc Y (ev gl (bH P gl orc ops T0 m (Xa js ms) i)) (Vy m ms b) o.dst x.1 x.2 (tr P o))/\Zx (bH P gl orc ops T0 m (Xa js ms) i) (Xf P ops o))/\
  Zo P gl orc Y l2 ⟨(bH P gl orc ops T0 m (Xa js ms) p),Vy m ms ms.length⟩ K:=by
 have dz:∀j,j∈js<->j<p/\dB ops wg j=true:=fun j=>by rw[fP,zzbw,zzaw]
 have ng:js.Nodup:=by rw[fP];exact(zzdf).filter _
 have Iu:∀i,i<p->dB ops wg i=true->js[cR ops i]?=some i:=fun i h1 h2=>by rw[fP];exact JX h1 h2
 have VT:∀{a b i:Nat},js[a]?=some i->js[b]?=some i->a=b:=fun{a b i}h1 h2=>Ud ng h1 h2;intro n;induction n with
 |zero=>
  intro k mc hk qu VF h;obtain rfl:k=p:=zE
  have e0:(ops.toList.take k).drop k=[]:=zzal (by simp;omega);rw[e0]at h;simp only[zzcs,gW]at h;have fk:ms.length<=cR ops k:=zzfm.1 h.1;have Cs:cR ops k=js.length:=by rw[fP];rfl
  have hcc:cR ops k=ms.length:=zE
  refine⟨zE,fun i o h1 h2=>zE,?_⟩;rw[<- hcc,<- VF];exact h.2
 |succ n ih=>
  intro k mc hk qu VF h;have bZ:k<ops.size:=zE
  have ho:ops[k]?=some ops[k]:=zzah bZ
  have hd:(ops.toList.take p).drop k=ops[k]::(ops.toList.take p).drop (k+1):=by
   rw[zzag (by simp;omega)];simp
  have fh:(flags ops p js).drop k=Vm ops js k::(flags ops p js).drop (k+1):=by
   rw[zzag (by simp[flags];omega)];simp[flags]
  rw[hd,fh,zzbb]at h;have EZ:=Kv (P:=P) (gl:=gl) (orc:=orc) (T0:=T0) (m:=m) (L:=Xa js ms) ho;have e2:(Xf P ops ops[k]).op=tr P ops[k]:=rfl;have e3:(Xf P ops ops[k]).dst=ops[k].dst:=rfl;have fq:=jb (ops:=ops) k;cases gm:js.contains k with
  |true=>
   have AO:k∈js:=by simpa using gm
   have oS:=((dz k).1 AO).2;rw[oS,if_pos rfl]at fq;rw[show Vm ops js k=.eff by simp only[Vm,gm,cond_true]]at h;simp only[gW,e2,e3]at h;split at h
   ·exact h.elim
   rename_i x q hq
   have JY:cR ops k<ms.length:=by
    rcases zzaa (cR ops k) ms.length with h'|h'
    ·exact h'
    rw[zzal h']at hq;cases hq
   have hx:ms[cR ops k]?=some x:=by
    have:(ms.drop (cR ops k))[0]?=some x:=by rw[hq];rfl
    simpa using this
   have hq':ms.drop (cR ops (k+1))=q:=by
    rw[fq,<- zze,hq];rfl
   obtain⟨hgr,h1,h2⟩:=h;have tH:=Iu k zE oS;have cB:=Qda (P:=P) (gl:=gl) (orc:=orc) (ops:=ops) (m:=m) ng tH hx (bH P gl orc ops T0 m (Xa js ms) k);rw[cB]at EZ
   obtain⟨r1,r2,r3⟩:=ih (k+1) x.2 zE zE (by rw[fq];simp[Vy,List.getD,hx]) (by
    rw[EZ,hq'];exact h2)
   refine⟨r1,fun i o hi c9 AJ=>?_,r3⟩;rcases zzaa k i with eO|eO
   ·exact r2 i o eO c9 AJ
   obtain rfl:i=k:=zE
   rw[ho]at AJ;cases AJ;refine⟨fun h=>absurd AO h,fun b y hb hy=>?_,hgr⟩;obtain rfl:=VT hb tH;rw[hx]at hy;cases hy;rw[<- VF];exact h1
  |false=>
   have AO:k ∉ js:=by simpa using gm
   have oS:dB ops wg k=false:=by
    cases CG:dB ops wg k with
    |false=>rfl
    |true=>exact absurd ((dz k).2 ⟨zE,CG⟩) AO
   rw[oS,if_neg zd,zzcn]at fq
   obtain⟨hgr,h1,h3⟩:Zx (bH P gl orc ops T0 m (Xa js ms) k) (Xf P ops ops[k])/\(((rop P gl orc (ev gl (bH P gl orc ops T0 m (Xa js ms) k)) m ops[k].dst (tr P ops[k])).1/\(iZ ops js k=false->∀x∈ms,rop P gl orc (ev gl (bH P gl orc ops T0 m (Xa js ms) k)) x.2 ops[k].dst (tr P ops[k])=rop P gl orc (ev gl (bH P gl orc ops T0 m (Xa js ms) k)) m ops[k].dst (tr P ops[k])))\/(rdC P gl orc Y (ev gl (bH P gl orc ops T0 m (Xa js ms) k)) m ops[k].dst m (tr P ops[k])/\∀x∈ms,rdC P gl orc Y (ev gl (bH P gl orc ops T0 m (Xa js ms) k)) m ops[k].dst x.2 (tr P ops[k])))/\
     gW P gl orc Y l2 K m ms (((ops.toList.take p).drop (k+1)).map (Xf P ops)) ((flags ops p js).drop (k+1)) (ms.drop (cR ops k)) mc (put (bH P gl orc ops T0 m (Xa js ms) k) ops[k].dst (rop P gl orc (ev gl (bH P gl orc ops T0 m (Xa js ms) k)) m ops[k].dst (tr P ops[k])).2):=by
    cases ku:iZ ops js k with
    |true=>
     rw[show Vm ops js k=.pre by simp only[Vm,gm,ku,cond_true,cond_false]]at h;simp only[gW,e2,e3]at h;exact⟨h.1,.inl ⟨h.2.1,fun h=>(by cases h)⟩,h.2.2⟩
    |false=>
     rw[show Vm ops js k=.oth by simp only[Vm,gm,ku,cond_false]]at h;simp only[gW,e2,e3]at h;exact⟨h.1,h.2.1.imp_left fun h=>⟨h.1,fun _=>h.2⟩,h.2.2⟩
   rw[ja AO ho]at EZ;obtain⟨r1,r2,r3⟩:=ih (k+1) mc zE zE (by rw[fq];exact VF) (by rw[EZ,fq];exact h3);refine⟨r1,fun i o hi c9 AJ=>?_,r3⟩;rcases zzaa k i with eO|eO
   ·exact r2 i o eO c9 AJ
   obtain rfl:i=k:=zE
   rw[ho]at AJ;cases AJ;refine⟨fun _=>h1,fun b y hb=>absurd (zzad hb) AO,hgr⟩
def sv{Q:PP}{K:AS->Prop}{γ:G}{w:World}{s:AS}{a:Act}{js:Pa}(hQ:∀γ w s a,K s->eu N w0 r an S P gl Y γ w s a->Q .normal a w)(hc:um ops p=true)(hj:Qei ops p=some js)
  {ms:QP}(h:gW P gl orc Y ((ops.toList.drop p).map (Xf P ops)) K s.m ms ((ops.toList.take p).map (Xf P ops)) (flags ops p js) ms s.m s.T)(hs:eu N w0 r an S P gl Y γ w s a):
  wpAnyIn (FW r) 0 P .any ops Q ops.size (Array.replicate ops.size false) a {w with drawn:=w.drawn+1}:=by
 obtain⟨hp,cV⟩:=Zb hc;obtain⟨fP,hjc,gr⟩:=Kh hj;have ng:js.Nodup:=by rw[fP];exact(zzdf).filter _
 have wq:∀j∈js,j<p:=fun j h=>by rw[fP,zzbw]at h;exact zzaw.1 h.1
 obtain⟨aH,h1,h2⟩:=NG (P:=P) (gl:=gl) (orc:=orc) (T0:=s.T) (m:=s.m) ((ops.toList.drop p).map (Xf P ops)) K hp fP p 0 s.m zd (by simp[cR]) (by simp[cR,Vy]) (by simpa[bH,cR]using h)
 have full:∀(aT:Nat)(listed:Array Bool)(γ:G)(w:World)(a:Act),qR N w0 r an S Y P gl orc ops s.T s.m ms js (Xa js ms) p listed γ w a->uc ops listed<=aT->(∀i,i<p->listed.getD i false=true)->wpAnyIn (FW r) 0 P .any ops Q aT listed a w:=by
  intro aT listed γ w a hI iY bD;have hml:Ua listed s.m js ms=Vy s.m ms ms.length:=Uz aH zE (fun b j _ hb=>bD j (wq j (zzad hb))) (fun j hj=>by rw[zzas zE]at hj;cases hj);have gL:=hI.mm;have me:=hI.ls;rw[hml]at gL me;refine Qdy hQ hc aT p listed γ w _ a (zzab _) hp hI.size bD hI.tail iY h2 ⟨gL,me,hI.rd,⟨?_,fun t x v hx hv=>?_⟩,hI.d,hI.g,hI.y,hI.e⟩
  ·simp[Qbe,hI.tl]
  have h1:=hI.tt t
  have hAt:mq P gl orc ops s.T s.m (Xa js ms) p listed t=x:=by
   have iy:(bH P gl orc ops s.T s.m (Xa js ms) p).getD t .junk=x:=by simp only at hx;simp[List.getD,hx]
   unfold mq;split
   ·exact iy
   rename_i hw;rw[<- iy];refine(Qbl p fun j hj hd=>hw ?_).symm;unfold wr;rw[zzbr];exact⟨j,zzaw.2 hj,by rw[bD j hj,hd];simp⟩
  rw[hAt]at h1;have:a.tmps.getD t undef=v:=by simp at hv;simp[hv]
  rwa [this]at h1
 have main:∀(aT:Nat)(listed:Array Bool)(γ:G)(w:World)(a:Act),qR N w0 r an S Y P gl orc ops s.T s.m ms js (Xa js ms) p listed γ w a->uc ops listed<=aT->wpAnyIn (FW r) 0 P .any ops Q aT listed a w:=by
  intro aT;induction aT with
  |zero=>
   intro listed γ w a hI iY
   exact full 0 listed γ w a hI iY fun i hi=>by
    rw[Xc (by rw[hI.size];omega) false true];exact Qdx (zzfa.1 iY) zE
  |succ aT ih=>
   intro listed γ w a hI iY;by_cases bD:∀i,i<p->listed.getD i false=true
   ·exact full (aT+1) listed γ w a hI iY bD
   have hex:∃k,k<p/\listed.getD k true=false:=by
    refine Classical.byContradiction fun hn=>bD fun i hi=>?_;rw[Xc (by rw[hI.size];omega) false true];cases hl:listed.getD i true with
    |true=>rfl
    |false=>exact absurd ⟨i,hi,hl⟩ hn
   obtain⟨k,hk,VQ⟩:=hex;refine⟨fun hr=>?_,fun i hi=>?_⟩
   ·obtain⟨j,hj⟩:=Uo hc hI.size k k (zzab _) zE VQ;rw[hr]at hj;cases hj
   obtain⟨ai,hu,o,ho,bS⟩:=Uq hc hi
   have c9:i<p:=by
    rcases zzaa i p with h|h
    ·exact h
    have:=Qbn hI.clo ho ((cV i o ho).2.2 h) bS i k zE zE;rw[Xc (by rw[hI.size];omega) false true,VQ]at this;cases this
   refine wpOpIn_mono ?_ (Qcm hc hI ho c9 (h1 i o (zzbp _) c9 ho).2.2 aH ng hu bS (fun a j e1 e2=>bS j (ur hjc a j i o e1 e2 ho)) (h1 i o (zzbp _) c9 ho).1 (h1 i o (zzbp _) c9 ho).2.1);rintro a' w' ⟨γ',lI,_⟩;refine ih _ γ' w' a' lI ?_;have:=iX hI.size ai hu;omega
 have tJ:∀j,(Array.replicate ops.size false).getD j false=false:=fun j=>by
  rcases zzaa j ops.size with h|h<;>simp[h]
 have nr:∀VU:Pa,chn (Array.replicate ops.size false) VU:=fun VU=>by
  induction VU with
  |nil=>trivial
  |cons j r ih=>
   cases r with
   |nil=>trivial
   |cons j' r=>exact⟨fun h=>(by rw[tJ]at h;cases h),ih⟩
 have JW:Ua (Array.replicate ops.size false) s.m js ms=s.m:=Uz (a:=0) aH zE (fun b j hb=>zE) (fun j _=>tJ j);refine main ops.size _ γ w.drew a ⟨zd,fun i _ hi=>by simp[hi],nr js,fun j o h=>(by rw[tJ]at h;cases h),?_,?_,hs.rd.aU (Ev.drew w γ).cG,?_,fun t=>?_,hs.d.aU (Ev.drew w γ).cG,fun g=>(hs.g g).mono (Ev.drew w γ).cT,hs.y.mono (Ev.drew w γ).cG,hs.e.trans (Ev.drew w γ).cG⟩ ?_
 ·rw[JW];exact hs.m.drew
 ·rw[JW];exact hs.ls.mono (Ev.drew w γ)
 ·have:=hs.t.1;simp at this;omega
 ·have hw:wr ops p (Array.replicate ops.size false) t=false:=by
   unfold wr;rw[zzdi];intro j _;rw[tJ j];simp
  unfold mq;rw[hw];simp only[zzbh,if_false];have:=(hs.t.mono (Ev.drew w γ)).get t;simpa[List.getD]using this
 unfold uc;exact zzbd (zzes) zd
end
open Go
def wz(ops:Array Oper)(p:Nat)(js:Pa):Bool:=match js.getLast? with
 |some j=>(List.range p).all fun i=>decide (i<=j)||(Fb ops i [i]).contains j
 |none=>false
def bkF(ops:Array Oper)(p:Nat)(js:Pa):List Fg:=bif wz ops p js then[.eff]else[]
def adX(fl:List Fg)(l:List SO):Bool:=!(fl.drop l.length).isEmpty
section
variable (P:Program) (gl:Nat->AV) (orc:UV) (Y:YT)
def effR(e:bE->AV)(m:AM)(R:So):aF->Prop
 |.call f args=>(match e f with
  |.fn g first cap=>aB P gl Y g (first++args.map e++cap) m R
  |_=>False)
 |_=>False
def iD(R:So)(l2:List SO)(K:AS->Prop)(m:AM)(ms:QP):List SO->List Fg->QP->AM->P2->Prop
 |[],_,q,mc,T=>q=[]/\Zo P gl orc Y l2 ⟨T,mc⟩ K
 |_::_,[],_,_,_=>False
 |o::r,.eff::fl,q,mc,T=>(match q with
  |[]=>False
  |x::q=>Zx T o/\((q=[]->effR P gl Y (ev gl T) mc R o.op)/\(q≠[]->effC P gl orc Y (ev gl T) mc o.dst x.1 x.2 o.op))/\iD R l2 K m ms r fl q x.2 (put T o.dst x.1))
 |o::r,.pre::fl,q,mc,T=>Zx T o/\(rop P gl orc (ev gl T) m o.dst o.op).1/\iD R l2 K m ms r fl q mc (put T o.dst (rop P gl orc (ev gl T) m o.dst o.op).2)
 |o::r,.oth::fl,q,mc,T=>Zx T o/\(rop P gl orc (ev gl T) m o.dst o.op).1/\(∀x∈ms,rop P gl orc (ev gl T) x.2 o.dst o.op=rop P gl orc (ev gl T) m o.dst o.op)/\iD R l2 K m ms r fl q mc (put T o.dst (rop P gl orc (ev gl T) m o.dst o.op).2)
def Zl(m:AM):List SO->List Fg->QP->P2->P2
 |o::r,.eff::fl,x::q,T=>Zl m r fl q (put T o.dst x.1)
 |o::r,_::fl,[],T=>(rop P gl orc (ev gl T) m o.dst o.op).2::Zl m r fl [] (put T o.dst (rop P gl orc (ev gl T) m o.dst o.op).2)
 |o::r,_::fl,x::q,T=>Zl m r fl (x::q) (put T o.dst (rop P gl orc (ev gl T) m o.dst o.op).2)
 |_,_,_,_=>[]
def jc{l2:List SO}{K:AS->Prop}{m:AM}{ms:QP}{ex:List Fg}:∀{l:List SO}{fl:List Fg}{q:QP}{mc:AM}{T:P2},fl.length=l.length->gW P gl orc Y l2 K m ms l (fl++ex) q mc T->gW P gl orc Y l2 K m ms l fl q mc T
 |[],[],q,mc,T,_,h=>by simpa only[gW]using h
 |[],_::_,_,_,_,hl,_=>by simp at hl
 |_::_,[],_,_,_,hl,_=>by simp at hl
 |o::r,.eff::fl,[],mc,T,hl,h=>by simp only[zzae,gW]at h
 |o::r,.eff::fl,x::q,mc,T,hl,h=>by
  simp only[zzae,gW]at h |-
  exact⟨h.1,h.2.1,jc (Nm hl) h.2.2⟩
 |o::r,.pre::fl,q,mc,T,hl,h=>by
  simp only[zzae,gW]at h |-
  exact⟨h.1,h.2.1,jc (Nm hl) h.2.2⟩
 |o::r,.oth::fl,q,mc,T,hl,h=>by
  simp only[zzae,gW]at h |-
  exact⟨h.1,h.2.1,jc (Nm hl) h.2.2⟩
def Jp{m:AM}{ex:List Fg}:∀{l:List SO}{fl:List Fg}{q:QP}{T:P2},fl.length=l.length->Zl P gl orc m l (fl++ex) q T=Zl P gl orc m l fl q T
 |[],[],q,T,_=>by simp only[Zl]
 |[],_::_,_,_,hl=>by simp at hl
 |_::_,[],_,_,hl=>by simp at hl
 |o::r,.eff::fl,[],T,hl=>by
  simp only[zzae,Zl];rw[Jp (Nm hl)]
 |o::r,.eff::fl,x::q,T,hl=>by
  simp only[zzae,Zl];rw[Jp (Nm hl)]
 |o::r,.pre::fl,[],T,hl=>by
  simp only[zzae,Zl];rw[Jp (Nm hl)]
 |o::r,.pre::fl,x::q,T,hl=>by
  simp only[zzae,Zl];rw[Jp (Nm hl)]
 |o::r,.oth::fl,[],T,hl=>by
  simp only[zzae,Zl];rw[Jp (Nm hl)]
 |o::r,.oth::fl,x::q,T,hl=>by
  simp only[zzae,Zl];rw[Jp (Nm hl)]
def jd{R:So}{l2:List SO}{K:AS->Prop}{m:AM}{ms:QP}{ex:List Fg}:∀{l:List SO}{fl:List Fg}{q:QP}{mc:AM}{T:P2},fl.length=l.length->iD P gl orc Y R l2 K m ms l (fl++ex) q mc T->iD P gl orc Y R l2 K m ms l fl q mc T
 |[],[],q,mc,T,_,h=>by simpa only[iD]using h
 |[],_::_,_,_,_,hl,_=>by simp at hl
 |_::_,[],_,_,_,hl,_=>by simp at hl
 |o::r,.eff::fl,[],mc,T,hl,h=>by simp only[zzae,iD]at h
 |o::r,.eff::fl,x::q,mc,T,hl,h=>by
  simp only[zzae,iD]at h |-
  exact⟨h.1,h.2.1,jd (Nm hl) h.2.2⟩
 |o::r,.pre::fl,q,mc,T,hl,h=>by
  simp only[zzae,iD]at h |-
  exact⟨h.1,h.2.1,jd (Nm hl) h.2.2⟩
 |o::r,.oth::fl,q,mc,T,hl,h=>by
  simp only[zzae,iD]at h |-
  exact⟨h.1,h.2.1,h.2.2.1,jd (Nm hl) h.2.2.2⟩
end
section
variable {N:Nat} {w0:eN} {r:Option Nat} {an:Nat->Nat->Prop} {S:G×World} {Y:YT} {P:Program} {gl:Nat->AV} {orc:UV} {ops:Array Oper} {T0:P2} {m:AM} {p:Nat}
def nt{x x':AV×AM}{i:Nat}:∀{js:Pa}{ms:QP}{jl:Nat},js[ms.length]?=some jl->i≠jl->Fc (Xa js (ms++[x])) i=Fc (Xa js (ms++[x'])) i
 |[],_,_,h,_=>by simp at h
 |j::js,[],jl,h,hi=>by
  simp at h;subst h;simp only[zzai,Xa,Fc];rw[if_neg (Ne.symm hi),if_neg (Ne.symm hi)]
 |j::js,y::ms,jl,h,hi=>by
  simp only[zzae,Xa,Fc];rw[nt (ms:=ms) (Nm h) hi]
def wA{L L':QQ}{jl:Nat}(h:∀i,i<jl->Fc L i=Fc L' i):∀k,k<=jl->bH P gl orc ops T0 m L k=bH P gl orc ops T0 m L' k
 |0,_=>rfl
 |k+1,hk=>by
  have ih:=wA h k zE;simp only[bH];rw[ih];cases ho:ops[k]? with
  |none=>rfl
  |some o=>
   simp only;congr 1;simp only[tK];rw[h k zE]
def JZ{L L':QQ}(hc:um ops p=true){listed:Array Bool}{jl:Nat}(qu:E6 ops listed)(gK:listed.getD jl false=false)(hL:∀i,i<jl->Fc L i=Fc L' i)
  (VV:∀k,jl<k->k<p->(Fb ops k [k]).contains jl=true)(hjp:jl<p)(t:Nat):mq P gl orc ops T0 m L p listed t=mq P gl orc ops T0 m L' p listed t:=by
 obtain⟨hp,cV⟩:=Zb hc;unfold mq;cases hw:wr ops p listed t with
 |false=>simp
 |true=>
  simp only[if_true];unfold wr at hw;obtain⟨j,hj,hjd⟩:=zzbr.1 hw;simp only[zzac,beq_iff_eq]at hjd;obtain⟨hl,hd⟩:=hjd;have alg:=zzaw.1 hj
  have ai:j<jl:=by
   rcases zzdv j jl with h|h|h
   ·exact h
   ·subst h;rw[hl]at gK;cases gK
   have:=uo qu j [j] (fun k hk=>by rw[zzca.1 hk];exact hl) jl (by simpa using VV j h alg);rw[this]at gK;cases gK
  have sw:∀(L:QQ),(bH P gl orc ops T0 m L p).getD t .junk=(bH P gl orc ops T0 m L jl).getD t .junk:=fun L=>by
   have:=Qdm (P:=P) (gl:=gl) (orc:=orc) (ops:=ops) (T0:=T0) (m:=m) (L:=L) (t:=t) (k:=jl) (p-jl) fun k dA ef E8=>by
    have hk:k<ops.size:=zE
    have E9:ops[k]?=some ops[k]:=zzah hk;have:=((cV k _ E9).2.1 zE).2 j zE t hd;simp[Vg,E9]at E8;exact this E8
   rwa [show jl+(p-jl)=p by omega]at this
  rw[sw L,sw L',wA hL jl (zzab _)]
def J1{ms:QP}{x:AV×AM}{js:Pa}{R:So}(hc:um ops p=true){Q:PP}{listed:Array Bool}{γ:G}{w:World}{a:Act}
  (hI:qR N w0 r an S Y P gl orc ops T0 m (ms++[x]) js (Xa js (ms++[x])) p listed γ w a){i:Nat}{o:Oper}(ho:ops[i]?=some o)(c9:i<p)(wm:Zx (bH P gl orc ops T0 m (Xa js (ms++[x])) i) (Xf P ops o))(aH:js.length=(ms++[x]).length)(ng:js.Nodup)
  (hk:js[ms.length]?=some i)(hu:listed.getD i true=false)(bS:∀j∈Xx o,listed.getD j false=true)(nr:∀a j,js[a]?=some j->js[a+1]?=some i->j∈Xx o)
  (awH:∀x':AV×AM,R x'.1 x'.2->∀t,mq P gl orc ops T0 m (Xa js (ms++[x'])) p listed t=mq P gl orc ops T0 m (Xa js (ms++[x])) p listed t)
  (AA:effR P gl Y (ev gl (bH P gl orc ops T0 m (Xa js (ms++[x])) i)) (Vy m (ms++[x]) ms.length) R (tr P o)):
  wpOpIn (FW r) 0 P ops Q i (fun a' w'=>∃γ' x',R x'.1 x'.2/\qR N w0 r an S Y P gl orc ops T0 m (ms++[x']) js (Xa js (ms++[x'])) p (listed.setIfInBounds i true) γ' w' a') a w:=by
 have hi:i<ops.size:=(zzbx.1 ho).1;have iV:i<listed.size:=by rw[hI.size];exact hi
 have zu:∀t∈o.looksAt ops,aA w γ ((bH P gl orc ops T0 m (Xa js (ms++[x])) i).getD t .junk) (a.tmps.getD t undef):=fun t ht=>by
  rw[ait (P:=P) (gl:=gl) (orc:=orc) (T0:=T0) (m:=m) (L:=Xa js (ms++[x])) hc hI.size ho c9 hu bS ht];exact hI.tt t
 have dm:∀y∈o.op.operands,aA w γ (ev gl (bH P gl orc ops T0 m (Xa js (ms++[x])) i) (aC y)) (a.eval y):=fun y hy=>by
  cases y with
  |tmp t=>exact zu t (by simp only[Oper.looksAt,zzam,zzff];exact .inl ⟨.tmp t,Nm hy,rfl⟩)
  |const v=>exact Kc w γ v
  |func f=>exact .fn rfl (fun i c v h=>by simp at h) rfl fun i c v h=>by simp at h
  |global g=>exact(hI.g g).gh
 have gX:chn (listed.setIfInBounds i true) js:=uq hI.ch fun a j h1 h2=>bS j (nr a j h1 h2);have hpr:E6 ops (listed.setIfInBounds i true):=E6.set hI.clo ho iV bS;have JU:listed.getD i false=false:=by rw[Xc iV false true];exact hu
 have CF:∀b j,b<ms.length->js[b]?=some j->listed.getD j false=true:=fun b j hb hj=>by
  have dx:ms.length-1<js.length:=by simp at aH;omega
  obtain⟨j1,dW⟩:∃j1,js[ms.length-1]?=some j1:=⟨js[ms.length-1],zzaf dx⟩;have gJ:=bS j1 (nr (ms.length-1) j1 dW (by rw[show ms.length-1+1=ms.length by omega];exact hk));rcases zzaa b (ms.length-1)with h|h
  ·exact Qby hI.ch h hj dW gJ
  obtain rfl:b=ms.length-1:=zE
  rw[hj]at dW;cases dW;exact gJ
 have JW:Ua listed m js (ms++[x])=Vy m (ms++[x]) ms.length:=Uz aH (by simp at aH;omega) CF (fun j hj=>by rw[hk]at hj;cases hj;exact JU)
 have tI:∀x':AV×AM,Ua (listed.setIfInBounds i true) m js (ms++[x'])=x'.2:=fun x'=>by
  have:=Uz (listed:=listed.setIfInBounds i true) (m:=m) (ms:=ms++[x']) (js:=js) (a:=ms.length+1) (by simp at aH |-;omega) (by simp at aH;omega) (fun b j hb hj=>?_) (fun j hj=>by rw[zzas (by simp at aH;omega)]at hj;cases hj)
  ·rw[this];simp[Vy,List.getD]
  rcases zzaa b ms.length with h|h
  ·have fG:j≠i:=by
    rintro rfl;have:=Ud ng hj hk;omega
   rw[Qw fG];exact CF b j h hj
  obtain rfl:b=ms.length:=zE
  rw[hk]at hj;cases hj;exact Xt iV
 simp only[wpOpIn,ho];have hw:Region.wanted o (yielded ops a.tmps)=true:=wk wm zu;rw[if_pos hw];have gL:=hI.mm;have me:=hI.ls;rw[JW]at gL me
 have zw:eu N w0 r an S P gl Y γ w ⟨(List.range T0.length).map fun t=>mq P gl orc ops T0 m (Xa js (ms++[x])) p listed t,Vy m (ms++[x]) ms.length⟩ a:=by
  refine⟨gL,me,hI.rd,⟨by simp[hI.tl],fun t x v hx hv=>?_⟩,hI.d,hI.g,hI.y,hI.e⟩
  have ai:t<T0.length:=by
   rcases zzaa t T0.length with h|h
   ·exact h
   simp[zzbk.2 h]at hx
  simp[ai]at hx;have:=hI.tt t;rw[hx]at this;have ER:a.tmps.getD t undef=v:=by simp at hv;simp[hv]
  rwa [ER]at this
 have mX:Qao P gl Y (ev gl (bH P gl orc ops T0 m (Xa js (ms++[x])) i)) (Vy m (ms++[x]) ms.length) R (tr P o):=by
  cases Iy:tr P o with
  |call f args=>
   rw[Iy]at AA;simp only[effR]at AA;simp only[Qao];split at AA
   ·rename_i g first cap bT;simp only[bT];exact AA
   exact AA.elim
  |_=>rw[Iy]at AA;exact AA.elim
 refine Qdl zw dm mX fun v w' γ' av' m' hK he hm hl hr=>?_;have cB:=Qda (P:=P) (gl:=gl) (orc:=orc) (ops:=ops) (m:=m) (ms:=ms++[(av',m')]) (x:=(av',m')) ng hk zd (bH P gl orc ops T0 m (Xa js (ms++[(av',m')])) i);have hsw:=awH (av',m') hK;refine⟨γ',(av',m'),hK,by simp[hI.size],fun j dW ov=>by rw[Qw zE];exact hI.tail j dW ov,gX,hpr,by rw[tI];exact hm,by rw[tI];exact hl,hI.rd.aU he,?_,fun t=>?_,?_,fun g=>(hI.g g).aU he.cT,hI.y.mono he,hI.e.trans he⟩
 ·cases hd:o.dst<;>simp[Act.put,hI.tl]
 ·rw[CE hc hI.size ho c9,hsw];by_cases hd:o.dst=some t
  ·by_cases ht:t<T0.length
   ·rw[if_pos ⟨hd,ht⟩,hd];have:(a.put (some t) v).tmps.getD t undef=v:=by simp[Act.put,hI.tl,ht]
    rw[this,cB];exact hr
   rw[if_neg (by simp[ht]),hd];have:(a.put (some t) v).tmps.getD t undef=a.tmps.getD t undef:=by simp[Act.put,hI.tl,ht]
   rw[this];exact(hI.tt t).aU he
  rw[if_neg (by simp[hd])]
  have:(a.put o.dst v).tmps.getD t undef=a.tmps.getD t undef:=by
   cases zj:o.dst with
   |none=>rfl
   |some d=>simp only[Act.put];simp;rw[zzcp (by rintro rfl;exact hd zj)]
  rw[this];exact(hI.tt t).aU he
 cases hd:o.dst<;>exact hI.d.aU he
def CH{R:So}{ms:QP}{js:Pa}(l2:List SO)(K:AS->Prop)(hp:p<=ops.size)(hj:Qei ops p=some js):∀(n k:Nat)(mc:AM),k+n=p->cR ops k<=ms.length->mc=Vy m ms (cR ops k)->
  iD P gl orc Y R l2 K m ms (((ops.toList.take p).drop k).map (Xf P ops)) ((flags ops p js).drop k) (ms.drop (cR ops k)) mc (bH P gl orc ops T0 m (Xa js ms) k)->
  js.length=ms.length/\
  (
   ∀i o,k<=i->i<p->ops[i]?=some o->
   (i ∉ js->(rop P gl orc (ev gl (bH P gl orc ops T0 m (Xa js ms) i)) m o.dst (tr P o)).1/\(iZ ops js i=false->∀x∈ms,rop P gl orc (ev gl (bH P gl orc ops T0 m (Xa js ms) i)) x.2 o.dst (tr P o)=rop P gl orc (ev gl (bH P gl orc ops T0 m (Xa js ms) i)) m o.dst (tr P o)))/\
   (∀b x,js[b]?=some i->ms[b]?=some x->(b+1=ms.length->effR P gl Y (ev gl (bH P gl orc ops T0 m (Xa js ms) i)) (Vy m ms b) R (tr P o))/\(b+1≠ms.length->effC P gl orc Y (ev gl (bH P gl orc ops T0 m (Xa js ms) i)) (Vy m ms b) o.dst x.1 x.2 (tr P o)))/\Zx (bH P gl orc ops T0 m (Xa js ms) i) (Xf P ops o))/\
  Zo P gl orc Y l2 ⟨(bH P gl orc ops T0 m (Xa js ms) p),Vy m ms ms.length⟩ K:=by
 obtain⟨fP,_,gr⟩:=Kh hj;have dz:∀j,j∈js<->j<p/\dB ops wg j=true:=fun j=>by rw[fP,zzbw,zzaw]
 have ng:js.Nodup:=by rw[fP];exact(zzdf).filter _
 have Iu:∀i,i<p->dB ops wg i=true->js[cR ops i]?=some i:=fun i h1 h2=>by rw[fP];exact JX h1 h2
 have VT:∀{a b i:Nat},js[a]?=some i->js[b]?=some i->a=b:=fun{a b i}h1 h2=>Ud ng h1 h2;intro n;induction n with
 |zero=>
  intro k mc hk qu VF h;obtain rfl:k=p:=zE
  have e0:(ops.toList.take k).drop k=[]:=zzal (by simp;omega);rw[e0]at h;simp only[zzcs,iD]at h;have fk:ms.length<=cR ops k:=zzfm.1 h.1;have Cs:cR ops k=js.length:=by rw[fP];rfl
  have hcc:cR ops k=ms.length:=zE
  refine⟨zE,fun i o h1 h2=>zE,?_⟩;rw[<- hcc,<- VF];exact h.2
 |succ n ih=>
  intro k mc hk qu VF h;have bZ:k<ops.size:=zE
  have ho:ops[k]?=some ops[k]:=zzah bZ
  have hd:(ops.toList.take p).drop k=ops[k]::(ops.toList.take p).drop (k+1):=by
   rw[zzag (by simp;omega)];simp
  have fh:(flags ops p js).drop k=Vm ops js k::(flags ops p js).drop (k+1):=by
   rw[zzag (by simp[flags];omega)];simp[flags]
  rw[hd,fh,zzbb]at h;have EZ:=Kv (P:=P) (gl:=gl) (orc:=orc) (T0:=T0) (m:=m) (L:=Xa js ms) ho;have e2:(Xf P ops ops[k]).op=tr P ops[k]:=rfl;have e3:(Xf P ops ops[k]).dst=ops[k].dst:=rfl;have fq:=jb (ops:=ops) k;cases gm:js.contains k with
  |true=>
   have AO:k∈js:=by simpa using gm
   have oS:=((dz k).1 AO).2;rw[oS,if_pos rfl]at fq;rw[show Vm ops js k=.eff by simp only[Vm,gm,cond_true]]at h;simp only[iD,e2,e3]at h;split at h
   ·exact h.elim
   rename_i x q hq
   have JY:cR ops k<ms.length:=by
    rcases zzaa (cR ops k) ms.length with h'|h'
    ·exact h'
    rw[zzal h']at hq;cases hq
   have hx:ms[cR ops k]?=some x:=by
    have:(ms.drop (cR ops k))[0]?=some x:=by rw[hq];rfl
    simpa using this
   have hq':ms.drop (cR ops (k+1))=q:=by
    rw[fq,<- zze,hq];rfl
   obtain⟨hgr,h1,h2⟩:=h;have tH:=Iu k zE oS;have cB:=Qda (P:=P) (gl:=gl) (orc:=orc) (ops:=ops) (m:=m) ng tH hx (bH P gl orc ops T0 m (Xa js ms) k);rw[cB]at EZ
   obtain⟨r1,r2,r3⟩:=ih (k+1) x.2 zE zE (by rw[fq];simp[Vy,List.getD,hx]) (by
    rw[EZ,hq'];exact h2)
   refine⟨r1,fun i o hi c9 AJ=>?_,r3⟩;rcases zzaa k i with eO|eO
   ·exact r2 i o eO c9 AJ
   obtain rfl:i=k:=zE
   rw[ho]at AJ;cases AJ;refine⟨fun h=>absurd AO h,fun b y hb hy=>?_,hgr⟩;obtain rfl:=VT hb tH;rw[hx]at hy;cases hy;rw[<- VF]
   have hqe:q=[]<->cR ops i+1=ms.length:=by
    rw[<- hq',fq,zzfm];omega
   exact⟨fun h=>h1.1 (hqe.2 h),fun h=>h1.2 fun e=>h (hqe.1 e)⟩
  |false=>
   have AO:k ∉ js:=by simpa using gm
   have oS:dB ops wg k=false:=by
    cases CG:dB ops wg k with
    |false=>rfl
    |true=>exact absurd ((dz k).2 ⟨zE,CG⟩) AO
   rw[oS,if_neg zd,zzcn]at fq
   obtain⟨hgr,h1,h2,h3⟩:Zx (bH P gl orc ops T0 m (Xa js ms) k) (Xf P ops ops[k])/\(rop P gl orc (ev gl (bH P gl orc ops T0 m (Xa js ms) k)) m ops[k].dst (tr P ops[k])).1/\(iZ ops js k=false->∀x∈ms,rop P gl orc (ev gl (bH P gl orc ops T0 m (Xa js ms) k)) x.2 ops[k].dst (tr P ops[k])=rop P gl orc (ev gl (bH P gl orc ops T0 m (Xa js ms) k)) m ops[k].dst (tr P ops[k]))/\
     iD P gl orc Y R l2 K m ms (((ops.toList.take p).drop (k+1)).map (Xf P ops)) ((flags ops p js).drop (k+1)) (ms.drop (cR ops k)) mc (put (bH P gl orc ops T0 m (Xa js ms) k) ops[k].dst (rop P gl orc (ev gl (bH P gl orc ops T0 m (Xa js ms) k)) m ops[k].dst (tr P ops[k])).2):=by
    cases ku:iZ ops js k with
    |true=>
     rw[show Vm ops js k=.pre by simp only[Vm,gm,ku,cond_true,cond_false]]at h;simp only[iD,e2,e3]at h;exact⟨h.1,h.2.1,fun h=>(by cases h),h.2.2⟩
    |false=>
     rw[show Vm ops js k=.oth by simp only[Vm,gm,ku,cond_false]]at h;simp only[iD,e2,e3]at h;exact⟨h.1,h.2.1,fun _=>h.2.2.1,h.2.2.2⟩
   rw[ja AO ho]at EZ;obtain⟨r1,r2,r3⟩:=ih (k+1) mc zE zE (by rw[fq];exact VF) (by rw[EZ,fq];exact h3);refine⟨r1,fun i o hi c9 AJ=>?_,r3⟩;rcases zzaa k i with eO|eO
   ·exact r2 i o eO c9 AJ
   obtain rfl:i=k:=zE
   rw[ho]at AJ;cases AJ;refine⟨fun _=>⟨h1,h2⟩,fun b y hb=>absurd (zzad hb) AO,hgr⟩
def sx{Q:PP}{K:AS->Prop}{γ:G}{w:World}{s:AS}{a:Act}{js:Pa}(hQ:∀γ w s a,K s->eu N w0 r an S P gl Y γ w s a->Q .normal a w)(hc:um ops p=true)(hj:Qei ops p=some js)
  {R:So}{ms:QP}(zx:∀(jl:Nat),js[ms.length]?=some jl->∀(x x':AV×AM),R x.1 x.2->R x'.1 x'.2->∀listed:Array Bool,E6 ops listed->listed.getD jl false=false->∀t,mq P gl orc ops s.T s.m (Xa js (ms++[x'])) p listed t=mq P gl orc ops s.T s.m (Xa js (ms++[x])) p listed t)(hR:∃x:AV×AM,R x.1 x.2)(h:∀x:AV×AM,R x.1 x.2->iD P gl orc Y R ((ops.toList.drop p).map (Xf P ops)) K s.m (ms++[x]) ((ops.toList.take p).map (Xf P ops)) (flags ops p js) (ms++[x]) s.m s.T)(hs:eu N w0 r an S P gl Y γ w s a):
  wpAnyIn (FW r) 0 P .any ops Q ops.size (Array.replicate ops.size false) a {w with drawn:=w.drawn+1}:=by
 obtain⟨hp,cV⟩:=Zb hc;obtain⟨fP,hjc,gr⟩:=Kh hj;have ng:js.Nodup:=by rw[fP];exact(zzdf).filter _
 have wq:∀j∈js,j<p:=fun j h=>by rw[fP,zzbw]at h;exact zzaw.1 h.1
 have bD:=fun(x:AV×AM)(hx:R x.1 x.2)=>CH (P:=P) (gl:=gl) (orc:=orc) (T0:=s.T) (m:=s.m) ((ops.toList.drop p).map (Xf P ops)) K hp hj p 0 s.m zd (by simp[cR]) (by simp[cR,Vy]) (by simpa[bH,cR]using h x hx);obtain⟨x0,hx0⟩:=hR;have dD:js.length=ms.length+1:=by have:=(bD x0 hx0).1;simpa using this
 obtain⟨jl,gK⟩:∃jl,js[ms.length]?=some jl:=⟨_,zzaf zE⟩
 have full:∀(x:AV×AM),R x.1 x.2->∀(aT:Nat)(listed:Array Bool)(γ:G)(w:World)(a:Act),qR N w0 r an S Y P gl orc ops s.T s.m (ms++[x]) js (Xa js (ms++[x])) p listed γ w a->uc ops listed<=aT->(∀i,i<p->listed.getD i false=true)->wpAnyIn (FW r) 0 P .any ops Q aT listed a w:=by
  intro x hx aT listed γ w a hI iY arf;obtain⟨aH,h1,h2⟩:=bD x hx;have bD:=arf;have hml:Ua listed s.m js (ms++[x])=Vy s.m (ms++[x]) (ms++[x]).length:=Uz aH zE (fun b j _ hb=>bD j (wq j (zzad hb))) (fun j hj=>by rw[zzas zE]at hj;cases hj);have gL:=hI.mm;have me:=hI.ls;rw[hml]at gL me;refine Qdy hQ hc aT p listed γ w _ a (zzab _) hp hI.size bD hI.tail iY h2 ⟨gL,me,hI.rd,⟨?_,fun t y v hy hv=>?_⟩,hI.d,hI.g,hI.y,hI.e⟩
  ·simp[Qbe,hI.tl]
  have h1:=hI.tt t
  have hAt:mq P gl orc ops s.T s.m (Xa js (ms++[x])) p listed t=y:=by
   have iy:(bH P gl orc ops s.T s.m (Xa js (ms++[x])) p).getD t .junk=y:=by simp only at hy;simp[List.getD,hy]
   unfold mq;split
   ·exact iy
   rename_i hw;rw[<- iy];refine(Qbl p fun j hj hd=>hw ?_).symm;unfold wr;rw[zzbr];exact⟨j,zzaw.2 hj,by rw[bD j hj,hd];simp⟩
  rw[hAt]at h1;have:a.tmps.getD t undef=v:=by simp at hv;simp[hv]
  rwa [this]at h1
 have main:∀(aT:Nat)(x:AV×AM),R x.1 x.2->∀(listed:Array Bool)(γ:G)(w:World)(a:Act),qR N w0 r an S Y P gl orc ops s.T s.m (ms++[x]) js (Xa js (ms++[x])) p listed γ w a->uc ops listed<=aT->wpAnyIn (FW r) 0 P .any ops Q aT listed a w:=by
  intro aT;induction aT with
  |zero=>
   intro x hx listed γ w a hI iY
   exact full x hx 0 listed γ w a hI iY fun i hi=>by
    rw[Xc (by rw[hI.size];omega) false true];exact Qdx (zzfa.1 iY) zE
  |succ aT ih=>
   intro x hx listed γ w a hI iY;by_cases hall2:∀i,i<p->listed.getD i false=true
   ·exact full x hx (aT+1) listed γ w a hI iY hall2
   have hex:∃k,k<p/\listed.getD k true=false:=by
    refine Classical.byContradiction fun hn=>hall2 fun i hi=>?_;rw[Xc (by rw[hI.size];omega) false true];cases hl:listed.getD i true with
    |true=>rfl
    |false=>exact absurd ⟨i,hi,hl⟩ hn
   obtain⟨k,hk,VQ⟩:=hex;refine⟨fun hr=>?_,fun i hi=>?_⟩
   ·obtain⟨j,hj⟩:=Uo hc hI.size k k (zzab _) zE VQ;rw[hr]at hj;cases hj
   obtain⟨ai,hu,o,ho,bS⟩:=Uq hc hi
   have c9:i<p:=by
    rcases zzaa i p with h|h
    ·exact h
    have:=Qbn hI.clo ho ((cV i o ho).2.2 h) bS i k zE zE;rw[Xc (by rw[hI.size];omega) false true,VQ]at this;cases this
   obtain⟨aH,h1,_⟩:=bD x hx;obtain⟨h1a,h1b,h1g⟩:=h1 i o (zzbp _) c9 ho;by_cases eF:i=jl
   ·subst eF;refine wpOpIn_mono ?_ (J1 hc hI ho c9 h1g aH ng gK hu bS (fun a j e1 e2=>ur hjc a j i o e1 e2 ho) (fun x' iy=>zx i gK x x' hx iy listed hI.clo (by rw[Xc (by rw[hI.size];exact ai) false true];exact hu)) ((h1b ms.length x gK zd).1 zd));rintro a' w' ⟨γ',x',iy,lI⟩;refine ih x' iy _ γ' w' a' lI ?_;have:=iX hI.size ai hu;omega
   refine wpOpIn_mono ?_ (Qcm hc hI ho c9 h1g aH ng hu bS (fun a j e1 e2=>bS j (ur hjc a j i o e1 e2 ho)) (fun h=>.inl (h1a h)) (fun k y e1 e2=>(h1b k y e1 e2).2 fun e=>eF (by
    have hk:k=ms.length:=by simpa using e
    subst hk;rw[gK]at e1;exact(Option.some.inj e1).symm)))
   rintro a' w' ⟨γ',lI,_⟩;refine ih x hx _ γ' w' a' lI ?_;have:=iX hI.size ai hu;omega
 have tJ:∀j,(Array.replicate ops.size false).getD j false=false:=fun j=>by
  rcases zzaa j ops.size with h|h<;>simp[h]
 have nr:∀VU:Pa,chn (Array.replicate ops.size false) VU:=fun VU=>by
  induction VU with
  |nil=>trivial
  |cons j r ih=>
   cases r with
   |nil=>trivial
   |cons j' r=>exact⟨fun h=>(by rw[tJ]at h;cases h),ih⟩
 have JW:Ua (Array.replicate ops.size false) s.m js (ms++[x0])=s.m:=Uz (a:=0) (bD x0 hx0).1 zE (fun b j hb=>zE) (fun j _=>tJ j);refine main ops.size x0 hx0 _ γ w.drew a ⟨zd,fun i _ hi=>by simp[hi],nr js,fun j o h=>(by rw[tJ]at h;cases h),?_,?_,hs.rd.aU (Ev.drew w γ).cG,?_,fun t=>?_,hs.d.aU (Ev.drew w γ).cG,fun g=>(hs.g g).mono (Ev.drew w γ).cT,hs.y.mono (Ev.drew w γ).cG,hs.e.trans (Ev.drew w γ).cG⟩ ?_
 ·rw[JW];exact hs.m.drew
 ·rw[JW];exact hs.ls.mono (Ev.drew w γ)
 ·have:=hs.t.1;simp at this;omega
 ·have hw:wr ops p (Array.replicate ops.size false) t=false:=by
   unfold wr;rw[zzdi];intro j _;rw[tJ j];simp
  unfold mq;rw[hw];simp only[zzbh,if_false];have:=(hs.t.mono (Ev.drew w γ)).get t;simpa[List.getD]using this
 unfold uc;exact zzbd (zzes) zd
def VW{L L':QQ}(hc:um ops p=true){listed:Array Bool}{jl:Nat}(gK:listed.getD jl false=false)(hL:∀i,i<jl->Fc L i=Fc L' i)
  (iM:∀k,jl<k->k<p->tK P gl orc ops m L k (bH P gl orc ops T0 m L k)=tK P gl orc ops m L' k (bH P gl orc ops T0 m L' k))(hjp:jl<p)(t:Nat):mq P gl orc ops T0 m L p listed t=mq P gl orc ops T0 m L' p listed t:=by
 obtain⟨hp,cV⟩:=Zb hc;unfold mq;cases hw:wr ops p listed t with
 |false=>simp
 |true=>
  simp only[if_true];unfold wr at hw;obtain⟨j,hj,hjd⟩:=zzbr.1 hw;simp only[zzac,beq_iff_eq]at hjd;obtain⟨hl,hd⟩:=hjd;have alg:=zzaw.1 hj;have fP:j<ops.size:=zE
  have hjo:ops[j]?=some ops[j]:=zzah fP
  have sw:∀(L:QQ),(bH P gl orc ops T0 m L p).getD t .junk=(bH P gl orc ops T0 m L (j+1)).getD t .junk:=fun L=>by
   have:=Qdm (P:=P) (gl:=gl) (orc:=orc) (ops:=ops) (T0:=T0) (m:=m) (L:=L) (t:=t) (k:=j+1) (p-(j+1)) fun k dA ef E8=>by
    have hk:k<ops.size:=zE
    have E9:ops[k]?=some ops[k]:=zzah hk;have:=((cV k _ E9).2.1 zE).2 j zE t hd;simp[Vg,E9]at E8;exact this E8
   rwa [show j+1+(p-(j+1))=p by omega]at this
  rw[sw L,sw L'];rcases zzdv j jl with h|h|h
  ·rw[wA hL (j+1) zE]
  ·subst h;rw[hl]at gK;cases gK
  have hv:=iM j h alg;have AP:ops[j].dst=some t:=by simpa[Vg,hjo]using hd
  rw[Kv hjo,Kv hjo,hv,AP];have aH:(bH P gl orc ops T0 m L j).length=(bH P gl orc ops T0 m L' j).length:=by rw[Qbe,Qbe]
  by_cases ht:t<(bH P gl orc ops T0 m L j).length
  ·rw[Ww ht,Ww zE]
  simp only[put,List.getD];rw[zzas (by rw[zzch];omega),zzas (by rw[zzch];omega)]
def Fh{Q:PP}{K:AS->Prop}{γ:G}{w:World}{s:AS}{a:Act}{js:Pa}(hQ:∀γ w s a,K s->eu N w0 r an S P gl Y γ w s a->Q .normal a w)(hc:um ops p=true)(hj:Qei ops p=some js)
  (zy:wz ops p js=true){R:So}{ms:QP}(hR:∃x:AV×AM,R x.1 x.2)(h:∀x:AV×AM,R x.1 x.2->iD P gl orc Y R ((ops.toList.drop p).map (Xf P ops)) K s.m (ms++[x]) ((ops.toList.take p).map (Xf P ops)) (flags ops p js) (ms++[x]) s.m s.T)(hs:eu N w0 r an S P gl Y γ w s a):
  wpAnyIn (FW r) 0 P .any ops Q ops.size (Array.replicate ops.size false) a {w with drawn:=w.drawn+1}:=by
 obtain⟨hp,cV⟩:=Zb hc;obtain⟨fP,hjc,gr⟩:=Kh hj;have wq:∀j∈js,j<p:=fun j h=>by rw[fP,zzbw]at h;exact zzaw.1 h.1
 have bD:=fun(x:AV×AM)(hx:R x.1 x.2)=>CH (P:=P) (gl:=gl) (orc:=orc) (T0:=s.T) (m:=s.m) ((ops.toList.drop p).map (Xf P ops)) K hp hj p 0 s.m zd (by simp[cR]) (by simp[cR,Vy]) (by simpa[bH,cR]using h x hx);obtain⟨x0,hx0⟩:=hR;have dD:js.length=ms.length+1:=by have:=(bD x0 hx0).1;simpa using this
 refine sx hQ hc hj (fun jl gK x x' _ _ listed zq JU t=>?_) ⟨x0,hx0⟩ h hs
 have VV:∀k,jl<k->k<p->(Fb ops k [k]).contains jl=true:=fun k dA ef=>by
  unfold wz at zy;have hg:js.getLast?=some jl:=by rw[List.getLast?_eq_getElem?,dD];simpa using gK
  rw[hg]at zy;have:=zzay.1 zy k (zzaw.2 ef);simp only[zzfn,decide_eq_true_eq]at this;obtain h|h:=this
  ·omega
  exact h
 exact JZ hc zq JU (fun j hj=>nt gK zE) VV (wq _ (zzad gK)) t
def CI{k k':Nat}(h:k<=k'):cR ops k<=cR ops k':=by
 induction k' with
 |zero=>
  obtain rfl:k=0:=zE
  exact zzab _
 |succ n ih=>
  rcases zzaa k (n+1)with h'|h'
  ·have:=ih zE;have:=jb (ops:=ops) n;split at this<;>omega
  obtain rfl:k=n+1:=zE
  exact zzab _
def Fi{ms:QP}{x:AV×AM}{js:Pa}{jl:Nat}(hp:p<=ops.size)(hj:Qei ops p=some js)(dD:js.length=ms.length+1)(gK:js[ms.length]?=some jl):∀(n k:Nat),k+n=p->∀i,k<=i->i<p->jl<i->
  (Zl P gl orc m (((ops.toList.take p).drop k).map (Xf P ops)) ((flags ops p js).drop k) ((ms++[x]).drop (cR ops k)) (bH P gl orc ops T0 m (Xa js (ms++[x])) k))[i-max k (jl+1)]?=some (tK P gl orc ops m (Xa js (ms++[x])) i (bH P gl orc ops T0 m (Xa js (ms++[x])) i)):=by
 obtain⟨fP,_,gr⟩:=Kh hj;have dz:∀j,j∈js<->j<p/\dB ops wg j=true:=fun j=>by rw[fP,zzbw,zzaw]
 have ng:js.Nodup:=by rw[fP];exact(zzdf).filter _
 have Iu:∀i,i<p->dB ops wg i=true->js[cR ops i]?=some i:=fun i h1 h2=>by rw[fP];exact JX h1 h2
 have hjm:=(dz jl).1 (zzad gK);have hcj:cR ops jl=ms.length:=Ud ng (Iu jl hjm.1 hjm.2) gK;have ay7:cR ops (jl+1)=ms.length+1:=by rw[jb,if_pos hjm.2,hcj]
 have sw:∀k,k∈js->k<=jl:=fun k hk=>by
  obtain⟨h1,h2⟩:=(dz k).1 hk;rcases zzaa jl k with h|h
  ·have:=CI (ops:=ops) (show jl+1<=k by omega);have h3:=(zza.1 (Iu k h1 h2)).1;omega
  exact h
 intro n;induction n with
 |zero=>intro k hk i hi c9;omega
 |succ n ih=>
  intro k hk i hi c9 eF;have bZ:k<ops.size:=zE
  have ho:ops[k]?=some ops[k]:=zzah bZ
  have hd:(ops.toList.take p).drop k=ops[k]::(ops.toList.take p).drop (k+1):=by
   rw[zzag (by simp;omega)];simp
  have fh:(flags ops p js).drop k=Vm ops js k::(flags ops p js).drop (k+1):=by
   rw[zzag (by simp[flags];omega)];simp[flags]
  have EZ:=Kv (P:=P) (gl:=gl) (orc:=orc) (T0:=T0) (m:=m) (L:=Xa js (ms++[x])) ho;have fq:=jb (ops:=ops) k;have e2:(Xf P ops ops[k]).op=tr P ops[k]:=rfl;have e3:(Xf P ops ops[k]).dst=ops[k].dst:=rfl;rw[hd,fh,zzbb];cases gm:js.contains k with
  |true=>
   have AO:k∈js:=by simpa using gm
   have qv:=sw k AO;have oS:=((dz k).1 AO).2;rw[oS,if_pos rfl]at fq;rw[show Vm ops js k=.eff by simp only[Vm,gm,cond_true]];have JY:cR ops k<(ms++[x]).length:=by have:=CI (ops:=ops) qv;simp;omega
   obtain⟨y,hy⟩:∃y,(ms++[x])[cR ops k]?=some y:=⟨_,zzaf JY⟩
   have hq:(ms++[x]).drop (cR ops k)=y::(ms++[x]).drop (cR ops (k+1)):=by
    rw[zzag JY,fq,(zza.1 hy).2]
   rw[hq];simp only[Zl,e3];have cB:=Qda (P:=P) (gl:=gl) (orc:=orc) (ops:=ops) (m:=m) ng (Iu k zE oS) hy (bH P gl orc ops T0 m (Xa js (ms++[x])) k);rw[cB]at EZ;rw[<- EZ,show max k (jl+1)=max (k+1) (jl+1) by omega];exact ih (k+1) zE i zE c9 eF
  |false=>
   have AO:k ∉ js:=by simpa using gm
   have oS:dB ops wg k=false:=by
    cases CG:dB ops wg k with
    |false=>rfl
    |true=>exact absurd ((dz k).2 ⟨zE,CG⟩) AO
   rw[oS,if_neg zd]at fq;have fq:cR ops (k+1)=cR ops k:=fq;have cB:=ja (P:=P) (gl:=gl) (orc:=orc) (m:=m) (ms:=ms++[x]) AO ho (bH P gl orc ops T0 m (Xa js (ms++[x])) k)
   have hfg:Vm ops js k≠.eff:=by
    simp only[Vm,gm,cond_false];cases iZ ops js k<;>simp
   rw[cB]at EZ;rcases zzaa jl k with tH|tH
   ·have hq:(ms++[x]).drop (cR ops k)=[]:=zzal (by have:=CI (ops:=ops) (show jl+1<=k by omega);simp;omega);rw[hq]
    have VX:Zl P gl orc m (Xf P ops ops[k]::((ops.toList.take p).drop (k+1)).map (Xf P ops)) (Vm ops js k::(flags ops p js).drop (k+1)) [] (bH P gl orc ops T0 m (Xa js (ms++[x])) k)=
      (rop P gl orc (ev gl (bH P gl orc ops T0 m (Xa js (ms++[x])) k)) m ops[k].dst (tr P ops[k])).2::Zl P gl orc m (((ops.toList.take p).drop (k+1)).map (Xf P ops)) ((flags ops p js).drop (k+1)) [] (put (bH P gl orc ops T0 m (Xa js (ms++[x])) k) ops[k].dst (rop P gl orc (ev gl (bH P gl orc ops T0 m (Xa js (ms++[x])) k)) m ops[k].dst (tr P ops[k])).2):=by
     cases hf:Vm ops js k<;>first|exact absurd hf hfg|(simp only[Zl];rfl)
    rw[VX];rcases zzaa k i with eO|eO
    ·rw[show i-max k (jl+1)=(i-max (k+1) (jl+1))+1 by omega,zzcc,<- EZ];have:=ih (k+1) zE i zE c9 eF;rw[fq,hq]at this;exact this
    obtain rfl:i=k:=zE
    rw[show i-max i (jl+1)=0 by omega,zzgu,cB]
   have ay8:k≠jl:=fun e=>AO (by rw[e];exact zzad gK);have JY:cR ops k<(ms++[x]).length:=by have:=CI (ops:=ops) tH;simp;omega
   obtain⟨y,hy⟩:∃y,(ms++[x])[cR ops k]?=some y:=⟨_,zzaf JY⟩
   have hq:(ms++[x]).drop (cR ops k)=y::(ms++[x]).drop (cR ops k+1):=by
    rw[zzag JY,(zza.1 hy).2]
   have ih':=ih (k+1) zE i zE c9 eF;rw[fq,hq,EZ]at ih';rw[hq,show max k (jl+1)=max (k+1) (jl+1) by omega]
   have VX:Zl P gl orc m (Xf P ops ops[k]::((ops.toList.take p).drop (k+1)).map (Xf P ops)) (Vm ops js k::(flags ops p js).drop (k+1)) (y::(ms++[x]).drop (cR ops k+1)) (bH P gl orc ops T0 m (Xa js (ms++[x])) k)=
     Zl P gl orc m (((ops.toList.take p).drop (k+1)).map (Xf P ops)) ((flags ops p js).drop (k+1)) (y::(ms++[x]).drop (cR ops k+1)) (put (bH P gl orc ops T0 m (Xa js (ms++[x])) k) ops[k].dst (rop P gl orc (ev gl (bH P gl orc ops T0 m (Xa js (ms++[x])) k)) m ops[k].dst (tr P ops[k])).2):=by
    cases hf:Vm ops js k<;>first|exact absurd hf hfg|(simp only[Zl];rfl)
   rw[VX];exact ih'
def Fj{Q:PP}{K:AS->Prop}{γ:G}{w:World}{s:AS}{a:Act}{js:Pa}(hQ:∀γ w s a,K s->eu N w0 r an S P gl Y γ w s a->Q .normal a w)(hc:um ops p=true)(hj:Qei ops p=some js)
  {R:So}{ms:QP}{Vs:P2}(hR:∃x:AV×AM,R x.1 x.2)(h:∀x:AV×AM,R x.1 x.2->iD P gl orc Y R ((ops.toList.drop p).map (Xf P ops)) K s.m (ms++[x]) ((ops.toList.take p).map (Xf P ops)) (flags ops p js) (ms++[x]) s.m s.T)
  (hv:∀x:AV×AM,R x.1 x.2->Zl P gl orc s.m ((ops.toList.take p).map (Xf P ops)) (flags ops p js) (ms++[x]) s.T=Vs)(hs:eu N w0 r an S P gl Y γ w s a):
  wpAnyIn (FW r) 0 P .any ops Q ops.size (Array.replicate ops.size false) a {w with drawn:=w.drawn+1}:=by
 obtain⟨hp,cV⟩:=Zb hc;obtain⟨fP,hjc,gr⟩:=Kh hj;have wq:∀j∈js,j<p:=fun j h=>by rw[fP,zzbw]at h;exact zzaw.1 h.1
 have bD:=fun(x:AV×AM)(hx:R x.1 x.2)=>CH (P:=P) (gl:=gl) (orc:=orc) (T0:=s.T) (m:=s.m) ((ops.toList.drop p).map (Xf P ops)) K hp hj p 0 s.m zd (by simp[cR]) (by simp[cR,Vy]) (by simpa[bH,cR]using h x hx);obtain⟨x0,hx0⟩:=hR;have dD:js.length=ms.length+1:=by have:=(bD x0 hx0).1;simpa using this
 refine sx hQ hc hj (fun jl gK x x' hx iy listed zq JU t=>?_) ⟨x0,hx0⟩ h hs;refine VW hc JU (fun j hj=>nt gK zE) (fun k dA ef=>?_) (wq _ (zzad gK)) t;have g1:=Fi (P:=P) (gl:=gl) (orc:=orc) (T0:=s.T) (m:=s.m) (x:=x) hp hj dD gK p 0 zd k (zzbp _) ef dA;have g2:=Fi (P:=P) (gl:=gl) (orc:=orc) (T0:=s.T) (m:=s.m) (x:=x') hp hj dD gK p 0 zd k (zzbp _) ef dA;have v1:=hv x hx;have v2:=hv x' iy;simp only[zzd,bH,show cR ops 0=0 from rfl]at g1 g2;rw[v1]at g1;rw[v2]at g2;rw[g1]at g2;exact(Option.some.inj g2).symm
end
open Go Go.RowKit
def arh(f:FuncId):Bool:=f==43
def ari(o:Oper):Bool:=match o.op with
 |.call ⟨.value (.func f),_,_⟩=>arh f
 |_=>false
def alh(ops:Array Oper)(j j':Nat):Bool:=match ops[j']? with
 |some o=>(Xx o).contains j
 |none=>false
def CJ(ops:Array Oper):Pa->List (Nat×Nat)
 |j::j'::r=>(if alh ops j j'=true then[]else[(j,j')])++CJ ops (j'::r)
 |_=>[]
def arj(o:Oper):Bool:=match o.op with
 |.alloc _=>true
 |_=>false
def NH(ops:Array Oper)(p:Nat):Option (Pa×Nat×Nat×Nat):=
 let js:=(List.range p).filter (dB ops wg)
 match CJ ops js with
 |[(j,z)]=>(match ops[z]? with
  |some o=>(match o.dst with
   |some t=>if arj o&&o.guard.isNone&&(List.range p).any (dB ops ari)&&(List.range p).all (dB ops VR)&&(List.range p).all (fun i=>match ops[i]? with
    |some o'=>!(Xx o').contains z||(Xx o').contains j
    |none=>false)then some (js,j,z,t)else none
   |none=>none)
  |none=>none)
 |_=>none
def Fk{ops:Array Oper}:∀{js:Pa}(a j j':Nat)(o:Oper),js[a]?=some j->js[a+1]?=some j'->ops[j']?=some o->j∈Xx o\/(j,j')∈CJ ops js
 |[],a,j,j',o,h,_,_=>by simp at h
 |[x],a,j,j',o,h,h',_=>by
  have:=(zza.1 h').1;simp at this
 |x::y::r,0,j,j',o,h,h',ho=>by
  simp at h h';subst h;subst h';rw[CJ];by_cases hl:alh ops x y=true
  ·left;unfold alh at hl;rw[ho]at hl;simpa using hl
  right;rw[if_neg hl];simp
 |x::y::r,a+1,j,j',o,h,h',ho=>by
  rcases Fk (js:=y::r) a j j' o (Nm h) (Nm h') ho with h1|h1
  ·exact .inl h1
  right;rw[CJ];exact List.mem_append_right _ h1
def NI{ops:Array Oper}:∀{js:Pa}{j j':Nat},(j,j')∈CJ ops js->∃a,js[a]?=some j/\js[a+1]?=some j'
 |[],_,_,h=>by simp[CJ]at h
 |[x],_,_,h=>by simp[CJ]at h
 |x::y::r,j,j',h=>by
  rw[CJ]at h;rcases zzam.1 h with h|h
  ·split at h
   ·cases h
   simp at h;obtain⟨rfl,rfl⟩:=h;exact⟨0,rfl,rfl⟩
  obtain⟨a,h1,h2⟩:=NI h;exact⟨a+1,Nm h1,Nm h2⟩
def J2{ops:Array Oper}{p:Nat}{js:Pa}{jp z t:Nat}(h:NH ops p=some (js,jp,z,t)):
  js=(List.range p).filter (dB ops wg)/\(∀i,i<p->∃o,ops[i]?=some o)/\(∃oz te,ops[z]?=some oz/\oz.op=.alloc te/\oz.dst=some t/\oz.guard=none)/\(∀i o,i<p->ops[i]?=some o->z∈Xx o->jp∈Xx o)/\
  (∀a j j' o,js[a]?=some j->js[a+1]?=some j'->ops[j']?=some o->j∈Xx o\/(j=jp/\j'=z))/\∃a,js[a]?=some jp/\js[a+1]?=some z:=by
 unfold NH at h;simp only at h;split at h
 case h_2=>cases h
 rename_i j z' hof;split at h
 case h_2=>cases h
 rename_i oz VY;split at h
 case h_2=>cases h
 rename_i t' ht;split at h
 case isFalse=>cases h
 rename_i bD;simp only[Option.some.injEq,Prod.mk.injEq]at h;obtain⟨rfl,rfl,rfl,rfl⟩:=h;simp only[zzac]at bD;obtain⟨⟨⟨⟨h1,h2⟩,_⟩,_⟩,h5⟩:=bD
 have gp:∀i,i<p->∃o,ops[i]?=some o/\(!(Xx o).contains z'||(Xx o).contains j)=true:=fun i hi=>by
  have:=zzay.1 h5 i (zzaw.2 hi);split at this
  ·rename_i o ho;exact⟨o,ho,this⟩
  cases this
 refine⟨rfl,fun i hi=>let⟨o,ho,_⟩:=gp i hi;⟨o,ho⟩,?_,fun i o hi ho hz=>?_,fun a x y o hx hy ho=>?_,NI (by rw[hof];simp)⟩
 ·unfold arj at h1;split at h1
  ·rename_i te dm;exact⟨oz,te,VY,dm,ht,Nm h2⟩
  cases h1
 ·obtain⟨o',cO,hc⟩:=gp i hi;rw[ho]at cO;cases cO;have hz':(Xx o).contains z'=true:=by simpa using hz
  rw[hz']at hc;simpa using hc
 rcases Fk a x y o hx hy ho with h|h
 ·exact .inl h
 rw[hof]at h;simp at h;exact .inr h
section
variable {N:Nat} {w0:eN} {r:Option Nat} {an:Nat->Nat->Prop} {S:G×World} {Y:YT} {P:Program} {gl:Nat->AV} {orc:UV} {ops:Array Oper} {T0:P2} {m:AM} {p:Nat} {γ:G} {w:World} {B:Nat->PH} {L:Nat->Option Nat}
def Chg.trans{γ' Ea:G}{w' qG:World}(h:Chg γ w γ' w')(k:Chg γ' w' Ea qG):Chg γ w Ea qG where
 os:=k.os.trans h.os
 tape:=k.tape.trans h.tape
 output:=k.output.trans h.output
 size:=zzbd h.size k.size
 same b hb hn:=by
  have qt:¬OI γ' b:=fun ho=>by
   rcases h.oi b ho with ho|ho
   ·exact hn ho
   omega
  rw[k.same b (zzba hb h.size) qt,h.same b hb hn]
 ro b o hb hr:=by
  obtain⟨h1,h2⟩:=h.ro b o hb hr;obtain⟨k1,k2⟩:=k.ro b o (zzba hb h.size) h1;exact⟨k1,k2.trans h2⟩
 oi b hb:=by
  rcases k.oi b hb with hb|hb
  ·exact h.oi b hb
  exact .inr (zzbd h.size hb)
 ron b o hr:=by
  rcases k.ron b o hr with hr|hr|hr
  ·exact h.ron b o hr
  ·rcases h.oi b hr with hr|hr
   ·exact .inr (.inl hr)
   exact .inr (.inr hr)
  exact .inr (.inr (zzbd h.size hr))
def ark(γs:G)(ws:World)(arr:P1)(te:TypeId):eN where
 p γ w:=Chg γs ws γ w/\ws.heap.size<w.heap.size/\w.heap[ws.heap.size]?=some (.cells arr te (0,0))/\¬OI γ ws.heap.size/\∀o,¬γ.ro ws.heap.size o
 st γ w γ' w':=by
  rintro⟨h1,h2,h3,h4,h5⟩ c;refine⟨h1.trans c,zzba h2 c.size,?_,?_,?_⟩
  ·rw[c.same _ h2 h4];exact h3
  ·intro h;rcases c.oi _ h with h|h
   ·exact h4 h
   omega
  intro o h;rcases c.ron _ _ h with h|h|h
  ·exact h5 o h
  ·exact h4 h
  omega
def au.wB(hm:au N w0 an γ w B L)(o:Obj):Ev w γ (w.alloc o) γ:=
 ⟨zd,fun b o' hb hr=>⟨hr,cell_of_heap (Below.heap_alloc w o b hb)⟩,fun _ _ h=>h,fun _=>zzab _,fun _ _ h=>h,rfl,
  fun i b _ ho=>⟨ho,fun arr e he=>⟨arr,by rw[Below.heap_alloc w o b (hm.own i b ho).2.1];exact he,zzab _⟩,fun _ h=>h⟩,
  fun b hb=>⟨hb,Below.heap_alloc w o b (hm.sp b hb).2.1⟩,Sz.of_same (Below.heap_alloc w o)⟩
def au.awI(hm:au N w0 an γ w B L)(o:Obj)(w1:eN)(h1:w1.p γ (w.alloc o)):au N w1 an γ (w.alloc o) B L where
 bs:=h1
 hN:=by have:=hm.hN;simp;omega
 an:=hm.an
 robd b o h:=by have:=hm.robd b o h;simp;omega
 box id cells b hb h1:=by
  obtain⟨arr,e,h2,h3,h4⟩:=hm.box id cells b hb h1;exact⟨arr,e,by rw[Below.heap_alloc w o b (aR h2)];exact h2,h3.mono (hm.wB o),h4⟩
 β id b hb:=by
  obtain⟨h1,h2,h3⟩:=hm.β id b hb;exact⟨h1,by simp;omega,h3⟩
 inj:=hm.inj
 own id b hb:=by
  obtain⟨h1,h2,h3⟩:=hm.own id b hb;exact⟨h1,by simp;omega,h3⟩
 oinj:=hm.oinj
 sp b hb:=by
  obtain⟨h1,h2,h3⟩:=hm.sp b hb;exact⟨h1,by simp;omega,h3⟩
 mm id b hb:=by
  obtain⟨h1,h2,h3,h4,h5,h6,h8,h7⟩:=hm.mm id b hb;exact⟨h1,by simp;omega,h3,h4,h5,h6,h8,h7.mono (hm.wB o).cG.Ap (Below.heap_alloc w o b h2)⟩
 minj:=hm.minj
 len:=hm.len
 cur0:=hm.cur0
def au.oT(hm:au N w0 an γ w B L)(id:Nat)(aL:B id=none)(D:Nat):Ev w γ w (γ.box id D) where
 size:=zzab _
 ro b o' hb hr:=⟨hr,rfl⟩
 β i b hb:=by
  have:i≠id:=by rintro rfl;obtain⟨_,_,_,_,c,hc⟩:=hm.β i b hb;rw[aL]at hc;cases hc
  simp[G.box,this,hb]
 cur _:=zzab _
 mm _ _ h:=h
 lp:=rfl
 own i b _ ho:=⟨ho,fun arr e he=>⟨arr,he,zzab _⟩,fun _ h=>h⟩
 sp b hb:=⟨hb,rfl⟩
 ss:=Sz.refl w
def au.arl(hm:au N w0 an γ w B L)(w1:eN){D id:Nat}(aL:B id=none){cells:P2}{arr:P1}{te:TypeId}(hN:N<=D)(hh:w.heap[D]?=some (.cells arr te (0,0)))(iw:¬OI γ D)(fV:∀o,¬γ.ro D o)
  (hr:cr w γ cells arr.toList)(Is:∀v∈arr.toList,v.oneCell'=true)(hp:w1.p (γ.box id D) w):au N w1 an (γ.box id D) w (fun i=>if i=id then some cells else B i) L where
 bs:=hp
 hN:=hm.hN
 an:=hm.an
 robd:=hm.robd
 box i cs b hb h1:=by
  by_cases hi:i=id
  ·subst hi;simp at hb;subst hb;simp[G.box]at h1;subst h1;exact⟨arr,te,hh,hr.mono (hm.oT i aL D),Is⟩
  simp[hi]at hb;simp[G.box,hi]at h1;obtain⟨bN,e',h2,h3,h4⟩:=hm.box i cs b hb h1;exact⟨bN,e',h2,h3.mono (hm.oT id aL D),h4⟩
 β i b hb:=by
  by_cases hi:i=id
  ·subst hi;simp[G.box]at hb;subst hb;exact⟨hN,aR hh,fV,fun i' h=>iw (.inr (.inl ⟨i',h⟩)),cells,zd⟩
  simp[G.box,hi]at hb;obtain⟨h1,h2,h3,h4,c,hc⟩:=hm.β i b hb;exact⟨h1,h2,h3,h4,c,by simp[hi,hc]⟩
 inj i i' b h h':=by
  by_cases hi:i=id<;>by_cases di:i'=id
  ·exact .inr (.inr (by rw[hi,di]))
  ·simp[G.box,hi]at h;simp[G.box,di]at h';subst h;exact absurd (.inl ⟨i',h'⟩) iw
  ·simp[G.box,di]at h';simp[G.box,hi]at h;subst h';exact absurd (.inl ⟨i,h⟩) iw
  simp[G.box,hi]at h;simp[G.box,di]at h';simp only[if_neg hi,if_neg di];exact hm.inj i i' b h h'
 own:=hm.own
 oinj:=hm.oinj
 sp b hb:=by
  obtain⟨h1,h2,h3,h4,h5⟩:=hm.sp b hb;refine⟨h1,h2,h3,fun i hi=>?_,h5⟩;by_cases aL:i=id
  ·simp[G.box,aL]at hi;subst hi;exact iw (.inr (.inr (.inl hb)))
  simp[G.box,aL]at hi;exact h4 i hi
 mm i' b hb:=by
  obtain⟨h1,h2,h3,h4,h5,h6,h8,h7⟩:=hm.mm i' b hb
  have aO:i'≠id:=by
   rintro rfl;obtain⟨_,_,hx,_⟩:=h7;rw[aL]at hx;cases hx
  refine⟨h1,h2,h3,fun i hi=>?_,h5,h6,by simp[G.box,aO,h8],?_⟩
  ·by_cases aL:i=id
   ·simp[G.box,aL]at hi;subst hi;exact iw (.inr (.inr (.inr ⟨i',hb⟩)))
   simp[G.box,aL]at hi;exact h4 i hi
  simp only[aO,if_false];exact h7.mono (hm.oT id aL D).cG.Ap rfl
 minj:=hm.minj
 len:=hm.len
 cur0:=hm.cur0
def CK{l:Array Bool}{i j:Nat}:(l.setIfInBounds i true).setIfInBounds j true=(l.setIfInBounds j true).setIfInBounds i true:=by
 by_cases h:i=j
 ·rw[h]
 exact Array.setIfInBounds_comm _ _ h
structure awJ (N:Nat) (w0:eN) (r:Option Nat) (an:Nat->Nat->Prop) (S:G×World) (Y:YT) (P:Program) (gl:Nat->AV) (orc:UV) (ops:Array Oper) (T0:P2) (m:AM) (ms:QP) (js:Pa) (L:QQ) (p jp z t:Nat) (zs:P2) (listed l0:Array Bool) (γs:G) (ws:World) (arr:P1) (te:TypeId) (γ:G) (w:World) (a:Act):Prop where
 eq:listed=l0.setIfInBounds z true
 zl:l0.getD z false=false
 pl:l0.getD jp false=false
 clo:E6 ops listed
 inv:qR N (ark γs ws arr te) r an S Y P gl orc ops T0 m ms js L p l0 γ w a
 st:w0.p γs ws
 hN:N<=ws.heap.size
 slot:t<T0.length->a.tmps.getD t undef=.pointer (some ⟨ws.heap.size,0,none⟩)
 zr:∀w γ,ak w γ zs arr.toList
 zc:zs.all Qx=true
def Fl{Q:PP}{K:AS->Prop}{γ:G}{w:World}{s:AS}{a:Act}{js:Pa}{jp z t:Nat}(hQ:∀γ w s a,K s->eu N w0 r an S P gl Y γ w s a->Q .normal a w)(hc:um ops p=true)(heZ:NH ops p=some (js,jp,z,t))
  (hY:∀i as' m K,¬Y i as' m K){ms:QP}(h:gW P gl orc Y ((ops.toList.drop p).map (Xf P ops)) K s.m ms ((ops.toList.take p).map (Xf P ops)) (flags ops p js) ms s.m s.T)(hT:s.T.getD t .junk=.junk)(hs:eu N w0 r an S P gl Y γ w s a):
  wpAnyIn (FW r) 0 P .any ops Q ops.size (Array.replicate ops.size false) a {w with drawn:=w.drawn+1}:=by
 obtain⟨hp,cV⟩:=Zb hc;obtain⟨fP,gr,⟨oz,te,VY,dm,hdz,hgz⟩,hzp,aiu,az,haz,tL⟩:=J2 heZ;have ng:js.Nodup:=by rw[fP];exact(zzdf).filter _
 have wq:∀j∈js,j<p:=fun j h=>by rw[fP,zzbw]at h;exact zzaw.1 h.1
 have awK:=zzad tL;have awL:=zzad haz;have adY:=wq z awK;have ay9:=wq jp awL
 have hpz:jp≠z:=by
  rintro rfl;have:=Ud ng haz tL;omega
 obtain⟨aH,h1,h2⟩:=NG (P:=P) (gl:=gl) (orc:=orc) (T0:=s.T) (m:=s.m) ((ops.toList.drop p).map (Xf P ops)) K hp fP p 0 s.m zd (by simp[cR]) (by simp[cR,Vy]) (by simpa[bH,cR]using h);have hyk:∀(w0:eN)(γ:G)(w:World),YOK N w0 an P Y γ w:=fun _ _ _ _ _ _ i as' m K _ _ _ _ hyy=>(hY i as' m K hyy).elim;obtain⟨xz,hxz⟩:∃xz,ms[az+1]?=some xz:=⟨ms[az+1]'(by have:=(zza.1 tL).1;omega),zzaf _⟩;have VZ:=(h1 z oz (zzbp _) adY VY).2.1 (az+1) xz tL hxz
 have Iy:∃zs,zc P te=some zs/\tr P oz=.alloc zs:=by
  obtain⟨dst,op,ty,pos,after,guard⟩:=oz;simp only at dm;subst dm;simp only[tr]at VZ |-
  cases hzc:zc P te with
  |none=>rw[hzc]at VZ;exact absurd VZ.1 (by simp[memEff])
  |some zs=>exact⟨zs,rfl,rfl⟩
 obtain⟨zs,hzc,Iy⟩:=Iy;rw[Iy]at VZ;obtain⟨_,e1,e2,e3⟩:=VZ;have e1:zs.all Qx=true:=e1;have e2:xz.1=.ptr (Vy s.m ms (az+1)).boxes.length 0:=e2;have e3:xz.2={Vy s.m ms (az+1)with boxes:=(Vy s.m ms (az+1)).boxes++[zs]}:=e3
 have full:∀(aT:Nat)(listed:Array Bool)(γ:G)(w:World)(a:Act),qR N w0 r an S Y P gl orc ops s.T s.m ms js (Xa js ms) p listed γ w a->uc ops listed<=aT->(∀i,i<p->listed.getD i false=true)->wpAnyIn (FW r) 0 P .any ops Q aT listed a w:=by
  intro aT listed γ w a hI iY bD;have hml:Ua listed s.m js ms=Vy s.m ms ms.length:=Uz aH zE (fun b j _ hb=>bD j (wq j (zzad hb))) (fun j hj=>by rw[zzas zE]at hj;cases hj);have gL:=hI.mm;have me:=hI.ls;rw[hml]at gL me;refine Qdy hQ hc aT p listed γ w _ a (zzab _) hp hI.size bD hI.tail iY h2 ⟨gL,me,hI.rd,⟨?_,fun t x v hx hv=>?_⟩,hI.d,hI.g,hI.y,hI.e⟩
  ·simp[Qbe,hI.tl]
  have h1:=hI.tt t
  have hAt:mq P gl orc ops s.T s.m (Xa js ms) p listed t=x:=by
   have iy:(bH P gl orc ops s.T s.m (Xa js ms) p).getD t .junk=x:=by simp only at hx;simp[List.getD,hx]
   unfold mq;split
   ·exact iy
   rename_i hw;rw[<- iy];refine(Qbl p fun j hj hd=>hw ?_).symm;unfold wr;rw[zzbr];exact⟨j,zzaw.2 hj,by rw[bD j hj,hd];simp⟩
  rw[hAt]at h1;have:a.tmps.getD t undef=v:=by simp at hv;simp[hv]
  rwa [this]at h1
 have main:∀(aT:Nat)(listed:Array Bool)(γ:G)(w:World)(a:Act),(qR N w0 r an S Y P gl orc ops s.T s.m ms js (Xa js ms) p listed γ w a\/∃l0 γs ws arr y5,awJ N w0 r an S Y P gl orc ops s.T s.m ms js (Xa js ms) p jp z t zs listed l0 γs ws arr y5 γ w a)->
   uc ops listed<=aT->wpAnyIn (FW r) 0 P .any ops Q aT listed a w:=by
  intro aT;induction aT with
  |zero=>
   intro listed γ w a hI iY;obtain hI|⟨l0,γs,ws,arr,y5,hH⟩:=hI
   ·exact full 0 listed γ w a hI iY fun i hi=>by
     rw[Xc (by rw[hI.size];omega) false true];exact Qdx (zzfa.1 iY) zE
   exfalso;have hsz:listed.size=ops.size:=by rw[hH.eq];simp[hH.inv.size]
   have:=Qdx (ops:=ops) (listed:=listed) (zzfa.1 iY) (i:=jp) zE;rw[<- Xc (by rw[hsz];omega) false true,hH.eq,Qw hpz,hH.pl]at this;cases this
  |succ aT ih=>
   intro listed γ w a hI iY;obtain hI|⟨l0,γs,ws,arr,y5,hH⟩:=hI
   ·by_cases bD:∀i,i<p->listed.getD i false=true
    ·exact full (aT+1) listed γ w a hI iY bD
    have hex:∃k,k<p/\listed.getD k true=false:=by
     refine Classical.byContradiction fun hn=>bD fun i hi=>?_;rw[Xc (by rw[hI.size];omega) false true];cases hl:listed.getD i true with
     |true=>rfl
     |false=>exact absurd ⟨i,hi,hl⟩ hn
    obtain⟨k,hk,VQ⟩:=hex;refine⟨fun hr=>?_,fun i hi=>?_⟩
    ·obtain⟨j,hj⟩:=Uo hc hI.size k k (zzab _) zE VQ;rw[hr]at hj;cases hj
    obtain⟨ai,hu,o,ho,bS⟩:=Uq hc hi
    have c9:i<p:=by
     rcases zzaa i p with h|h
     ·exact h
     have:=Qbn hI.clo ho ((cV i o ho).2.2 h) bS i k zE zE;rw[Xc (by rw[hI.size];omega) false true,VQ]at this;cases this
    have huf:listed.getD i false=false:=by rw[Xc (by rw[hI.size];exact ai) false true];exact hu
    by_cases hear:i=z/\listed.getD jp false=false
    ·
     obtain⟨rfl,hjp⟩:=hear;rw[VY]at ho;cases ho;obtain⟨iz,zv,hi1,hi2,hi3⟩:=iQ (P:=P) (w:=w) (γ:=γ) hzc
     have arn:∀w γ,ak w γ zs zv.cells.toList:=fun w γ=>by
      obtain⟨i',z',q1,q2,q3⟩:=iQ (P:=P) (w:=w) (γ:=γ) hzc;rw[hi1]at q1;cases q1;rw[hi2]at q2;cases q2;exact q3
     have aZ:(execOp a.eval oz).run P w=.ok (.value (.pointer (some ⟨w.heap.size,0,none⟩))) (w.alloc (.cells zv.cells te)):=by
      obtain⟨dst,op,ty,pos,after,guard⟩:=oz;simp only at dm;subst dm;simp[execOp,Instr.alloc,zeroValue,typeInfo,hi1,hi2,newVar,newRow]
     simp only[wpOpIn,VY];rw[if_pos (by simp[Region.wanted,hgz])];refine Zk aZ (ih _ γ _ _ (.inr ⟨listed,γ,w,zv.cells,te,⟨rfl,huf,hjp,E6.set hI.clo VY (by rw[hI.size];exact ai) bS,?_,hI.mm.bs,hI.mm.hN,?_,arn,e1⟩⟩) ?_)
     ·have bT:=hI.mm.wB (.cells zv.cells te);refine⟨hI.size,hI.tail,hI.ch,hI.clo,hI.mm.awI _ _ ?_,hI.ls.mono bT,hI.rd.aU bT.cG,by simp[Act.put,hdz,hI.tl],fun t'=>?_,?_,fun g=>(hI.g g).aU bT.cG.cT,hyk _ _ _,hI.e.trans bT.cG⟩
      ·refine⟨⟨rfl,rfl,rfl,zd,fun b hb _=>Below.heap_alloc w _ b hb,bT.ro,fun _ h=>.inl h,fun _ _ h=>.inl h⟩,zd,heap_alloc_new w _,?_,fun o' cO=>?_⟩
       ·rintro(⟨id,h⟩|⟨id,h⟩|h|⟨id,h⟩)
        ·have:=(hI.mm.β id _ h).2.1;omega
        ·have:=(hI.mm.own id _ h).2.1;omega
        ·have:=(hI.mm.sp _ h).2.1;omega
        have:=(hI.mm.mm id _ h).2.1;omega
       have:=hI.mm.robd _ _ cO;omega
      ·rw[hdz];by_cases htt:t'=t
       ·subst htt
        have hA:mq P gl orc ops s.T s.m (Xa js ms) p listed t'=.junk:=by
         unfold mq;rw[if_neg,hT];intro hw;unfold wr at hw;obtain⟨j,hj,hjw⟩:=zzbr.1 hw;simp only[zzac,beq_iff_eq]at hjw
         have hjz:j=i:=by
          rcases zzdv j i with bZ|AA|lH
          ·exact absurd hdz (((cV i oz VY).2.1 adY).2 j bZ t' hjw.2)
          ·exact AA
          obtain⟨oj,hoj⟩:=gr j (zzaw.1 hj);have:=((cV j oj hoj).2.1 (zzaw.1 hj)).2 i lH t' (by simp[Vg,VY,hdz]);have h2:=hjw.2;simp[Vg,hoj]at h2;exact absurd h2 this
         rw[hjz,huf]at hjw;exact absurd hjw.1 zd
        rw[hA];exact .junk _
       have:(a.put (some t) (.pointer (some ⟨w.heap.size,0,none⟩))).tmps.getD t' undef=a.tmps.getD t' undef:=by
        simp only[Act.put];simp;rw[zzcp (Ne.symm htt)]
       rw[this];exact(hI.tt t').aU bT.cG
      rw[hdz];exact hI.d.aU bT.cG
     ·intro mj;rw[hdz];have:t<a.tmps.size:=by rw[hI.tl];exact mj
      simp[Act.put,this]
     have:=iX hI.size ai hu;omega
    have nr:∀a j,js[a]?=some j->js[a+1]?=some i->listed.getD j false=true:=fun a j e1 e2=>by
     rcases aiu a j i o e1 e2 ho with h|⟨rfl,rfl⟩
     ·exact bS j h
     cases hl:listed.getD j false with
     |true=>rfl
     |false=>exact absurd ⟨rfl,hl⟩ hear
    refine wpOpIn_mono ?_ (Qcm hc hI ho c9 (h1 i o (zzbp _) c9 ho).2.2 aH ng hu bS nr (h1 i o (zzbp _) c9 ho).1 (h1 i o (zzbp _) c9 ho).2.1);rintro a' w' ⟨γ',lI,_⟩;refine ih _ γ' w' a' (.inl lI) ?_;have:=iX hI.size ai hu;omega
   have hsz:listed.size=ops.size:=by rw[hH.eq];simp[hH.inv.size]
   have qs:∀k d,k≠z->listed.getD k d=l0.getD k d:=fun k d hk=>by rw[hH.eq,Qw hk]
   have ali:listed.getD jp false=false:=by rw[qs jp false hpz];exact hH.pl
   have aro:jp<listed.size:=by rw[hsz];omega
   have arp:z<l0.size:=by rw[hH.inv.size];omega
   refine⟨fun hr=>?_,fun i hi=>?_⟩
   ·obtain⟨j,hj⟩:=Uo hc hsz jp jp (zzab _) zE (by rw[Xc aro true false];exact ali);rw[hr]at hj;cases hj
   obtain⟨ai,hu,o,ho,bS⟩:=Uq hc hi
   have c9:i<p:=by
    rcases zzaa i p with h|h
    ·exact h
    have:=Qbn hH.clo ho ((cV i o ho).2.2 h) bS i jp zE zE;rw[ali]at this;cases this
   have hiz:i≠z:=by
    rintro rfl;rw[hH.eq,Xt arp]at hu;cases hu
   have aiv:∀j∈Xx o,l0.getD j false=true:=fun j hj=>by
    have hjz:j≠z:=by
     rintro rfl;have:=bS jp (hzp i o c9 ho hj);rw[ali]at this;cases this
    rw[<- qs j false hjz];exact bS j hj
   have hu0:l0.getD i true=false:=by rw[<- qs i true hiz];exact hu
   have nr:∀a j,js[a]?=some j->js[a+1]?=some i->l0.getD j false=true:=fun a j e1 e2=>by
    rcases aiu a j i o e1 e2 ho with h|⟨_,h⟩
    ·exact aiv j h
    exact absurd h hiz
   refine wpOpIn_mono ?_ (Qcm (w0:=ark γs ws arr y5) hc hH.inv ho c9 (h1 i o (zzbp _) c9 ho).2.2 aH ng hu0 aiv nr (h1 i o (zzbp _) c9 ho).1 (h1 i o (zzbp _) c9 ho).2.1);rintro a' w' ⟨γ',lI,zx⟩;have arq:listed.setIfInBounds i true=(l0.setIfInBounds i true).setIfInBounds z true:=by rw[hH.eq];exact CK
   have hdt:o.dst≠some t:=by
    rcases zzdv i z with bZ|AA|lH
    ·intro hd;exact((cV z oz VY).2.1 adY).2 i bZ t (by simp[Vg,ho,hd]) hdz
    ·exact absurd AA hiz
    exact((cV i o ho).2.1 c9).2 z lH t (by simp[Vg,VY,hdz])
   have aiw:t<s.T.length->a'.tmps.getD t undef=.pointer (some ⟨ws.heap.size,0,none⟩):=fun mj=>by rw[zx t hdt];exact hH.slot mj
   have iY:uc ops (listed.setIfInBounds i true)<=aT:=by
    have:=iX hsz ai hu;omega
   by_cases eF:i=jp
   ·subst eF;have zq:=E6.set hH.clo ho (by rw[hsz];exact ai) bS;refine ih _ (γ'.box (Vy s.m ms (az+1)).boxes.length ws.heap.size) w' a' (.inl ?_) iY;rw[arq]at zq |-
    obtain⟨c1,c2,c3,c4,c5⟩:=lI.mm.bs;have alj:i<l0.size:=by rw[hH.inv.size];exact ai
    have hz0:(l0.setIfInBounds i true).getD z false=false:=by rw[Qw (Ne.symm hiz)];exact hH.zl
    have CF:∀b j,b<az+1->js[b]?=some j->(l0.setIfInBounds i true).getD j false=true:=fun b j hb hj=>by
     rcases zzaa b az with bZ|bq
     ·exact Qby lI.ch bZ hj haz (Xt alj)
     obtain rfl:b=az:=zE
     rw[haz]at hj;cases hj;exact Xt alj
    have aza:az+1<js.length:=(zza.1 tL).1;have tI:Ua (l0.setIfInBounds i true) s.m js ms=Vy s.m ms (az+1):=Uz aH zE CF (fun j hj=>by rw[tL]at hj;cases hj;exact hz0)
    have y8:Ua ((l0.setIfInBounds i true).setIfInBounds z true) s.m js ms=xz.2:=by
     have:=Uz (listed:=(l0.setIfInBounds i true).setIfInBounds z true) (m:=s.m) (a:=az+2) aH zE (fun b j hb hj=>?_) (fun j hj=>?_)
     ·rw[this];simp[Vy,List.getD,hxz]
     ·rcases zzaa b (az+1)with h|h
      ·have hjz:j≠z:=by
        rintro rfl;have:=Ud ng hj tL;omega
       rw[Qw hjz];exact CF b j h hj
      obtain rfl:b=az+1:=zE
      rw[tL]at hj;cases hj;exact Xt (Nm arp)
     have hjz:j≠z:=by
      rintro rfl;have:=Ud ng hj tL;omega
     rw[Qw hjz];cases hl:(l0.setIfInBounds i true).getD j false with
     |false=>rfl
     |true=>
      have:=Qby lI.ch (zzey (az+1)) tL hj hl;rw[hz0]at this;cases this
    have gL:=lI.mm;have me:=lI.ls;rw[tI]at gL me;have aL:(Vy s.m ms (az+1)).B (Vy s.m ms (az+1)).boxes.length=none:=by simp[AM.B]
    have bT:=gL.oT _ aL ws.heap.size;refine⟨by simp[hH.inv.size],fun j dW ov=>by rw[Qw zE];exact lI.tail j dW ov,uq lI.ch (fun b j g1 g2=>?_),zq,?_,?_,lI.rd.aU bT.cG,lI.tl,fun t'=>?_,lI.d.aU bT.cG,fun g=>(lI.g g).aU bT.cG.cT,hyk _ _ _,lI.e.trans bT.cG⟩
    ·have:b+1=az+1:=Ud ng g2 tL;obtain rfl:b=az:=zE
     exact CF _ j (zzey _) g1
    ·rw[y8,e3];have hmA:=gL.arl w0 (te:=y5) aL hH.hN c3 c4 c5 (hH.zr w' γ').toP (Yn (hH.zr w' γ') hH.zc) (w0.st γs ws _ w' hH.st ⟨c1.os,c1.tape,c1.output,c1.size,c1.same,c1.ro,fun b hb=>?_,c1.ron⟩)
     ·have hB:({Vy s.m ms (az+1)with boxes:=(Vy s.m ms (az+1)).boxes++[zs]}:AM).B=fun i=>if i=(Vy s.m ms (az+1)).boxes.length then some zs else(Vy s.m ms (az+1)).B i:=Sj _ _;rw[hB];exact hmA
     obtain⟨i',di⟩|hb|hb:=hb
     ·by_cases h:i'=(Vy s.m ms (az+1)).boxes.length
      ·simp[G.box,h]at di;exact .inr zE
      simp[G.box,h]at di;exact c1.oi b (.inl ⟨i',di⟩)
     ·exact c1.oi b (.inr (.inl hb))
     exact c1.oi b (.inr (.inr hb))
    ·rw[y8,e3];exact me.mono' bT rfl
    rw[CE hc (by simp[hH.inv.size]) VY adY];by_cases CG:oz.dst=some t'/\t'<s.T.length
    ·rw[if_pos CG];rw[hdz]at CG;obtain⟨awM,J3⟩:=CG;cases awM;rw[Qda (P:=P) (gl:=gl) (orc:=orc) (ops:=ops) (m:=s.m) ng tL hxz,e2,aiw J3];exact .ptr (by simp[G.box])
    rw[if_neg CG];exact(lI.tt t').mono bT
   exact ih _ γ' w' a' (.inr ⟨l0.setIfInBounds i true,γs,ws,arr,y5,arq,by rw[Qw (Ne.symm hiz)];exact hH.zl,by rw[Qw (Ne.symm eF)];exact hH.pl,E6.set hH.clo ho (by rw[hsz];exact ai) bS,lI,hH.st,hH.hN,aiw,hH.zr,hH.zc⟩) iY
 have tJ:∀j,(Array.replicate ops.size false).getD j false=false:=fun j=>by
  rcases zzaa j ops.size with h|h<;>simp[h]
 have nr:∀VU:Pa,chn (Array.replicate ops.size false) VU:=fun VU=>by
  induction VU with
  |nil=>trivial
  |cons j r ih=>
   cases r with
   |nil=>trivial
   |cons j' r=>exact⟨fun h=>(by rw[tJ]at h;cases h),ih⟩
 have JW:Ua (Array.replicate ops.size false) s.m js ms=s.m:=Uz (a:=0) aH zE (fun b j hb=>zE) (fun j _=>tJ j);refine main ops.size _ γ w.drew a (.inl ⟨zd,fun i _ hi=>by simp[hi],nr js,fun j o h=>(by rw[tJ]at h;cases h),?_,?_,hs.rd.aU (Ev.drew w γ).cG,?_,fun t=>?_,hs.d.aU (Ev.drew w γ).cG,fun g=>(hs.g g).mono (Ev.drew w γ).cT,hs.y.mono (Ev.drew w γ).cG,hs.e.trans (Ev.drew w γ).cG⟩) ?_
 ·rw[JW];exact hs.m.drew
 ·rw[JW];exact hs.ls.mono (Ev.drew w γ)
 ·have:=hs.t.1;simp at this;omega
 ·have hw:wr ops p (Array.replicate ops.size false) t=false:=by
   unfold wr;rw[zzdi];intro j _;rw[tJ j];simp
  unfold mq;rw[hw];simp only[zzbh,if_false];have:=(hs.t.mono (Ev.drew w γ)).get t;simpa[List.getD]using this
 unfold uc;exact zzbd (zzes) zd
end
open Go Go.RowKit
inductive SC where
 |skip
 |ops (l:List SO)
 |draw (l l2:List SO)
 |drawE (fl:List Fg) (l l2:List SO)
 |drawZ (z:Nat) (fl:List Fg) (l l2:List SO)
 |seq (a b:SC)
 |cond (x:bE) (a b:SC)
 |block (id:Nat) (c:SC)
 |loop (c:SC)
 |exit (id:Nat)
 |scope (c:SC)
 |rfunc (g:bE) (ps:Pa) (gY body:SC)
 |ret
 |bad
def oU:Pa->SC->SC
 |[],c=>c
 |0::p,.seq x _=>oU p x
 |_::p,.seq _ x=>oU p x
 |0::p,.cond _ x _=>oU p x
 |_::p,.cond _ _ x=>oU p x
 |_::p,.block _ x=>oU p x
 |_::p,.loop x=>oU p x
 |_::p,.scope x=>oU p x
 |0::p,.rfunc _ _ x _=>oU p x
 |_::p,.rfunc _ _ _ x=>oU p x
 |_,c=>c
def zz:Pa->SC->SC->SC
 |[],_,t=>t
 |0::p,.seq x y,t=>.seq (zz p x t) y
 |_::p,.seq y x,t=>.seq y (zz p x t)
 |0::p,.cond c x y,t=>.cond c (zz p x t) y
 |_::p,.cond c y x,t=>.cond c y (zz p x t)
 |_::p,.block n x,t=>.block n (zz p x t)
 |_::p,.loop x,t=>.loop (zz p x t)
 |_::p,.scope x,t=>.scope (zz p x t)
 |0::p,.rfunc g l x y,t=>.rfunc g l (zz p x t) y
 |_::p,.rfunc g l y x,t=>.rfunc g l y (zz p x t)
 |_,c,_=>c
def alk(n:Nat):Pa->Pa
 |[]=>[n]
 |k::l=>bif n.ble k then(bif n.beq k then k::l else n::k::l)else k::alk n l
def CL(r:Pa):List SO->Pa
 |[]=>r
 |o::l=>match o.dst with|some n=>alk n (CL r l)|none=>CL r l
def ars(r:Pa):Pa->Pa
 |[]=>r
 |n::l=>alk n (ars r l)
def rW(r:Pa):SC->Pa
 |.ops l=>CL r l
 |.draw l k=>CL (CL r k) l
 |.drawE _ l k=>CL (CL r k) l
 |.drawZ _ _ l k=>CL (CL r k) l
 |.seq x y=>rW (rW r y) x
 |.cond _ x y=>rW (rW r y) x
 |.block _ x=>rW r x
 |.loop x=>rW r x
 |.scope x=>rW r x
 |.rfunc _ l x y=>rW (rW (ars r l) y) x
 |_=>r
abbrev J4(p:Pa)(c:SC):={x:SC // x=oU p c}
abbrev Fm(p:Pa)(c:SC):={x:SC->SC // ∀t,x t=zz p c t}
abbrev wT(p:Pa)(c:SC):={x:Pa // x=rW [] (oU p c)}
def Qbk{P:Program}{ops:Array Oper}{p:Nat}{js:Pa}(hc:um ops p=true):(flags ops p js).length=((ops.toList.take p).map (Xf P ops)).length:=by
 have:=(Zb hc).1;simp[flags];omega
def alm{P:Program}{ops:Array Oper}{p:Nat}{js:Pa}(hc:um ops p=true)(h:adX (flags ops p js++bkF ops p js) ((ops.toList.take p).map (Xf P ops))=true):wz ops p js=true:=by
 unfold adX at h;rw[<- Qbk (js:=js) hc,zzga]at h;unfold bkF at h;cases hb:wz ops p js with
 |true=>rfl
 |false=>rw[hb]at h;simp at h
def Yl(P:Program):Code->SC
 |.skip=>.skip
 |.region _ ops false=>.ops (ops.toList.map (Xf P ops))
 |.region _ ops true=>if P.follows .mixedOrders&&um ops (Sm ops)then(match Qei ops (Sm ops)with
  |some js=>.drawE (flags ops (Sm ops) js++bkF ops (Sm ops) js) ((ops.toList.take (Sm ops)).map (Xf P ops)) ((ops.toList.drop (Sm ops)).map (Xf P ops))
  |none=>(match NH ops (Sm ops)with
   |some (js,_,_,t)=>.drawZ t (flags ops (Sm ops) js) ((ops.toList.take (Sm ops)).map (Xf P ops)) ((ops.toList.drop (Sm ops)).map (Xf P ops))
   |none=>.draw ((ops.toList.take (Sm ops)).map (Xf P ops)) ((ops.toList.drop (Sm ops)).map (Xf P ops))))else .bad
 |.seq a b=>.seq (Yl P a) (Yl P b)
 |.cond c a b=>.cond (aC c) (Yl P a) (Yl P b)
 |.block id c=>.block id (Yl P c)
 |.loop c=>.loop (Yl P c)
 |.exit id=>.exit id
 |.label _=>.skip
 |.scope c=>.scope (Yl P c)
 |.rangeFunc g ps gY body=>.rfunc (aC g) ps.toList (Yl P gY) (Yl P body)
 |.ret=>.ret
 |_=>.bad
def uu(st:Nat->LS)(l:Nat)(x:LS):Nat->LS:=fun i=>if i=l then x else st i
def AM.at_(m:AM)(l:Nat)(x:LS):AM:={m with st:=uu m.st l x}
def AM.bK(m:AM):AM:={m with st:=uu m.st m.ln .ready,ln:=m.ln+1}
def Qaq(T:P2):Pa->P2->P2
 |p::ps,x::xs=>Qaq (T.set p x) ps xs
 |_,_=>T
section vc
variable (P:Program) (gl:Nat->AV) (orc:UV) (Y:YT)
def V0(k:AS->(R0)->Prop)(Q:R0):R0
 |.normal,s=>k s Q
 |ex,s=>Q ex s
def nx(id:Nat)(Q:R0):R0
 |.exit id',s=>if id'=id then Q .normal s else Q (.exit id') s
 |ex,s=>Q ex s
def wC(Q:R0):R0
 |.goto _,_=>False
 |ex,s=>Q ex s
def ny(I:AS->Prop)(μ:AS->Nat)(s:AS)(Q:R0):R0
 |.normal,s'=>I s'/\μ s'<μ s
 |ex,s'=>Q ex s'
def PT(l:Nat)(K:Bool->AM->Prop):R0
 |.normal,s=>K true (s.m.at_ l .ready)
 |.ret,s=>K false (s.m.at_ l (.done .ret))
 |.exit id,s=>K false (s.m.at_ l (.done (.exit id)))
 |_,_=>False
def J5(l:Nat)(k:AS->Prop):R0
 |.normal,s=>s.m.st l=.ready/\k ⟨s.T,s.m.at_ l .busy⟩
 |_,_=>False
def CM(l:Nat)(T:P2)(m:AM)(Q:R0):LS->Prop
 |.ready=>Q .normal ⟨T,m.at_ l .gone⟩
 |.done ex=>Q ex ⟨T,m.at_ l .gone⟩
 |_=>False
def Yin(l n:Nat)(k:P2->AM->(Bool->AM->Prop)->Prop):YT:=fun l' args m K=>if l'=l then m.st l=.ready/\args.length=n/\k args m K else Y l' args m K
def vc:SC->AS->(R0)->Prop
 |.skip,s,Q=>Q .normal s
 |.ops l,s,Q=>Zo P gl orc Y l s (Q .normal)
 |.draw l l2,s,Q=>Sn P gl orc Y l2 (Q .normal) l s.T s.m []
 |.drawE fl l l2,s,Q=>Sn P gl orc Y l2 (Q .normal) l s.T s.m []\/(∃ms,nq P gl orc Y l2 (Q .normal) s.m ms l fl ms s.m s.T)\/(adX fl l=true/\∃(ms:QP)(R:So),(∃x:AV×AM,R x.1 x.2)/\∀x:AV×AM,R x.1 x.2->iD P gl orc Y R l2 (Q .normal) s.m (ms++[x]) l fl (ms++[x]) s.m s.T)\/(∃(ms:QP)(R:So)(Vs:P2),(∃x:AV×AM,R x.1 x.2)/\∀x:AV×AM,R x.1 x.2->iD P gl orc Y R l2 (Q .normal) s.m (ms++[x]) l fl (ms++[x]) s.m s.T/\Zl P gl orc s.m l fl (ms++[x]) s.T=Vs)\/∃ms,gW P gl orc Y l2 (Q .normal) s.m ms l fl ms s.m s.T
 |.drawZ z fl l l2,s,Q=>(∀i as' m K,¬Y i as' m K)/\s.T.getD z .junk=.junk/\∃ms,gW P gl orc Y l2 (Q .normal) s.m ms l fl ms s.m s.T
 |.seq a b,s,Q=>vc a s (V0 (vc b) Q)
 |.cond x a b,s,Q=>match ev gl s.T x with
  |.bool t=>(t=true->vc a s Q)/\(t=false->vc b s Q)
  |_=>False
 |.block id c,s,Q=>vc c s (nx id Q)
 |.loop c,s,Q=>∃(I:AS->Prop)(μ:AS->Nat),I s/\∀s',I s'->vc c s' (ny I μ s' Q)
 |.exit id,s,Q=>Q (.exit id) s
 |.scope c,s,Q=>vc c s (wC Q)
 |.rfunc g ps gY body,s,Q=>match ev gl s.T g with
  |.fn f first cap=>s.m.st s.m.ln=.gone->aB P gl (Yin Y s.m.ln ps.length fun args m K=>vc gY ⟨Qaq s.T ps args,m⟩ (J5 s.m.ln fun s'=>vc body s' (PT s.m.ln K))) f (first++[.yld s.m.ln]++cap) (s.m.bK)
    fun _ m'=>CM s.m.ln s.T m' Q (m'.st s.m.ln)
  |_=>False
 |.ret,s,Q=>Q .ret s
 |.bad,_,_=>False
end vc
section
variable {N:Nat} {w0:eN} {r:Option Nat} {an:Nat->Nat->Prop} {S:G×World} {Y:YT} {P:Program} {gl:Nat->AV} {orc:UV} {γ:G} {w:World}
def lift(N:Nat)(w0:eN)(r:Option Nat)(an:Nat->Nat->Prop)(S:G×World)(P:Program)(gl:Nat->AV)(Y:YT)(Q:R0):PP:=fun ex a w=>∃γ s,eu N w0 r an S P gl Y γ w s a/\Q ex s
def au.V1{B:Nat->PH}{L:Nat->Option Nat}(hm:au N w0 an γ w B L)(o:Obj):
  au N w0 an {γ with sp:=fun b=>γ.sp b\/b=w.heap.size} (w.alloc o) B L/\Ev w γ (w.alloc o) {γ with sp:=fun b=>γ.sp b\/b=w.heap.size}:=by
 have bT:Ev w γ (w.alloc o) {γ with sp:=fun b=>γ.sp b\/b=w.heap.size}:=
  ⟨zd,fun b o' hb hr=>⟨hr,cell_of_heap (Below.heap_alloc w o b hb)⟩,fun _ _ h=>h,fun _=>zzab _,fun _ _ h=>h,rfl,
   fun i b _ ho=>⟨ho,fun arr e he=>⟨arr,by rw[Below.heap_alloc w o b (hm.own i b ho).2.1];exact he,zzab _⟩,fun _ h=>h⟩,
   fun b hb=>⟨.inl hb,Below.heap_alloc w o b (hm.sp b hb).2.1⟩,Sz.of_same (Below.heap_alloc w o)⟩
 refine⟨⟨w0.st _ _ _ _ hm.bs ⟨rfl,rfl,rfl,zd,fun b hb _=>Below.heap_alloc w _ b hb,bT.ro,fun b hb=>?_,fun _ _ h=>.inl h⟩,by have:=hm.hN;simp;omega,hm.an,fun b o h=>by have:=hm.robd b o h;simp;omega,
  fun id cells b hb h1=>?_,fun id b hb=>?_,hm.inj,fun id b hb=>?_,hm.oinj,fun b hb=>?_,fun id b hb=>?_,hm.minj,hm.len,hm.cur0⟩,bT⟩
 ·obtain hb|hb|(hb|rfl)|hb:=hb
  ·exact .inl (.inl hb)
  ·exact .inl (.inr (.inl hb))
  ·exact .inl (.inr (.inr (.inl hb)))
  ·exact .inr (zzab _)
  exact .inl (.inr (.inr (.inr hb)))
 ·obtain⟨arr,e,h2,h3,h4⟩:=hm.box id cells b hb h1;exact⟨arr,e,by rw[Below.heap_alloc w _ b (aR h2)];exact h2,h3.mono bT,h4⟩
 ·obtain⟨h1,h2,h3⟩:=hm.β id b hb;exact⟨h1,by simp;omega,h3⟩
 ·obtain⟨h1,h2,h3⟩:=hm.own id b hb;exact⟨h1,by simp;omega,h3⟩
 ·obtain hb|rfl:=hb
  ·obtain⟨h1,h2,h3⟩:=hm.sp b hb;exact⟨h1,by simp;omega,h3⟩
  refine⟨hm.hN,zd,fun o' h=>?_,fun id h=>?_,fun id h=>?_⟩
  ·have:=hm.robd _ _ h;omega
  ·have:=(hm.β id _ h).2.1;omega
  have:=(hm.own id _ h).2.1;omega
 obtain⟨h1,h2,h3,h4,h5,h6,h8,h7⟩:=hm.mm id b hb;refine⟨h1,by simp;omega,h3,h4,h5,?_,h8,h7.mono bT.cG.Ap (Below.heap_alloc w o b h2)⟩;rintro(h|rfl)
 ·exact h6 h
 omega
def au.aix{B:Nat->PH}{L:Nat->Option Nat}(hm:au N w0 an γ w B L){D:Nat}(hD:γ.sp D){o o0:Obj}(h0:w.heap[D]?=some o0)(hnc:∀c e f,o0≠.cells c e f)(awN:∀c e f,o≠.cells c e f)
  {γ':G}(hγ:γ'=γ\/γ'={γ with sp:=fun b=>γ.sp b/\b≠D})(V2:γ'=γ->qF (some o0) (some o)):
  au N w0 an γ' (w.putObj D o) B L/\Nq w γ (w.putObj D o) γ'/\(∀wS γS,eC wS γS w γ->(γ'=γ\/¬γS.sp D)->eC wS γS (w.putObj D o) γ'):=by
 have ai:D<w.heap.size:=aR h0;have cQ:∀b,b≠D->(w.putObj D o).heap[b]?=w.heap[b]?:=fun b hb=>World.putObj_heap_other hb;have EX:(w.putObj D o).heap[D]?=some o:=World.putObj_heap_same ai
 have bL:∀b o',(w.putObj D o).cell? ⟨b,o',none⟩=w.cell? ⟨b,o',none⟩:=fun b o'=>by
  by_cases hb:b=D
  ·subst hb;simp only[World.cell?,EX,h0];cases o<;>cases o0<;>first|rfl|exact absurd rfl (hnc _ _ _)|exact absurd rfl (awN _ _ _)
  exact cell_of_heap (cQ b hb)
 have hβ:γ'.β=γ.β:=by rcases hγ with rfl|rfl<;>rfl
 have ct:γ'.own=γ.own:=by rcases hγ with rfl|rfl<;>rfl
 have cW:γ'.cur=γ.cur:=by rcases hγ with rfl|rfl<;>rfl
 have fV:γ'.ro=γ.ro:=by rcases hγ with rfl|rfl<;>rfl
 have gL:γ'.mm=γ.mm:=by rcases hγ with rfl|rfl<;>rfl
 have hlp:γ'.lp=γ.lp:=by rcases hγ with rfl|rfl<;>rfl
 have cV:∀b,γ'.sp b->γ.sp b:=by obtain rfl|rfl:=hγ;exact fun _ h=>h;exact fun _ h=>h.1
 have aln:∀b,γ.sp b->b≠D->γ'.sp b:=fun b hb h=>by
  obtain rfl|rfl:=hγ
  ·exact hb
  exact⟨hb,h⟩
 have hsz:Sz w (w.putObj D o):=fun b' arr e f h=>⟨arr,by rw[cQ b' (by rintro rfl;rw[h0]at h;cases h;exact hnc _ _ _ rfl)];exact h,rfl⟩
 have adZ:Nq w γ (w.putObj D o) γ':=by
  refine⟨zd,fun b o' _ hr=>⟨by rw[fV];exact hr,bL b o'⟩,fun _ _ h=>by rw[hβ];exact h,fun _=>by rw[cW];exact zzab _,fun _ _ h=>by rw[gL];exact h,fun _ _ h=>by rw[hlp];exact h,fun id b _ ho=>⟨by rw[ct];exact ho,fun arr e he=>⟨arr,?_,zzab _⟩,fun _ h=>by rw[fV]at h;exact h⟩,hsz⟩;rw[cQ b (by rintro rfl;exact(hm.sp b hD).2.2.2.2 id ho)];exact he
 refine⟨⟨w0.st _ _ _ _ hm.bs ⟨rfl,rfl,rfl,zd,fun b _ iw=>cQ b (by rintro rfl;exact iw (.inr (.inr (.inl hD)))),adZ.ro,fun b hb=>.inl ?_,fun b o' h=>.inl (by rw[fV]at h;exact h)⟩,Nm hm.hN,
  fun b o' h=>hm.an b o' (by rw[fV]at h;exact h),fun b o' h=>by rw[fV]at h;simpa using hm.robd b o' h,fun id cells b hb h1=>?_,fun id b hb=>?_,fun id id' b h h'=>hm.inj id id' b (by rw[hβ]at h;exact h) (by rw[hβ]at h';exact h'),
  fun id b hb=>?_,fun id id' b h h'=>hm.oinj id id' b (by rw[ct]at h;exact h) (by rw[ct]at h';exact h'),fun b hb=>?_,fun id b hb=>?_,fun id id' b h h'=>hm.minj id id' b (by rw[gL]at h;exact h) (by rw[gL]at h';exact h'),fun id n h=>by rw[cW];exact hm.len id n h,fun id h=>by rw[cW];exact hm.cur0 id h⟩,adZ,fun wS γS e hc=>?_⟩
 ·obtain⟨id,hb⟩|⟨id,hb⟩|hb|⟨F,hb⟩:=hb
  ·rw[hβ]at hb;exact .inl ⟨id,hb⟩
  ·rw[ct]at hb;exact .inr (.inl ⟨id,hb⟩)
  ·exact .inr (.inr (.inl (cV b hb)))
  rw[gL]at hb;exact .inr (.inr (.inr ⟨F,hb⟩))
 ·rw[hβ]at h1;obtain⟨arr,e,h2,h3,h4⟩:=hm.box id cells b hb h1;exact⟨arr,e,by rw[cQ b (by rintro rfl;exact(hm.sp b hD).2.2.2.1 id h1)];exact h2,h3.eM adZ,h4⟩
 ·rw[hβ]at hb;obtain⟨h1,h2,h3,h4,h5⟩:=hm.β id b hb;exact⟨h1,Nm h2,by rw[fV];exact h3,by rw[ct];exact h4,h5⟩
 ·rw[ct]at hb;simpa using hm.own id b hb
 ·obtain⟨h1,h2,h3,h4,h5⟩:=hm.sp b (cV b hb);exact⟨h1,Nm h2,by rw[fV];exact h3,by rw[hβ];exact h4,by rw[ct];exact h5⟩
 ·rw[gL]at hb;obtain⟨h1,h2,h3,h4,h5,h6,h8,h7⟩:=hm.mm id b hb;exact⟨h1,Nm h2,by rw[fV];exact h3,by rw[hβ];exact h4,by rw[ct];exact h5,fun h=>h6 (cV b h),by rw[hβ];exact h8,h7.mono adZ (cQ b (by rintro rfl;exact h6 hD))⟩
 refine⟨Nm e.size,fun b o' hb hr=>⟨by rw[fV];exact(e.ro b o' hb hr).1,(bL b o').trans (e.ro b o' hb hr).2⟩,fun id b h=>by rw[hβ];exact e.β id b h,fun id=>by rw[cW];exact e.cur id,fun b F h=>by rw[gL];exact e.mm b F h,fun i l h=>by rw[hlp];exact e.lp i l h,fun id b uh ho=>?_,fun b hb=>?_,e.ss.trans hsz⟩
 ·rw[cW]at uh;obtain⟨g1,g2,g3⟩:=e.own id b uh ho;refine⟨by rw[ct];exact g1,fun arr te he=>?_,fun o' h=>g3 o' (by rw[fV]at h;exact h)⟩;obtain⟨bN,k1,k2⟩:=g2 arr te he;exact⟨bN,by rw[cQ b (by rintro rfl;exact(hm.sp b hD).2.2.2.2 id g1)];exact k1,k2⟩
 obtain⟨g1,g2⟩:=e.sp b hb;by_cases hbD:b=D
 ·subst hbD;obtain rfl|hc:=hc
  ·refine⟨g1,g2.trans ?_⟩;rw[h0,EX];exact V2 rfl
  exact absurd hb hc
 exact⟨aln b g1 hbD,by rw[cQ b hbD];exact g2⟩
def Jv{b:Frame}{a:Act}{k:List Item}{cs:List Frame}{w:World}{c:Code}:step P (lone (b.atR a (.code (.scope c)::k)) cs w)=.next (lone (b.atR a (.code c::.inScope c::k)) cs w):=
 step_lone_go (by simp[stepG,stepG.exec,Frame.atR])
def zA{b:Frame}{a:Act}{k:List Item}{cs:List Frame}{w:World}{c:Code}:step P (lone (b.atR a (.inScope c::k)) cs w)=.next (lone (b.atR a k) cs w):=
 step_lone_go (by simp[stepG,stepG.exec,Frame.atR])
def lJ{c:Code}{Q:PP}{a:Act}{w:World}(h:c.wpIn (FW r) 0 P (Exit.noGoto Q) a w):(Code.scope c).wpIn (FW r) 0 P Q a w:=by
 intro b k cs fV hb hr;obtain⟨e,a₁,w₁,hq,eY⟩:=h b (.inScope c::k) cs fV hb hr;have h0:(lone (b.atR a (.code (.scope c)::k)) cs w).fenced P (FW r):=fenced_calm hb hr rfl;cases e with
 |normal=>exact⟨.normal,a₁,w₁,hq,.head h0 Jv (StepsIn.trans eY (.one (fenced_calm hb hr rfl) zA))⟩
 |exit id=>
  refine⟨.exit id,a₁,w₁,hq,fun k' hk=>.head h0 Jv (eY.1 k' (by simp[exitTo,hk])),fun mY hk=>?_⟩;obtain⟨k₁,h1,h2⟩:=eY.2 mY (by simp[exitTo,hk]);exact⟨k₁,h1,.head h0 Jv h2⟩
 |goto l=>exact hq.elim
 |ret=>exact⟨_,a₁,w₁,hq,.of_steps (.one h0 Jv) eY⟩
 |panic ch=>exact⟨_,a₁,w₁,hq,.of_steps (.one h0 Jv) eY⟩
 |outgrown=>exact⟨_,a₁,w₁,hq,.of_steps (.one h0 Jv) eY⟩
def Fo{γ:G}{w:World}:∀(ps:Pa)(args:P2)(vs:PQ)(T:P2)(arr:P1),args.length=ps.length->ak w γ args vs->ak w γ T arr.toList->
  ak w γ (Qaq T ps args) ((ps.toArray.zip vs.toArray).foldl (fun(tmps:P1)(p:Nat×Value)=>tmps.setIfInBounds p.1 p.2) arr).toList:=by
 intro ps args vs T arr hl hr ht
 have e:(ps.toArray.zip vs.toArray).foldl (fun(tmps:P1)(p:Nat×Value)=>tmps.setIfInBounds p.1 p.2) arr=(ps.zip vs).foldl (fun(tmps:P1)(p:Nat×Value)=>tmps.setIfInBounds p.1 p.2) arr:=by
  rw[<- Array.foldl_toList];simp
 rw[e];clear e;induction ps generalizing args vs T arr with
 |nil=>
  cases args with
  |nil=>simpa[Qaq]using ht
  |cons x xs=>simp at hl
 |cons p ps ih=>
  cases args with
  |nil=>simp at hl
  |cons x xs=>
   cases vs with
   |nil=>have:=hr.1;simp at this
   |cons v vs=>
    have h0:aA w γ x v:=hr.2 0 x v rfl rfl;have hs:ak w γ xs vs:=⟨by have:=hr.1;simpa using this,fun i x y h1 h2=>hr.2 (i+1) x y (Nm h1) (Nm h2)⟩;simp only[zzde,zzcx,Qaq];refine ih xs vs _ _ (Nm hl) hs ?_;rw[zzdj];exact ht.set p h0
def cS.put{m:AM}{i l:Nat}{rc:Loop}{x:LS}(h:cS γ w m)(hi:γ.lp i=some l)(cV:γ.sp l)(hl:l<w.heap.size)(hx:JT x rc):cS γ (w.putObj l (.loop rc)) (m.at_ i x):=by
 refine⟨fun i'=>?_,h.2.1,h.2.2.1,fun i' l' eV=>?_⟩
 rotate_left
 ·obtain⟨q1,r,q2⟩:=h.2.2.2 i' l' eV;by_cases Ee:l'=l
  ·subst Ee;exact⟨q1,rc,World.putObj_heap_same hl⟩
  exact⟨q1,r,(World.putObj_heap_other Ee).trans q2⟩
 by_cases di:i'=i
 ·subst di;exact .inr ⟨l,hi,cV,rc,World.putObj_heap_same hl,by simpa[AM.at_,uu]using hx⟩
 rcases h.1 i' with h'|⟨l',h0,h1,r,h2,h3⟩
 ·exact .inl (by simp[AM.at_,uu,di,h'])
 have eV:l'≠l:=by rintro rfl;exact di (h.2.2.1 _ _ _ h0 hi)
 exact .inr ⟨l',h0,h1,r,(World.putObj_heap_other eV).trans h2,by simpa[AM.at_,uu,di]using h3⟩
def G.dO(γ:G)(i l:Nat):G:={γ with lp:=fun j=>if j=i then some l else γ.lp j}
def Fp(w:World){γ:G}{i l:Nat}(h:γ.lp i=none):eC w γ w (γ.dO i l):=
 ⟨zzab _,fun _ _ _ h=>⟨h,rfl⟩,fun _ _ h=>h,fun _=>zzab _,fun _ _ h=>h,fun j l' hj=>by
  have:j≠i:=by rintro rfl;rw[h]at hj;cases hj
  simp[G.dO,this,hj],fun _ _ _ h=>⟨h,fun arr _ h=>⟨arr,h,zzab _⟩,fun _ h=>h⟩,fun _ h=>⟨h,.inl rfl⟩,Sz.refl w⟩
def au.dO{B:Nat->PH}{L:Nat->Option Nat}(hm:au N w0 an γ w B L){i l:Nat}(h:γ.lp i=none):au N w0 an (γ.dO i l) w B L:=by
 have bT:=(Fp w h (l:=l)).Ap;refine⟨w0.st _ _ _ _ hm.bs ⟨rfl,rfl,rfl,zzab _,fun _ _ _=>rfl,fun _ _ _ h=>⟨h,rfl⟩,fun _ hb=>.inl hb,fun _ _ h=>.inl h⟩,hm.hN,hm.an,hm.robd,fun id cells b hb h1=>?_,hm.β,hm.inj,hm.own,hm.oinj,hm.sp,fun id b hb=>?_,hm.minj,hm.len,hm.cur0⟩
 ·obtain⟨arr,e,h2,h3,h4⟩:=hm.box id cells b hb h1;exact⟨arr,e,h2,h3.eM bT,h4⟩
 obtain⟨h1,h2,h3,h4,h5,h6,h8,h7⟩:=hm.mm id b hb;exact⟨h1,h2,h3,h4,h5,h6,h8,h7.mono bT rfl⟩
def oV{B:Nat->PH}{L:Nat->Option Nat}(hm:au N w0 an γ w B L){l:Nat}(hl:γ.sp l){rc:Loop}(h0:w.heap[l]?=some (.loop rc))(st:LoopState)(pd:Option Code):
  au N w0 an γ (w.putObj l (.loop {rc with state:=st,pending:=pd})) B L/\eC w γ (w.putObj l (.loop {rc with state:=st,pending:=pd})) γ:=by
 obtain⟨h1,_,h3⟩:=hm.aix hl (o:=.loop {rc with state:=st,pending:=pd}) h0 (fun _ _ _ h=>by cases h) (fun _ _ _ h=>by cases h) (.inl rfl) (fun _=>.inr ⟨rc,st,pd,rfl,rfl⟩);exact⟨h1,h3 w γ (Ev.refl w γ).cG (.inl rfl)⟩
def Fq{g:Operand}{ps:Array Tmp}{gY body:Code}
  (ihA:∀(l:Nat)(S:G×World)(γ:G)(w:World)(s:AS)(a:Act)(Q:R0),vc P gl orc Y (Yl P gY) s Q->eu N w0 (some l) an S P gl Y γ w s a->gY.wpIn (FW (some l)) 0 P (lift N w0 (some l) an S P gl Y Q) a w)
  (ihB:∀(l:Nat)(S:G×World)(γ:G)(w:World)(s:AS)(a:Act)(Q:R0),vc P gl orc Y (Yl P body) s Q->eu N w0 (some l) an S P gl Y γ w s a->body.wpIn (FW (some l)) 0 P (lift N w0 (some l) an S P gl Y Q) a w)
  {s:AS}{a:Act}{Q:R0}(h:vc P gl orc Y (Yl P (.rangeFunc g ps gY body)) s Q)(hs:eu N w0 r an S P gl Y γ w s a):
  (Code.rangeFunc g ps gY body).wpIn (FW r) 0 P (lift N w0 r an S P gl Y Q) a w:=by
 simp only[Yl,vc]at h;have hg:=hs.ev g;split at h
 case h_2=>exact h.elim
 rename_i f first cap e1
 rw[e1]at hg;obtain⟨fa,ca,hv,r1,r2⟩:=hg.qH;refine wpIn_rangeFunc fun fn _=>?_
 obtain⟨l,mark,w1,γ1',rc,he,ow,hsp1',hm1',hev1',hd1',UK⟩:∃(l:Nat)(mark:List Deferred)(w1:World)(γ1:G)(df:Nat),
   (Instr.enterLoop fn a.tmps ps gY body (FW r).round).run P w=.ok (l,mark) w1/\w1.heap[l]?=some (.loop {state:=.ready,pending:=none,fn,tmps:=a.tmps,params:=ps,assign:=gY,body,defers:=df})/\γ1.sp l/\
   au N w0 an γ1 w1 s.m.B s.m.L/\Ev w γ w1 γ1/\Dfr S.2.heap.size γ1 w1 (mark++a.defers)/\w.heap.size<=l:=by
  cases r with
  |none=>
   obtain⟨tI,eZ⟩:=hs.m.V1 (.deferred (some []));obtain⟨y8,art⟩:=tI.V1 (.loop {state:=.ready,pending:=none,fn,tmps:=a.tmps,params:=ps,assign:=gY,body,defers:=w.heap.size});refine⟨w.heap.size+1,_,_,_,w.heap.size,run_enterLoop_outer fn a.tmps ps gY body,?_,Or.inr zd,y8,eZ.trans art,?_,zE⟩
   ·have:=World.alloc_heap_new (w.alloc (.deferred (some []))) (.loop {state:=.ready,pending:=none,fn,tmps:=a.tmps,params:=ps,assign:=gY,body,defers:=w.heap.size});simpa using this
   have hd:=hs.d.aU (eZ.trans art).cG
   have iU:∀x∈a.defers,∀D,x.target=.collected D->D<w.heap.size:=fun x hx D hD=>by
    obtain⟨D',q1,_,_,q4⟩:=hs.d.2.1 x hx;rw[hD]at q1;cases q1;exact aR q4
   refine⟨hd.1,fun x hx=>?_,?_⟩
   ·simp only[zzae,zzai,zzap]at hx;obtain rfl|hx:=hx
    ·refine⟨w.heap.size,rfl,hs.d.1,.inl (.inr rfl),?_⟩;rw[Below.heap_alloc _ _ _ zd];exact World.alloc_heap_new w _
    exact hd.2.1 x hx
   simp only[zzae,zzai,zzby];refine⟨fun x hx D hD iy=>?_,hd.2.2⟩;simp at hD;have:=iU x hx D iy;omega
  |some l0=>
   obtain⟨qs,aru,arw⟩:=hs.rd l0 rfl;obtain⟨tI,eZ⟩:=hs.m.V1 (.loop {state:=.ready,pending:=none,fn,tmps:=a.tmps,params:=ps,assign:=gY,body,defers:=aru.defers});exact⟨w.heap.size,[],_,_,aru.defers,run_enterLoop_inner arw fn a.tmps ps gY body,World.alloc_heap_new w _,Or.inr rfl,tI,eZ,hs.d.aU eZ.cG,zzab _⟩
 have gJ:l<w1.heap.size:=aR ow;generalize dD:s.m.ln=i at h;have V3:=hs.ls.mono hev1';have aiy:γ1'.lp i=none:=V3.2.1 i zE
 have PO:∀j,γ1'.lp j≠some l:=fun j hj=>by
  rw[hev1'.lp]at hj;have:=(hs.m.sp l (hs.ls.2.2.2 j l hj).1).2.1;omega
 let γ1:=γ1'.dO i l
 have arx:eC w1 γ1' w1 γ1:=Fp w1 aiy;have eZ:eC w γ w1 γ1:=hev1'.cG.trans arx;have tI:au N w0 an γ1 w1 s.m.B s.m.L:=hm1'.dO aiy;have V4:γ1.sp l:=hsp1';have V5:γ1.lp i=some l:=by simp[γ1,G.dO]
 have hd1:=hd1'.aU arx
 have hE:=h (by
  rcases hs.ls.1 i with h|⟨l',h0,_⟩
  ·exact h
  rw[hs.ls.2.1 i zE]at h0;cases h0)
 have oJ:ak w1 γ1 (first++[.yld i]++cap) (fa.toList++[.func (.yield l) #[] #[]]++ca.toList):=((r1.aU eZ).append (ak.cons (.yld V5) ak.nil)).append (r2.aU eZ)
 have awO:cS γ1 w1 s.m.bK:=by
  refine⟨fun j=>?_,fun j hj=>?_,fun j j' l' h1 h2=>?_,fun j l' h1=>?_⟩
  ·by_cases hj:j=i
   ·subst hj;exact .inr ⟨l,V5,V4,_,ow,by simp[AM.bK,uu,dD,JT]⟩
   rcases V3.1 j with h|⟨l',h0,h1,r',h2,h3⟩
   ·exact .inl (by simp[AM.bK,uu,dD,hj,h])
   exact .inr ⟨l',by simp[γ1,G.dO,hj,h0],h1,r',h2,by simpa[AM.bK,uu,dD,hj]using h3⟩
  ·have Nt:i+1<=j:=by simpa[AM.bK,dD]using hj
   have:j≠i:=zE
   simp[γ1,G.dO,this,V3.2.1 j zE]
  ·by_cases hj:j=i<;>by_cases Nt:j'=i
   ·rw[hj,Nt]
   ·simp[γ1,G.dO,hj]at h1;simp[γ1,G.dO,Nt]at h2;subst h1;exact absurd h2 (PO j')
   ·simp[γ1,G.dO,hj]at h1;simp[γ1,G.dO,Nt]at h2;subst h2;exact absurd h1 (PO j)
   simp[γ1,G.dO,hj]at h1;simp[γ1,G.dO,Nt]at h2;exact V3.2.2.1 j j' l' h1 h2
  by_cases hj:j=i
  ·simp[γ1,G.dO,hj]at h1;subst h1;exact⟨V4,_,ow⟩
  simp[γ1,G.dO,hj]at h1;exact V3.2.2.2 j l' h1
 refine⟨l,mark,w1,{target:=.fn (.func f) ca,args:=fa++#[.func (.yield l) #[] #[]]},w1,f,(fa.toList++[Value.func (.yield l) #[] #[]]++ca.toList).toArray,w1,he,?_,fun _ _=>trivial,?_,fun h=>by simp[FW,Fence.wide]at h,?_⟩
 ·have hc:a.eval (.const (.func (.yield l) #[] #[]))=.func (.yield l) #[] #[]:=rfl;simp[resolve,hv,hc,Deferred.ofValue,rangeCall]
 ·simp[invoke,Qea hE.1]
 have V6:=hE.2 N w0 an γ1 w1 _ tI awO (fun g=>(hs.g g).aU eZ.cT) ?_ oJ
 ·refine CallsIn.mono (F:=FW r) (n:=0) (show CallsIn (FW r) 0 P f _ w1 _ from V6) ?_;rintro en w3 ⟨v,γ3,r',m',rfl,g1,g2,g3,g4,g5⟩;have awP:=(g1.sp l V4).1
  have fin:∀(PU:Loop)(pd:Option Code),w3.heap[l]?=some (.loop PU)->(∀ex,ex=Exit.normal/\pd=none\/pd=qO ex/\pd.isSome=true->PU.state≠.busy->PU.pending=pd->Q ex ⟨s.T,m'.at_ i .gone⟩->rangePost (FW r) 0 P l (lift N w0 r an S P gl Y Q) {a with defers:=mark++a.defers} (.returned v) w3):=by
   intro PU pd ary ex hex Fs hpd hQ;obtain⟨hm4,arz⟩:=oV g2 awP ary .exhausted PU.pending;refine⟨PU.pending,_,run_endLoop ary Fs,?_⟩;have bT:eC w γ (w3.putObj l (.loop {PU with state:=.exhausted})) γ3:=(eZ.trans g1).trans arz
   have zw:eu N w0 r an S P gl Y γ3 (w3.putObj l (.loop {PU with state:=.exhausted})) ⟨s.T,m'.at_ i .gone⟩ {a with defers:=mark++a.defers}:=by
    have ad0:=g1.lp i l V5;refine⟨hm4,?_,hs.rd.aU bT,hs.t.aU bT,hd1.aU (g1.trans arz),fun g=>(hs.g g).aU bT.cT,hs.y.mono bT,hs.e.trans bT⟩;refine⟨fun j=>?_,g3.2.1,g3.2.2.1,fun j l' eV=>?_⟩
    rotate_left
    ·obtain⟨q1,r,q2⟩:=g3.2.2.2 j l' eV;by_cases Ee:l'=l
     ·subst Ee;exact⟨q1,_,World.putObj_heap_same (aR q2)⟩
     exact⟨q1,r,(World.putObj_heap_other Ee).trans q2⟩
    by_cases hj:j=i
    ·exact .inl (by simp[AM.at_,uu,hj])
    rcases g3.1 j with h|⟨l',h0,h1,r',h2,h3⟩
    ·exact .inl (by simp[AM.at_,uu,hj,h])
    have eV:l'≠l:=by rintro rfl;exact hj (g3.2.2.1 _ _ _ h0 ad0)
    exact .inr ⟨l',h0,h1,r',(World.putObj_heap_other eV).trans h2,by simpa[AM.at_,uu,hj]using h3⟩
   generalize w3.putObj l (.loop {PU with state:=.exhausted})=w4 at zw;rw[hpd];obtain⟨rfl,rfl⟩|⟨hex,V7⟩:=hex
   ·exact⟨γ3,_,zw,hQ⟩
   cases ex with
   |ret=>simp only[qO]at hex;subst hex;exact wpIn_ret ⟨γ3,_,zw,hQ⟩
   |exit id=>simp only[qO]at hex;subst hex;exact wpIn_exit ⟨γ3,_,zw,hQ⟩
   |_=>simp only[qO]at hex;subst hex;cases V7
  have hl3:=g3.1 i;have ad0:=g1.lp i l V5;cases bY:m'.st i with
  |gone=>rw[bY]at g5;exact g5.elim
  |busy=>rw[bY]at g5;exact g5.elim
  |ready=>
   rw[bY]at g5 hl3;obtain hl3|⟨l',q0,_,PU,q1,q2⟩:=hl3
   ·cases hl3
   obtain rfl:l'=l:=Option.some.inj (q0.symm.trans ad0);exact fin PU none q1 .normal (.inl ⟨rfl,rfl⟩) (by rw[q2.1];simp) q2.2 g5
  |done ex=>
   rw[bY]at g5 hl3;obtain hl3|⟨l',q0,_,PU,q1,q2⟩:=hl3
   ·cases hl3
   obtain rfl:l'=l:=Option.some.inj (q0.symm.trans ad0);exact fin PU _ q1 ex (.inr ⟨rfl,q2.2.2⟩) (by rw[q2.1];simp) q2.2.1 g5
 intro γ' w' V9 i' args m K vs fE arA mY hY l' ad1;unfold Yin at hY;split at hY
 case isFalse=>exact hs.y γ' w' (eZ.trans V9) i' args m K vs fE arA mY hY l' ad1
 rename_i di;subst di;obtain rfl:l'=l:=Option.some.inj (ad1.symm.trans (V9.lp _ _ V5));obtain⟨iC,aH,hY⟩:=hY
 have NJ:∃st pd,w'.heap[l']?=some (.loop {state:=st,pending:=pd,fn,tmps:=a.tmps,params:=ps,assign:=gY,body,defers:=rc}):=by
  rcases(V9.sp l' V4).2 with h|⟨r0,st,pd,h,h'⟩
  ·rw[ow]at h;exact⟨_,_,h⟩
  rw[ow]at h;cases h;exact⟨st,pd,h'⟩
 obtain⟨st,pd,NJ⟩:=NJ;have aln:=(V9.sp l' V4).1;have alo:=eZ.trans V9;have hps:vs.toArray.size=ps.size:=by have:=mY.1;simp at this aH |-;omega
 refine⟨fn,_,gY,body,run_yield NJ hps,roundIn_of_wpIn (F:=FW none) trivial ?_⟩
 have arB:eu N w0 (some l') an (γ',w') P gl Y γ' w' ⟨Qaq s.T ps.toList args,m⟩ {tmps:=(ps.zip vs.toArray).foldl (fun(tmps:P1)(p:Nat×Value)=>tmps.setIfInBounds p.1 p.2) a.tmps,defers:=[]}:=by
  refine⟨fE,arA,fun l hl=>?_,?_,⟨zzab _,fun x hx=>(by cases hx),List.Pairwise.nil⟩,fun g=>(hs.g g).aU alo.cT,hs.y.mono alo,(Ev.refl w' γ').cG⟩
  ·cases hl;exact⟨aln,_,NJ⟩
  have:=Fo ps.toList args vs s.T a.tmps aH mY (hs.t.aU alo);simpa using this
 refine wpIn_mono (ihA l' (γ',w') γ' w' _ _ _ hY arB) ?_;rintro ex a2 w2 ⟨γ2,s2,PV,hq2⟩;cases ex with
 |normal=>
  obtain⟨awQ,hq2⟩:=hq2;have CN:=PV.ls.1 i';rw[awQ]at CN;have arC:=PV.e.lp _ _ ad1;obtain CN|⟨l2,q0,hsp2,rc2,q1,q2⟩:=CN
  ·cases CN
  obtain rfl:l'=l2:=Option.some.inj (arC.symm.trans q0);obtain⟨hm3,PW⟩:=oV PV.m hsp2 q1 .busy rc2.pending;refine⟨_,run_beginRound q1 q2.1,?_⟩
  have arD:eu N w0 (some l') an (γ',w') P gl Y γ2 (w2.putObj l' (.loop {rc2 with state:=.busy})) ⟨s2.T,s2.m.at_ i' .busy⟩ a2:=
   ⟨hm3,PV.ls.put arC hsp2 (aR q1) rfl,PV.rd.aU PW,PV.t.aU PW,PV.d.aU PW,fun g=>(PV.g g).aU PW.cT,PV.y.mono PW,PV.e.trans PW⟩
  refine wpIn_mono (ihB l' (γ',w') γ2 _ _ _ _ hq2 arD) ?_;rintro ex a4 w4 ⟨γ4,s4,hs4,hq4⟩;obtain⟨PX,rc4,q4⟩:=hs4.rd _ rfl;have alp:=hs4.e.lp _ _ ad1;cases ex with
  |normal=>
   obtain⟨hm5,Wa⟩:=oV hs4.m PX q4 .ready none;exact⟨_,_,run_endRound none q4,true,γ4,s4.m.at_ i' .ready,rfl,hs4.e.trans Wa,hm5,hs4.ls.put alp PX (aR q4) ⟨rfl,rfl⟩,hq4⟩
  |ret=>
   obtain⟨hm5,Wa⟩:=oV hs4.m PX q4 .done (some .ret);exact⟨_,_,run_endRound (some .ret) q4,false,γ4,s4.m.at_ i' (.done .ret),rfl,hs4.e.trans Wa,hm5,hs4.ls.put alp PX (aR q4) ⟨rfl,rfl,rfl⟩,hq4⟩
  |exit id=>
   obtain⟨hm5,Wa⟩:=oV hs4.m PX q4 .done (some (.exit id));exact⟨_,_,run_endRound (some (.exit id)) q4,false,γ4,s4.m.at_ i' (.done (.exit id)),rfl,hs4.e.trans Wa,hm5,hs4.ls.put alp PX (aR q4) ⟨rfl,rfl,rfl⟩,hq4⟩
  |_=>exact hq4.elim
 |_=>exact hq2.elim
def Ji:∀(c:Code)(r:Option Nat)(S:G×World)(γ:G)(w:World)(s:AS)(a:Act)(Q:R0),vc P gl orc Y (Yl P c) s Q->eu N w0 r an S P gl Y γ w s a->c.wpIn (FW r) 0 P (lift N w0 r an S P gl Y Q) a w
 |.skip,r,S,γ,w,s,a,Q,h,hs=>wpIn_skip ⟨γ,s,hs,h⟩
 |.label _,r,S,γ,w,s,a,Q,h,hs=>wpIn_label ⟨γ,s,hs,h⟩
 |.region id ops false,r,S,γ,w,s,a,Q,h,hs=>by
  refine wpIn_region ?_;have:=sr (P:=P) (orc:=orc) (ops:=ops) (Q:=lift N w0 r an S P gl Y Q) (K:=Q .normal) (fun γ w s a hK hs=>⟨γ,s,hs,hK⟩) ops.size 0 γ w s a zd (by simpa[Yl,vc]using h) hs;rwa [zzfo]
 |.region id ops true,r,S,γ,w,s,a,Q,h,hs=>by
  simp only[Yl]at h;split at h
  case isFalse=>exact h.elim
  rename_i hc;simp only[zzac]at hc;split at h
  ·rename_i j hj;obtain h|⟨ms,h⟩|⟨hb,ms,R,hR,h⟩|⟨ms,R,Vs,hR,h⟩|⟨ms,h⟩:=h
   ·exact wpIn_region_any hc.1 (we (Q:=lift N w0 r an S P gl Y Q) (K:=Q .normal) (fun γ w s a hK hs=>⟨γ,s,hs,hK⟩) hc.2 h hs)
   ·exact wpIn_region_any hc.1 (sv (Q:=lift N w0 r an S P gl Y Q) (K:=Q .normal) (fun γ w s a hK hs=>⟨γ,s,hs,hK⟩) hc.2 hj (jc _ _ _ _ (Qbk hc.2) (ND _ _ _ _ h)) hs)
   ·exact wpIn_region_any hc.1 (Fh (Q:=lift N w0 r an S P gl Y Q) (K:=Q .normal) (fun γ w s a hK hs=>⟨γ,s,hs,hK⟩) hc.2 hj (alm hc.2 hb) hR (fun x hx=>jd _ _ _ _ (Qbk hc.2) (h x hx)) hs)
   ·exact wpIn_region_any hc.1 (Fj (Q:=lift N w0 r an S P gl Y Q) (K:=Q .normal) (fun γ w s a hK hs=>⟨γ,s,hs,hK⟩) hc.2 hj hR (fun x hx=>jd _ _ _ _ (Qbk hc.2) (h x hx).1) (fun x hx=>(Jp P gl orc (Qbk hc.2)).symm.trans (h x hx).2) hs)
   exact wpIn_region_any hc.1 (sv (Q:=lift N w0 r an S P gl Y Q) (K:=Q .normal) (fun γ w s a hK hs=>⟨γ,s,hs,hK⟩) hc.2 hj (jc _ _ _ _ (Qbk hc.2) h) hs)
  split at h
  ·rename_i js jp z t hz;obtain⟨hY,hT,ms,h⟩:=h;exact wpIn_region_any hc.1 (Fl (Q:=lift N w0 r an S P gl Y Q) (K:=Q .normal) (fun γ w s a hK hs=>⟨γ,s,hs,hK⟩) hc.2 hz hY h hT hs)
  exact wpIn_region_any hc.1 (we (Q:=lift N w0 r an S P gl Y Q) (K:=Q .normal) (fun γ w s a hK hs=>⟨γ,s,hs,hK⟩) hc.2 h hs)
 |.seq x y,r,S,γ,w,s,a,Q,h,hs=>by
  refine wpIn_seq (wpIn_mono (Ji x r S γ w s a _ h hs) ?_);rintro ex a' w' ⟨γ',s',dK,h'⟩;cases ex with
  |normal=>exact Ji y r S γ' w' s' a' Q h' dK
  |_=>exact⟨γ',s',dK,h'⟩
 |.cond c x y,r,S,γ,w,s,a,Q,h,hs=>by
  simp only[Yl,vc]at h;have hr:=hs.ev c;split at h
  case h_2=>exact h.elim
  rename_i t ht;rw[ht]at hr;exact wpIn_cond_split hr.bu (fun e=>Ji x r S γ w s a Q (h.1 e) hs) fun e=>Ji y r S γ w s a Q (h.2 e) hs
 |.block id c,r,S,γ,w,s,a,Q,h,hs=>by
  refine wpIn_block (wpIn_mono (Ji c r S γ w s a _ h hs) ?_);rintro ex a' w' ⟨γ',s',dK,h'⟩;cases ex with
  |exit id'=>
   simp only[Exit.inBlock,nx]at h' |-
   split
   ·rename_i aL;rw[if_pos aL]at h';exact⟨γ',s',dK,h'⟩
   rename_i aL;rw[if_neg aL]at h';exact⟨γ',s',dK,h'⟩
  |_=>exact⟨γ',s',dK,h'⟩
 |.loop c,r,S,γ,w,s,a,Q,h,hs=>by
  obtain⟨I,μ,h0,mY⟩:=h;intro b k cs fV hb hr
  have key:∀j γ w s a,μ s=j->I s->eu N w0 r an S P gl Y γ w s a->∃e a' w',lift N w0 r an S P gl Y Q e a' w'/\ArrivesIn (Machine.fenced P (FW r)) P (lone (b.atR a (.code c::.inLoop c::k)) cs w) b k cs e a' w':=by
   intro j;induction j using Nat.strongRecOn with
   |_ j ih=>
    intro γ w s a hn hI hs;obtain⟨e,a₁,w₁,⟨γ₁,s₁,hs₁,hq⟩,eY⟩:=Ji c r S γ w s a _ (mY s hI) hs b (.inLoop c::k) cs fV hb hr;cases e with
    |normal=>
     obtain⟨hI₁,ai⟩:=hq;obtain⟨e₂,a₂,w₂,hq₂,arE⟩:=ih (μ s₁) (hn ▸ ai) γ₁ w₁ s₁ a₁ rfl hI₁ hs₁;exact⟨e₂,a₂,w₂,hq₂,.of_steps (StepsIn.trans eY (.one (fenced_calm hb hr rfl) stepR_inLoop)) arE⟩
    |exit id=>exact⟨_,a₁,w₁,⟨γ₁,s₁,hs₁,hq⟩,.pass (x:=.inLoop c) rfl (fun _ _=>.inl zd) eY⟩
    |goto l=>exact⟨_,a₁,w₁,⟨γ₁,s₁,hs₁,hq⟩,.pass (x:=.inLoop c) rfl (fun _ _=>.inl zd) eY⟩
    |ret=>exact⟨_,a₁,w₁,⟨γ₁,s₁,hs₁,hq⟩,.pass (x:=.inLoop c) rfl (fun _ _=>.inl zd) eY⟩
    |panic ch=>exact⟨_,a₁,w₁,⟨γ₁,s₁,hs₁,hq⟩,.pass (x:=.inLoop c) rfl (fun _ _=>.inl zd) eY⟩
    |outgrown=>exact⟨_,a₁,w₁,⟨γ₁,s₁,hs₁,hq⟩,.pass (x:=.inLoop c) rfl (fun _ _=>.inl zd) eY⟩
  obtain⟨e,a',w',hq,eY⟩:=key _ γ w s a rfl h0 hs;exact⟨e,a',w',hq,.of_steps (.one (fenced_calm hb hr rfl) stepR_loop) eY⟩
 |.exit id,r,S,γ,w,s,a,Q,h,hs=>wpIn_exit ⟨γ,s,hs,h⟩
 |.ret,r,S,γ,w,s,a,Q,h,hs=>wpIn_ret ⟨γ,s,hs,h⟩
 |.scope c,r,S,γ,w,s,a,Q,h,hs=>by
  refine lJ (wpIn_mono (Ji c r S γ w s a _ h hs) ?_);rintro ex a' w' ⟨γ',s',dK,h'⟩;cases ex with
  |goto l=>exact h'.elim
  |_=>exact⟨γ',s',dK,h'⟩
 |.rangeFunc g ps gY body,r,S,γ,w,s,a,Q,h,hs=>Fq (fun l S γ w s a Q h hs=>Ji gY (some l) S γ w s a Q h hs) (fun l S γ w s a Q h hs=>Ji body (some l) S γ w s a Q h hs) h hs
 |.goto l,r,S,γ,w,s,a,Q,h,hs=>h.elim
 |.refuse why,r,S,γ,w,s,a,Q,h,hs=>h.elim
end
open Go Go.RowKit
section
variable {N:Nat} {w0:eN} {an:Nat->Nat->Prop} {γ:G} {w:World} {B:Nat->PH} {L:Nat->Option Nat} {P:Program} {gl:Nat->AV} {orc:UV} {e:bE->AV} {m:AM}
def Wb(P:Program)(t:TypeId)(x:bE):aF:=
 (match P.info? t,P.underlying t with|some i,some _=>if Kj P t then .load true i.size x else .load false 1 x|_,_=>.bad)
def Wc(hm:au N w0 an γ w B L)(hB:∀id cells,m.boxes[id]?=some cells->B id=some cells){t:TypeId}{x:bE}{v0:Value}(h1:aA w γ (e x) v0)
  (hc:(rop P gl orc e m none (Wb P t x)).1):∃b o v,v0=.pointer (some ⟨b,o,none⟩)/\(loadVar t ⟨b,o,none⟩).run P w=.ok v w/\aA w γ (rop P gl orc e m none (Wb P t x)).2 v:=by
 unfold Wb at hc |-
 split at hc
 case h_2=>exact hc.elim
 rename_i i d hi hd
 have main:∀(agg:Bool)(n:Nat),Kj P t=agg->(agg=true->n=i.size)->(rop P gl orc e m none (.load agg n x)).1->
   ∃b o v,v0=.pointer (some ⟨b,o,none⟩)/\(loadVar t ⟨b,o,none⟩).run P w=.ok v w/\aA w γ (rop P gl orc e m none (.load agg n x)).2 v:=by
  intro agg n bJ hn hc
  have conv:∀b o v,(Instr.loadAt t (.pointer (some ⟨b,o,none⟩))).run P w=.ok v w->(loadVar t ⟨b,o,none⟩).run P w=.ok v w:=fun b o v h=>by
   simpa[Instr.loadAt,Instr.sureAddr]using h
  simp only[rop]at hc |-
  split at hc
  ·rename_i id o' he;try simp only[he]
   rw[he]at h1;obtain⟨b,hb,hv⟩:=h1.dJ;cases gI:m.boxes[id]? with
   |none=>
    have e0:m.boxes.getD id []=[]:=by simp[List.getD,gI]
    rw[e0]at hc |-
    obtain⟨v,h2,h3⟩:=Qdn (P:=P) (w:=w) (γ:=γ) (b:=b) (o:=o') (cv:=fun _=>undef) hi hd bJ hn (fun j c hj=>by simp at hj) (fun j c hj=>by simp at hj) hc;exact⟨b,o',v,hv,conv _ _ _ h2,h3⟩
   |some cells=>
    have e0:m.boxes.getD id []=cells:=by simp[List.getD,gI]
    rw[e0]at hc |-
    obtain⟨arr,te,g2,g3,g4⟩:=hm.box id cells b (hB id cells gI) hb
    have cp:∀(j:Nat)(c:AV),(cells.drop o')[j]?=some c->arr[o'+j]?=some (arr.getD (o'+j) undef)/\aA w γ c (arr.getD (o'+j) undef):=fun j c hj=>by
     rw[zzbl]at hj
     have ai:o'+j<arr.size:=by
      have:=(zza.1 hj).1;have h0:=g3.1;simp at h0;omega
     have hu:arr[o'+j]?=some (arr.getD (o'+j) undef):=by simp[ai]
     exact⟨hu,g3.2 _ _ _ hj (Nm hu)⟩
    obtain⟨v,h2,h3⟩:=Qdn (P:=P) (w:=w) (γ:=γ) (b:=b) (o:=o') (cv:=fun j=>arr.getD (o'+j) undef) hi hd bJ hn (fun j c hj=>by rw[aN g2];exact(cp j c hj).1) (fun j c hj=>(cp j c hj).2) hc;exact⟨b,o',v,hv,conv _ _ _ h2,h3⟩
  ·rename_i row o' he;try simp only[he]
   rw[he]at h1;obtain⟨b,off,cv,hv,hb,bL,zi⟩:=h1.iO;have cp:∀(j:Nat)(c:AV),(row.drop o')[j]?=some c->row[o'+j]?=some c:=fun j c hj=>by rw[zzbl]at hj;exact hj
   obtain⟨v,h2,h3⟩:=Qdn (P:=P) (w:=w) (γ:=γ) (b:=b) (o:=off+o') (cv:=fun j=>cv (o'+j)) hi hd bJ hn
    (fun j c hj=>by rw[zzan];exact(bL _ _ (cp j c hj)).1) (fun j c hj=>(zi _ _ (cp j c hj)).gh) hc
   exact⟨b,off+o',v,hv,conv _ _ _ h2,h3⟩
  exact hc.elim
 cases bJ:Kj P t with
 |true=>simp only[bJ,if_true]at hc |-;exact main true _ bJ (fun _=>rfl) hc
 |false=>simp only[bJ]at hc |-;exact main false 1 bJ (fun h=>by cases h) hc
end
def fI(P:Program)(rs:List ResultVar):List aF:=rs.map fun
 |.tmp t=>.mv (.tmp t)
 |.cell a t=>Wb P t (.tmp a)
def Jq(P:Program)(gl:Nat->AV)(orc:UV)(s:AS):List aF->Prop×P2
 |[]=>(True,[])
 |o::r=>((rop P gl orc (ev gl s.T) s.m none o).1/\(Jq P gl orc s r).1,(rop P gl orc (ev gl s.T) s.m none o).2::(Jq P gl orc s r).2)
def oneOf:P2->AV
 |[a]=>a
 |l=>.aS l
section
variable {N:Nat} {w0:eN} {r:Option Nat} {an:Nat->Nat->Prop} {S:G×World} {Y:YT} {γ:G} {w:World} {P:Program} {gl:Nat->AV} {orc:UV} {s:AS} {a:Act}
def NK(hs:eu N w0 r an S P gl Y γ w s a):∀(rs:List ResultVar),(Jq P gl orc s (fI P rs)).1->
  ∃vs:PQ,(rs.mapM fun(r:ResultVar)=>(match r with|.tmp t=>pure (a.tmps.getD t undef)|.cell x t=>do loadVar t (<- asAddr (a.tmps.getD x undef)):Sem Value)).run P w=.ok vs w/\
   ak w γ (Jq P gl orc s (fI P rs)).2 vs
 |[],_=>⟨[],zd,ak.nil⟩
 |r::rs,hc=>by
  obtain⟨h1,h2⟩:=hc;obtain⟨vs,g1,g2⟩:=NK hs rs h2
  have key:∃v,(match r with|.tmp t=>pure (a.tmps.getD t undef)|.cell x t=>do loadVar t (<- asAddr (a.tmps.getD x undef)):Sem Value).run P w=.ok v w/\
    aA w γ (rop P gl orc (ev gl s.T) s.m none ((fun(r:ResultVar)=>match r with|.tmp t=>aF.mv (.tmp t)|.cell a t=>Wb P t (.tmp a)) r)).2 v:=by
   cases r with
   |tmp t=>exact⟨a.tmps.getD t undef,zd,hs.ev (.tmp t)⟩
   |cell x t=>
    obtain⟨b,o,v,e1,e2,e3⟩:=Wc (P:=P) (gl:=gl) (orc:=orc) (e:=ev gl s.T) (m:=s.m) hs.m (fun _ _ h=>h) (t:=t) (x:=.tmp x) (v0:=a.tmps.getD x undef) (hs.ev (.tmp x)) h1;refine⟨v,?_,e3⟩;simp only[e1,Sem.run_bind,asAddr,Sem.run_pure,Result.andThen_ok,e2]
  obtain⟨v,k1,k2⟩:=key;refine⟨v::vs,?_,ak.cons k2 g2⟩;simp only[zzha,Sem.run_bind,k1,Result.andThen_ok,g1,Sem.run_pure]
def Ft(hs:eu N w0 r an S P gl Y γ w s a){fn:Func}(hc:(Jq P gl orc s (fI P fn.results.toList)).1):∃v,(results fn a.tmps).run P w=.ok v w/\aA w γ (oneOf (Jq P gl orc s (fI P fn.results.toList)).2) v:=by
 obtain⟨vs,h1,h2⟩:=NK (P:=P) (orc:=orc) hs fn.results.toList hc
 have aZ:(results fn a.tmps).run P w=.ok (if h:vs.toArray.size=1 then vs.toArray[0]else .tuple vs.toArray) w:=by
  simp only[results,Sem.run_bind,Array.mapM_eq_mapM_toList,Sem.run_map];exact congrArg (fun(z:Result (PQ))=>(z.andThen fun a w'=>Result.ok a.toArray w').andThen fun(a:P1)w'=>Sem.run P (pure (if h:a.size=1 then a[0]else Value.tuple a):Sem Value) w') h1
 refine⟨_,aZ,?_⟩;generalize(Jq P gl orc s (fI P fn.results.toList)).2=as' at h2
 match as',vs,h2 with
 |[],[],h2=>exact .aS rfl fun i c v h=>by simp at h
 |[],_::_,h2=>have:=h2.1;simp at this
 |_::_,[],h2=>have:=h2.1;simp at this
 |[x],[v],h2=>exact h2.2 0 x v rfl rfl
 |[x],_::_::_,h2=>have:=h2.1;simp at this
 |_::_::_,[v],h2=>have:=h2.1;simp at this
 |x::y::as',v::u::vs,h2=>
  simp only[oneOf];rw[dif_neg zd];exact .aS (Nm h2.1) fun i c v' g1 g2=>h2.2 i c v' g1 (Nm g2)
def post(P:Program)(gl:Nat->AV)(orc:UV)(rs:List aF)(r:AV):R0
 |.normal,s=>(Jq P gl orc s rs).1/\bz s.m 6 (oneOf (Jq P gl orc s rs).2)=r
 |.ret,s=>(Jq P gl orc s rs).1/\bz s.m 6 (oneOf (Jq P gl orc s rs).2)=r
 |_,_=>False
def wD(P:Program)(gl:Nat->AV)(orc:UV)(rs:List aF)(K:So):R0
 |.normal,s=>(Jq P gl orc s rs).1/\K (oneOf (Jq P gl orc s rs).2) s.m
 |.ret,s=>(Jq P gl orc s rs).1/\K (oneOf (Jq P gl orc s rs).2) s.m
 |_,_=>False
def Y0:YT:=fun _ _ _ _=>False
def eu.y0(h:eu N w0 r an S P gl Y γ w s a):eu N w0 r an S P gl Y0 γ w s a:=⟨h.m,h.ls,h.rd,h.t,h.d,h.g,fun _ _ _ _ _ _ _ _ _ _ _ hY _ _=>hY.elim,h.e⟩
def sy{fn:Func}{R:Ending->World->Prop}(hS:∀b,S.1.sp b->b<S.2.heap.size):∀(ds:List Deferred)(γ:G)(w:World)(s:AS)(a:Act),a.defers=ds->eu N w0 none an S P gl Y0 γ w s a->
  (Jq P gl orc s (fI P fn.results.toList)).1->
  (∀v w' γ',eC S.2 S.1 w' γ'->au N w0 an γ' w' s.m.B s.m.L->cS γ' w' s.m->aA w' γ' (oneOf (Jq P gl orc s (fI P fn.results.toList)).2) v->R (.returned v) w')->LeavesInM (FW none) 0 P fn a.tmps R ds .returning w
 |[],γ,w,s,a,_,hs,h1,hR=>by
  obtain⟨v,g1,g2⟩:=Ft (P:=P) (orc:=orc) hs h1;exact⟨v,g1,hR v w γ hs.e hs.m hs.ls g2⟩
 |d::ds,γ,w,s,a,hd,hs,hc,hR=>by
  obtain⟨D,e1,e0,e2,e3⟩:=hs.d.2.1 d (by rw[hd];simp);refine⟨zd,.inl ⟨D,w.putObj D (.deferred none),e1,run_takeDeferred e3,?_⟩⟩;have hDS:¬S.1.sp D:=fun h=>by have:=hS D h;omega
  obtain⟨fE,bT,awR⟩:=hs.m.aix e2 (o:=.deferred none) e3 (fun _ _ _ h=>by cases h) (fun _ _ _ h=>by cases h) (γ':={γ with sp:=fun b=>γ.sp b/\b≠D}) (.inr rfl) (fun h=>by
   have:=congrFun (congrArg G.sp h) D;simp[e2]at this)
  have Wf:=hs.d.2.2;rw[hd,zzby]at Wf;refine sy hS ds {γ with sp:=fun b=>γ.sp b/\b≠D} (w.putObj D (.deferred none)) s {a with defers:=ds} rfl ⟨fE,⟨fun i=>?_,hs.ls.2.1,hs.ls.2.2.1,fun i l hl=>?_⟩,fun l h=>(by cases h),hs.t.eM bT,⟨Nm hs.d.1,fun x hx=>?_,Wf.2⟩,fun g=>(hs.g g).eM bT.cT,fun _ _ _ _ _ _ _ _ _ _ _ hY _ _=>hY.elim,awR _ _ hs.e (.inr hDS)⟩ hc hR
  ·rcases hs.ls.1 i with h|⟨l,h0,h1,rc,h2,h3⟩
   ·exact .inl h
   have aO:l≠D:=by rintro rfl;rw[e3]at h2;cases h2
   exact .inr ⟨l,h0,⟨h1,aO⟩,rc,(World.putObj_heap_other aO).trans h2,h3⟩
  ·obtain⟨h1,rc,h2⟩:=hs.ls.2.2.2 i l hl;have aO:l≠D:=by rintro rfl;rw[e3]at h2;cases h2
   exact⟨⟨h1,aO⟩,rc,(World.putObj_heap_other aO).trans h2⟩
  obtain⟨D',q1,q0,q2,q3⟩:=hs.d.2.1 x (by rw[hd];simp[hx]);have aO:D'≠D:=by rintro rfl;exact Wf.1 x hx D' e1 q1
  exact⟨D',q1,q0,⟨q2,aO⟩,(World.putObj_heap_other aO).trans q3⟩
def ad2(w0:World):eN where
 p γ w:=Below w0.heap.size w0 w/\∀b,OI γ b->w0.heap.size<=b
 st γ w γ' w' h hc:=by
  refine⟨h.1.trans ⟨hc.os,hc.tape,hc.output,hc.size,fun b hb=>hc.same b (zzba hb h.1.size) fun ho=>?_⟩,fun b hb=>?_⟩
  ·have:=h.2 b ho;omega
  rcases hc.oi b hb with hb|hb
  ·exact h.2 b hb
  exact zzbd h.1.size hb
def PY{as':P2}{vs:PQ}{k:Nat}(h:ak w γ as' vs):ak w γ (as'++List.replicate (k-as'.length) .junk) (vs.toArray++Array.replicate (k-vs.toArray.size) undef).toList:=by
 have aH:=h.1
 have h2:ak w γ (List.replicate (k-as'.length) .junk) (List.replicate (k-vs.length) undef):=⟨by simp[aH],fun i x v hx _=>by
  rw[zzcm]at hx;split at hx
  ·cases hx;exact .junk _
  cases hx⟩
 simpa using h.append h2
def cZ(P:Program)(f:FuncId)(sc:SC)(rs:List aF)(n:Nat):Prop:=
 ∃fn c,P.funcs[f]?=some fn/\fn.body=some c/\(fn.name== "runtime.NumGoroutine")=false/\Yl P c=sc/\fI P fn.results.toList=rs/\fn.ntmps=n
def fco{P:Program}{f:FuncId}{fn:Func}{c:Code}{sc:SC}{rs:List aF}{n:Nat}(h:P.funcs[f]?=some fn)(hb:fn.body=some c)(hk:((fn.name== "runtime.NumGoroutine"),Yl P c,fI P fn.results.toList,fn.ntmps)=(false,sc,rs,n)):cZ P f sc rs n:=by
 obtain⟨h1,h2⟩:=Prod.mk.inj hk;obtain⟨h2,h3⟩:=Prod.mk.inj h2;obtain⟨h3,h4⟩:=Prod.mk.inj h3;exact⟨fn,c,h,hb,h1,h2,h3,h4⟩
def aK{P:Program}{f:FuncId}{fn:Func}{c:Code}{sc:SC}{rs:List aF}{n:Nat}(h:P.funcs[f]?=some fn)(hb:fn.body=some c:=by rfl)(hk:((fn.name== "runtime.NumGoroutine"),Yl P c,fI P fn.results.toList,fn.ntmps)=(false,sc,rs,n):=by kernel_rfl):cZ P f sc rs n:=fco h hb hk
def alq{f:FuncId}{sc:SC}{rs:List aF}{n:Nat}(hc:cZ P f sc rs n)(orc:UV){as':P2}{m:AM}{K:So}
  (h:vc P gl orc Y sc ⟨as'++List.replicate (n-as'.length) .junk,m⟩ (wD P gl orc rs K)){vs:PQ}(hm:au N w0 an γ w m.B m.L)(hl:cS γ w m)(hg:∀g,aA w γ.cT (gl g) (.pointer (some ⟨g,0,none⟩)))
  (hy:YOK N w0 an P Y γ w)(hr:ak w γ as' vs):
  CallsIn (FW none) 0 P f vs.toArray w fun e w'=>∃v γ' r m',e=.returned v/\eC w γ w' γ'/\au N w0 an γ' w' m'.B m'.L/\cS γ' w' m'/\aA w' γ' r v/\K r m':=by
 obtain⟨fn,c,hf,hb,aiz,rfl,rfl,rfl⟩:=hc;refine callsIn_of_wp_marks (F:=FW none) hf hb trivial ?_
 have hs:eu N w0 none an (γ,w) P gl Y γ w ⟨as'++List.replicate (fn.ntmps-as'.length) .junk,m⟩ {tmps:=vs.toArray++Array.replicate (fn.ntmps-vs.toArray.size) undef,defers:=[]}:=
  ⟨hm,hl,fun l h=>(by cases h),PY hr,⟨zzab _,fun x hx=>(by cases hx),List.Pairwise.nil⟩,hg,hy,(Ev.refl w γ).cG⟩
 refine wpIn_mono (Ji c none (γ,w) γ w _ _ _ h hs) ?_
 have fin:∀γ' w' s a,eu N w0 none an (γ,w) P gl Y γ' w' s a->(Jq P gl orc s (fI P fn.results.toList)).1/\K (oneOf (Jq P gl orc s (fI P fn.results.toList)).2) s.m->
   LeavesInM (FW none) 0 P fn a.tmps (fun e w'=>∃v γ' r m',e=.returned v/\eC w γ w' γ'/\au N w0 an γ' w' m'.B m'.L/\cS γ' w' m'/\aA w' γ' r v/\K r m') a.defers .returning w':=
  fun γ' w' s a dK hc=>sy (S:=(γ,w)) (fun b hb=>(hm.sp b hb).2.1) a.defers γ' w' s a rfl dK.y0 hc.1 fun v qG Ea q1 q2 q3 q4=>⟨v,Ea,_,_,rfl,q1,q2,q3,q4,hc.2⟩
 rintro ex a w' ⟨γ',s,dK,h'⟩;cases ex with
 |normal=>exact fin γ' w' s a dK h'
 |ret=>exact fin γ' w' s a dK h'
 |_=>exact h'.elim
def cZ.bw{f:FuncId}{sc:SC}{rs:List aF}{n:Nat}(hc:cZ P f sc rs n):bw P f:=by
 obtain⟨fn,c,hf,hb,aiz,_⟩:=hc;exact⟨fn,hf,by simp[hb],aiz⟩
def J6{f:FuncId}{sc:SC}{rs:List aF}{n:Nat}(hc:cZ P f sc rs n)(orc:UV){as':P2}{m:AM}{K:So}
  (h:vc P gl orc Y sc ⟨as'++List.replicate (n-as'.length) .junk,m⟩ (wD P gl orc rs K)):aB P gl Y f as' m K:=
 ⟨hc.bw,fun _ _ _ _ _ _ hm hl hg hy hr=>alq hc orc h hm hl hg hy hr⟩
def AM.none:AM:=⟨[],[],fun _=>.gone,0⟩
def sA{f:FuncId}{as':P2}{r:AV}(h:aB P gl Y0 f as' ⟨[],[],fun _=>.gone,0⟩ fun x m'=>bz m' 6 x=r):Pure P gl f as' r:=by
 refine⟨h.1,fun ro w vs lE hr=>?_⟩;refine(callsIn_wide (n:=0)).1 ?_
 let γ0:G:=G0 fun b o=>ro b o/\b<w.heap.size
 have bT:Ev w (G0 ro) w γ0:=⟨zzab _,fun b o hb h=>⟨⟨h,hb⟩,rfl⟩,fun _ _ h=>(by cases h),fun _=>zzab _,fun _ _ h=>(by cases h),rfl,fun _ _ _ h=>(by cases h),fun _ h=>h.elim,Sz.refl w⟩
 have hm:au w.heap.size (ad2 w) ro γ0 w (⟨[],[],fun _=>.gone,0⟩:AM).B (⟨[],[],fun _=>.gone,0⟩:AM).L:=by
  refine⟨⟨Below.refl _ _,fun b hb=>?_⟩,zzab _,fun b o h=>.inl h.1,fun b o h=>h.2,fun id cells b h=>by simp[AM.B]at h,fun id b h=>(by cases h),fun id id' b h=>(by cases h),fun id b h=>(by cases h),fun id id' b h=>(by cases h),fun b h=>h.elim,fun id b h=>(by cases h),fun id id' b h=>(by cases h),fun id n h=>by simp[AM.L]at h,fun _ _=>rfl⟩;obtain⟨_,hb⟩|⟨_,hb⟩|hb|⟨_,hb⟩:=hb
  ·cases hb
  ·cases hb
  ·exact hb.elim
  cases hb
 refine CallsIn.mono (h.2 _ _ _ _ _ _ hm ⟨fun _=>.inl rfl,fun _ _=>rfl,fun _ _ _ h=>(by cases h),fun _ _ h=>(by cases h)⟩ (fun g=>(lE g).mono bT) (fun _ _ _ _ _ _ _ _ _ _ _ hY _ _=>hY.elim) (hr.mono bT)) ?_;rintro e w' ⟨v,γ',x,m',rfl,_,h2,_,h4,h5⟩;refine⟨v,rfl,h2.bs.1,?_⟩;rw[<- h5];exact ko h2 (fun _ _ h=>h) h2.an 6 _ v h4 fun _ id b hb o=>.inr (h2.β id b hb).1
def ad3{f:FuncId}{sc:SC}{rs:List aF}{n:Nat}(hc:cZ P f sc rs n)(orc:UV){as':P2}{r:AV}
  (h:vc P gl orc Y0 sc ⟨as'++List.replicate (n-as'.length) .junk,⟨[],[],fun _=>.gone,0⟩⟩ (post P gl orc rs r)):Pure P gl f as' r:=by
 have arF:post P gl orc rs r=wD P gl orc rs fun x m'=>bz m' 6 x=r:=by
  funext ex s;cases ex<;>rfl
 rw[arF]at h;exact sA (J6 hc orc h)
end
end Go.Abs
