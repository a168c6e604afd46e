import Derived.Test.YthjppoincojfkaaGreatDoorRTMD
import Derived.RangeFuncNested
set_option linter.all false
namespace Go.Abs
open Go Go.RowKit
def Xy(o:Oper):Pa:=(o.after.toList.filter fun e=>Region.binds .any e).map (·.on)
def v7(ops:Array Oper)(i j:Nat):Bool:=
 match ops[i]? with
 |some o=>(Xy o).contains j
 |none=>false
def CD(ops:Array Oper)(i:Nat):Bool:=(List.range i).all fun j=>(List.range (i-j)).any fun d=>v7 ops (i-d) j
def v8(ops:Array Oper):Nat->Nat
 |0=>0
 |k+1=>if CD ops k then v8 ops k else k+1
def SB(ops:Array Oper):Nat:=v8 ops ops.size
def Vx(ops:Array Oper)(i:Nat):Option Nat:=(ops[i]?).bind (·.dst)
def zb(ops:Array Oper)(p:Nat):Bool:=
 decide (p<=ops.size)&&(List.range ops.size).all fun i=>
  match ops[i]? with
  |none=>false
  |some o=>(Xy o).all (fun j=>decide (j<i))&&
   (
    if i<p then
    ((o.looksAt ops).all fun t=>(List.range p).all fun j=>!(Vx ops j==some t)||j==i||(decide (j<i)&&(Xy o).contains j))&&
    ((List.range i).all fun j=>(Vx ops j).isNone||!(Vx ops j==o.dst))
   else CD ops i)
section
variable (P:Program) (gl:Nat->AV) (orc:UV)
def dop(o:SO)(T:P2)(m:AM)(nb:T5):Prop×AV×T5:=
 match o.guard with
 |none=>match o.op with
  |.alloc zs=>(zs.all Qx=true,.ptr (m.boxes.length+nb.length) 0,nb++[zs])
  |.box x=>(bare (ev gl T x)=true/\(cellsOf (ev gl T x)).all Qx=true,.ptr (m.boxes.length+nb.length) 0,nb++[cellsOf (ev gl T x)])
  |.mks sz bytes zs l c=>(match ev gl T l,ev gl T c with
   |.int _ l,.int _ c=>((0<=l/\l<=c/\bytes*c<=281474976710656/\c<=9223372036854775807)/\zs.length=sz/\zs.all Qx=true,.bs (m.boxes.length+nb.length) 0 l.toNat sz,nb++[bF c.toNat zs])
   |_,_=>(False,.junk,nb))
  |op=>((rop P gl orc (ev gl T) m o.dst op).1,(rop P gl orc (ev gl T) m o.dst op).2,nb)
 |some (some t,want)=>match Eh want (T.getD t .junk)with
  |some gw=>(gok gl T gw (gxs o.op o.xs)/\(gw=true->(rop P gl orc (evG gl T o.op) m o.dst o.op).1),.gd gw (rop P gl orc (evG gl T o.op) m o.dst o.op).2,nb)
  |none=>(False,.junk,nb)
 |some (none,_)=>(False,.junk,nb)
def SD(Y:YT)(l2:List SO)(K:AS->Prop):List SO->P2->AM->T5->Prop
 |[],T,m,nb=>Zo P gl orc Y l2 ⟨T,{m with boxes:=m.boxes++nb}⟩ K
 |o::r,T,m,nb=>(dop P gl orc o T m nb).1/\SD Y l2 K r (put T o.dst (dop P gl orc o T m nb).2.1) m (dop P gl orc o T m nb).2.2
def Xg(ops:Array Oper)(T0:P2)(m:AM):Nat->P2×T5
 |0=>(T0,[])
 |k+1=>match ops[k]? with
  |some o=>(put (Xg ops T0 m k).1 o.dst (dop P gl orc (Xl P ops o) (Xg ops T0 m k).1 m (Xg ops T0 m k).2).2.1,(dop P gl orc (Xl P ops o) (Xg ops T0 m k).1 m (Xg ops T0 m k).2).2.2)
  |none=>Xg ops T0 m k
end
section
variable {N:Nat} {w0:eO} {r:Option Nat} {an:Nat->Nat->Prop} {S:G×World} {Y:YT} {P:Program} {gl:Nat->AV} {orc:UV} {ops:Array Oper} {T0:P2} {m:AM} {p:Nat}
def Wi{k:Nat}{o:Oper}(h:ops[k]?=some o):Xg P gl orc ops T0 m (k+1)=
  (put (Xg P gl orc ops T0 m k).1 o.dst (dop P gl orc (Xl P ops o) (Xg P gl orc ops T0 m k).1 m (Xg P gl orc ops T0 m k).2).2.1,(dop P gl orc (Xl P ops o) (Xg P gl orc ops T0 m k).1 m (Xg P gl orc ops T0 m k).2).2.2):=by
 simp only[Xg,h]
def Nz(l2:List SO)(K:AS->Prop)(hp:p<=ops.size):∀(n k:Nat),k+n=p->SD P gl orc Y l2 K (((ops.toList.take p).drop k).map (Xl P ops)) (Xg P gl orc ops T0 m k).1 m (Xg P gl orc ops T0 m k).2->
  (∀i o,k<=i->i<p->ops[i]?=some o->(dop P gl orc (Xl P ops o) (Xg P gl orc ops T0 m i).1 m (Xg P gl orc ops T0 m i).2).1)/\
  Zo P gl orc Y l2 ⟨(Xg P gl orc ops T0 m p).1,{m with boxes:=m.boxes++(Xg P gl orc ops T0 m p).2}⟩ K
 |0,k,hk,h=>by
  obtain rfl:k=p:=zE
  have:(ops.toList.take k).drop k=[]:=zzam (by simp;omega);rw[this]at h;exact⟨fun i o h1 h2=>zE,h⟩
 |n+1,k,hk,h=>by
  have ah:k<ops.size:=zE
  have ho:ops[k]?=some ops[k]:=zzah ah
  have hd:(ops.toList.take p).drop k=ops[k]::(ops.toList.take p).drop (k+1):=by
   rw[zzai (by simp;omega)];simp
  rw[hd,zzar]at h;obtain⟨h1,h2⟩:=h;have V3:=Wi (P:=P) (gl:=gl) (orc:=orc) (T0:=T0) (m:=m) ho;have:=Nz l2 K hp n (k+1) zE (by rw[V3];exact h2);refine⟨fun i o hi dA CE=>?_,this.2⟩;rcases zzaa k i with dP|dP
  ·exact this.1 i o dP dA CE
  obtain rfl:i=k:=zE
  rw[ho]at CE;cases CE;exact h1
def we(T:P2)(d:Option Nat)(x:AV):(put T d x).length=T.length:=by cases d<;>simp[put]
def iU:∀k,(Xg P gl orc ops T0 m k).1.length=T0.length
 |0=>rfl
 |k+1=>by
  cases h:ops[k]? with
  |none=>simp only[Xg,h];exact iU k
  |some o=>rw[Wi h,we];exact iU k
def Qca{T:P2}{d:Option Nat}{x:AV}{t:Nat}(h:d≠some t):(put T d x).getD t .junk=T.getD t .junk:=by
 cases d with
 |none=>rfl
 |some d=>simp only[put,List.getD];rw[zzbo (by rintro rfl;exact h rfl)]
def lP{T:P2}{t:Nat}{x:AV}(h:t<T.length):(put T (some t) x).getD t .junk=x:=by
 simp[put,List.getD,h]
def Qeh{t:Nat}:∀k,(∀j,j<k->Vx ops j≠some t)->(Xg P gl orc ops T0 m k).1.getD t .junk=T0.getD t .junk
 |0,_=>rfl
 |k+1,h=>by
  cases ho:ops[k]? with
  |none=>simp only[Xg,ho];exact Qeh k fun j hj=>h j zE
  |some o=>
   rw[Wi ho,Qca (by have:=h k zE;simpa[Vx,ho]using this)];exact Qeh k fun j hj=>h j zE
def j8{t k:Nat}:∀n,(∀j,k<=j->j<k+n->Vx ops j≠some t)->(Xg P gl orc ops T0 m (k+n)).1.getD t .junk=(Xg P gl orc ops T0 m k).1.getD t .junk
 |0,_=>rfl
 |n+1,h=>by
  rw[<- zzap];cases ho:ops[k+n]? with
  |none=>simp only[Xg,ho];exact j8 n fun j h1 h2=>h j h1 zE
  |some o=>
   rw[Wi ho,Qca (by have:=h (k+n) zE zE;simpa[Vx,ho]using this)];exact j8 n fun j h1 h2=>h j h1 zE
def alo{o:Oper}{T:P2}{nb:T5}:
  ((dop P gl orc (Xl P ops o) T m nb).2.2=nb)\/(∃cells,(dop P gl orc (Xl P ops o) T m nb).2.2=nb++[cells]):=by
 unfold dop;split
 ·split
  ·exact .inr ⟨_,rfl⟩
  ·exact .inr ⟨_,rfl⟩
  ·split
   ·exact .inr ⟨_,rfl⟩
   exact .inl rfl
  exact .inl rfl
 ·split
  ·exact .inl rfl
  exact .inl rfl
 exact .inl rfl
def j9(P:Program)(gl:Nat->AV)(orc:UV)(ops:Array Oper)(T0:P2)(m:AM)(k:Nat):Nat:=(Xg P gl orc ops T0 m k).2.length
def NA(k:Nat):(Xg P gl orc ops T0 m (k+1)).2=(Xg P gl orc ops T0 m k).2\/∃cells,(Xg P gl orc ops T0 m (k+1)).2=(Xg P gl orc ops T0 m k).2++[cells]:=by
 cases ho:ops[k]? with
 |none=>exact .inl (by simp only[Xg,ho])
 |some o=>rw[Wi ho];exact alo
def E8(k:Nat):j9 P gl orc ops T0 m (k+1)=j9 P gl orc ops T0 m k\/j9 P gl orc ops T0 m (k+1)=j9 P gl orc ops T0 m k+1:=by
 unfold j9;rcases NA (P:=P) (gl:=gl) (orc:=orc) (ops:=ops) (T0:=T0) (m:=m) k with h|⟨c,h⟩
 ·rw[h];exact .inl rfl
 rw[h];exact .inr zd
def E9{j:Nat}:∀n,j9 P gl orc ops T0 m j<=j9 P gl orc ops T0 m (j+n)
 |0=>zzab _
 |n+1=>by
  have:=E9 (j:=j) n;rcases E8 (P:=P) (gl:=gl) (orc:=orc) (ops:=ops) (T0:=T0) (m:=m) (j+n)with h|h<;>rw[<- zzap]<;>omega
def V4{i j:Nat}(h:i<=j):j9 P gl orc ops T0 m i<=j9 P gl orc ops T0 m j:=by
 have:=E9 (P:=P) (gl:=gl) (orc:=orc) (ops:=ops) (T0:=T0) (m:=m) (j:=i) (j-i);rwa [show i+(j-i)=j by omega]at this
def V5{i:Nat}:∀n{q:Nat}{c:P2},(Xg P gl orc ops T0 m i).2[q]?=some c->(Xg P gl orc ops T0 m (i+n)).2[q]?=some c
 |0,_,_,h=>h
 |n+1,q,c,h=>by
  have ih:=V5 n h;rw[<- zzap];rcases NA (P:=P) (gl:=gl) (orc:=orc) (ops:=ops) (T0:=T0) (m:=m) (i+n)with e|⟨c',e⟩
  ·rw[e];exact ih
  rw[e,zzak (zza.1 ih).1];exact ih
def Iy(P:Program)(gl:Nat->AV)(orc:UV)(ops:Array Oper)(T0:P2)(m:AM)(i:Nat):Bool:=j9 P gl orc ops T0 m (i+1)==j9 P gl orc ops T0 m i+1
def Fa{q:Nat}:∀k,q<j9 P gl orc ops T0 m k->∃i,i<k/\Iy P gl orc ops T0 m i=true/\j9 P gl orc ops T0 m i=q
 |0,h=>by simp[j9,Xg]at h
 |k+1,h=>by
  rcases zzaa q (j9 P gl orc ops T0 m k)with h'|h'
  ·obtain⟨i,h1,h2,h3⟩:=Fa k h';exact⟨i,zE,h2,h3⟩
  rcases E8 (P:=P) (gl:=gl) (orc:=orc) (ops:=ops) (T0:=T0) (m:=m) k with e|e
  ·omega
  exact⟨k,zE,by simp[Iy,e],zE⟩
def AP(P:Program)(gl:Nat->AV)(orc:UV)(ops:Array Oper)(T0:P2)(m:AM)(p:Nat)(listed:Array Bool)(id:Nat):PH:=
 if id<m.boxes.length then m.boxes[id]?
 else if(List.range p).any fun i=>listed.getD i false&&(Iy P gl orc ops T0 m i&&decide (m.boxes.length+j9 P gl orc ops T0 m i=id))then(Xg P gl orc ops T0 m p).2[id-m.boxes.length]? else none
def wr(ops:Array Oper)(p:Nat)(listed:Array Bool)(t:Nat):Bool:=(List.range p).any fun i=>listed.getD i false&&(Vx ops i==some t)
def At(P:Program)(gl:Nat->AV)(orc:UV)(ops:Array Oper)(T0:P2)(m:AM)(p:Nat)(listed:Array Bool)(t:Nat):AV:=
 if wr ops p listed t then(Xg P gl orc ops T0 m p).1.getD t .junk else T0.getD t .junk
structure P7 (N:Nat) (w0:eO) (r:Option Nat) (an:Nat->Nat->Prop) (S:G×World) (Y:YT) (P:Program) (gl:Nat->AV) (orc:UV) (ops:Array Oper) (T0:P2) (m:AM) (p:Nat) (listed:Array Bool) (γ:G) (w:World) (a:Act):Prop where
 size:listed.size=ops.size
 tail:∀i,p<=i->i<ops.size->listed.getD i true=false
 clo:∀i o,listed.getD i false=true->ops[i]?=some o->∀j∈Xy o,listed.getD j false=true
 mm:au N w0 an γ w (AP P gl orc ops T0 m p listed) m.L
 ls:cQ γ w m
 rd:Rdr r γ w
 tl:a.tmps.size=T0.length
 tt:∀t,aA w γ (At P gl orc ops T0 m p listed t) (a.tmps.getD t undef)
 d:Dfr S.2.heap.size γ w a.defers
 g:∀g,aA w γ.cS (gl g) (.pointer (some ⟨g,0,none⟩))
 y:YOK N w0 an P Y γ w
 e:ey S.2 S.1 w γ
def Xt{listed:Array Bool}{i:Nat}{b:Bool}(h:i<listed.size):(listed.setIfInBounds i true).getD i b=true:=by
 simp[h]
def Qv{listed:Array Bool}{i j:Nat}{b:Bool}(h:j≠i):(listed.setIfInBounds i true).getD j b=listed.getD j b:=by
 simp[zzco (Ne.symm h)]
def ad8{listed:Array Bool}{id:Nat}{cells:P2}(h:m.boxes[id]?=some cells):AP P gl orc ops T0 m p listed id=some cells:=by
 unfold AP;rw[ac (zza.1 h).1];exact h
def V6{listed:Array Bool}{i:Nat}(hn:Iy P gl orc ops T0 m i=false):AP P gl orc ops T0 m p (listed.setIfInBounds i true)=AP P gl orc ops T0 m p listed:=by
 funext id;unfold AP;congr 1
 have:((List.range p).any fun j=>(listed.setIfInBounds i true).getD j false&&(Iy P gl orc ops T0 m j&&decide (m.boxes.length+j9 P gl orc ops T0 m j=id)))=
   ((List.range p).any fun j=>listed.getD j false&&(Iy P gl orc ops T0 m j&&decide (m.boxes.length+j9 P gl orc ops T0 m j=id))):=by
  congr 1;funext j;by_cases hj:j=i
  ·subst hj;simp[hn]
  rw[Qv hj]
 rw[this]
def ad9{i j:Nat}(hi:Iy P gl orc ops T0 m i=true)(hj:Iy P gl orc ops T0 m j=true)(h:j9 P gl orc ops T0 m i=j9 P gl orc ops T0 m j):i=j:=by
 simp only[Iy,beq_iff_eq]at hi hj;rcases zzeg i j with h'|h'|h'
 ·have:=V4 (P:=P) (gl:=gl) (orc:=orc) (ops:=ops) (T0:=T0) (m:=m) (i:=i+1) (j:=j) h';omega
 ·exact h'
 have:=V4 (P:=P) (gl:=gl) (orc:=orc) (ops:=ops) (T0:=T0) (m:=m) (i:=j+1) (j:=i) h';omega
def AQ{listed:Array Bool}{i:Nat}(hn:Iy P gl orc ops T0 m i=true)(hl:listed.getD i false=false):AP P gl orc ops T0 m p listed (m.boxes.length+j9 P gl orc ops T0 m i)=none:=by
 unfold AP;rw[ab zE,ab];intro h;obtain⟨j,_,h⟩:=zzbt.1 h;simp only[zzac,am]at h;obtain⟨h1,h2,h3⟩:=h;have:=ad9 h2 hn zE;subst this;rw[hl]at h1;cases h1
def NB{listed:Array Bool}{i:Nat}{cells:P2}(dA:i<p)(hsz:i<listed.size)(hn:Iy P gl orc ops T0 m i=true)(hc:(Xg P gl orc ops T0 m p).2[j9 P gl orc ops T0 m i]?=some cells):
  AP P gl orc ops T0 m p (listed.setIfInBounds i true)=fun id=>if id=m.boxes.length+j9 P gl orc ops T0 m i then some cells else AP P gl orc ops T0 m p listed id:=by
 funext id;by_cases aK:id=m.boxes.length+j9 P gl orc ops T0 m i
 ·rw[ac aK];unfold AP;rw[ab zE,ac]
  ·rw[aK,zze];exact hc
  rw[zzbt];exact⟨i,zzb.2 dA,by rw[Xt hsz,hn];simp[aK]⟩
 rw[ab aK];unfold AP;congr 1
 have:((List.range p).any fun j=>(listed.setIfInBounds i true).getD j false&&(Iy P gl orc ops T0 m j&&decide (m.boxes.length+j9 P gl orc ops T0 m j=id)))=
   ((List.range p).any fun j=>listed.getD j false&&(Iy P gl orc ops T0 m j&&decide (m.boxes.length+j9 P gl orc ops T0 m j=id))):=by
  congr 1;funext j;by_cases hj:j=i
  ·subst hj;have:decide (m.boxes.length+j9 P gl orc ops T0 m j=id)=false:=by simp;omega
   simp[this]
  rw[Qv hj]
 rw[this]
def aea{listed:Array Bool}(bD:∀i,i<p->listed.getD i false=true):AP P gl orc ops T0 m p listed=({m with boxes:=m.boxes++(Xg P gl orc ops T0 m p).2}:AM).B:=by
 funext id;unfold AP;simp only[AM.B];split
 ·rename_i h;rw[zzak h]
 rename_i h;rw[zzaq zE];split
 ·rfl
 rename_i hn;rcases zzaa (id-m.boxes.length) (Xg P gl orc ops T0 m p).2.length with hq|hq
 ·obtain⟨i,h1,h2,h3⟩:=Fa (P:=P) (gl:=gl) (orc:=orc) (ops:=ops) (T0:=T0) (m:=m) (q:=id-m.boxes.length) p hq;exfalso;apply hn;rw[zzbt];exact⟨i,zzb.2 h1,by rw[bD i h1,h2];simp;omega⟩
 rw[zzav hq]
def AR{α:Type}{f g:α->Bool}:∀{l:List α}{x:α},(∀y,f y=true->g y=true)->x∈l->g x=true->f x=false->l.countP f<l.countP g
 |y::l,x,hfg,hx,hg,hf=>by
  have cw:l.countP f<=l.countP g:=List.countP_mono_left fun y _=>hfg y;rw[List.countP_cons,List.countP_cons];rcases zzao.1 hx with rfl|hx
  ·rw[hg,hf];simp;omega
  have:=AR hfg hx hg hf;by_cases h1:f y=true
  ·rw[h1,hfg y h1];simp;omega
  have mJ:f y=false:=by simpa using h1
  rw[mJ];simp only[zzbi,if_false,zzcm];exact zzaz this (Nat.le_add_right _ _)
def uc(ops:Array Oper)(listed:Array Bool):Nat:=(List.range ops.size).countP fun i=>!listed.getD i true
def iV{listed:Array Bool}{i:Nat}(hsz:listed.size=ops.size)(hi:i<ops.size)(hl:listed.getD i true=false):uc ops (listed.setIfInBounds i true)<uc ops listed:=by
 unfold uc;refine AR (x:=i) (fun j hj=>?_) (zzb.2 hi) (by rw[hl];rfl) (by rw[Xt zE];rfl);by_cases Aw:j=i
 ·subst Aw;rw[hl];rfl
 rw[Qv Aw]at hj;exact hj
def Qdr{listed:Array Bool}(h:uc ops listed=0){i:Nat}(hi:i<ops.size):listed.getD i true=true:=by
 unfold uc at h;have:=List.countP_eq_zero.1 h i (zzb.2 hi);simpa using this
def Xa{listed:Array Bool}{i:Nat}(hi:i<listed.size)(b b':Bool):listed.getD i b=listed.getD i b':=by simp[hi]
def Zn(h:zb ops p=true):p<=ops.size/\∀i o,ops[i]?=some o->(∀j∈Xy o,j<i)/\
  (i<p->(∀t∈o.looksAt ops,∀j,j<p->Vx ops j=some t->j≠i->j<i/\j∈Xy o)/\(∀j,j<i->∀t,Vx ops j=some t->o.dst≠some t))/\
  (p<=i->CD ops i=true):=by
 unfold zb at h;simp only[zzac,am,zzax]at h;obtain⟨hp,h⟩:=h;refine⟨hp,fun i o ho=>?_⟩;have hi:i<ops.size:=(zzbz.1 ho).1;have:=h i (zzb.2 hi);simp only[ho,zzac,zzax,am]at this;obtain⟨h1,h2⟩:=this;refine⟨h1,fun dA=>?_,fun dA=>?_⟩
 ·rw[ac dA]at h2;simp only[zzac,zzax]at h2;obtain⟨h3,h4⟩:=h2;refine⟨fun t ht j hj hd aO=>?_,fun j hj t hd cM=>?_⟩
  ·have:=h3 t ht j (zzb.2 hj);simp[hd,aO]at this;exact⟨this.1,this.2⟩
  have:=h4 j (zzb.2 hj);simp[hd,cM]at this
 rw[ab zE]at h2;exact h2
def Fb(ops:Array Oper)(listed:Array Bool):Prop:=∀i o,listed.getD i false=true->ops[i]?=some o->∀j∈Xy o,listed.getD j false=true
def Fb.set{listed:Array Bool}(h:Fb ops listed){i:Nat}{o:Oper}(ho:ops[i]?=some o)(hsz:i<listed.size)(bS:∀j∈Xy o,listed.getD j false=true):Fb ops (listed.setIfInBounds i true):=by
 have aiG:∀k,listed.getD k false=true->(listed.setIfInBounds i true).getD k false=true:=fun k hk=>by
  by_cases qJ:i=k
  ·subst qJ;exact Xt hsz
  rw[Qv (Ne.symm qJ)];exact hk
 intro k o' hk cM j hj;by_cases qJ:i=k
 ·subst qJ;rw[ho]at cM;cases cM;exact aiG j (bS j hj)
 rw[Qv (Ne.symm qJ)]at hk;exact aiG j (h k o' hk cM j hj)
def Qbb{listed:Array Bool}(CF:Fb ops listed){i:Nat}{o:Oper}(ho:ops[i]?=some o)(ht:CD ops i=true)(bS:∀j∈Xy o,listed.getD j false=true):∀(n j:Nat),j<i->i-j<=n->listed.getD j false=true
 |0,j,h1,h2=>zE
 |n+1,j,h1,h2=>by
  obtain⟨d,hd,hw⟩:=zzbt.1 (zzax.1 ht j (zzb.2 h1));have hdl:=zzb.1 hd;unfold v7 at hw;split at hw
  ·rename_i o' cM;have hm:j∈Xy o':=by simpa using hw
   by_cases h0:d=0
   ·subst h0;rw[zzel,ho]at cM;cases cM;exact bS j hm
   exact CF (i-d) o' (Qbb CF ho ht bS n (i-d) zE zE) cM j hm
  cases hw
def mQ{o:Oper}{j:Nat}:j∈Xy o<->∃e∈o.after,Region.binds .any e=true/\e.on=j:=by
 simp[Xy];constructor
 ·rintro⟨e,⟨h1,h2⟩,rfl⟩;exact⟨e,h1,h2,rfl⟩
 rintro⟨e,h1,h2,rfl⟩;exact⟨e,⟨h1,h2⟩,rfl⟩
def Un(hc:zb ops p=true){listed:Array Bool}(hsz:listed.size=ops.size):∀(n i:Nat),i<=n->i<ops.size->listed.getD i true=false->∃j,j∈Region.ready .any ops listed
 |0,i,bP,hi,hl=>by
  obtain rfl:i=0:=zE
  have ho:ops[0]?=some ops[0]:=zzah hi;refine⟨0,mem_ready.2 ⟨hl,ops[0],ho,fun e he hb=>?_⟩⟩;have:=((Zn hc).2 0 _ ho).1 e.on (mQ.2 ⟨e,he,hb,rfl⟩);omega
 |n+1,i,bP,hi,hl=>by
  by_cases hex:∃j,j<i/\listed.getD j true=false
  ·obtain⟨j,hj,P8⟩:=hex;exact Un hc hsz n j zE zE P8
  have ho:ops[i]?=some ops[i]:=zzah hi;refine⟨i,mem_ready.2 ⟨hl,ops[i],ho,fun e he hb=>?_⟩⟩;have ah:=((Zn hc).2 i _ ho).1 e.on (mQ.2 ⟨e,he,hb,rfl⟩)
  have:listed.getD e.on true=true:=by
   cases h:listed.getD e.on true with
   |true=>rfl
   |false=>exact absurd ⟨e.on,ah,h⟩ hex
  rw[Xa zE false true];exact this
def Uo(hc:zb ops p=true){listed:Array Bool}{i:Nat}(hr:i∈Region.ready .any ops listed):i<ops.size/\listed.getD i true=false/\∃o,ops[i]?=some o/\∀j∈Xy o,listed.getD j false=true:=by
 obtain⟨h1,o,ho,h2⟩:=mem_ready.1 hr;refine⟨(zzbz.1 ho).1,h1,o,ho,fun j hj=>?_⟩;obtain⟨e,he,hb,rfl⟩:=mQ.1 hj;exact h2 e he hb
def Qdt{Q:PP}{K:AS->Prop}(hQ:∀γ w s a,K s->eF N w0 r an S P gl Y γ w s a->Q .normal a w)(hc:zb ops p=true):
  ∀(aT k:Nat)(listed:Array Bool)(γ:G)(w:World)(s:AS)(a:Act),p<=k->k<=ops.size->listed.size=ops.size->(∀j,j<k->listed.getD j false=true)->(∀j,k<=j->j<ops.size->listed.getD j true=false)->
   uc ops listed<=aT->Zo P gl orc Y ((ops.toList.drop k).map (Xl P ops)) s K->eF N w0 r an S P gl Y γ w s a->wpAnyIn (FW r) 0 P .any ops Q aT listed a w:=by
 intro aT;induction aT with
 |zero=>
  intro k listed γ w s a Fc hk hsz hlo hhi iW h hs
  have Eg:k=ops.size:=by
   rcases zzaa k ops.size with h'|h'
   ·have:=Qdr (zzfh.1 iW) h';rw[hhi k (zzab _) h']at this;cases this
   omega
  have hd:ops.toList.drop k=[]:=zzam (by simp;omega);rw[hd]at h;refine⟨?_,hQ γ w s a h hs⟩;rw[List.eq_nil_iff_forall_not_mem];intro i hi;obtain⟨ah,hu,_⟩:=Uo hc hi;have:=Qdr (zzfh.1 iW) ah;rw[hu]at this;cases this
 |succ aT ih=>
  intro k listed γ w s a Fc hk hsz hlo hhi iW h hs;refine⟨fun hr=>?_,fun i hi=>?_⟩
  ·have Eg:k=ops.size:=by
    rcases zzaa k ops.size with h'|h'
    ·obtain⟨j,hj⟩:=Un hc hsz k k (zzab _) h' (hhi k (zzab _) h');rw[hr]at hj;cases hj
    omega
   have hd:ops.toList.drop k=[]:=zzam (by simp;omega);rw[hd]at h;exact hQ γ w s a h hs
  obtain⟨ah,hu,o,ho,bS⟩:=Uo hc hi
  have dP:k<=i:=by
   rcases zzaa i k with h'|h'
   ·have:=hlo i h';rw[Xa zE false true,hu]at this;cases this
   exact h'
  have qJ:i=k:=by
   rcases zzaa k i with h'|h'
   ·have CF:Fb ops listed:=fun x ox hx hox j hj=>by
     have hxk:x<k:=by
      rcases zzaa x k with h1|h1
      ·exact h1
      have hxs:x<ops.size:=(zzbz.1 hox).1;rw[Xa zE false true,hhi x h1 hxs]at hx;cases hx
     have:=((Zn hc).2 x ox hox).1 j hj;exact hlo j zE
    have:=Qbb CF ho (((Zn hc).2 i o ho).2.2 zE) bS i k h' zE;rw[Xa zE false true,hhi k (zzab _) zE]at this;cases this
   omega
  subst qJ;refine wpOpIn_mono ?_ (vZ ah hs h);rintro a' w' ⟨γ',s',dz,h'⟩;refine ih (i+1) _ γ' w' s' a' zE ah (by simp[hsz]) (fun j hj=>?_) (fun j dX nV=>?_) ?_ h' dz
  ·rcases zzaa j i with h'|h'
   ·rw[Qv zE];exact hlo j h'
   obtain rfl:j=i:=zE
   exact Xt zE
  ·rw[Qv zE];exact hhi j zE nV
  have:=iV hsz ah hu;omega
def aeb{P:Program}{w:World}{γ:G}{te:TypeId}{zs:P2}{i:TypeInfo}{z:Value}{n:Nat}(JJ:ak w γ zs z.cells.toList)(g5:zs.all Qx=true)(g4:zs.length=i.size):
  cq w γ (bF n zs) (madeCells z.cells (n*i.size)).toList/\∀v∈(madeCells z.cells (n*i.size)).toList,v.oneCell'=true:=by
 have gr:=Yo JJ g5;have E4:z.cells.size=zs.length:=by have:=JJ.1;simp at this;omega
 refine⟨⟨by simp[Km,size_madeCells,g4],fun k c v j1 j2=>?_⟩,fun v hv=>?_⟩
 ·obtain⟨q1,q2⟩:=j7 j1
  have h0:0<zs.length:=by
   rcases zzci zs.length with h0|h0
   ·simp[h0]at q1
   exact h0
  have ah:k%zs.length<z.cells.size:=by rw[E4];exact zzei _ h0
  have EX:v=z.cells[k%zs.length]:=by
   simp only[madeCells,zzce,zzgj]at j2;rw[zzah (by simp;rw[<- g4];exact q1)]at j2;simp[E4]at j2;rw[<- j2,getElem!_pos z.cells _ ah]
  subst EX;exact JJ.2 _ c _ q2 (by simp[ah])
 simp[madeCells]at hv;obtain⟨k,hk,rfl⟩:=hv
 have h0:0<z.cells.size:=by
  rcases zzci z.cells.size with h0|h0
  ·rw[h0]at E4;rw[<- g4,<- E4]at hk;simp at hk
  exact h0
 have ah:k%z.cells.size<z.cells.size:=zzei _ h0;rw[getElem!_pos z.cells _ ah];exact gr _ zd
def alp{o:Oper}{sz bytes:Nat}{zs:P2}{x y:bE}(h:tr P o=.mks sz bytes zs x y):∃t l c te i,o.op=.makeSlice t l c/\x=aC l/\y=aC c/\P.underlying t=some (.slice te)/\P.info? te=some i/\sz=i.size/\bytes=i.bytes/\zc P te=some zs:=by
 obtain⟨dst,op,ty,pos,after,guard⟩:=o;cases op
 case makeSlice t l c=>
  simp only[tr]at h;split at h
  ·rename_i te hu;split at h
   ·split at h<;>cases h
   ·rename_i i hi _;split at h
    ·rename_i zs' hz;cases h;exact⟨t,_,_,te,i,rfl,rfl,rfl,hu,hi,rfl,rfl,hz⟩
    cases h
   cases h
  cases h
 case call c=>
  simp only[tr,Zu]at h;repeat' split at h
  all_goals cases h
 case build t parts=>
  simp only[tr,Wn]at h;repeat' split at h
  all_goals cases h
 case slice t x lo hi mx=>cases mx<;>simp only[tr]at h<;>(repeat' split at h)<;>cases h
 case makeFunc fn a b=>cases fn<;>cases h
 case next x s=>cases s<;>cases h
 case makeMap t r=>cases r<;>simp only[tr]at h<;>(repeat' split at h)<;>cases h
 case binOp op t x y t'=>
  simp only[tr,lI,Qci,zq]at h;repeat' split at h
  all_goals cases h
 all_goals first|(cases h;done)|(
  simp only[tr]at h;repeat' split at h
  all_goals cases h)
def wg(c:Call)(zs:P2):Zu P c≠.alloc zs:=by
 intro h;obtain⟨callee,args,ts⟩:=c;cases callee with
 |builtin b=>cases b<;>simp only[Zu]at h<;>(repeat' split at h)<;>cases h
 |_=>cases h
def CG(c:Call)(x:bE):Zu P c≠.box x:=by
 intro h;obtain⟨callee,args,ts⟩:=c;cases callee with
 |builtin b=>cases b<;>simp only[Zu]at h<;>(repeat' split at h)<;>cases h
 |_=>cases h
def V7{o:Oper}{zs:P2}(h:tr P o=.alloc zs):∃t,o.op=.alloc t/\zc P t=some zs:=by
 obtain⟨dst,op,ty,pos,after,guard⟩:=o;cases op
 case alloc t=>
  simp only[tr]at h;split at h
  ·rename_i zs' hz;cases h;exact⟨t,rfl,hz⟩
  cases h
 case call c=>exact absurd h (wg c zs)
 case build t parts=>
  simp only[tr,Wn]at h;repeat' split at h
  all_goals cases h
 case slice t x lo hi mx=>cases mx<;>simp only[tr]at h<;>(repeat' split at h)<;>cases h
 case makeFunc fn a b=>cases fn<;>cases h
 case next x s=>cases s<;>cases h
 case makeMap t r=>cases r<;>simp only[tr]at h<;>(repeat' split at h)<;>cases h
 case binOp op t x y t'=>
  simp only[tr,lI,Qci,zq]at h;repeat' split at h
  all_goals cases h
 all_goals first|(cases h;done)|(
  simp only[tr]at h;repeat' split at h
  all_goals cases h)
def alq{o:Oper}{x:bE}(h:tr P o=.box x):∃t y,o.op=.box t y/\x=aC y:=by
 obtain⟨dst,op,ty,pos,after,guard⟩:=o;cases op
 case box t y=>cases h;exact⟨t,y,rfl,rfl⟩
 case call c=>exact absurd h (CG c x)
 case build t parts=>
  simp only[tr,Wn]at h;repeat' split at h
  all_goals cases h
 case slice t x lo hi mx=>cases mx<;>simp only[tr]at h<;>(repeat' split at h)<;>cases h
 case makeFunc fn a b=>cases fn<;>cases h
 case next x s=>cases s<;>cases h
 case makeMap t r=>cases r<;>simp only[tr]at h<;>(repeat' split at h)<;>cases h
 case binOp op t x y t'=>
  simp only[tr,lI,Qci,zq]at h;repeat' split at h
  all_goals cases h
 all_goals first|(cases h;done)|(
  simp only[tr]at h;repeat' split at h
  all_goals cases h)
def awJ(hc:zb ops p=true){listed:Array Bool}(hsz:listed.size=ops.size){i:Nat}{o:Oper}(ho:ops[i]?=some o)(dA:i<p)(hu:listed.getD i true=false)(bS:∀j∈Xy o,listed.getD j false=true)
  {t:Nat}(ht:t∈o.looksAt ops):(Xg P gl orc ops T0 m i).1.getD t .junk=At P gl orc ops T0 m p listed t:=by
 have hi:i<ops.size:=(zzbz.1 ho).1;obtain⟨hp,di⟩:=Zn hc;unfold At;by_cases hex:∃j,j<p/\Vx ops j=some t/\j≠i
 ·obtain⟨j,hj,hd,aO⟩:=hex;obtain⟨Aw,hja⟩:=((di i o ho).2.1 dA).1 t ht j hj hd aO
  have hw:wr ops p listed t=true:=by
   unfold wr;rw[zzbt];exact⟨j,zzb.2 hj,by rw[bS j hja,hd];simp⟩
  rw[ac hw]
  have:=j8 (P:=P) (gl:=gl) (orc:=orc) (ops:=ops) (T0:=T0) (m:=m) (t:=t) (k:=i) (p-i) fun k dK eE NC=>by
   have hk:k<ops.size:=zE
   have ND:ops[k]?=some ops[k]:=zzah hk;have:=((di k _ ND).2.1 zE).2 j zE t hd;simp[Vx,ND]at NC;exact this NC
  rw[show i+(p-i)=p by omega]at this;exact this.symm
 have hw:wr ops p listed t=false:=by
  unfold wr;rw[zzdl];intro j hj;simp only[zzac,beq_iff_eq,not_and];intro hl hd;by_cases Aw:j=i
  ·subst Aw;rw[Xa zE false true,hu]at hl;cases hl
  exact hex ⟨j,zzb.1 hj,hd,Aw⟩
 rw[hw];simp only[zzbi,if_false];exact Qeh i fun j hj hd=>hex ⟨j,zE,hd,zE⟩
def alr(hc:zb ops p=true){listed:Array Bool}(hsz:listed.size=ops.size){i:Nat}{o:Oper}(ho:ops[i]?=some o)(dA:i<p){t:Nat}:
  At P gl orc ops T0 m p (listed.setIfInBounds i true) t=if o.dst=some t/\t<T0.length then(dop P gl orc (Xl P ops o) (Xg P gl orc ops T0 m i).1 m (Xg P gl orc ops T0 m i).2).2.1 else At P gl orc ops T0 m p listed t:=by
 have hi:i<ops.size:=(zzbz.1 ho).1;obtain⟨hp,di⟩:=Zn hc;by_cases hd:o.dst=some t
 ·have hw:wr ops p (listed.setIfInBounds i true) t=true:=by
   unfold wr;rw[zzbt];exact⟨i,zzb.2 dA,by rw[Xt zE];simp[Vx,ho,hd]⟩
  have hl:=j8 (P:=P) (gl:=gl) (orc:=orc) (ops:=ops) (T0:=T0) (m:=m) (t:=t) (k:=i+1) (p-(i+1)) fun k dK eE NC=>by
   have hk:k<ops.size:=zE
   have ND:ops[k]?=some ops[k]:=zzah hk;have:=((di k _ ND).2.1 zE).2 i zE t (by simp[Vx,ho,hd]);simp[Vx,ND]at NC;exact this NC
  rw[show i+1+(p-(i+1))=p by omega]at hl;by_cases ht:t<T0.length
  ·rw[ac ⟨hd,ht⟩];unfold At;rw[ac hw,hl,Wi ho,hd];exact lP (by rw[iU];exact ht)
  rw[ab (by simp[ht])]
  have h1:∀k,(Xg P gl orc ops T0 m k).1.getD t .junk=.junk:=fun k=>by
   have:=iU (P:=P) (gl:=gl) (orc:=orc) (ops:=ops) (T0:=T0) (m:=m) k;simp only[List.getD];rw[zzav zE];rfl
  have h2:T0.getD t .junk=.junk:=h1 0;unfold At;rw[h1 p,h2];simp
 rw[ab (by simp[hd])]
 have hw:wr ops p (listed.setIfInBounds i true) t=wr ops p listed t:=by
  unfold wr;congr 1;funext j;by_cases hj:j=i
  ·subst hj;have hb:(o.dst==some t)=false:=by simpa using hd
   simp[Vx,ho,hb]
  rw[Qv hj]
 unfold At;rw[hw]
def JV(hc:zb ops p=true){Q:PP}{listed:Array Bool}{γ:G}{w:World}{a:Act}(hI:P7 N w0 r an S Y P gl orc ops T0 m p listed γ w a){i:Nat}{o:Oper}(ho:ops[i]?=some o)(dA:i<p)
  (hu:listed.getD i true=false)(bS:∀j∈Xy o,listed.getD j false=true)(bQ:(dop P gl orc (Xl P ops o) (Xg P gl orc ops T0 m i).1 m (Xg P gl orc ops T0 m i).2).1):
  wpOpIn (FW r) 0 P ops Q i (fun a' w'=>∃γ',P7 N w0 r an S Y P gl orc ops T0 m p (listed.setIfInBounds i true) γ' w' a') a w:=by
 have hi:i<ops.size:=(zzbz.1 ho).1
 have zC:∀t∈o.looksAt ops,aA w γ ((Xg P gl orc ops T0 m i).1.getD t .junk) (a.tmps.getD t undef):=fun t ht=>by
  rw[awJ (P:=P) (gl:=gl) (orc:=orc) (T0:=T0) (m:=m) hc hI.size ho dA hu bS ht];exact hI.tt t
 have dh:∀x∈o.op.operands,aA w γ (ev gl (Xg P gl orc ops T0 m i).1 (aC x)) (a.eval x):=fun x hx=>by
  cases x with
  |tmp t=>exact zC t (by simp only[Oper.looksAt,zzaj,zzfo];exact .inl ⟨.tmp t,Nm hx,rfl⟩)
  |const v=>exact Kb w γ v
  |func f=>exact .fn rfl (fun i c v h=>by simp at h) rfl fun i c v h=>by simp at h
  |global g=>exact(hI.g g).gm
 have hB:∀id cells,m.boxes[id]?=some cells->AP P gl orc ops T0 m p listed id=some cells:=fun id cells h=>ad8 h
 have fin:∀{v:Value}{w':World}{γ':G},Ev w γ w' γ'->au N w0 an γ' w' (AP P gl orc ops T0 m p (listed.setIfInBounds i true)) m.L->
   aA w' γ' (dop P gl orc (Xl P ops o) (Xg P gl orc ops T0 m i).1 m (Xg P gl orc ops T0 m i).2).2.1 v->∃γ',P7 N w0 r an S Y P gl orc ops T0 m p (listed.setIfInBounds i true) γ' w' (a.put o.dst v):=fun{v w' γ'}he hm hr=>by
  refine⟨γ',by simp[hI.size],fun j dX nV=>by rw[Qv zE];exact hI.tail j dX nV,Fb.set hI.clo ho (by rw[hI.size];exact hi) bS,hm,hI.ls.mono he,hI.rd.aU he.cF,?_,fun t=>?_,?_,fun g=>(hI.g g).mono he.cS,hI.y.mono he.cF,hI.e.trans he.cF⟩
  ·cases hd:o.dst<;>simp[Act.put,hI.tl]
  ·rw[alr hc hI.size ho dA];by_cases hd:o.dst=some t
   ·by_cases ht:t<T0.length
    ·rw[ac ⟨hd,ht⟩,hd];have:(a.put (some t) v).tmps.getD t undef=v:=by simp[Act.put,hI.tl,ht]
     rw[this];exact hr
    rw[ab (by simp[ht]),hd];have:(a.put (some t) v).tmps.getD t undef=a.tmps.getD t undef:=by simp[Act.put,hI.tl,ht]
    rw[this];exact(hI.tt t).mono he
   rw[ab (by simp[hd])]
   have:(a.put o.dst v).tmps.getD t undef=a.tmps.getD t undef:=by
    cases zw:o.dst with
    |none=>rfl
    |some d=>simp only[Act.put];simp;rw[zzco (by rintro rfl;exact hd zw)]
   rw[this];exact(hI.tt t).mono he
  cases hd:o.dst<;>exact hI.d.aU he.cF
 have dL:=Wi (P:=P) (gl:=gl) (orc:=orc) (T0:=T0) (m:=m) ho
 have qK:∀cells,(dop P gl orc (Xl P ops o) (Xg P gl orc ops T0 m i).1 m (Xg P gl orc ops T0 m i).2).2.2=(Xg P gl orc ops T0 m i).2++[cells]->Iy P gl orc ops T0 m i=true/\(Xg P gl orc ops T0 m p).2[j9 P gl orc ops T0 m i]?=some cells:=fun cells h=>by
  refine⟨by simp only[Iy,j9,dL,h];simp,?_⟩;have:=V5 (P:=P) (gl:=gl) (orc:=orc) (ops:=ops) (T0:=T0) (m:=m) (i:=i+1) (p-(i+1)) (q:=j9 P gl orc ops T0 m i) (c:=cells) (by rw[dL];simp only[h,j9];simp);rwa [show i+1+(p-(i+1))=p by omega]at this
 have eC:(dop P gl orc (Xl P ops o) (Xg P gl orc ops T0 m i).1 m (Xg P gl orc ops T0 m i).2).2.2=(Xg P gl orc ops T0 m i).2->AP P gl orc ops T0 m p (listed.setIfInBounds i true)=AP P gl orc ops T0 m p listed:=fun h=>
  V6 (by simp only[Iy,j9,dL,h];simp)
 have tH:listed.getD i false=false:=by rw[Xa (by rw[hI.size];exact hi) false true];exact hu
 have box:∀{cells:P2}{arr:P1}{te:TypeId},ak w γ cells arr.toList->cells.all Qx=true->
   (dop P gl orc (Xl P ops o) (Xg P gl orc ops T0 m i).1 m (Xg P gl orc ops T0 m i).2).2=(.ptr (m.boxes.length+(Xg P gl orc ops T0 m i).2.length) 0,(Xg P gl orc ops T0 m i).2++[cells])->
   (execOp a.eval o).run P w=.ok (.value (.pointer (some ⟨w.heap.size,0,none⟩))) (w.alloc (.cells arr te))->
   o.wpIn (FW r) 0 P a w (fun a' w'=>∃γ',P7 N w0 r an S Y P gl orc ops T0 m p (listed.setIfInBounds i true) γ' w' a') Q:=fun{cells arr te}hr bK hd bh=>by
  obtain⟨qB,vL⟩:=qK cells (by rw[hd]);have aK:=AQ (p:=p) qB tH;refine Zj bh (fin (hI.mm.dn _ aK _) ?_ ?_)
  ·rw[NB dA (by rw[hI.size];exact hi) qB vL];exact hI.mm.eW _ aK hr.toP (Yo hr bK)
  rw[hd];exact .ptr (by simp[G.box,j9])
 simp only[wpOpIn,ho];cases hg:o.guard with
 |none=>
  have hw:Region.wanted o (yielded ops a.tmps)=true:=by simp[Region.wanted,hg]
  rw[ac hw];have e1:(Xl P ops o).guard=none:=by simp[Xl,hg]
  cases P9:tr P o with
  |alloc zs=>
   have hd:dop P gl orc (Xl P ops o) (Xg P gl orc ops T0 m i).1 m (Xg P gl orc ops T0 m i).2=(zs.all Qx=true,.ptr (m.boxes.length+(Xg P gl orc ops T0 m i).2.length) 0,(Xg P gl orc ops T0 m i).2++[zs]):=by
    have e2:(Xl P ops o).op=.alloc zs:=P9;simp only[dop,e1,e2]
   rw[hd]at bQ;obtain⟨t,V9,hz⟩:=V7 P9;obtain⟨i',z,c9,iQ,hr⟩:=iP (w:=w) (γ:=γ) hz;refine box (te:=t) hr bQ (by rw[hd]) ?_;obtain⟨d',op',ty',ari,af',gu'⟩:=o;simp only at V9;subst V9;simp[execOp,Instr.alloc,zeroValue,typeInfo,c9,iQ,newVar,newRow]
  |box x=>
   have hd:dop P gl orc (Xl P ops o) (Xg P gl orc ops T0 m i).1 m (Xg P gl orc ops T0 m i).2=(bare (ev gl (Xg P gl orc ops T0 m i).1 x)=true/\(cellsOf (ev gl (Xg P gl orc ops T0 m i).1 x)).all Qx=true,
     .ptr (m.boxes.length+(Xg P gl orc ops T0 m i).2.length) 0,(Xg P gl orc ops T0 m i).2++[cellsOf (ev gl (Xg P gl orc ops T0 m i).1 x)]):=by
    have e2:(Xl P ops o).op=.box x:=P9;simp only[dop,e1,e2]
   rw[hd]at bQ;obtain⟨t,y,V9,rfl⟩:=alq P9;have hry:=dh y (by rw[V9];simp[Op.operands]);refine box (te:=t) (jZ hry bQ.1) bQ.2 (by rw[hd]) ?_;obtain⟨d',op',ty',ari,af',gu'⟩:=o;simp only at V9;subst V9;simp[execOp,Instr.box,newVar,newRow]
  |mks sz bytes zs x y=>
   obtain⟨t,l,c,te,i',V9,rfl,rfl,hu,c9,rfl,rfl,Cr⟩:=alp P9;have e2:(Xl P ops o).op=.mks i'.size i'.bytes zs (aC l) (aC c):=P9;simp only[dop,e1,e2]at bQ qK;have hl:=dh l (by rw[V9];simp[Op.operands]);have hc:=dh c (by rw[V9];simp[Op.operands]);split at bQ
   case h_2=>exact bQ.elim
   rename_i k1 n1 k2 n2 q1 q2;rw[q1]at hl;rw[q2]at hc;obtain⟨⟨g0,g1,g2,g3⟩,g4,g5⟩:=bQ;obtain⟨i2,z,hi2,hz,JJ⟩:=iP (w:=w) (γ:=γ) Cr;rw[c9]at hi2;cases hi2
   have hd:dop P gl orc (Xl P ops o) (Xg P gl orc ops T0 m i).1 m (Xg P gl orc ops T0 m i).2=((0<=n1/\n1<=n2/\i'.bytes*n2<=281474976710656/\n2<=9223372036854775807)/\zs.length=i'.size/\zs.all Qx=true,.bs (m.boxes.length+(Xg P gl orc ops T0 m i).2.length) 0 n1.toNat i'.size,(Xg P gl orc ops T0 m i).2++[bF n2.toNat zs]):=by
    simp only[dop,e1,e2,q1,q2]
   have bh:=run_make (P:=P) w t te i' z hu c9 hz k1 k2 n1 n2 g0 zE g2 g3;obtain⟨SA,ou⟩:=aeb (P:=P) (te:=te) (n:=n2.toNat) JJ g5 g4;obtain⟨qB,vL⟩:=qK (bF n2.toNat zs) (by simp only[q1,q2]);have aK:=AQ (p:=p) qB tH
   have arj:(execOp a.eval o).run P w=.ok (.value (.slice (some ⟨w.heap.size,0,none⟩) n1.toNat n2.toNat)) (w.alloc (.cells (madeCells z.cells (n2.toNat*i'.size)) te)):=by
    obtain⟨d',op',ty',ari,af',gu'⟩:=o;simp only at V9;subst V9;simp[execOp,hl.aI,hc.aI,bh]
   refine Zj arj (fin (hI.mm.dn _ aK _) ?_ ?_)
   ·rw[NB dA (by rw[hI.size];exact hi) qB vL];exact hI.mm.eW _ aK SA ou
   rw[hd];exact .bs (arr:=madeCells z.cells (n2.toNat*i'.size)) (e:=te) (by simp[G.box,j9]) zE (by show(w.heap.push _)[w.heap.size]?=_;simp) (by rw[zzbs,size_madeCells];exact zzab _)
  |_=>
   have hd:dop P gl orc (Xl P ops o) (Xg P gl orc ops T0 m i).1 m (Xg P gl orc ops T0 m i).2=((rop P gl orc (ev gl (Xg P gl orc ops T0 m i).1) m o.dst (tr P o)).1,(rop P gl orc (ev gl (Xg P gl orc ops T0 m i).1) m o.dst (tr P o)).2,(Xg P gl orc ops T0 m i).2):=by
    have e2:(Xl P ops o).op=tr P o:=rfl;rw[P9]at e2;simp only[dop,e1,e2,P9];rfl
   rw[hd]at bQ;have eP:=eC (by rw[hd]);rw[hd,eP]at fin;exact Qct hI.mm hB hI.g dh bQ r _ Q fun v w' γ' h1 h2 h3=>fin h1 h2 h3
 |some q=>
  obtain⟨j,want⟩:=q;have e1:(Xl P ops o).guard=some ((ops[j]?).bind (·.dst),want):=by simp[Xl,hg]
  cases hj:(ops[j]?).bind (·.dst)with
  |none=>
   rw[hj]at e1;simp only[dop,e1]at bQ
  |some t=>
   rw[hj]at e1;have lQ:t∈o.looksAt ops:=by simp[Oper.looksAt,hg,hj]
   have aY:=zC t lQ;cases kY:Eh want ((Xg P gl orc ops T0 m i).1.getD t .junk)with
   |none=>simp only[dop,e1,kY]at bQ
   |some gw=>
    have hd:dop P gl orc (Xl P ops o) (Xg P gl orc ops T0 m i).1 m (Xg P gl orc ops T0 m i).2=(gok gl (Xg P gl orc ops T0 m i).1 gw (gxs (tr P o) (Xl P ops o).xs)/\(gw=true->(rop P gl orc (evG gl (Xg P gl orc ops T0 m i).1 (tr P o)) m o.dst (tr P o)).1),
      .gd gw (rop P gl orc (evG gl (Xg P gl orc ops T0 m i).1 (tr P o)) m o.dst (tr P o)).2,(Xg P gl orc ops T0 m i).2):=by
     simp only[dop,e1,kY];rfl
    rw[hd]at bQ;have eP:=eC (by rw[hd]);rw[hd,eP]at fin
    have V1:Region.wanted o (yielded ops a.tmps)=gw:=by
     have hyv:∀b,a.tmps.getD t undef=.bool b->yielded ops a.tmps j=some b:=fun b hb=>by
      have cn:t<a.tmps.size:=by
       rcases zzaa t a.tmps.size with h|h
       ·exact h
       simp[zzbq h,undef]at hb
      simp[cn]at hb;simp only[yielded,hj,zzcx,zzah cn,hb]
     have hyu:a.tmps.getD t undef=undef->yielded ops a.tmps j=none:=fun hb=>by
      rcases zzaa t a.tmps.size with cn|h
      ·simp[cn]at hb;simp only[yielded,hj,zzcx,zzah cn,hb];rfl
      simp only[yielded,hj,zzcx,zzbq h]
     generalize(Xg P gl orc ops T0 m i).1.getD t .junk=gv at kY aY;cases gv with
     |bool g=>
      simp only[Eh,Option.some.injEq]at kY;subst kY;simp only[Region.wanted,hg,hyv g aY.bw];cases g<;>cases want<;>rfl
     |gd d x=>
      cases d with
      |false=>
       simp only[Region.wanted,hg,hyu aY.Ns];cases x<;>simp[Eh]at kY<;>subst kY<;>cases want<;>rfl
      |true=>
       cases x<;>simp[Eh]at kY;rename_i b;subst kY;simp only[Region.wanted,hg,hyv b (aY.Cn rfl).bw];cases b<;>cases want<;>rfl
     |_=>simp[Eh]at kY
    rw[V1];obtain⟨h1,h2⟩:=bQ;cases AO:gw with
    |true=>
     rw[AO]at h1 h2 fin;simp only[if_true];refine Qct (e:=evG gl (Xg P gl orc ops T0 m i).1 (tr P o)) hI.mm hB hI.g (fun x hx=>?_) (h2 rfl) r _ Q fun v w' γ' q1 q2 q3=>fin q1 q2 (.gd (fun _=>q3) (fun h=>by cases h));unfold evG;cases gX:rawOp (tr P o)with
     |true=>exact dh x hx
     |false=>
      refine AN (dh x hx) fun g' b hgb=>CB h1 (aC x) ?_ g' b hgb rfl;simp only[gxs,gX,cond_false];simp[Xl,hg];exact⟨x,Nm hx,rfl⟩
    |false=>
     rw[AO]at fin;simp only[zzbi,if_false];exact⟨fun _ _=>trivial,fin (Ev.refl _ _) hI.mm (.gd (fun h=>by cases h) (fun _=>rfl))⟩
def Fe{Q:PP}{K:AS->Prop}(hQ:∀γ w s a,K s->eF N w0 r an S P gl Y γ w s a->Q .normal a w)(hc:zb ops p=true)
  (alu:∀i o,i<p->ops[i]?=some o->(dop P gl orc (Xl P ops o) (Xg P gl orc ops T0 m i).1 m (Xg P gl orc ops T0 m i).2).1)
  (ark:Zo P gl orc Y ((ops.toList.drop p).map (Xl P ops)) ⟨(Xg P gl orc ops T0 m p).1,{m with boxes:=m.boxes++(Xg P gl orc ops T0 m p).2}⟩ K):
  ∀(aT:Nat)(listed:Array Bool)(γ:G)(w:World)(a:Act),P7 N w0 r an S Y P gl orc ops T0 m p listed γ w a->uc ops listed<=aT->wpAnyIn (FW r) 0 P .any ops Q aT listed a w:=by
 obtain⟨hp,di⟩:=Zn hc
 have full:∀(aT:Nat)(listed:Array Bool)(γ:G)(w:World)(a:Act),P7 N w0 r an S Y P gl orc ops T0 m p listed γ w a->uc ops listed<=aT->(∀i,i<p->listed.getD i false=true)->wpAnyIn (FW r) 0 P .any ops Q aT listed a w:=by
  intro aT listed γ w a hI iW bD;refine Qdt hQ hc aT p listed γ w _ a (zzab _) hp hI.size bD hI.tail iW ark ⟨?_,hI.ls,hI.rd,⟨?_,fun t x v hx hv=>?_⟩,hI.d,hI.g,hI.y,hI.e⟩
  ·have:=hI.mm;rw[aea bD]at this;exact this
  ·simp[iU,hI.tl]
  have h1:=hI.tt t
  have hAt:At P gl orc ops T0 m p listed t=x:=by
   have jY:(Xg P gl orc ops T0 m p).1.getD t .junk=x:=by simp only at hx;simp[List.getD,hx]
   unfold At;split
   ·exact jY
   rename_i hw;rw[<- jY];refine(Qeh p fun j hj hd=>hw ?_).symm;unfold wr;rw[zzbt];exact⟨j,zzb.2 hj,by rw[bD j hj,hd];simp⟩
  rw[hAt]at h1;have:a.tmps.getD t undef=v:=by simp at hv;simp[hv]
  rwa [this]at h1
 intro aT;induction aT with
 |zero=>
  intro listed γ w a hI iW
  exact full 0 listed γ w a hI iW fun i hi=>by
   rw[Xa (by rw[hI.size];omega) false true];exact Qdr (zzfh.1 iW) zE
 |succ aT ih=>
  intro listed γ w a hI iW;by_cases bD:∀i,i<p->listed.getD i false=true
  ·exact full (aT+1) listed γ w a hI iW bD
  have hex:∃k,k<p/\listed.getD k true=false:=by
   refine Classical.byContradiction fun hn=>bD fun i hi=>?_;rw[Xa (by rw[hI.size];omega) false true];cases hl:listed.getD i true with
   |true=>rfl
   |false=>exact absurd ⟨i,hi,hl⟩ hn
  obtain⟨k,hk,Wa⟩:=hex;refine⟨fun hr=>?_,fun i hi=>?_⟩
  ·obtain⟨j,hj⟩:=Un hc hI.size k k (zzab _) zE Wa;rw[hr]at hj;cases hj
  obtain⟨ah,hu,o,ho,bS⟩:=Uo hc hi
  have dA:i<p:=by
   rcases zzaa i p with h|h
   ·exact h
   have:=Qbb hI.clo ho ((di i o ho).2.2 h) bS i k zE zE;rw[Xa (by rw[hI.size];omega) false true,Wa]at this;cases this
  refine wpOpIn_mono ?_ (JV hc hI ho dA hu bS (alu i o dA ho));rintro a' w' ⟨γ',kZ⟩;refine ih _ γ' w' a' kZ ?_;have:=iV hI.size ah hu;omega
def wj{Q:PP}{K:AS->Prop}{γ:G}{w:World}{s:AS}{a:Act}(hQ:∀γ w s a,K s->eF N w0 r an S P gl Y γ w s a->Q .normal a w)(hc:zb ops p=true)
  (h:SD P gl orc Y ((ops.toList.drop p).map (Xl P ops)) K ((ops.toList.take p).map (Xl P ops)) s.T s.m [])(hs:eF N w0 r an S P gl Y γ w s a):
  wpAnyIn (FW r) 0 P .any ops Q ops.size (Array.replicate ops.size false) a {w with drawn:=w.drawn+1}:=by
 have hp:=(Zn hc).1;obtain⟨h1,h2⟩:=Nz (P:=P) (gl:=gl) (orc:=orc) (T0:=s.T) (m:=s.m) ((ops.toList.drop p).map (Xl P ops)) K hp p 0 zd (by rw[zzdd];exact h);refine Fe (T0:=s.T) (m:=s.m) hQ hc (fun i o hi ho=>h1 i o (zzbv _) hi ho) h2 ops.size _ γ w.drew a ⟨zd,fun i _ hi=>by simp[hi],fun i o h=>(by rcases zzaa i ops.size with h'|h'<;>simp[h']at h),?_,hs.ls.mono (Ev.drew w γ),hs.rd.aU (Ev.drew w γ).cF,?_,fun t=>?_,hs.d.aU (Ev.drew w γ).cF,fun g=>(hs.g g).mono (Ev.drew w γ).cS,hs.y.mono (Ev.drew w γ).cF,hs.e.trans (Ev.drew w γ).cF⟩ ?_
 ·have hB:AP P gl orc ops s.T s.m p (Array.replicate ops.size false)=s.m.B:=by
   funext id;unfold AP;simp only[AM.B];split
   ·rfl
   rename_i aK;rw[ab,zzav zE];rw[zzbt];rintro⟨j,_,hj⟩
   have:(Array.replicate ops.size false).getD j false=false:=by
    rcases zzaa j ops.size with h|h<;>simp[h]
   rw[this]at hj;cases hj
  rw[hB];exact hs.m.drew
 ·have:=hs.t.1;simp at this;omega
 ·have hw:wr ops p (Array.replicate ops.size false) t=false:=by
   unfold wr;rw[zzdl];intro j _
   have:(Array.replicate ops.size false).getD j false=false:=by
    rcases zzaa j ops.size with h|h<;>simp[h]
   rw[this];simp
  unfold At;rw[hw];simp only[zzbi,if_false];have:=(hs.t.mono (Ev.drew w γ)).get t;simpa[List.getD]using this
 unfold uc;exact zzbb (zzey) zd
end
def Wb(o:Oper):Bool:=o.guard.isNone
def arl(f:FuncId):Bool:=f==229||f==169||f==114||f==43||f==44
def aiH(o:Oper):Bool:=match o.op with
 |.call ⟨.value (.tmp _),_,_⟩=>o.dst.isSome
 |.call ⟨.value (.func f),_,_⟩=>o.dst.isSome&&arl f
 |.call ⟨.builtin .copy,_,_⟩=>true
 |.call ⟨.builtin .append,_,_⟩=>o.dst.isSome
 |.store _ _ _=>true
 |.mapUpdate _ _ _ _=>true
 |.mapEntry _ _ _=>true
 |.entryStore _ _ _ _=>true
 |_=>false
def CH(o:Oper):Bool:=aiH o||(match o.op with
 |.alloc _|.box _ _|.makeMap _ _|.range _ _=>true
 |_=>false)
def arn(f:FuncId):Bool:=f==0
def aro(o:Oper):Bool:=match o.op with
 |.call ⟨.value (.func f),_,_⟩=>arn f
 |_=>false
def ef(ops:Array Oper)(p:Oper->Bool)(i:Nat):Bool:=match ops[i]? with
 |some o=>p o
 |none=>false
def QA(ops:Array Oper):Pa->Bool
 |j::j'::r=>(match ops[j']? with|some o=>(Xy o).contains j|none=>false)&&QA ops (j'::r)
 |_=>true
def mR(ops:Array Oper)(p:Nat):Option (Pa):=
 let js:=(List.range p).filter (ef ops CH)
 if(List.range p).any (ef ops aiH)&&QA ops js&&((List.range p).all (ef ops Wb)||(List.range p).any (ef ops aro))&&(List.range p).all (fun i=>ops[i]?.isSome)then some js else none
inductive Fg
 |eff
 |pre
 |oth
def Ff(ops:Array Oper):Nat->Pa->Pa
 |0,s=>s
 |k+1,s=>bif s.any fun i=>v7 ops i k then Ff ops k (k::s)else Ff ops k s
def uo{ops:Array Oper}{listed:Array Bool}(h:Fb ops listed):∀(k:Nat)(s:Pa),(∀i∈s,listed.getD i false=true)->∀i∈Ff ops k s,listed.getD i false=true
 |0,_,hs,i,hi=>hs i hi
 |k+1,s,hs,i,hi=>by
  simp only[Ff]at hi;cases hc:s.any fun i=>v7 ops i k with
  |false=>rw[hc]at hi;exact uo h k s hs i hi
  |true=>
   rw[hc]at hi;refine uo h k (k::s) (fun j hj=>?_) i hi;rcases zzao.1 hj with rfl|hj
   ·obtain⟨x,hx,hw⟩:=zzbt.1 hc;unfold v7 at hw;split at hw
    ·rename_i o ho;exact h x o (hs x hx) ho j (Nm hw)
    cases hw
   exact hs j hj
def lR(ops:Array Oper)(js:Pa)(i:Nat):Bool:=match js with
 |j::_=>(Ff ops j [j]).contains i
 |[]=>false
def Jt(ops:Array Oper)(js:Pa)(i:Nat):Fg:=bif js.contains i then .eff else bif lR ops js i then .pre else .oth
def flags(ops:Array Oper)(p:Nat)(js:Pa):List Fg:=(List.range p).map (Jt ops js)
section
variable (P:Program) (gl:Nat->AV) (orc:UV) (Y:YT)
def memEff:aF->Bool
 |.store _ _ _|.cpy _ _ _|.mupd _ _ _ _|.ment _ _ _ _|.esto _ _ _|.alloc _|.box _|.mkmap _|.rng _|.app _ _ _ _=>true
 |_=>false
def effV(v:AV):aF->AV
 |.alloc _|.box _|.mkmap _|.rng _|.ment _ _ _ _|.app _ _ _ _=>v
 |_=>.junk
def effC(e:bE->AV)(m:AM)(dst:Option Nat)(av:AV)(m1:AM):aF->Prop
 |.call f args=>(match e f with
  |.fn g first cap=>aB P gl Y g (first++args.map e++cap) m (fun x m2=>x=av/\m2=m1)
  |_=>False)
 |so=>memEff so=true/\(sop P gl orc e m dst so).1/\av=effV (sop P gl orc e m dst so).2.1 so/\m1=(sop P gl orc e m dst so).2.2
def Vb(T:P2)(o:SO):Prop:=match o.guard with
 |none=>True
 |some (some t,b)=>T.getD t .junk=.bool b
 |some (none,_)=>False
def mT(l2:List SO)(K:AS->Prop)(m:AM)(ms:QP):List SO->List Fg->QP->AM->P2->Prop
 |[],_,q,mc,T=>q=[]/\Zo P gl orc Y l2 ⟨T,mc⟩ K
 |_::_,[],_,_,_=>False
 |o::r,.eff::fl,q,mc,T=>(match q with
  |[]=>False
  |x::q=>Vb T o/\effC P gl orc Y (ev gl T) mc o.dst x.1 x.2 o.op/\mT l2 K m ms r fl q x.2 (put T o.dst x.1))
 |o::r,.pre::fl,q,mc,T=>Vb T o/\(rop P gl orc (ev gl T) m o.dst o.op).1/\mT l2 K m ms r fl q mc (put T o.dst (rop P gl orc (ev gl T) m o.dst o.op).2)
 |o::r,.oth::fl,q,mc,T=>Vb T o/\(rop P gl orc (ev gl T) m o.dst o.op).1/\(∀x∈ms,rop P gl orc (ev gl T) x.2 o.dst o.op=rop P gl orc (ev gl T) m o.dst o.op)/\mT l2 K m ms r fl q mc (put T o.dst (rop P gl orc (ev gl T) m o.dst o.op).2)
def rdC(e:bE->AV)(m:AM)(dst:Option Nat)(x:AM):aF->Prop
 |.call f args=>(match e f with
  |.fn g first cap=>aB P gl Y g (first++args.map e++cap) x (fun y m2=>y=(rop P gl orc e m dst (.call f args)).2/\m2=x)
  |_=>False)
 |_=>False
def arp(m:AM)(ms:QP)(e:bE->AV)(dst:Option Nat)(so:aF):Prop:=
 ((rop P gl orc e m dst so).1/\∀x∈ms,rop P gl orc e x.2 dst so=rop P gl orc e m dst so)\/(rdC P gl orc Y e m dst m so/\∀x∈ms,rdC P gl orc Y e m dst x.2 so)
def iB(l2:List SO)(K:AS->Prop)(m:AM)(ms:QP):List SO->List Fg->QP->AM->P2->Prop
 |[],_,q,mc,T=>q=[]/\Zo P gl orc Y l2 ⟨T,mc⟩ K
 |_::_,[],_,_,_=>False
 |o::r,.eff::fl,q,mc,T=>(match q with
  |[]=>False
  |x::q=>Vb T o/\effC P gl orc Y (ev gl T) mc o.dst x.1 x.2 o.op/\iB l2 K m ms r fl q x.2 (put T o.dst x.1))
 |o::r,.pre::fl,q,mc,T=>Vb T o/\(rop P gl orc (ev gl T) m o.dst o.op).1/\iB l2 K m ms r fl q mc (put T o.dst (rop P gl orc (ev gl T) m o.dst o.op).2)
 |o::r,.oth::fl,q,mc,T=>Vb T o/\arp P gl orc Y m ms (ev gl T) o.dst o.op/\iB l2 K m ms r fl q mc (put T o.dst (rop P gl orc (ev gl T) m o.dst o.op).2)
def NF{l2:List SO}{K:AS->Prop}{m:AM}{ms:QP}:∀{l:List SO}{fl:List Fg}{q:QP}{mc:AM}{T:P2},mT P gl orc Y l2 K m ms l fl q mc T->iB P gl orc Y l2 K m ms l fl q mc T
 |[],fl,q,mc,T,h=>by simp only[mT]at h;simp only[iB];exact h
 |_::_,[],_,_,_,h=>by simp only[mT]at h
 |o::r,.eff::fl,[],mc,T,h=>by simp only[mT]at h
 |o::r,.eff::fl,x::q,mc,T,h=>by
  simp only[mT]at h;simp only[iB];exact⟨h.1,h.2.1,NF h.2.2⟩
 |o::r,.pre::fl,q,mc,T,h=>by
  simp only[mT]at h;simp only[iB];exact⟨h.1,h.2.1,NF h.2.2⟩
 |o::r,.oth::fl,q,mc,T,h=>by
  simp only[mT]at h;simp only[iB];exact⟨h.1,.inl ⟨h.2.1,h.2.2.1⟩,NF h.2.2.2⟩
end
def JW:QQ->Nat->Option AV
 |[],_=>none
 |(k,a)::r,d=>if k=d then some a else JW r d
def Xc:Pa->QP->QQ
 |j::js,x::q=>(j,x.1)::Xc js q
 |_,_=>[]
def Ud(listed:Array Bool):AM->Pa->QP->AM
 |m,j::js,x::q=>if listed.getD j false then Ud listed x.2 js q else m
 |m,_,_=>m
def Yb(m:AM)(ms:QP):Nat->AM
 |0=>m
 |a+1=>(ms.getD a (.junk,m)).2
def chn(listed:Array Bool):Pa->Prop
 |j::j'::r=>(listed.getD j' false=true->listed.getD j false=true)/\chn listed (j'::r)
 |_=>True
section
variable {N:Nat} {w0:eO} {r:Option Nat} {an:Nat->Nat->Prop} {S:G×World} {Y:YT} {P:Program} {gl:Nat->AV} {orc:UV} {ops:Array Oper} {T0:P2} {m:AM} {p:Nat}
def wk(listed:Array Bool):∀(js:Pa)(ms:QP)(m:AM),Ud listed m js ms=m\/∃x∈ms,Ud listed m js ms=x.2
 |[],ms,m=>.inl (by cases ms<;>rfl)
 |j::js,[],m=>.inl rfl
 |j::js,x::q,m=>by
  simp only[Ud];split
  ·rcases wk listed js q x.2 with h|⟨y,hy,h⟩
   ·exact .inr ⟨x,zd,h⟩
   exact .inr ⟨y,by simp[hy],h⟩
  exact .inl rfl
def Ja{listed:Array Bool}:∀{js:Pa}{ms:QP}{m:AM}{a:Nat},js.length=ms.length->a<=js.length->(∀b j,b<a->js[b]?=some j->listed.getD j false=true)->(∀j,js[a]?=some j->listed.getD j false=false)->
  Ud listed m js ms=Yb m ms a
 |[],[],m,a,_,ha,_,_=>by
  have:a=0:=by simpa using ha
  subst this;rfl
 |[],_::_,_,_,h,_,_,_=>by simp at h
 |_::_,[],_,_,h,_,_,_=>by simp at h
 |j::js,x::q,m,0,_,_,_,h=>by
  simp only[Ud,Yb];rw[h j rfl];rfl
 |j::js,x::q,m,a+1,hl,ha,h1,h2=>by
  simp only[Ud];rw[h1 0 j zE rfl,ac rfl];rw[Ja (a:=a) (Nm hl) (Nm ha) (fun b j hb hj=>h1 (b+1) j zE (Nm hj)) (fun j hj=>h2 j (Nm hj))];cases a with
  |zero=>rfl
  |succ a=>
   simp only[Yb,List.getD_cons_succ];have:a<q.length:=by simp at ha hl;omega
   simp[List.getD,this]
def qL{listed NG:Array Bool}:∀{js:Pa}{ms:QP}{m:AM},(∀j∈js,NG.getD j false=listed.getD j false)->Ud NG m js ms=Ud listed m js ms
 |[],_,_,_=>rfl
 |_::_,[],_,_=>rfl
 |j::js,x::q,m,h=>by
  simp only[Ud];rw[h j zd,qL fun j hj=>h j (by simp[hj])]
def Qbl{listed:Array Bool}:∀{js:Pa},chn listed js->∀{a b j j':Nat},a<b->js[a]?=some j->js[b]?=some j'->listed.getD j' false=true->listed.getD j false=true
 |[],_,a,b,j,j',_,h,_,_=>by simp at h
 |[x],_,a,b,j,j',hab,h,h',_=>by
  have:=(zza.1 h').1;simp at this;omega
 |x::y::r,hc,0,1,j,j',_,h,h',hl=>by
  simp at h h';subst h;subst h';exact hc.1 hl
 |x::y::r,hc,0,b+2,j,j',_,h,h',hl=>by
  simp at h;subst h;exact hc.1 (Qbl hc.2 (a:=0) (b:=b+1) zE rfl (Nm h') hl)
 |x::y::r,hc,a+1,b+1,j,j',hab,h,h',hl=>Qbl hc.2 (a:=a) (b:=b) zE (Nm h) (Nm h') hl
def uq{listed:Array Bool}{i:Nat}:∀{js:Pa},chn listed js->(∀a j,js[a]?=some j->js[a+1]?=some i->listed.getD j false=true)->chn (listed.setIfInBounds i true) js
 |[],_,_=>trivial
 |[_],_,_=>trivial
 |j::j'::r,hc,h=>by
  refine⟨fun hl=>?_,uq hc.2 fun a x hx jY=>h (a+1) x (Nm hx) (Nm jY)⟩
  have mono:∀k,listed.getD k false=true->(listed.setIfInBounds i true).getD k false=true:=fun k hk=>by
   by_cases qJ:i=k
   ·subst qJ
    have:i<listed.size:=by
     rcases zzaa i listed.size with h|h
     ·exact h
     simp[zzbm.2 h]at hk
    exact Xt this
   rw[Qv (Ne.symm qJ)];exact hk
  by_cases fu:i=j'
  ·subst fu;exact mono j (h 0 j rfl rfl)
  rw[Qv (Ne.symm fu)]at hl;exact mono j (hc.1 hl)
def Uy{l:Pa}(h:l.Nodup){a b i:Nat}(h1:l[a]?=some i)(h2:l[b]?=some i):a=b:=by
 obtain⟨ha,ea⟩:=zza.1 h1;obtain⟨hb,eb⟩:=zza.1 h2;rcases zzeg a b with h'|h'|h'
 ·exact absurd (ea.trans eb.symm) (zzdu.1 h a b ha hb h')
 ·exact h'
 exact absurd (eb.trans ea.symm) (zzdu.1 h b a hb ha h')
def CI(P:Program)(gl:Nat->AV)(orc:UV)(ops:Array Oper)(m:AM)(L:QQ)(i:Nat)(T:P2):AV:=match JW L i with
 |some av=>av
 |none=>match ops[i]? with
  |some o=>(rop P gl orc (ev gl T) m o.dst (tr P o)).2
  |none=>.junk
def bT(P:Program)(gl:Nat->AV)(orc:UV)(ops:Array Oper)(T0:P2)(m:AM)(L:QQ):Nat->P2
 |0=>T0
 |k+1=>match ops[k]? with
  |some o=>put (bT P gl orc ops T0 m L k) o.dst (CI P gl orc ops m L k (bT P gl orc ops T0 m L k))
  |none=>bT P gl orc ops T0 m L k
def Qdf{L:QQ}{k:Nat}{o:Oper}(h:ops[k]?=some o):bT P gl orc ops T0 m L (k+1)=put (bT P gl orc ops T0 m L k) o.dst (CI P gl orc ops m L k (bT P gl orc ops T0 m L k)):=by
 simp only[bT,h]
def Qei{L:QQ}:∀k,(bT P gl orc ops T0 m L k).length=T0.length
 |0=>rfl
 |k+1=>by
  cases h:ops[k]? with
  |none=>simp only[bT,h];exact Qei k
  |some o=>rw[Qdf h,we];exact Qei k
def Qay{L:QQ}{t:Nat}:∀k,(∀j,j<k->Vx ops j≠some t)->(bT P gl orc ops T0 m L (k)).getD t .junk=T0.getD t .junk
 |0,_=>rfl
 |k+1,h=>by
  cases ho:ops[k]? with
  |none=>simp only[bT,ho];exact Qay k fun j hj=>h j zE
  |some o=>
   rw[Qdf ho,Qca (by have:=h k zE;simpa[Vx,ho]using this)];exact Qay k fun j hj=>h j zE
def iX{L:QQ}{t k:Nat}:∀n,(∀j,k<=j->j<k+n->Vx ops j≠some t)->(bT P gl orc ops T0 m L (k+n)).getD t .junk=(bT P gl orc ops T0 m L (k)).getD t .junk
 |0,_=>rfl
 |n+1,h=>by
  rw[<- zzap];cases ho:ops[k+n]? with
  |none=>simp only[bT,ho];exact iX n fun j h1 h2=>h j h1 zE
  |some o=>
   rw[Qdf ho,Qca (by have:=h (k+n) zE zE;simpa[Vx,ho]using this)];exact iX n fun j h1 h2=>h j h1 zE
def oC(P:Program)(gl:Nat->AV)(orc:UV)(ops:Array Oper)(T0:P2)(m:AM)(L:QQ)(p:Nat)(listed:Array Bool)(t:Nat):AV:=
 if wr ops p listed t then(bT P gl orc ops T0 m L (p)).getD t .junk else T0.getD t .junk
def aiI{L:QQ}(hc:zb ops p=true){listed:Array Bool}(hsz:listed.size=ops.size){i:Nat}{o:Oper}(ho:ops[i]?=some o)(dA:i<p)(hu:listed.getD i true=false)(bS:∀j∈Xy o,listed.getD j false=true)
  {t:Nat}(ht:t∈o.looksAt ops):(bT P gl orc ops T0 m L (i)).getD t .junk=oC P gl orc ops T0 m L p listed t:=by
 have hi:i<ops.size:=(zzbz.1 ho).1;obtain⟨hp,di⟩:=Zn hc;unfold oC;by_cases hex:∃j,j<p/\Vx ops j=some t/\j≠i
 ·obtain⟨j,hj,hd,aO⟩:=hex;obtain⟨Aw,hja⟩:=((di i o ho).2.1 dA).1 t ht j hj hd aO
  have hw:wr ops p listed t=true:=by
   unfold wr;rw[zzbt];exact⟨j,zzb.2 hj,by rw[bS j hja,hd];simp⟩
  rw[ac hw]
  have:=iX (P:=P) (gl:=gl) (orc:=orc) (ops:=ops) (T0:=T0) (m:=m) (L:=L) (t:=t) (k:=i) (p-i) fun k dK eE NC=>by
   have hk:k<ops.size:=zE
   have ND:ops[k]?=some ops[k]:=zzah hk;have:=((di k _ ND).2.1 zE).2 j zE t hd;simp[Vx,ND]at NC;exact this NC
  rw[show i+(p-i)=p by omega]at this;exact this.symm
 have hw:wr ops p listed t=false:=by
  unfold wr;rw[zzdl];intro j hj;simp only[zzac,beq_iff_eq,not_and];intro hl hd;by_cases Aw:j=i
  ·subst Aw;rw[Xa zE false true,hu]at hl;cases hl
  exact hex ⟨j,zzb.1 hj,hd,Aw⟩
 rw[hw];simp only[zzbi,if_false];exact Qay i fun j hj hd=>hex ⟨j,zE,hd,zE⟩
def CJ{L:QQ}(hc:zb ops p=true){listed:Array Bool}(hsz:listed.size=ops.size){i:Nat}{o:Oper}(ho:ops[i]?=some o)(dA:i<p){t:Nat}:
  oC P gl orc ops T0 m L p (listed.setIfInBounds i true) t=if o.dst=some t/\t<T0.length then CI P gl orc ops m L i (bT P gl orc ops T0 m L i)else oC P gl orc ops T0 m L p listed t:=by
 have hi:i<ops.size:=(zzbz.1 ho).1;obtain⟨hp,di⟩:=Zn hc;by_cases hd:o.dst=some t
 ·have hw:wr ops p (listed.setIfInBounds i true) t=true:=by
   unfold wr;rw[zzbt];exact⟨i,zzb.2 dA,by rw[Xt zE];simp[Vx,ho,hd]⟩
  have hl:=iX (P:=P) (gl:=gl) (orc:=orc) (ops:=ops) (T0:=T0) (m:=m) (L:=L) (t:=t) (k:=i+1) (p-(i+1)) fun k dK eE NC=>by
   have hk:k<ops.size:=zE
   have ND:ops[k]?=some ops[k]:=zzah hk;have:=((di k _ ND).2.1 zE).2 i zE t (by simp[Vx,ho,hd]);simp[Vx,ND]at NC;exact this NC
  rw[show i+1+(p-(i+1))=p by omega]at hl;by_cases ht:t<T0.length
  ·rw[ac ⟨hd,ht⟩];unfold oC;rw[ac hw,hl,Qdf ho,hd];exact lP (by rw[Qei];exact ht)
  rw[ab (by simp[ht])]
  have h1:∀k,(bT P gl orc ops T0 m L (k)).getD t .junk=.junk:=fun k=>by
   have:=Qei (P:=P) (gl:=gl) (orc:=orc) (ops:=ops) (T0:=T0) (m:=m) (L:=L) k;simp only[List.getD];rw[zzav zE];rfl
  have h2:T0.getD t .junk=.junk:=h1 0;unfold oC;rw[h1 p,h2];simp
 rw[ab (by simp[hd])]
 have hw:wr ops p (listed.setIfInBounds i true) t=wr ops p listed t:=by
  unfold wr;congr 1;funext j;by_cases hj:j=i
  ·subst hj;have hb:(o.dst==some t)=false:=by simpa using hd
   simp[Vx,ho,hb]
  rw[Qv hj]
 unfold oC;rw[hw]
structure qM (N:Nat) (w0:eO) (r:Option Nat) (an:Nat->Nat->Prop) (S:G×World) (Y:YT) (P:Program) (gl:Nat->AV) (orc:UV) (ops:Array Oper) (T0:P2) (m:AM) (ms:QP) (js:Pa) (L:QQ) (p:Nat) (listed:Array Bool) (γ:G) (w:World) (a:Act):Prop where
 size:listed.size=ops.size
 tail:∀i,p<=i->i<ops.size->listed.getD i true=false
 ch:chn listed js
 clo:∀i o,listed.getD i false=true->ops[i]?=some o->∀j∈Xy o,listed.getD j false=true
 mm:au N w0 an γ w (Ud listed m js ms).B (Ud listed m js ms).L
 ls:cQ γ w (Ud listed m js ms)
 rd:Rdr r γ w
 tl:a.tmps.size=T0.length
 tt:∀t,aA w γ (oC P gl orc ops T0 m L p listed t) (a.tmps.getD t undef)
 d:Dfr S.2.heap.size γ w a.defers
 g:∀g,aA w γ.cS (gl g) (.pointer (some ⟨g,0,none⟩))
 y:YOK N w0 an P Y γ w
 e:ey S.2 S.1 w γ
def Fh:∀(js:Pa)(ms:QP)(d:Nat),d ∉ js->JW (Xc js ms) d=none
 |[],_,_,_=>rfl
 |_::_,[],_,_=>rfl
 |j::js,x::q,d,h=>by
  simp only[Xc,JW];rw[ab (by rintro rfl;exact h zd)];exact Fh js q d fun h'=>h (by simp[h'])
def Fi:∀(js:Pa)(ms:QP)(a i:Nat)(x:AV×AM),js.Nodup->js[a]?=some i->ms[a]?=some x->JW (Xc js ms) i=some x.1
 |[],_,_,_,_,_,h,_=>by simp at h
 |_::_,[],_,_,_,_,_,h=>by simp at h
 |j::js,y::q,0,i,x,_,h,hx=>by
  simp at h hx;subst h;subst hx;simp only[Xc,JW,if_true]
 |j::js,y::q,a+1,i,x,hn,h,hx=>by
  have qh:=zzed.1 hn;have h':js[a]?=some i:=by simpa using h
  simp only[Xc,JW];rw[ab (by rintro rfl;exact qh.1 (zzad h'))];exact Fi js q a i x qh.2 h' (Nm hx)
def iY{js:Pa}{ms:QP}{a i:Nat}{x:AV×AM}(hn:js.Nodup)(h:js[a]?=some i)(hx:ms[a]?=some x)(T:P2):CI P gl orc ops m (Xc js ms) i T=x.1:=by
 unfold CI;rw[Fi js ms a i x hn h hx]
def oE{js:Pa}{ms:QP}{i:Nat}{o:Oper}(h:i ∉ js)(ho:ops[i]?=some o)(T:P2):CI P gl orc ops m (Xc js ms) i T=(rop P gl orc (ev gl T) m o.dst (tr P o)).2:=by
 unfold CI;rw[Fh js ms i h,ho]
def wm{γ:G}{w:World}{a:Act}{o:Oper}{T:P2}(wq:Vb T (Xl P ops o))(zC:∀t∈o.looksAt ops,aA w γ (T.getD t .junk) (a.tmps.getD t undef)):Region.wanted o (yielded ops a.tmps)=true:=by
 cases hg:o.guard with
 |none=>simp[Region.wanted,hg]
 |some jw=>
  obtain⟨j,want⟩:=jw;have e1:(Xl P ops o).guard=some ((ops[j]?).bind (·.dst),want):=by simp[Xl,hg]
  unfold Vb at wq;rw[e1]at wq;cases hj:(ops[j]?).bind (·.dst)with
  |none=>rw[hj]at wq;exact wq.elim
  |some t=>
   rw[hj]at wq;simp only at wq;have lQ:t∈o.looksAt ops:=by simp[Oper.looksAt,hg,hj]
   have aY:=zC t lQ;rw[wq]at aY;have hb:=aY.bw
   have cn:t<a.tmps.size:=by
    rcases zzaa t a.tmps.size with h|h
    ·exact h
    simp[zzbq h,undef]at hb
   simp[cn]at hb;have hy:yielded ops a.tmps j=some want:=by simp only[yielded,hj,zzcx,zzah cn,hb]
   simp only[Region.wanted,hg,hy];cases want<;>rfl
def Qce{ms:QP}{js:Pa}(hc:zb ops p=true){Q:PP}{listed:Array Bool}{γ:G}{w:World}{a:Act}
  (hI:qM N w0 r an S Y P gl orc ops T0 m ms js (Xc js ms) p listed γ w a){i:Nat}{o:Oper}(ho:ops[i]?=some o)(dA:i<p)(wq:Vb (bT P gl orc ops T0 m (Xc js ms) i) (Xl P ops o))(aH:js.length=ms.length)(nX:js.Nodup)
  (hu:listed.getD i true=false)(bS:∀j∈Xy o,listed.getD j false=true)(mU:∀a j,js[a]?=some j->js[a+1]?=some i->listed.getD j false=true)
  (aO:i ∉ js->((rop P gl orc (ev gl (bT P gl orc ops T0 m (Xc js ms) i)) m o.dst (tr P o)).1/\(lR ops js i=false->∀x∈ms,rop P gl orc (ev gl (bT P gl orc ops T0 m (Xc js ms) i)) x.2 o.dst (tr P o)=rop P gl orc (ev gl (bT P gl orc ops T0 m (Xc js ms) i)) m o.dst (tr P o)))\/(rdC P gl orc Y (ev gl (bT P gl orc ops T0 m (Xc js ms) i)) m o.dst m (tr P o)/\∀x∈ms,rdC P gl orc Y (ev gl (bT P gl orc ops T0 m (Xc js ms) i)) m o.dst x.2 (tr P o)))
  (Ef:∀k x,js[k]?=some i->ms[k]?=some x->effC P gl orc Y (ev gl (bT P gl orc ops T0 m (Xc js ms) i)) (Yb m ms k) o.dst x.1 x.2 (tr P o)):
  wpOpIn (FW r) 0 P ops Q i (fun a' w'=>∃γ',qM N w0 r an S Y P gl orc ops T0 m ms js (Xc js ms) p (listed.setIfInBounds i true) γ' w' a'/\∀t,o.dst≠some t->a'.tmps.getD t undef=a.tmps.getD t undef) a w:=by
 have hi:i<ops.size:=(zzbz.1 ho).1;have iT:i<listed.size:=by rw[hI.size];exact hi
 have zC:∀t∈o.looksAt ops,aA w γ ((bT P gl orc ops T0 m (Xc js ms) i).getD t .junk) (a.tmps.getD t undef):=fun t ht=>by
  rw[aiI (P:=P) (gl:=gl) (orc:=orc) (T0:=T0) (m:=m) (L:=Xc js ms) hc hI.size ho dA hu bS ht];exact hI.tt t
 have dh:∀x∈o.op.operands,aA w γ (ev gl (bT P gl orc ops T0 m (Xc js ms) i) (aC x)) (a.eval x):=fun x hx=>by
  cases x with
  |tmp t=>exact zC t (by simp only[Oper.looksAt,zzaj,zzfo];exact .inl ⟨.tmp t,Nm hx,rfl⟩)
  |const v=>exact Kb w γ v
  |func f=>exact .fn rfl (fun i c v h=>by simp at h) rfl fun i c v h=>by simp at h
  |global g=>exact(hI.g g).gm
 have gY:chn (listed.setIfInBounds i true) js:=uq hI.ch fun a j h1 h2=>mU a j h1 h2;have hpr:Fb ops (listed.setIfInBounds i true):=Fb.set hI.clo ho iT bS
 have fin:∀{v:Value}{w':World}{γ':G},ey w γ w' γ'->au N w0 an γ' w' (Ud (listed.setIfInBounds i true) m js ms).B (Ud (listed.setIfInBounds i true) m js ms).L->cQ γ' w' (Ud (listed.setIfInBounds i true) m js ms)->
   aA w' γ' (CI P gl orc ops m (Xc js ms) i (bT P gl orc ops T0 m (Xc js ms) i)) v->∃γ',qM N w0 r an S Y P gl orc ops T0 m ms js (Xc js ms) p (listed.setIfInBounds i true) γ' w' (a.put o.dst v)/\∀t,o.dst≠some t->(a.put o.dst v).tmps.getD t undef=a.tmps.getD t undef:=fun{v w' γ'}he hm hl hr=>by
  have awK:∀t,o.dst≠some t->(a.put o.dst v).tmps.getD t undef=a.tmps.getD t undef:=fun t hd=>by
   cases zw:o.dst with
   |none=>rfl
   |some d=>simp only[Act.put];simp;rw[zzco (by rintro rfl;exact hd zw)]
  refine⟨γ',⟨by simp[hI.size],fun j dX nV=>by rw[Qv zE];exact hI.tail j dX nV,gY,hpr,hm,hl,hI.rd.aU he,?_,fun t=>?_,?_,fun g=>(hI.g g).aU he.cS,hI.y.mono he,hI.e.trans he⟩,awK⟩
  ·cases hd:o.dst<;>simp[Act.put,hI.tl]
  ·rw[CJ hc hI.size ho dA];by_cases hd:o.dst=some t
   ·by_cases ht:t<T0.length
    ·rw[ac ⟨hd,ht⟩,hd];have:(a.put (some t) v).tmps.getD t undef=v:=by simp[Act.put,hI.tl,ht]
     rw[this];exact hr
    rw[ab (by simp[ht]),hd];have:(a.put (some t) v).tmps.getD t undef=a.tmps.getD t undef:=by simp[Act.put,hI.tl,ht]
    rw[this];exact(hI.tt t).aU he
   rw[ab (by simp[hd])]
   have:(a.put o.dst v).tmps.getD t undef=a.tmps.getD t undef:=by
    cases zw:o.dst with
    |none=>rfl
    |some d=>simp only[Act.put];simp;rw[zzco (by rintro rfl;exact hd zw)]
   rw[this];exact(hI.tt t).aU he
  cases hd:o.dst<;>exact hI.d.aU he
 simp only[wpOpIn,ho];have hw:Region.wanted o (yielded ops a.tmps)=true:=wm wq zC;rw[ac hw];by_cases fu:i∈js
 ·obtain⟨k,hk⟩:=zzcp.1 fu;have ur:k<ms.length:=by rw[<- aH];exact(zza.1 hk).1
  obtain⟨x,hx⟩:∃x,ms[k]?=some x:=⟨ms[k],zzaf ur⟩;have h1:=Ef k x hk hx;have h2:=iY (P:=P) (gl:=gl) (orc:=orc) (ops:=ops) (m:=m) nX hk hx (bT P gl orc ops T0 m (Xc js ms) i);have P8:listed.getD i false=false:=by rw[Xa iT false true];exact hu
  have CK:∀b j,b<k->js[b]?=some j->listed.getD j false=true:=fun b j hb hj=>by
   have dx:k-1<js.length:=by have:=(zza.1 hk).1;omega
   obtain⟨j1,dX⟩:∃j1,js[k-1]?=some j1:=⟨js[k-1],zzaf dx⟩;have gK:=mU (k-1) j1 dX (by rw[show k-1+1=k by omega];exact hk);rcases zzaa b (k-1)with h|h
   ·exact Qbl hI.ch h hj dX gK
   obtain rfl:b=k-1:=zE
   rw[hj]at dX;cases dX;exact gK
  have JX:Ud listed m js ms=Yb m ms k:=Ja aH (by have:=(zza.1 hk).1;omega) CK (fun j hj=>by rw[hk]at hj;cases hj;exact P8)
  have sv:Ud (listed.setIfInBounds i true) m js ms=x.2:=by
   have:=Ja (listed:=listed.setIfInBounds i true) (m:=m) (a:=k+1) aH (by have:=(zza.1 hk).1;omega) (fun b j hb hj=>?_) (fun j hj=>?_)
   ·rw[this];simp[Yb,List.getD,hx]
   ·rcases zzaa b k with h|h
    ·have fI:j≠i:=by
      rintro rfl;have:=Uy nX hj hk;omega
     rw[Qv fI];exact CK b j h hj
    obtain rfl:b=k:=zE
    rw[hk]at hj;cases hj;exact Xt iT
   have fI:j≠i:=by
    rintro rfl;have:=Uy nX hj hk;omega
   rw[Qv fI];cases hl:listed.getD j false with
   |false=>rfl
   |true=>rw[Qbl hI.ch (zzfe k) hk hj hl]at P8;cases P8
  rw[sv,h2]at fin;have gL:=hI.mm;have lJ:=hI.ls;rw[JX]at gL lJ
  have zD:eF N w0 r an S P gl Y γ w ⟨(List.range T0.length).map fun t=>oC P gl orc ops T0 m (Xc js ms) p listed t,Yb m ms k⟩ a:=by
   refine⟨gL,lJ,hI.rd,⟨by simp[hI.tl],fun t x v hx hv=>?_⟩,hI.d,hI.g,hI.y,hI.e⟩
   ·have ah:t<T0.length:=by
     rcases zzaa t T0.length with h|h
     ·exact h
     simp[zzbm.2 h]at hx
    simp[ah]at hx;have:=hI.tt t;rw[hx]at this;have EX:a.tmps.getD t undef=v:=by simp at hv;simp[hv]
    rwa [EX]at this
  have mem:∀so,tr P o=so->memEff so=true->((sop P gl orc (ev gl (bT P gl orc ops T0 m (Xc js ms) i)) (Yb m ms k) o.dst so).1/\x.1=effV (sop P gl orc (ev gl (bT P gl orc ops T0 m (Xc js ms) i)) (Yb m ms k) o.dst so).2.1 so/\x.2=(sop P gl orc (ev gl (bT P gl orc ops T0 m (Xc js ms) i)) (Yb m ms k) o.dst so).2.2)->
    o.wpIn (FW r) 0 P a w (fun a' w'=>∃γ',qM N w0 r an S Y P gl orc ops T0 m ms js (Xc js ms) p (listed.setIfInBounds i true) γ' w' a'/\∀t,o.dst≠some t->a'.tmps.getD t undef=a.tmps.getD t undef) Q:=fun so P9 _⟨k1,k2,k3⟩=>by
   refine AL (orc:=orc) (K:=fun av' m'=>x.1=effV av' so/\m'=x.2) gL hI.g dh ⟨by rw[P9];exact k1,by rw[P9];exact⟨k2,k3.symm⟩⟩ r _ Q fun v w' γ' av' m' hK h3 h4 h5 h6=>?_;obtain⟨VZ,rfl⟩:=hK;refine fin h4.cF h5 (lJ.mono' h4 h3) ?_;rw[VZ];unfold effV;split<;>first|exact h6|exact .junk _
  cases Iz:tr P o with
  |call f args=>
   rw[Iz]at h1
   have mJ:Qah P gl Y (ev gl (bT P gl orc ops T0 m (Xc js ms) i)) (Yb m ms k) (fun y m2=>y=x.1/\m2=x.2) (tr P o):=by
    rw[Iz];simp only[effC]at h1;simp only[Qah];split at h1
    ·rename_i g first cap bU;simp only[bU];exact h1
    exact h1.elim
   refine Qde zD dh mJ fun v w' γ' av' m' hK h3 h4 h5 h6=>?_;obtain⟨rfl,rfl⟩:=hK;exact fin h3 h4 h5 h6
  |_=>rw[Iz]at h1;first|exact mem _ Iz h1.1 h1.2|exact absurd h1.1 (by simp[memEff])
 rcases aO fu with⟨h1,h2⟩|iC
 ·have bR:Ud (listed.setIfInBounds i true) m js ms=Ud listed m js ms:=qL fun j hj=>Qv (by rintro rfl;exact fu hj);rw[bR]at fin;have gL:=hI.mm;have lJ:=hI.ls
  have arq:rop P gl orc (ev gl (bT P gl orc ops T0 m (Xc js ms) i)) (Ud listed m js ms) o.dst (tr P o)=rop P gl orc (ev gl (bT P gl orc ops T0 m (Xc js ms) i)) m o.dst (tr P o):=by
   cases jX:lR ops js i with
   |false=>
    rcases wk listed js ms m with h|⟨x,hx,h⟩
    ·rw[h]
    rw[h];exact h2 jX x hx
   |true=>
    have JX:Ud listed m js ms=m:=by
     cases js with
     |nil=>cases ms<;>rfl
     |cons j0 js=>
      simp only[lR]at jX
      have hn:listed.getD j0 false=false:=by
       cases hl:listed.getD j0 false with
       |false=>rfl
       |true=>
        have:=uo (ops:=ops) (listed:=listed) hI.clo j0 [j0] (fun k hk=>by rw[zzbx.1 hk];exact hl) i (Nm jX);rw[Xa iT false true,hu]at this;cases this
      cases ms with
      |nil=>rfl
      |cons x q=>simp only[Ud,hn];rfl
    rw[JX]
  generalize Ud listed m js ms=mL at*
  refine Qct (m:=mL) gL (fun _ _ h=>h) hI.g dh (by rw[arq];exact h1) r _ Q fun v w' γ' q1 q2 q3=>?_;rw[arq]at q3;exact fin q1.cF q2 (lJ.mono q1) (by rw[oE fu ho];exact q3)
 have bR:Ud (listed.setIfInBounds i true) m js ms=Ud listed m js ms:=qL fun j hj=>Qv (by rintro rfl;exact fu hj);rw[bR]at fin;have gL:=hI.mm;have lJ:=hI.ls
 have hL:rdC P gl orc Y (ev gl (bT P gl orc ops T0 m (Xc js ms) i)) m o.dst (Ud listed m js ms) (tr P o):=by
  rcases wk listed js ms m with h|⟨x,hx,h⟩
  ·rw[h];exact iC.1
  rw[h];exact iC.2 x hx
 generalize Ud listed m js ms=mL at*
 have zD:eF N w0 r an S P gl Y γ w ⟨(List.range T0.length).map fun t=>oC P gl orc ops T0 m (Xc js ms) p listed t,mL⟩ a:=by
  refine⟨gL,lJ,hI.rd,⟨by simp[hI.tl],fun t x v hx hv=>?_⟩,hI.d,hI.g,hI.y,hI.e⟩
  ·have ah:t<T0.length:=by
    rcases zzaa t T0.length with h|h
    ·exact h
    simp[zzbm.2 h]at hx
   simp[ah]at hx;have:=hI.tt t;rw[hx]at this;have EX:a.tmps.getD t undef=v:=by simp at hv;simp[hv]
   rwa [EX]at this
 cases Iz:tr P o with
 |call f args=>
  rw[Iz]at hL
  have mJ:Qah P gl Y (ev gl (bT P gl orc ops T0 m (Xc js ms) i)) mL (fun y m2=>y=(rop P gl orc (ev gl (bT P gl orc ops T0 m (Xc js ms) i)) m o.dst (.call f args)).2/\m2=mL) (tr P o):=by
   rw[Iz];simp only[rdC]at hL;simp only[Qah];split at hL
   ·rename_i g first cap bU;simp only[bU];exact hL
   exact hL.elim
  refine Qde zD dh mJ fun v w' γ' av' m' hK h3 h4 h5 h6=>?_;obtain⟨rfl,rfl⟩:=hK;exact fin h3 h4 h5 (by rw[oE fu ho,Iz];exact h6)
 |_=>rw[Iz]at hL;exact(show False from hL).elim
def uu:∀{js:Pa},QA ops js=true->∀a j j' o,js[a]?=some j->js[a+1]?=some j'->ops[j']?=some o->j∈Xy o
 |[],_,a,j,j',o,h,_,_=>by simp at h
 |[x],_,a,j,j',o,h,h',_=>by
  have:=(zza.1 h').1;simp at this
 |x::y::r,hc,0,j,j',o,h,h',ho=>by
  simp at h h';subst h;subst h';simp only[QA,zzac,ho]at hc;simpa using hc.1
 |x::y::r,hc,a+1,j,j',o,h,h',ho=>by
  simp only[QA,zzac]at hc;exact uu hc.2 a j j' o (Nm h) (Nm h') ho
def Qcd{js:Pa}(h:mR ops p=some js):js=(List.range p).filter (ef ops CH)/\QA ops js=true/\∀i,i<p->∃o,ops[i]?=some o:=by
 unfold mR at h;simp only at h;split at h
 case isFalse=>cases h
 rename_i bD;cases h;simp only[zzac]at bD;refine⟨rfl,bD.1.1.2,fun i hi=>?_⟩;have h1:=zzax.1 bD.2 i (zzb.2 hi);exact zzby.1 h1
def eR(ops:Array Oper)(k:Nat):Nat:=((List.range k).filter (ef ops CH)).length
def Fj(k:Nat):eR ops (k+1)=eR ops k+(if ef ops CH k=true then 1 else 0):=by
 simp only[eR,zzfj,zzdb,zzal];cases h:ef ops CH k<;>simp[h]
def Wc{i:Nat}(hi:i<p)(hd:ef ops CH i=true):((List.range p).filter (ef ops CH))[eR ops i]?=some i:=by
 obtain⟨n,rfl⟩:∃n,p=i+(n+1):=⟨p-i-1,zE⟩;rw[List.range_add,zzdb];have hl:eR ops i=((List.range i).filter (ef ops CH)).length:=rfl;rw[hl,zzaq (zzab _),zzhb,zzar,zzcm,zzd hd];simp
def NH{ms:QP}{js:Pa}(l2:List SO)(K:AS->Prop)(hp:p<=ops.size)(lN:js=(List.range p).filter (ef ops CH)):∀(n k:Nat)(mc:AM),k+n=p->eR ops k<=ms.length->mc=Yb m ms (eR ops k)->
  iB P gl orc Y l2 K m ms (((ops.toList.take p).drop k).map (Xl P ops)) ((flags ops p js).drop k) (ms.drop (eR ops k)) mc (bT P gl orc ops T0 m (Xc js ms) k)->
  js.length=ms.length/\
  (
   ∀i o,k<=i->i<p->ops[i]?=some o->
   (i ∉ js->((rop P gl orc (ev gl (bT P gl orc ops T0 m (Xc js ms) i)) m o.dst (tr P o)).1/\(lR ops js i=false->∀x∈ms,rop P gl orc (ev gl (bT P gl orc ops T0 m (Xc js ms) i)) x.2 o.dst (tr P o)=rop P gl orc (ev gl (bT P gl orc ops T0 m (Xc js ms) i)) m o.dst (tr P o)))\/(rdC P gl orc Y (ev gl (bT P gl orc ops T0 m (Xc js ms) i)) m o.dst m (tr P o)/\∀x∈ms,rdC P gl orc Y (ev gl (bT P gl orc ops T0 m (Xc js ms) i)) m o.dst x.2 (tr P o)))/\
   (∀b x,js[b]?=some i->ms[b]?=some x->effC P gl orc Y (ev gl (bT P gl orc ops T0 m (Xc js ms) i)) (Yb m ms b) o.dst x.1 x.2 (tr P o))/\Vb (bT P gl orc ops T0 m (Xc js ms) i) (Xl P ops o))/\
  Zo P gl orc Y l2 ⟨(bT P gl orc ops T0 m (Xc js ms) p),Yb m ms ms.length⟩ K:=by
 have dJ:∀j,j∈js<->j<p/\ef ops CH j=true:=fun j=>by rw[lN,zzbp,zzb]
 have nX:js.Nodup:=by rw[lN];exact(zzdn).filter _
 have Sv:∀i,i<p->ef ops CH i=true->js[eR ops i]?=some i:=fun i h1 h2=>by rw[lN];exact Wc h1 h2
 have Wf:∀{a b i:Nat},js[a]?=some i->js[b]?=some i->a=b:=fun{a b i}h1 h2=>Uy nX h1 h2;intro n;induction n with
 |zero=>
  intro k mc hk qj VY h;obtain rfl:k=p:=zE
  have e0:(ops.toList.take k).drop k=[]:=zzam (by simp;omega);rw[e0]at h;simp only[zzct,iB]at h;have fA:ms.length<=eR ops k:=zzfv.1 h.1;have Ct:eR ops k=js.length:=by rw[lN];rfl
  have hcc:eR ops k=ms.length:=zE
  refine⟨zE,fun i o h1 h2=>zE,?_⟩;rw[<- hcc,<- VY];exact h.2
 |succ n ih=>
  intro k mc hk qj VY h;have cn:k<ops.size:=zE
  have ho:ops[k]?=some ops[k]:=zzah cn
  have hd:(ops.toList.take p).drop k=ops[k]::(ops.toList.take p).drop (k+1):=by
   rw[zzai (by simp;omega)];simp
  have eZ:(flags ops p js).drop k=Jt ops js k::(flags ops p js).drop (k+1):=by
   rw[zzai (by simp[flags];omega)];simp[flags]
  rw[hd,eZ,zzar]at h;have V3:=Qdf (P:=P) (gl:=gl) (orc:=orc) (T0:=T0) (m:=m) (L:=Xc js ms) ho;have e2:(Xl P ops ops[k]).op=tr P ops[k]:=rfl;have e3:(Xl P ops ops[k]).dst=ops[k].dst:=rfl;have j4:=Fj (ops:=ops) k;cases j6:js.contains k with
  |true=>
   have QB:k∈js:=by simpa using j6
   have CL:=((dJ k).1 QB).2;rw[CL,ac rfl]at j4;rw[show Jt ops js k=.eff by simp only[Jt,j6,cond_true]]at h;simp only[iB,e2,e3]at h;split at h
   ·exact h.elim
   rename_i x q hq
   have awL:eR ops k<ms.length:=by
    rcases zzaa (eR ops k) ms.length with h'|h'
    ·exact h'
    rw[zzam h']at hq;cases hq
   have hx:ms[eR ops k]?=some x:=by
    have:(ms.drop (eR ops k))[0]?=some x:=by rw[hq];rfl
    simpa using this
   have hq':ms.drop (eR ops (k+1))=q:=by
    rw[j4,<- zzdr,hq];rfl
   obtain⟨hgr,h1,h2⟩:=h;have za:=Sv k zE CL;have dg:=iY (P:=P) (gl:=gl) (orc:=orc) (ops:=ops) (m:=m) nX za hx (bT P gl orc ops T0 m (Xc js ms) k);rw[dg]at V3
   obtain⟨r1,r2,r3⟩:=ih (k+1) x.2 zE zE (by rw[j4];simp[Yb,List.getD,hx]) (by
    rw[V3,hq'];exact h2)
   refine⟨r1,fun i o hi dA CE=>?_,r3⟩;rcases zzaa k i with dP|dP
   ·exact r2 i o dP dA CE
   obtain rfl:i=k:=zE
   rw[ho]at CE;cases CE;refine⟨fun h=>absurd QB h,fun b y hb hy=>?_,hgr⟩;obtain rfl:=Wf hb za;rw[hx]at hy;cases hy;rw[<- VY];exact h1
  |false=>
   have QB:k ∉ js:=by simpa using j6
   have CL:ef ops CH k=false:=by
    cases Fk:ef ops CH k with
    |false=>rfl
    |true=>exact absurd ((dJ k).2 ⟨zE,Fk⟩) QB
   rw[CL,ab zd,zzcm]at j4
   obtain⟨hgr,h1,h3⟩:Vb (bT P gl orc ops T0 m (Xc js ms) k) (Xl P ops ops[k])/\(((rop P gl orc (ev gl (bT P gl orc ops T0 m (Xc js ms) k)) m ops[k].dst (tr P ops[k])).1/\(lR ops js k=false->∀x∈ms,rop P gl orc (ev gl (bT P gl orc ops T0 m (Xc js ms) k)) x.2 ops[k].dst (tr P ops[k])=rop P gl orc (ev gl (bT P gl orc ops T0 m (Xc js ms) k)) m ops[k].dst (tr P ops[k])))\/(rdC P gl orc Y (ev gl (bT P gl orc ops T0 m (Xc js ms) k)) m ops[k].dst m (tr P ops[k])/\∀x∈ms,rdC P gl orc Y (ev gl (bT P gl orc ops T0 m (Xc js ms) k)) m ops[k].dst x.2 (tr P ops[k])))/\
     iB P gl orc Y l2 K m ms (((ops.toList.take p).drop (k+1)).map (Xl P ops)) ((flags ops p js).drop (k+1)) (ms.drop (eR ops k)) mc (put (bT P gl orc ops T0 m (Xc js ms) k) ops[k].dst (rop P gl orc (ev gl (bT P gl orc ops T0 m (Xc js ms) k)) m ops[k].dst (tr P ops[k])).2):=by
    cases jX:lR ops js k with
    |true=>
     rw[show Jt ops js k=.pre by simp only[Jt,j6,jX,cond_true,cond_false]]at h;simp only[iB,e2,e3]at h;exact⟨h.1,.inl ⟨h.2.1,fun h=>(by cases h)⟩,h.2.2⟩
    |false=>
     rw[show Jt ops js k=.oth by simp only[Jt,j6,jX,cond_false]]at h;simp only[iB,e2,e3]at h;exact⟨h.1,h.2.1.imp_left fun h=>⟨h.1,fun _=>h.2⟩,h.2.2⟩
   rw[oE QB ho]at V3;obtain⟨r1,r2,r3⟩:=ih (k+1) mc zE zE (by rw[j4];exact VY) (by rw[V3,j4];exact h3);refine⟨r1,fun i o hi dA CE=>?_,r3⟩;rcases zzaa k i with dP|dP
   ·exact r2 i o dP dA CE
   obtain rfl:i=k:=zE
   rw[ho]at CE;cases CE;refine⟨fun _=>h1,fun b y hb=>absurd (zzad hb) QB,hgr⟩
def Fl{Q:PP}{K:AS->Prop}{γ:G}{w:World}{s:AS}{a:Act}{js:Pa}(hQ:∀γ w s a,K s->eF N w0 r an S P gl Y γ w s a->Q .normal a w)(hc:zb ops p=true)(hj:mR ops p=some js)
  {ms:QP}(h:iB P gl orc Y ((ops.toList.drop p).map (Xl P ops)) K s.m ms ((ops.toList.take p).map (Xl P ops)) (flags ops p js) ms s.m s.T)(hs:eF N w0 r an S P gl Y γ w s a):
  wpAnyIn (FW r) 0 P .any ops Q ops.size (Array.replicate ops.size false) a {w with drawn:=w.drawn+1}:=by
 obtain⟨hp,di⟩:=Zn hc;obtain⟨lN,hjc,oF⟩:=Qcd hj;have nX:js.Nodup:=by rw[lN];exact(zzdn).filter _
 have CM:∀j∈js,j<p:=fun j h=>by rw[lN,zzbp]at h;exact zzb.1 h.1
 obtain⟨aH,h1,h2⟩:=NH (P:=P) (gl:=gl) (orc:=orc) (T0:=s.T) (m:=s.m) ((ops.toList.drop p).map (Xl P ops)) K hp lN p 0 s.m zd (by simp[eR]) (by simp[eR,Yb]) (by simpa[bT,eR]using h)
 have full:∀(aT:Nat)(listed:Array Bool)(γ:G)(w:World)(a:Act),qM N w0 r an S Y P gl orc ops s.T s.m ms js (Xc js ms) p listed γ w a->uc ops listed<=aT->(∀i,i<p->listed.getD i false=true)->wpAnyIn (FW r) 0 P .any ops Q aT listed a w:=by
  intro aT listed γ w a hI iW bD;have hml:Ud listed s.m js ms=Yb s.m ms ms.length:=Ja aH zE (fun b j _ hb=>bD j (CM j (zzad hb))) (fun j hj=>by rw[zzav zE]at hj;cases hj);have gL:=hI.mm;have lJ:=hI.ls;rw[hml]at gL lJ;refine Qdt hQ hc aT p listed γ w _ a (zzab _) hp hI.size bD hI.tail iW h2 ⟨gL,lJ,hI.rd,⟨?_,fun t x v hx hv=>?_⟩,hI.d,hI.g,hI.y,hI.e⟩
  ·simp[Qei,hI.tl]
  have h1:=hI.tt t
  have hAt:oC P gl orc ops s.T s.m (Xc js ms) p listed t=x:=by
   have jY:(bT P gl orc ops s.T s.m (Xc js ms) p).getD t .junk=x:=by simp only at hx;simp[List.getD,hx]
   unfold oC;split
   ·exact jY
   rename_i hw;rw[<- jY];refine(Qay p fun j hj hd=>hw ?_).symm;unfold wr;rw[zzbt];exact⟨j,zzb.2 hj,by rw[bD j hj,hd];simp⟩
  rw[hAt]at h1;have:a.tmps.getD t undef=v:=by simp at hv;simp[hv]
  rwa [this]at h1
 have main:∀(aT:Nat)(listed:Array Bool)(γ:G)(w:World)(a:Act),qM N w0 r an S Y P gl orc ops s.T s.m ms js (Xc js ms) p listed γ w a->uc ops listed<=aT->wpAnyIn (FW r) 0 P .any ops Q aT listed a w:=by
  intro aT;induction aT with
  |zero=>
   intro listed γ w a hI iW
   exact full 0 listed γ w a hI iW fun i hi=>by
    rw[Xa (by rw[hI.size];omega) false true];exact Qdr (zzfh.1 iW) zE
  |succ aT ih=>
   intro listed γ w a hI iW;by_cases bD:∀i,i<p->listed.getD i false=true
   ·exact full (aT+1) listed γ w a hI iW bD
   have hex:∃k,k<p/\listed.getD k true=false:=by
    refine Classical.byContradiction fun hn=>bD fun i hi=>?_;rw[Xa (by rw[hI.size];omega) false true];cases hl:listed.getD i true with
    |true=>rfl
    |false=>exact absurd ⟨i,hi,hl⟩ hn
   obtain⟨k,hk,Wa⟩:=hex;refine⟨fun hr=>?_,fun i hi=>?_⟩
   ·obtain⟨j,hj⟩:=Un hc hI.size k k (zzab _) zE Wa;rw[hr]at hj;cases hj
   obtain⟨ah,hu,o,ho,bS⟩:=Uo hc hi
   have dA:i<p:=by
    rcases zzaa i p with h|h
    ·exact h
    have:=Qbb hI.clo ho ((di i o ho).2.2 h) bS i k zE zE;rw[Xa (by rw[hI.size];omega) false true,Wa]at this;cases this
   refine wpOpIn_mono ?_ (Qce hc hI ho dA (h1 i o (zzbv _) dA ho).2.2 aH nX hu bS (fun a j e1 e2=>bS j (uu hjc a j i o e1 e2 ho)) (h1 i o (zzbv _) dA ho).1 (h1 i o (zzbv _) dA ho).2.1);rintro a' w' ⟨γ',kZ,_⟩;refine ih _ γ' w' a' kZ ?_;have:=iV hI.size ah hu;omega
 have tH:∀j,(Array.replicate ops.size false).getD j false=false:=fun j=>by
  rcases zzaa j ops.size with h|h<;>simp[h]
 have mU:∀Wg:Pa,chn (Array.replicate ops.size false) Wg:=fun Wg=>by
  induction Wg with
  |nil=>trivial
  |cons j r ih=>
   cases r with
   |nil=>trivial
   |cons j' r=>exact⟨fun h=>(by rw[tH]at h;cases h),ih⟩
 have JX:Ud (Array.replicate ops.size false) s.m js ms=s.m:=Ja (a:=0) aH zE (fun b j hb=>zE) (fun j _=>tH j);refine main ops.size _ γ w.drew a ⟨zd,fun i _ hi=>by simp[hi],mU js,fun j o h=>(by rw[tH]at h;cases h),?_,?_,hs.rd.aU (Ev.drew w γ).cF,?_,fun t=>?_,hs.d.aU (Ev.drew w γ).cF,fun g=>(hs.g g).mono (Ev.drew w γ).cS,hs.y.mono (Ev.drew w γ).cF,hs.e.trans (Ev.drew w γ).cF⟩ ?_
 ·rw[JX];exact hs.m.drew
 ·rw[JX];exact hs.ls.mono (Ev.drew w γ)
 ·have:=hs.t.1;simp at this;omega
 ·have hw:wr ops p (Array.replicate ops.size false) t=false:=by
   unfold wr;rw[zzdl];intro j _;rw[tH j];simp
  unfold oC;rw[hw];simp only[zzbi,if_false];have:=(hs.t.mono (Ev.drew w γ)).get t;simpa[List.getD]using this
 unfold uc;exact zzbb (zzey) zd
end
def wz(ops:Array Oper)(p:Nat)(js:Pa):Bool:=match js.getLast? with
 |some j=>(List.range p).all fun i=>decide (i<=j)||(Ff ops i [i]).contains j
 |none=>false
def bkF(ops:Array Oper)(p:Nat)(js:Pa):List Fg:=bif wz ops p js then[.eff]else[]
def aec(fl:List Fg)(l:List SO):Bool:=!(fl.drop l.length).isEmpty
section
variable (P:Program) (gl:Nat->AV) (orc:UV) (Y:YT)
def effR(e:bE->AV)(m:AM)(R:So):aF->Prop
 |.call f args=>(match e f with
  |.fn g first cap=>aB P gl Y g (first++args.map e++cap) m R
  |_=>False)
 |_=>False
def kj(R:So)(l2:List SO)(K:AS->Prop)(m:AM)(ms:QP):List SO->List Fg->QP->AM->P2->Prop
 |[],_,q,mc,T=>q=[]/\Zo P gl orc Y l2 ⟨T,mc⟩ K
 |_::_,[],_,_,_=>False
 |o::r,.eff::fl,q,mc,T=>(match q with
  |[]=>False
  |x::q=>Vb T o/\((q=[]->effR P gl Y (ev gl T) mc R o.op)/\(q≠[]->effC P gl orc Y (ev gl T) mc o.dst x.1 x.2 o.op))/\kj R l2 K m ms r fl q x.2 (put T o.dst x.1))
 |o::r,.pre::fl,q,mc,T=>Vb T o/\(rop P gl orc (ev gl T) m o.dst o.op).1/\kj R l2 K m ms r fl q mc (put T o.dst (rop P gl orc (ev gl T) m o.dst o.op).2)
 |o::r,.oth::fl,q,mc,T=>Vb T o/\(rop P gl orc (ev gl T) m o.dst o.op).1/\(∀x∈ms,rop P gl orc (ev gl T) x.2 o.dst o.op=rop P gl orc (ev gl T) m o.dst o.op)/\kj R l2 K m ms r fl q mc (put T o.dst (rop P gl orc (ev gl T) m o.dst o.op).2)
def oG{l2:List SO}{K:AS->Prop}{m:AM}{ms:QP}{ex:List Fg}:∀{l:List SO}{fl:List Fg}{q:QP}{mc:AM}{T:P2},fl.length=l.length->iB P gl orc Y l2 K m ms l (fl++ex) q mc T->iB P gl orc Y l2 K m ms l fl q mc T
 |[],[],q,mc,T,_,h=>by simpa only[iB]using h
 |[],_::_,_,_,_,hl,_=>by simp at hl
 |_::_,[],_,_,_,hl,_=>by simp at hl
 |o::r,.eff::fl,[],mc,T,hl,h=>by simp only[zzae,iB]at h
 |o::r,.eff::fl,x::q,mc,T,hl,h=>by
  simp only[zzae,iB]at h |-
  exact⟨h.1,h.2.1,oG (Nm hl) h.2.2⟩
 |o::r,.pre::fl,q,mc,T,hl,h=>by
  simp only[zzae,iB]at h |-
  exact⟨h.1,h.2.1,oG (Nm hl) h.2.2⟩
 |o::r,.oth::fl,q,mc,T,hl,h=>by
  simp only[zzae,iB]at h |-
  exact⟨h.1,h.2.1,oG (Nm hl) h.2.2⟩
def oH{R:So}{l2:List SO}{K:AS->Prop}{m:AM}{ms:QP}{ex:List Fg}:∀{l:List SO}{fl:List Fg}{q:QP}{mc:AM}{T:P2},fl.length=l.length->kj P gl orc Y R l2 K m ms l (fl++ex) q mc T->kj P gl orc Y R l2 K m ms l fl q mc T
 |[],[],q,mc,T,_,h=>by simpa only[kj]using h
 |[],_::_,_,_,_,hl,_=>by simp at hl
 |_::_,[],_,_,_,hl,_=>by simp at hl
 |o::r,.eff::fl,[],mc,T,hl,h=>by simp only[zzae,kj]at h
 |o::r,.eff::fl,x::q,mc,T,hl,h=>by
  simp only[zzae,kj]at h |-
  exact⟨h.1,h.2.1,oH (Nm hl) h.2.2⟩
 |o::r,.pre::fl,q,mc,T,hl,h=>by
  simp only[zzae,kj]at h |-
  exact⟨h.1,h.2.1,oH (Nm hl) h.2.2⟩
 |o::r,.oth::fl,q,mc,T,hl,h=>by
  simp only[zzae,kj]at h |-
  exact⟨h.1,h.2.1,h.2.2.1,oH (Nm hl) h.2.2.2⟩
end
section
variable {N:Nat} {w0:eO} {r:Option Nat} {an:Nat->Nat->Prop} {S:G×World} {Y:YT} {P:Program} {gl:Nat->AV} {orc:UV} {ops:Array Oper} {T0:P2} {m:AM} {p:Nat}
def wA{x x':AV×AM}{i:Nat}:∀{js:Pa}{ms:QP}{jl:Nat},js[ms.length]?=some jl->i≠jl->JW (Xc js (ms++[x])) i=JW (Xc js (ms++[x'])) i
 |[],_,_,h,_=>by simp at h
 |j::js,[],jl,h,hi=>by
  simp at h;subst h;simp only[zzag,Xc,JW];rw[ab (Ne.symm hi),ab (Ne.symm hi)]
 |j::js,y::ms,jl,h,hi=>by
  simp only[zzae,Xc,JW];rw[wA (ms:=ms) (Nm h) hi]
def Fm{L L':QQ}{jl:Nat}(h:∀i,i<jl->JW L i=JW L' i):∀k,k<=jl->bT P gl orc ops T0 m L k=bT P gl orc ops T0 m L' k
 |0,_=>rfl
 |k+1,hk=>by
  have ih:=Fm h k zE;simp only[bT];rw[ih];cases ho:ops[k]? with
  |none=>rfl
  |some o=>
   simp only;congr 1;simp only[CI];rw[h k zE]
def JY{L L':QQ}(hc:zb ops p=true){listed:Array Bool}{jl:Nat}(qj:Fb ops listed)(um:listed.getD jl false=false)(hL:∀i,i<jl->JW L i=JW L' i)
  (Wr:∀k,jl<k->k<p->(Ff ops k [k]).contains jl=true)(hjp:jl<p)(t:Nat):oC P gl orc ops T0 m L p listed t=oC P gl orc ops T0 m L' p listed t:=by
 obtain⟨hp,di⟩:=Zn hc;unfold oC;cases hw:wr ops p listed t with
 |false=>simp
 |true=>
  simp only[if_true];unfold wr at hw;obtain⟨j,hj,hjd⟩:=zzbt.1 hw;simp only[zzac,beq_iff_eq]at hjd;obtain⟨hl,hd⟩:=hjd;have awM:=zzb.1 hj
  have ah:j<jl:=by
   rcases zzeg j jl with h|h|h
   ·exact h
   ·subst h;rw[hl]at um;cases um
   have:=uo qj j [j] (fun k hk=>by rw[zzbx.1 hk];exact hl) jl (by simpa using Wr j h awM);rw[this]at um;cases um
  have WA:∀(L:QQ),(bT P gl orc ops T0 m L p).getD t .junk=(bT P gl orc ops T0 m L jl).getD t .junk:=fun L=>by
   have:=iX (P:=P) (gl:=gl) (orc:=orc) (ops:=ops) (T0:=T0) (m:=m) (L:=L) (t:=t) (k:=jl) (p-jl) fun k dK eE NC=>by
    have hk:k<ops.size:=zE
    have ND:ops[k]?=some ops[k]:=zzah hk;have:=((di k _ ND).2.1 zE).2 j zE t hd;simp[Vx,ND]at NC;exact this NC
   rwa [show jl+(p-jl)=p by omega]at this
  rw[WA L,WA L',Fm hL jl (zzab _)]
def JZ{ms:QP}{x:AV×AM}{js:Pa}{R:So}(hc:zb ops p=true){Q:PP}{listed:Array Bool}{γ:G}{w:World}{a:Act}
  (hI:qM N w0 r an S Y P gl orc ops T0 m (ms++[x]) js (Xc js (ms++[x])) p listed γ w a){i:Nat}{o:Oper}(ho:ops[i]?=some o)(dA:i<p)(wq:Vb (bT P gl orc ops T0 m (Xc js (ms++[x])) i) (Xl P ops o))(aH:js.length=(ms++[x]).length)(nX:js.Nodup)
  (hk:js[ms.length]?=some i)(hu:listed.getD i true=false)(bS:∀j∈Xy o,listed.getD j false=true)(mU:∀a j,js[a]?=some j->js[a+1]?=some i->j∈Xy o)
  (awN:∀x':AV×AM,R x'.1 x'.2->∀t,oC P gl orc ops T0 m (Xc js (ms++[x'])) p listed t=oC P gl orc ops T0 m (Xc js (ms++[x])) p listed t)
  (Ef:effR P gl Y (ev gl (bT P gl orc ops T0 m (Xc js (ms++[x])) i)) (Yb m (ms++[x]) ms.length) R (tr P o)):
  wpOpIn (FW r) 0 P ops Q i (fun a' w'=>∃γ' x',R x'.1 x'.2/\qM N w0 r an S Y P gl orc ops T0 m (ms++[x']) js (Xc js (ms++[x'])) p (listed.setIfInBounds i true) γ' w' a') a w:=by
 have hi:i<ops.size:=(zzbz.1 ho).1;have iT:i<listed.size:=by rw[hI.size];exact hi
 have zC:∀t∈o.looksAt ops,aA w γ ((bT P gl orc ops T0 m (Xc js (ms++[x])) i).getD t .junk) (a.tmps.getD t undef):=fun t ht=>by
  rw[aiI (P:=P) (gl:=gl) (orc:=orc) (T0:=T0) (m:=m) (L:=Xc js (ms++[x])) hc hI.size ho dA hu bS ht];exact hI.tt t
 have dh:∀y∈o.op.operands,aA w γ (ev gl (bT P gl orc ops T0 m (Xc js (ms++[x])) i) (aC y)) (a.eval y):=fun y hy=>by
  cases y with
  |tmp t=>exact zC t (by simp only[Oper.looksAt,zzaj,zzfo];exact .inl ⟨.tmp t,Nm hy,rfl⟩)
  |const v=>exact Kb w γ v
  |func f=>exact .fn rfl (fun i c v h=>by simp at h) rfl fun i c v h=>by simp at h
  |global g=>exact(hI.g g).gm
 have gY:chn (listed.setIfInBounds i true) js:=uq hI.ch fun a j h1 h2=>bS j (mU a j h1 h2);have hpr:Fb ops (listed.setIfInBounds i true):=Fb.set hI.clo ho iT bS;have P8:listed.getD i false=false:=by rw[Xa iT false true];exact hu
 have CK:∀b j,b<ms.length->js[b]?=some j->listed.getD j false=true:=fun b j hb hj=>by
  have dx:ms.length-1<js.length:=by simp at aH;omega
  obtain⟨j1,dX⟩:∃j1,js[ms.length-1]?=some j1:=⟨js[ms.length-1],zzaf dx⟩;have gK:=bS j1 (mU (ms.length-1) j1 dX (by rw[show ms.length-1+1=ms.length by omega];exact hk));rcases zzaa b (ms.length-1)with h|h
  ·exact Qbl hI.ch h hj dX gK
  obtain rfl:b=ms.length-1:=zE
  rw[hj]at dX;cases dX;exact gK
 have JX:Ud listed m js (ms++[x])=Yb m (ms++[x]) ms.length:=Ja aH (by simp at aH;omega) CK (fun j hj=>by rw[hk]at hj;cases hj;exact P8)
 have sv:∀x':AV×AM,Ud (listed.setIfInBounds i true) m js (ms++[x'])=x'.2:=fun x'=>by
  have:=Ja (listed:=listed.setIfInBounds i true) (m:=m) (ms:=ms++[x']) (js:=js) (a:=ms.length+1) (by simp at aH |-;omega) (by simp at aH;omega) (fun b j hb hj=>?_) (fun j hj=>by rw[zzav (by simp at aH;omega)]at hj;cases hj)
  ·rw[this];simp[Yb,List.getD]
  rcases zzaa b ms.length with h|h
  ·have fI:j≠i:=by
    rintro rfl;have:=Uy nX hj hk;omega
   rw[Qv fI];exact CK b j h hj
  obtain rfl:b=ms.length:=zE
  rw[hk]at hj;cases hj;exact Xt iT
 simp only[wpOpIn,ho];have hw:Region.wanted o (yielded ops a.tmps)=true:=wm wq zC;rw[ac hw];have gL:=hI.mm;have lJ:=hI.ls;rw[JX]at gL lJ
 have zD:eF N w0 r an S P gl Y γ w ⟨(List.range T0.length).map fun t=>oC P gl orc ops T0 m (Xc js (ms++[x])) p listed t,Yb m (ms++[x]) ms.length⟩ a:=by
  refine⟨gL,lJ,hI.rd,⟨by simp[hI.tl],fun t x v hx hv=>?_⟩,hI.d,hI.g,hI.y,hI.e⟩
  have ah:t<T0.length:=by
   rcases zzaa t T0.length with h|h
   ·exact h
   simp[zzbm.2 h]at hx
  simp[ah]at hx;have:=hI.tt t;rw[hx]at this;have EX:a.tmps.getD t undef=v:=by simp at hv;simp[hv]
  rwa [EX]at this
 have mJ:Qah P gl Y (ev gl (bT P gl orc ops T0 m (Xc js (ms++[x])) i)) (Yb m (ms++[x]) ms.length) R (tr P o):=by
  cases Iz:tr P o with
  |call f args=>
   rw[Iz]at Ef;simp only[effR]at Ef;simp only[Qah];split at Ef
   ·rename_i g first cap bU;simp only[bU];exact Ef
   exact Ef.elim
  |_=>rw[Iz]at Ef;exact Ef.elim
 refine Qde zD dh mJ fun v w' γ' av' m' hK he hm hl hr=>?_;have dg:=iY (P:=P) (gl:=gl) (orc:=orc) (ops:=ops) (m:=m) (ms:=ms++[(av',m')]) (x:=(av',m')) nX hk zd (bT P gl orc ops T0 m (Xc js (ms++[(av',m')])) i);have hsw:=awN (av',m') hK;refine⟨γ',(av',m'),hK,by simp[hI.size],fun j dX nV=>by rw[Qv zE];exact hI.tail j dX nV,gY,hpr,by rw[sv];exact hm,by rw[sv];exact hl,hI.rd.aU he,?_,fun t=>?_,?_,fun g=>(hI.g g).aU he.cS,hI.y.mono he,hI.e.trans he⟩
 ·cases hd:o.dst<;>simp[Act.put,hI.tl]
 ·rw[CJ hc hI.size ho dA,hsw];by_cases hd:o.dst=some t
  ·by_cases ht:t<T0.length
   ·rw[ac ⟨hd,ht⟩,hd];have:(a.put (some t) v).tmps.getD t undef=v:=by simp[Act.put,hI.tl,ht]
    rw[this,dg];exact hr
   rw[ab (by simp[ht]),hd];have:(a.put (some t) v).tmps.getD t undef=a.tmps.getD t undef:=by simp[Act.put,hI.tl,ht]
   rw[this];exact(hI.tt t).aU he
  rw[ab (by simp[hd])]
  have:(a.put o.dst v).tmps.getD t undef=a.tmps.getD t undef:=by
   cases zw:o.dst with
   |none=>rfl
   |some d=>simp only[Act.put];simp;rw[zzco (by rintro rfl;exact hd zw)]
  rw[this];exact(hI.tt t).aU he
 cases hd:o.dst<;>exact hI.d.aU he
def NI{R:So}{ms:QP}{js:Pa}(l2:List SO)(K:AS->Prop)(hp:p<=ops.size)(hj:mR ops p=some js):∀(n k:Nat)(mc:AM),k+n=p->eR ops k<=ms.length->mc=Yb m ms (eR ops k)->
  kj P gl orc Y R l2 K m ms (((ops.toList.take p).drop k).map (Xl P ops)) ((flags ops p js).drop k) (ms.drop (eR ops k)) mc (bT P gl orc ops T0 m (Xc js ms) k)->
  js.length=ms.length/\
  (
   ∀i o,k<=i->i<p->ops[i]?=some o->
   (i ∉ js->(rop P gl orc (ev gl (bT P gl orc ops T0 m (Xc js ms) i)) m o.dst (tr P o)).1/\(lR ops js i=false->∀x∈ms,rop P gl orc (ev gl (bT P gl orc ops T0 m (Xc js ms) i)) x.2 o.dst (tr P o)=rop P gl orc (ev gl (bT P gl orc ops T0 m (Xc js ms) i)) m o.dst (tr P o)))/\
   (∀b x,js[b]?=some i->ms[b]?=some x->(b+1=ms.length->effR P gl Y (ev gl (bT P gl orc ops T0 m (Xc js ms) i)) (Yb m ms b) R (tr P o))/\(b+1≠ms.length->effC P gl orc Y (ev gl (bT P gl orc ops T0 m (Xc js ms) i)) (Yb m ms b) o.dst x.1 x.2 (tr P o)))/\Vb (bT P gl orc ops T0 m (Xc js ms) i) (Xl P ops o))/\
  Zo P gl orc Y l2 ⟨(bT P gl orc ops T0 m (Xc js ms) p),Yb m ms ms.length⟩ K:=by
 obtain⟨lN,_,oF⟩:=Qcd hj;have dJ:∀j,j∈js<->j<p/\ef ops CH j=true:=fun j=>by rw[lN,zzbp,zzb]
 have nX:js.Nodup:=by rw[lN];exact(zzdn).filter _
 have Sv:∀i,i<p->ef ops CH i=true->js[eR ops i]?=some i:=fun i h1 h2=>by rw[lN];exact Wc h1 h2
 have Wf:∀{a b i:Nat},js[a]?=some i->js[b]?=some i->a=b:=fun{a b i}h1 h2=>Uy nX h1 h2;intro n;induction n with
 |zero=>
  intro k mc hk qj VY h;obtain rfl:k=p:=zE
  have e0:(ops.toList.take k).drop k=[]:=zzam (by simp;omega);rw[e0]at h;simp only[zzct,kj]at h;have fA:ms.length<=eR ops k:=zzfv.1 h.1;have Ct:eR ops k=js.length:=by rw[lN];rfl
  have hcc:eR ops k=ms.length:=zE
  refine⟨zE,fun i o h1 h2=>zE,?_⟩;rw[<- hcc,<- VY];exact h.2
 |succ n ih=>
  intro k mc hk qj VY h;have cn:k<ops.size:=zE
  have ho:ops[k]?=some ops[k]:=zzah cn
  have hd:(ops.toList.take p).drop k=ops[k]::(ops.toList.take p).drop (k+1):=by
   rw[zzai (by simp;omega)];simp
  have eZ:(flags ops p js).drop k=Jt ops js k::(flags ops p js).drop (k+1):=by
   rw[zzai (by simp[flags];omega)];simp[flags]
  rw[hd,eZ,zzar]at h;have V3:=Qdf (P:=P) (gl:=gl) (orc:=orc) (T0:=T0) (m:=m) (L:=Xc js ms) ho;have e2:(Xl P ops ops[k]).op=tr P ops[k]:=rfl;have e3:(Xl P ops ops[k]).dst=ops[k].dst:=rfl;have j4:=Fj (ops:=ops) k;cases j6:js.contains k with
  |true=>
   have QB:k∈js:=by simpa using j6
   have CL:=((dJ k).1 QB).2;rw[CL,ac rfl]at j4;rw[show Jt ops js k=.eff by simp only[Jt,j6,cond_true]]at h;simp only[kj,e2,e3]at h;split at h
   ·exact h.elim
   rename_i x q hq
   have awL:eR ops k<ms.length:=by
    rcases zzaa (eR ops k) ms.length with h'|h'
    ·exact h'
    rw[zzam h']at hq;cases hq
   have hx:ms[eR ops k]?=some x:=by
    have:(ms.drop (eR ops k))[0]?=some x:=by rw[hq];rfl
    simpa using this
   have hq':ms.drop (eR ops (k+1))=q:=by
    rw[j4,<- zzdr,hq];rfl
   obtain⟨hgr,h1,h2⟩:=h;have za:=Sv k zE CL;have dg:=iY (P:=P) (gl:=gl) (orc:=orc) (ops:=ops) (m:=m) nX za hx (bT P gl orc ops T0 m (Xc js ms) k);rw[dg]at V3
   obtain⟨r1,r2,r3⟩:=ih (k+1) x.2 zE zE (by rw[j4];simp[Yb,List.getD,hx]) (by
    rw[V3,hq'];exact h2)
   refine⟨r1,fun i o hi dA CE=>?_,r3⟩;rcases zzaa k i with dP|dP
   ·exact r2 i o dP dA CE
   obtain rfl:i=k:=zE
   rw[ho]at CE;cases CE;refine⟨fun h=>absurd QB h,fun b y hb hy=>?_,hgr⟩;obtain rfl:=Wf hb za;rw[hx]at hy;cases hy;rw[<- VY]
   have hqe:q=[]<->eR ops i+1=ms.length:=by
    rw[<- hq',j4,zzfv];omega
   exact⟨fun h=>h1.1 (hqe.2 h),fun h=>h1.2 fun e=>h (hqe.1 e)⟩
  |false=>
   have QB:k ∉ js:=by simpa using j6
   have CL:ef ops CH k=false:=by
    cases Fk:ef ops CH k with
    |false=>rfl
    |true=>exact absurd ((dJ k).2 ⟨zE,Fk⟩) QB
   rw[CL,ab zd,zzcm]at j4
   obtain⟨hgr,h1,h2,h3⟩:Vb (bT P gl orc ops T0 m (Xc js ms) k) (Xl P ops ops[k])/\(rop P gl orc (ev gl (bT P gl orc ops T0 m (Xc js ms) k)) m ops[k].dst (tr P ops[k])).1/\(lR ops js k=false->∀x∈ms,rop P gl orc (ev gl (bT P gl orc ops T0 m (Xc js ms) k)) x.2 ops[k].dst (tr P ops[k])=rop P gl orc (ev gl (bT P gl orc ops T0 m (Xc js ms) k)) m ops[k].dst (tr P ops[k]))/\
     kj P gl orc Y R l2 K m ms (((ops.toList.take p).drop (k+1)).map (Xl P ops)) ((flags ops p js).drop (k+1)) (ms.drop (eR ops k)) mc (put (bT P gl orc ops T0 m (Xc js ms) k) ops[k].dst (rop P gl orc (ev gl (bT P gl orc ops T0 m (Xc js ms) k)) m ops[k].dst (tr P ops[k])).2):=by
    cases jX:lR ops js k with
    |true=>
     rw[show Jt ops js k=.pre by simp only[Jt,j6,jX,cond_true,cond_false]]at h;simp only[kj,e2,e3]at h;exact⟨h.1,h.2.1,fun h=>(by cases h),h.2.2⟩
    |false=>
     rw[show Jt ops js k=.oth by simp only[Jt,j6,jX,cond_false]]at h;simp only[kj,e2,e3]at h;exact⟨h.1,h.2.1,fun _=>h.2.2.1,h.2.2.2⟩
   rw[oE QB ho]at V3;obtain⟨r1,r2,r3⟩:=ih (k+1) mc zE zE (by rw[j4];exact VY) (by rw[V3,j4];exact h3);refine⟨r1,fun i o hi dA CE=>?_,r3⟩;rcases zzaa k i with dP|dP
   ·exact r2 i o dP dA CE
   obtain rfl:i=k:=zE
   rw[ho]at CE;cases CE;refine⟨fun _=>⟨h1,h2⟩,fun b y hb=>absurd (zzad hb) QB,hgr⟩
def Fo{Q:PP}{K:AS->Prop}{γ:G}{w:World}{s:AS}{a:Act}{js:Pa}(hQ:∀γ w s a,K s->eF N w0 r an S P gl Y γ w s a->Q .normal a w)(hc:zb ops p=true)(hj:mR ops p=some js)
  {R:So}{ms:QP}(zF:∀(jl:Nat),js[ms.length]?=some jl->∀(x x':AV×AM),R x.1 x.2->R x'.1 x'.2->∀listed:Array Bool,Fb ops listed->listed.getD jl false=false->∀t,oC P gl orc ops s.T s.m (Xc js (ms++[x'])) p listed t=oC P gl orc ops s.T s.m (Xc js (ms++[x])) p listed t)(hR:∃x:AV×AM,R x.1 x.2)(h:∀x:AV×AM,R x.1 x.2->kj P gl orc Y R ((ops.toList.drop p).map (Xl P ops)) K s.m (ms++[x]) ((ops.toList.take p).map (Xl P ops)) (flags ops p js) (ms++[x]) s.m s.T)(hs:eF N w0 r an S P gl Y γ w s a):
  wpAnyIn (FW r) 0 P .any ops Q ops.size (Array.replicate ops.size false) a {w with drawn:=w.drawn+1}:=by
 obtain⟨hp,di⟩:=Zn hc;obtain⟨lN,hjc,oF⟩:=Qcd hj;have nX:js.Nodup:=by rw[lN];exact(zzdn).filter _
 have CM:∀j∈js,j<p:=fun j h=>by rw[lN,zzbp]at h;exact zzb.1 h.1
 have bD:=fun(x:AV×AM)(hx:R x.1 x.2)=>NI (P:=P) (gl:=gl) (orc:=orc) (T0:=s.T) (m:=s.m) ((ops.toList.drop p).map (Xl P ops)) K hp hj p 0 s.m zd (by simp[eR]) (by simp[eR,Yb]) (by simpa[bT,eR]using h x hx);obtain⟨x0,QC⟩:=hR;have dQ:js.length=ms.length+1:=by have:=(bD x0 QC).1;simpa using this
 obtain⟨jl,um⟩:∃jl,js[ms.length]?=some jl:=⟨_,zzaf zE⟩
 have full:∀(x:AV×AM),R x.1 x.2->∀(aT:Nat)(listed:Array Bool)(γ:G)(w:World)(a:Act),qM N w0 r an S Y P gl orc ops s.T s.m (ms++[x]) js (Xc js (ms++[x])) p listed γ w a->uc ops listed<=aT->(∀i,i<p->listed.getD i false=true)->wpAnyIn (FW r) 0 P .any ops Q aT listed a w:=by
  intro x hx aT listed γ w a hI iW ars;obtain⟨aH,h1,h2⟩:=bD x hx;have bD:=ars;have hml:Ud listed s.m js (ms++[x])=Yb s.m (ms++[x]) (ms++[x]).length:=Ja aH zE (fun b j _ hb=>bD j (CM j (zzad hb))) (fun j hj=>by rw[zzav zE]at hj;cases hj);have gL:=hI.mm;have lJ:=hI.ls;rw[hml]at gL lJ;refine Qdt hQ hc aT p listed γ w _ a (zzab _) hp hI.size bD hI.tail iW h2 ⟨gL,lJ,hI.rd,⟨?_,fun t y v hy hv=>?_⟩,hI.d,hI.g,hI.y,hI.e⟩
  ·simp[Qei,hI.tl]
  have h1:=hI.tt t
  have hAt:oC P gl orc ops s.T s.m (Xc js (ms++[x])) p listed t=y:=by
   have jY:(bT P gl orc ops s.T s.m (Xc js (ms++[x])) p).getD t .junk=y:=by simp only at hy;simp[List.getD,hy]
   unfold oC;split
   ·exact jY
   rename_i hw;rw[<- jY];refine(Qay p fun j hj hd=>hw ?_).symm;unfold wr;rw[zzbt];exact⟨j,zzb.2 hj,by rw[bD j hj,hd];simp⟩
  rw[hAt]at h1;have:a.tmps.getD t undef=v:=by simp at hv;simp[hv]
  rwa [this]at h1
 have main:∀(aT:Nat)(x:AV×AM),R x.1 x.2->∀(listed:Array Bool)(γ:G)(w:World)(a:Act),qM N w0 r an S Y P gl orc ops s.T s.m (ms++[x]) js (Xc js (ms++[x])) p listed γ w a->uc ops listed<=aT->wpAnyIn (FW r) 0 P .any ops Q aT listed a w:=by
  intro aT;induction aT with
  |zero=>
   intro x hx listed γ w a hI iW
   exact full x hx 0 listed γ w a hI iW fun i hi=>by
    rw[Xa (by rw[hI.size];omega) false true];exact Qdr (zzfh.1 iW) zE
  |succ aT ih=>
   intro x hx listed γ w a hI iW;by_cases hall2:∀i,i<p->listed.getD i false=true
   ·exact full x hx (aT+1) listed γ w a hI iW hall2
   have hex:∃k,k<p/\listed.getD k true=false:=by
    refine Classical.byContradiction fun hn=>hall2 fun i hi=>?_;rw[Xa (by rw[hI.size];omega) false true];cases hl:listed.getD i true with
    |true=>rfl
    |false=>exact absurd ⟨i,hi,hl⟩ hn
   obtain⟨k,hk,Wa⟩:=hex;refine⟨fun hr=>?_,fun i hi=>?_⟩
   ·obtain⟨j,hj⟩:=Un hc hI.size k k (zzab _) zE Wa;rw[hr]at hj;cases hj
   obtain⟨ah,hu,o,ho,bS⟩:=Uo hc hi
   have dA:i<p:=by
    rcases zzaa i p with h|h
    ·exact h
    have:=Qbb hI.clo ho ((di i o ho).2.2 h) bS i k zE zE;rw[Xa (by rw[hI.size];omega) false true,Wa]at this;cases this
   obtain⟨aH,h1,_⟩:=bD x hx;obtain⟨h1a,h1b,h1g⟩:=h1 i o (zzbv _) dA ho;by_cases fu:i=jl
   ·subst fu;refine wpOpIn_mono ?_ (JZ hc hI ho dA h1g aH nX um hu bS (fun a j e1 e2=>uu hjc a j i o e1 e2 ho) (fun x' jY=>zF i um x x' hx jY listed hI.clo (by rw[Xa (by rw[hI.size];exact ah) false true];exact hu)) ((h1b ms.length x um zd).1 zd));rintro a' w' ⟨γ',x',jY,kZ⟩;refine ih x' jY _ γ' w' a' kZ ?_;have:=iV hI.size ah hu;omega
   refine wpOpIn_mono ?_ (Qce hc hI ho dA h1g aH nX hu bS (fun a j e1 e2=>bS j (uu hjc a j i o e1 e2 ho)) (fun h=>.inl (h1a h)) (fun k y e1 e2=>(h1b k y e1 e2).2 fun e=>fu (by
    have hk:k=ms.length:=by simpa using e
    subst hk;rw[um]at e1;exact(ap e1).symm)))
   rintro a' w' ⟨γ',kZ,_⟩;refine ih x hx _ γ' w' a' kZ ?_;have:=iV hI.size ah hu;omega
 have tH:∀j,(Array.replicate ops.size false).getD j false=false:=fun j=>by
  rcases zzaa j ops.size with h|h<;>simp[h]
 have mU:∀Wg:Pa,chn (Array.replicate ops.size false) Wg:=fun Wg=>by
  induction Wg with
  |nil=>trivial
  |cons j r ih=>
   cases r with
   |nil=>trivial
   |cons j' r=>exact⟨fun h=>(by rw[tH]at h;cases h),ih⟩
 have JX:Ud (Array.replicate ops.size false) s.m js (ms++[x0])=s.m:=Ja (a:=0) (bD x0 QC).1 zE (fun b j hb=>zE) (fun j _=>tH j);refine main ops.size x0 QC _ γ w.drew a ⟨zd,fun i _ hi=>by simp[hi],mU js,fun j o h=>(by rw[tH]at h;cases h),?_,?_,hs.rd.aU (Ev.drew w γ).cF,?_,fun t=>?_,hs.d.aU (Ev.drew w γ).cF,fun g=>(hs.g g).mono (Ev.drew w γ).cS,hs.y.mono (Ev.drew w γ).cF,hs.e.trans (Ev.drew w γ).cF⟩ ?_
 ·rw[JX];exact hs.m.drew
 ·rw[JX];exact hs.ls.mono (Ev.drew w γ)
 ·have:=hs.t.1;simp at this;omega
 ·have hw:wr ops p (Array.replicate ops.size false) t=false:=by
   unfold wr;rw[zzdl];intro j _;rw[tH j];simp
  unfold oC;rw[hw];simp only[zzbi,if_false];have:=(hs.t.mono (Ev.drew w γ)).get t;simpa[List.getD]using this
 unfold uc;exact zzbb (zzey) zd
def Fp{Q:PP}{K:AS->Prop}{γ:G}{w:World}{s:AS}{a:Act}{js:Pa}(hQ:∀γ w s a,K s->eF N w0 r an S P gl Y γ w s a->Q .normal a w)(hc:zb ops p=true)(hj:mR ops p=some js)
  (uv:wz ops p js=true){R:So}{ms:QP}(hR:∃x:AV×AM,R x.1 x.2)(h:∀x:AV×AM,R x.1 x.2->kj P gl orc Y R ((ops.toList.drop p).map (Xl P ops)) K s.m (ms++[x]) ((ops.toList.take p).map (Xl P ops)) (flags ops p js) (ms++[x]) s.m s.T)(hs:eF N w0 r an S P gl Y γ w s a):
  wpAnyIn (FW r) 0 P .any ops Q ops.size (Array.replicate ops.size false) a {w with drawn:=w.drawn+1}:=by
 obtain⟨hp,di⟩:=Zn hc;obtain⟨lN,hjc,oF⟩:=Qcd hj;have CM:∀j∈js,j<p:=fun j h=>by rw[lN,zzbp]at h;exact zzb.1 h.1
 have bD:=fun(x:AV×AM)(hx:R x.1 x.2)=>NI (P:=P) (gl:=gl) (orc:=orc) (T0:=s.T) (m:=s.m) ((ops.toList.drop p).map (Xl P ops)) K hp hj p 0 s.m zd (by simp[eR]) (by simp[eR,Yb]) (by simpa[bT,eR]using h x hx);obtain⟨x0,QC⟩:=hR;have dQ:js.length=ms.length+1:=by have:=(bD x0 QC).1;simpa using this
 refine Fo hQ hc hj (fun jl um x x' _ _ listed CF P8 t=>?_) ⟨x0,QC⟩ h hs
 have Wr:∀k,jl<k->k<p->(Ff ops k [k]).contains jl=true:=fun k dK eE=>by
  unfold wz at uv;have hg:js.getLast?=some jl:=by rw[List.getLast?_eq_getElem?,dQ];simpa using um
  rw[hg]at uv;have:=zzax.1 uv k (zzb.2 eE);simp only[zzfw,am]at this;obtain h|h:=this
  ·omega
  exact h
 exact JY hc CF P8 (fun j hj=>wA um zE) Wr (CM _ (zzad um)) t
end
def art(f:FuncId):Bool:=f==43
def aru(o:Oper):Bool:=match o.op with
 |.call ⟨.value (.func f),_,_⟩=>art f
 |_=>false
def alv(ops:Array Oper)(j j':Nat):Bool:=match ops[j']? with
 |some o=>(Xy o).contains j
 |none=>false
def CN(ops:Array Oper):Pa->List (Nat×Nat)
 |j::j'::r=>(if alv ops j j'=true then[]else[(j,j')])++CN ops (j'::r)
 |_=>[]
def arw(o:Oper):Bool:=match o.op with
 |.alloc _=>true
 |_=>false
def NJ(ops:Array Oper)(p:Nat):Option (Pa×Nat×Nat×Nat):=
 let js:=(List.range p).filter (ef ops CH)
 match CN ops js with
 |[(j,z)]=>(match ops[z]? with
  |some o=>(match o.dst with
   |some t=>if arw o&&o.guard.isNone&&(List.range p).any (ef ops aru)&&(List.range p).all (ef ops Wb)&&(List.range p).all (fun i=>match ops[i]? with
    |some o'=>!(Xy o').contains z||(Xy o').contains j
    |none=>false)then some (js,j,z,t)else none
   |none=>none)
  |none=>none)
 |_=>none
def Fq{ops:Array Oper}:∀{js:Pa}(a j j':Nat)(o:Oper),js[a]?=some j->js[a+1]?=some j'->ops[j']?=some o->j∈Xy o\/(j,j')∈CN ops js
 |[],a,j,j',o,h,_,_=>by simp at h
 |[x],a,j,j',o,h,h',_=>by
  have:=(zza.1 h').1;simp at this
 |x::y::r,0,j,j',o,h,h',ho=>by
  simp at h h';subst h;subst h';rw[CN];by_cases hl:alv ops x y=true
  ·left;unfold alv at hl;rw[ho]at hl;simpa using hl
  right;rw[ab hl];simp
 |x::y::r,a+1,j,j',o,h,h',ho=>by
  rcases Fq (js:=y::r) a j j' o (Nm h) (Nm h') ho with h1|h1
  ·exact .inl h1
  right;rw[CN];exact zzez _ h1
def NK{ops:Array Oper}:∀{js:Pa}{j j':Nat},(j,j')∈CN ops js->∃a,js[a]?=some j/\js[a+1]?=some j'
 |[],_,_,h=>by simp[CN]at h
 |[x],_,_,h=>by simp[CN]at h
 |x::y::r,j,j',h=>by
  rw[CN]at h;rcases zzaj.1 h with h|h
  ·split at h
   ·cases h
   simp at h;obtain⟨rfl,rfl⟩:=h;exact⟨0,rfl,rfl⟩
  obtain⟨a,h1,h2⟩:=NK h;exact⟨a+1,Nm h1,Nm h2⟩
def J1{ops:Array Oper}{p:Nat}{js:Pa}{jp z t:Nat}(h:NJ ops p=some (js,jp,z,t)):
  js=(List.range p).filter (ef ops CH)/\(∀i,i<p->∃o,ops[i]?=some o)/\(∃oz te,ops[z]?=some oz/\oz.op=.alloc te/\oz.dst=some t/\oz.guard=none)/\(∀i o,i<p->ops[i]?=some o->z∈Xy o->jp∈Xy o)/\
  (∀a j j' o,js[a]?=some j->js[a+1]?=some j'->ops[j']?=some o->j∈Xy o\/(j=jp/\j'=z))/\∃a,js[a]?=some jp/\js[a+1]?=some z:=by
 unfold NJ at h;simp only at h;split at h
 case h_2=>cases h
 rename_i j z' hof;split at h
 case h_2=>cases h
 rename_i oz WB;split at h
 case h_2=>cases h
 rename_i t' ht;split at h
 case isFalse=>cases h
 rename_i bD;simp only[Option.some.injEq,Prod.mk.injEq]at h;obtain⟨rfl,rfl,rfl,rfl⟩:=h;simp only[zzac]at bD;obtain⟨⟨⟨⟨h1,h2⟩,_⟩,_⟩,h5⟩:=bD
 have gr:∀i,i<p->∃o,ops[i]?=some o/\(!(Xy o).contains z'||(Xy o).contains j)=true:=fun i hi=>by
  have:=zzax.1 h5 i (zzb.2 hi);split at this
  ·rename_i o ho;exact⟨o,ho,this⟩
  cases this
 refine⟨rfl,fun i hi=>let⟨o,ho,_⟩:=gr i hi;⟨o,ho⟩,?_,fun i o hi ho hz=>?_,fun a x y o hx hy ho=>?_,NK (by rw[hof];simp)⟩
 ·unfold arw at h1;split at h1
  ·rename_i te dh;exact⟨oz,te,WB,dh,ht,Nm h2⟩
  cases h1
 ·obtain⟨o',cM,hc⟩:=gr i hi;rw[ho]at cM;cases cM;have hz':(Xy o).contains z'=true:=by simpa using hz
  rw[hz']at hc;simpa using hc
 rcases Fq a x y o hx hy ho with h|h
 ·exact .inl h
 rw[hof]at h;simp at h;exact .inr h
section
variable {N:Nat} {w0:eO} {r:Option Nat} {an:Nat->Nat->Prop} {S:G×World} {Y:YT} {P:Program} {gl:Nat->AV} {orc:UV} {ops:Array Oper} {T0:P2} {m:AM} {p:Nat} {γ:G} {w:World} {B:Nat->PH} {L:Nat->Option Nat}
def Chg.trans{γ' Ec:G}{w' qz:World}(h:Chg γ w γ' w')(k:Chg γ' w' Ec qz):Chg γ w Ec qz where
 os:=k.os.trans h.os
 tape:=k.tape.trans h.tape
 output:=k.output.trans h.output
 size:=zzbb h.size k.size
 same b hb hn:=by
  have qh:¬OI γ' b:=fun ho=>by
   rcases h.oi b ho with ho|ho
   ·exact hn ho
   omega
  rw[k.same b (zzaz hb h.size) qh,h.same b hb hn]
 ro b o hb hr:=by
  obtain⟨h1,h2⟩:=h.ro b o hb hr;obtain⟨k1,k2⟩:=k.ro b o (zzaz hb h.size) h1;exact⟨k1,k2.trans h2⟩
 oi b hb:=by
  rcases k.oi b hb with hb|hb
  ·exact h.oi b hb
  exact .inr (zzbb h.size hb)
 ron b o hr:=by
  rcases k.ron b o hr with hr|hr|hr
  ·exact h.ron b o hr
  ·rcases h.oi b hr with hr|hr
   ·exact .inr (.inl hr)
   exact .inr (.inr hr)
  exact .inr (.inr (zzbb h.size hr))
def arx(γs:G)(ws:World)(arr:P1)(te:TypeId):eO where
 p γ w:=Chg γs ws γ w/\ws.heap.size<w.heap.size/\w.heap[ws.heap.size]?=some (.cells arr te (0,0))/\¬OI γ ws.heap.size/\∀o,¬γ.ro ws.heap.size o
 st γ w γ' w':=by
  rintro⟨h1,h2,h3,h4,h5⟩ c;refine⟨h1.trans c,zzaz h2 c.size,?_,?_,?_⟩
  ·rw[c.same _ h2 h4];exact h3
  ·intro h;rcases c.oi _ h with h|h
   ·exact h4 h
   omega
  intro o h;rcases c.ron _ _ h with h|h|h
  ·exact h5 o h
  ·exact h4 h
  omega
def au.wB(hm:au N w0 an γ w B L)(o:Obj):Ev w γ (w.alloc o) γ:=
 ⟨zd,fun b o' hb hr=>⟨hr,cell_of_heap (Below.heap_alloc w o b hb)⟩,fun _ _ h=>h,fun _=>zzab _,fun _ _ h=>h,rfl,
  fun i b _ ho=>⟨ho,fun arr e he=>⟨arr,by rw[Below.heap_alloc w o b (hm.own i b ho).2.1];exact he,zzab _⟩,fun _ h=>h⟩,
  fun b hb=>⟨hb,Below.heap_alloc w o b (hm.sp b hb).2.1⟩,Sz.of_same (Below.heap_alloc w o)⟩
def au.awO(hm:au N w0 an γ w B L)(o:Obj)(w1:eO)(h1:w1.p γ (w.alloc o)):au N w1 an γ (w.alloc o) B L where
 bs:=h1
 hN:=by have:=hm.hN;simp;omega
 an:=hm.an
 robd b o h:=by have:=hm.robd b o h;simp;omega
 box id cells b hb h1:=by
  obtain⟨arr,e,h2,h3,h4⟩:=hm.box id cells b hb h1;exact⟨arr,e,by rw[Below.heap_alloc w o b (aR h2)];exact h2,h3.mono (hm.wB o),h4⟩
 β id b hb:=by
  obtain⟨h1,h2,h3⟩:=hm.β id b hb;exact⟨h1,by simp;omega,h3⟩
 inj:=hm.inj
 own id b hb:=by
  obtain⟨h1,h2,h3⟩:=hm.own id b hb;exact⟨h1,by simp;omega,h3⟩
 oinj:=hm.oinj
 sp b hb:=by
  obtain⟨h1,h2,h3⟩:=hm.sp b hb;exact⟨h1,by simp;omega,h3⟩
 mm id b hb:=by
  obtain⟨h1,h2,h3,h4,h5,h6,h8,h7⟩:=hm.mm id b hb;exact⟨h1,by simp;omega,h3,h4,h5,h6,h8,h7.mono (hm.wB o).cF.Av (Below.heap_alloc w o b h2)⟩
 minj:=hm.minj
 len:=hm.len
 cur0:=hm.cur0
def au.oI(hm:au N w0 an γ w B L)(id:Nat)(aK:B id=none)(D:Nat):Ev w γ w (γ.box id D) where
 size:=zzab _
 ro b o' hb hr:=⟨hr,rfl⟩
 β i b hb:=by
  have:i≠id:=by rintro rfl;obtain⟨_,_,_,_,c,hc⟩:=hm.β i b hb;rw[aK]at hc;cases hc
  simp[G.box,this,hb]
 cur _:=zzab _
 mm _ _ h:=h
 lp:=rfl
 own i b _ ho:=⟨ho,fun arr e he=>⟨arr,he,zzab _⟩,fun _ h=>h⟩
 sp b hb:=⟨hb,rfl⟩
 ss:=Sz.refl w
def au.ary(hm:au N w0 an γ w B L)(w1:eO){D id:Nat}(aK:B id=none){cells:P2}{arr:P1}{te:TypeId}(hN:N<=D)(hh:w.heap[D]?=some (.cells arr te (0,0)))(eX:¬OI γ D)(gh:∀o,¬γ.ro D o)
  (hr:cq w γ cells arr.toList)(Iv:∀v∈arr.toList,v.oneCell'=true)(hp:w1.p (γ.box id D) w):au N w1 an (γ.box id D) w (fun i=>if i=id then some cells else B i) L where
 bs:=hp
 hN:=hm.hN
 an:=hm.an
 robd:=hm.robd
 box i cs b hb h1:=by
  by_cases hi:i=id
  ·subst hi;simp at hb;subst hb;simp[G.box]at h1;subst h1;exact⟨arr,te,hh,hr.mono (hm.oI i aK D),Iv⟩
  simp[hi]at hb;simp[G.box,hi]at h1;obtain⟨bN,e',h2,h3,h4⟩:=hm.box i cs b hb h1;exact⟨bN,e',h2,h3.mono (hm.oI id aK D),h4⟩
 β i b hb:=by
  by_cases hi:i=id
  ·subst hi;simp[G.box]at hb;subst hb;exact⟨hN,aR hh,gh,fun i' h=>eX (.inr (.inl ⟨i',h⟩)),cells,zd⟩
  simp[G.box,hi]at hb;obtain⟨h1,h2,h3,h4,c,hc⟩:=hm.β i b hb;exact⟨h1,h2,h3,h4,c,by simp[hi,hc]⟩
 inj i i' b h h':=by
  by_cases hi:i=id<;>by_cases c9:i'=id
  ·exact .inr (.inr (by rw[hi,c9]))
  ·simp[G.box,hi]at h;simp[G.box,c9]at h';subst h;exact absurd (.inl ⟨i',h'⟩) eX
  ·simp[G.box,c9]at h';simp[G.box,hi]at h;subst h';exact absurd (.inl ⟨i,h⟩) eX
  simp[G.box,hi]at h;simp[G.box,c9]at h';simp only[ab hi,ab c9];exact hm.inj i i' b h h'
 own:=hm.own
 oinj:=hm.oinj
 sp b hb:=by
  obtain⟨h1,h2,h3,h4,h5⟩:=hm.sp b hb;refine⟨h1,h2,h3,fun i hi=>?_,h5⟩;by_cases aK:i=id
  ·simp[G.box,aK]at hi;subst hi;exact eX (.inr (.inr (.inl hb)))
  simp[G.box,aK]at hi;exact h4 i hi
 mm i' b hb:=by
  obtain⟨h1,h2,h3,h4,h5,h6,h8,h7⟩:=hm.mm i' b hb
  have aO:i'≠id:=by
   rintro rfl;obtain⟨_,_,hx,_⟩:=h7;rw[aK]at hx;cases hx
  refine⟨h1,h2,h3,fun i hi=>?_,h5,h6,by simp[G.box,aO,h8],?_⟩
  ·by_cases aK:i=id
   ·simp[G.box,aK]at hi;subst hi;exact eX (.inr (.inr (.inr ⟨i',hb⟩)))
   simp[G.box,aK]at hi;exact h4 i hi
  simp only[aO,if_false];exact h7.mono (hm.oI id aK D).cF.Av rfl
 minj:=hm.minj
 len:=hm.len
 cur0:=hm.cur0
def CO{l:Array Bool}{i j:Nat}:(l.setIfInBounds i true).setIfInBounds j true=(l.setIfInBounds j true).setIfInBounds i true:=by
 by_cases h:i=j
 ·rw[h]
 exact Array.setIfInBounds_comm _ _ h
structure awP (N:Nat) (w0:eO) (r:Option Nat) (an:Nat->Nat->Prop) (S:G×World) (Y:YT) (P:Program) (gl:Nat->AV) (orc:UV) (ops:Array Oper) (T0:P2) (m:AM) (ms:QP) (js:Pa) (L:QQ) (p jp z t:Nat) (zs:P2) (listed l0:Array Bool) (γs:G) (ws:World) (arr:P1) (te:TypeId) (γ:G) (w:World) (a:Act):Prop where
 eq:listed=l0.setIfInBounds z true
 zl:l0.getD z false=false
 pl:l0.getD jp false=false
 clo:Fb ops listed
 inv:qM N (arx γs ws arr te) r an S Y P gl orc ops T0 m ms js L p l0 γ w a
 st:w0.p γs ws
 hN:N<=ws.heap.size
 slot:t<T0.length->a.tmps.getD t undef=.pointer (some ⟨ws.heap.size,0,none⟩)
 zr:∀w γ,ak w γ zs arr.toList
 zc:zs.all Qx=true
def Fs{Q:PP}{K:AS->Prop}{γ:G}{w:World}{s:AS}{a:Act}{js:Pa}{jp z t:Nat}(hQ:∀γ w s a,K s->eF N w0 r an S P gl Y γ w s a->Q .normal a w)(hc:zb ops p=true)(heZ:NJ ops p=some (js,jp,z,t))
  (hY:∀i as' m K,¬Y i as' m K){ms:QP}(h:iB P gl orc Y ((ops.toList.drop p).map (Xl P ops)) K s.m ms ((ops.toList.take p).map (Xl P ops)) (flags ops p js) ms s.m s.T)(hT:s.T.getD t .junk=.junk)(hs:eF N w0 r an S P gl Y γ w s a):
  wpAnyIn (FW r) 0 P .any ops Q ops.size (Array.replicate ops.size false) a {w with drawn:=w.drawn+1}:=by
 obtain⟨hp,di⟩:=Zn hc;obtain⟨lN,oF,⟨oz,te,WB,dh,hdz,hgz⟩,hzp,aiJ,az,haz,tI⟩:=J1 heZ;have nX:js.Nodup:=by rw[lN];exact(zzdn).filter _
 have CM:∀j∈js,j<p:=fun j h=>by rw[lN,zzbp]at h;exact zzb.1 h.1
 have awQ:=zzad tI;have awR:=zzad haz;have aed:=CM z awQ;have azg:=CM jp awR
 have hpz:jp≠z:=by
  rintro rfl;have:=Uy nX haz tI;omega
 obtain⟨aH,h1,h2⟩:=NH (P:=P) (gl:=gl) (orc:=orc) (T0:=s.T) (m:=s.m) ((ops.toList.drop p).map (Xl P ops)) K hp lN p 0 s.m zd (by simp[eR]) (by simp[eR,Yb]) (by simpa[bT,eR]using h);have hyk:∀(w0:eO)(γ:G)(w:World),YOK N w0 an P Y γ w:=fun _ _ _ _ _ _ i as' m K _ _ _ _ hyy=>(hY i as' m K hyy).elim;obtain⟨xz,hxz⟩:∃xz,ms[az+1]?=some xz:=⟨ms[az+1]'(by have:=(zza.1 tI).1;omega),zzaf _⟩;have WC:=(h1 z oz (zzbv _) aed WB).2.1 (az+1) xz tI hxz
 have Iz:∃zs,zc P te=some zs/\tr P oz=.alloc zs:=by
  obtain⟨dst,op,ty,pos,after,guard⟩:=oz;simp only at dh;subst dh;simp only[tr]at WC |-
  cases hzc:zc P te with
  |none=>rw[hzc]at WC;exact absurd WC.1 (by simp[memEff])
  |some zs=>exact⟨zs,rfl,rfl⟩
 obtain⟨zs,hzc,Iz⟩:=Iz;rw[Iz]at WC;obtain⟨_,e1,e2,e3⟩:=WC;have e1:zs.all Qx=true:=e1;have e2:xz.1=.ptr (Yb s.m ms (az+1)).boxes.length 0:=e2;have e3:xz.2={Yb s.m ms (az+1)with boxes:=(Yb s.m ms (az+1)).boxes++[zs]}:=e3
 have full:∀(aT:Nat)(listed:Array Bool)(γ:G)(w:World)(a:Act),qM N w0 r an S Y P gl orc ops s.T s.m ms js (Xc js ms) p listed γ w a->uc ops listed<=aT->(∀i,i<p->listed.getD i false=true)->wpAnyIn (FW r) 0 P .any ops Q aT listed a w:=by
  intro aT listed γ w a hI iW bD;have hml:Ud listed s.m js ms=Yb s.m ms ms.length:=Ja aH zE (fun b j _ hb=>bD j (CM j (zzad hb))) (fun j hj=>by rw[zzav zE]at hj;cases hj);have gL:=hI.mm;have lJ:=hI.ls;rw[hml]at gL lJ;refine Qdt hQ hc aT p listed γ w _ a (zzab _) hp hI.size bD hI.tail iW h2 ⟨gL,lJ,hI.rd,⟨?_,fun t x v hx hv=>?_⟩,hI.d,hI.g,hI.y,hI.e⟩
  ·simp[Qei,hI.tl]
  have h1:=hI.tt t
  have hAt:oC P gl orc ops s.T s.m (Xc js ms) p listed t=x:=by
   have jY:(bT P gl orc ops s.T s.m (Xc js ms) p).getD t .junk=x:=by simp only at hx;simp[List.getD,hx]
   unfold oC;split
   ·exact jY
   rename_i hw;rw[<- jY];refine(Qay p fun j hj hd=>hw ?_).symm;unfold wr;rw[zzbt];exact⟨j,zzb.2 hj,by rw[bD j hj,hd];simp⟩
  rw[hAt]at h1;have:a.tmps.getD t undef=v:=by simp at hv;simp[hv]
  rwa [this]at h1
 have main:∀(aT:Nat)(listed:Array Bool)(γ:G)(w:World)(a:Act),(qM N w0 r an S Y P gl orc ops s.T s.m ms js (Xc js ms) p listed γ w a\/∃l0 γs ws arr y7,awP N w0 r an S Y P gl orc ops s.T s.m ms js (Xc js ms) p jp z t zs listed l0 γs ws arr y7 γ w a)->
   uc ops listed<=aT->wpAnyIn (FW r) 0 P .any ops Q aT listed a w:=by
  intro aT;induction aT with
  |zero=>
   intro listed γ w a hI iW;obtain hI|⟨l0,γs,ws,arr,y7,hH⟩:=hI
   ·exact full 0 listed γ w a hI iW fun i hi=>by
     rw[Xa (by rw[hI.size];omega) false true];exact Qdr (zzfh.1 iW) zE
   exfalso;have hsz:listed.size=ops.size:=by rw[hH.eq];simp[hH.inv.size]
   have:=Qdr (ops:=ops) (listed:=listed) (zzfh.1 iW) (i:=jp) zE;rw[<- Xa (by rw[hsz];omega) false true,hH.eq,Qv hpz,hH.pl]at this;cases this
  |succ aT ih=>
   intro listed γ w a hI iW;obtain hI|⟨l0,γs,ws,arr,y7,hH⟩:=hI
   ·by_cases bD:∀i,i<p->listed.getD i false=true
    ·exact full (aT+1) listed γ w a hI iW bD
    have hex:∃k,k<p/\listed.getD k true=false:=by
     refine Classical.byContradiction fun hn=>bD fun i hi=>?_;rw[Xa (by rw[hI.size];omega) false true];cases hl:listed.getD i true with
     |true=>rfl
     |false=>exact absurd ⟨i,hi,hl⟩ hn
    obtain⟨k,hk,Wa⟩:=hex;refine⟨fun hr=>?_,fun i hi=>?_⟩
    ·obtain⟨j,hj⟩:=Un hc hI.size k k (zzab _) zE Wa;rw[hr]at hj;cases hj
    obtain⟨ah,hu,o,ho,bS⟩:=Uo hc hi
    have dA:i<p:=by
     rcases zzaa i p with h|h
     ·exact h
     have:=Qbb hI.clo ho ((di i o ho).2.2 h) bS i k zE zE;rw[Xa (by rw[hI.size];omega) false true,Wa]at this;cases this
    have huf:listed.getD i false=false:=by rw[Xa (by rw[hI.size];exact ah) false true];exact hu
    by_cases hear:i=z/\listed.getD jp false=false
    ·
     obtain⟨rfl,hjp⟩:=hear;rw[WB]at ho;cases ho;obtain⟨iz,zv,hi1,hi2,hi3⟩:=iP (P:=P) (w:=w) (γ:=γ) hzc
     have arz:∀w γ,ak w γ zs zv.cells.toList:=fun w γ=>by
      obtain⟨i',z',q1,q2,q3⟩:=iP (P:=P) (w:=w) (γ:=γ) hzc;rw[hi1]at q1;cases q1;rw[hi2]at q2;cases q2;exact q3
     have bh:(execOp a.eval oz).run P w=.ok (.value (.pointer (some ⟨w.heap.size,0,none⟩))) (w.alloc (.cells zv.cells te)):=by
      obtain⟨dst,op,ty,pos,after,guard⟩:=oz;simp only at dh;subst dh;simp[execOp,Instr.alloc,zeroValue,typeInfo,hi1,hi2,newVar,newRow]
     simp only[wpOpIn,WB];rw[ac (by simp[Region.wanted,hgz])];refine Zj bh (ih _ γ _ _ (.inr ⟨listed,γ,w,zv.cells,te,⟨rfl,huf,hjp,Fb.set hI.clo WB (by rw[hI.size];exact ah) bS,?_,hI.mm.bs,hI.mm.hN,?_,arz,e1⟩⟩) ?_)
     ·have bU:=hI.mm.wB (.cells zv.cells te);refine⟨hI.size,hI.tail,hI.ch,hI.clo,hI.mm.awO _ _ ?_,hI.ls.mono bU,hI.rd.aU bU.cF,by simp[Act.put,hdz,hI.tl],fun t'=>?_,?_,fun g=>(hI.g g).aU bU.cF.cS,hyk _ _ _,hI.e.trans bU.cF⟩
      ·refine⟨⟨rfl,rfl,rfl,zd,fun b hb _=>Below.heap_alloc w _ b hb,bU.ro,fun _ h=>.inl h,fun _ _ h=>.inl h⟩,zd,heap_alloc_new w _,?_,fun o' cM=>?_⟩
       ·rintro(⟨id,h⟩|⟨id,h⟩|h|⟨id,h⟩)
        ·have:=(hI.mm.β id _ h).2.1;omega
        ·have:=(hI.mm.own id _ h).2.1;omega
        ·have:=(hI.mm.sp _ h).2.1;omega
        have:=(hI.mm.mm id _ h).2.1;omega
       have:=hI.mm.robd _ _ cM;omega
      ·rw[hdz];by_cases htt:t'=t
       ·subst htt
        have hA:oC P gl orc ops s.T s.m (Xc js ms) p listed t'=.junk:=by
         unfold oC;rw[ab,hT];intro hw;unfold wr at hw;obtain⟨j,hj,hjw⟩:=zzbt.1 hw;simp only[zzac,beq_iff_eq]at hjw
         have hjz:j=i:=by
          rcases zzeg j i with cn|Ef|kY
          ·exact absurd hdz (((di i oz WB).2.1 aed).2 j cn t' hjw.2)
          ·exact Ef
          obtain⟨oj,hoj⟩:=oF j (zzb.1 hj);have:=((di j oj hoj).2.1 (zzb.1 hj)).2 i kY t' (by simp[Vx,WB,hdz]);have h2:=hjw.2;simp[Vx,hoj]at h2;exact absurd h2 this
         rw[hjz,huf]at hjw;exact absurd hjw.1 zd
        rw[hA];exact .junk _
       have:(a.put (some t) (.pointer (some ⟨w.heap.size,0,none⟩))).tmps.getD t' undef=a.tmps.getD t' undef:=by
        simp only[Act.put];simp;rw[zzco (Ne.symm htt)]
       rw[this];exact(hI.tt t').aU bU.cF
      rw[hdz];exact hI.d.aU bU.cF
     ·intro lQ;rw[hdz];have:t<a.tmps.size:=by rw[hI.tl];exact lQ
      simp[Act.put,this]
     have:=iV hI.size ah hu;omega
    have mU:∀a j,js[a]?=some j->js[a+1]?=some i->listed.getD j false=true:=fun a j e1 e2=>by
     rcases aiJ a j i o e1 e2 ho with h|⟨rfl,rfl⟩
     ·exact bS j h
     cases hl:listed.getD j false with
     |true=>rfl
     |false=>exact absurd ⟨rfl,hl⟩ hear
    refine wpOpIn_mono ?_ (Qce hc hI ho dA (h1 i o (zzbv _) dA ho).2.2 aH nX hu bS mU (h1 i o (zzbv _) dA ho).1 (h1 i o (zzbv _) dA ho).2.1);rintro a' w' ⟨γ',kZ,_⟩;refine ih _ γ' w' a' (.inl kZ) ?_;have:=iV hI.size ah hu;omega
   have hsz:listed.size=ops.size:=by rw[hH.eq];simp[hH.inv.size]
   have qf:∀k d,k≠z->listed.getD k d=l0.getD k d:=fun k d hk=>by rw[hH.eq,Qv hk]
   have alw:listed.getD jp false=false:=by rw[qf jp false hpz];exact hH.pl
   have arA:jp<listed.size:=by rw[hsz];omega
   have arB:z<l0.size:=by rw[hH.inv.size];omega
   refine⟨fun hr=>?_,fun i hi=>?_⟩
   ·obtain⟨j,hj⟩:=Un hc hsz jp jp (zzab _) zE (by rw[Xa arA true false];exact alw);rw[hr]at hj;cases hj
   obtain⟨ah,hu,o,ho,bS⟩:=Uo hc hi
   have dA:i<p:=by
    rcases zzaa i p with h|h
    ·exact h
    have:=Qbb hH.clo ho ((di i o ho).2.2 h) bS i jp zE zE;rw[alw]at this;cases this
   have hiz:i≠z:=by
    rintro rfl;rw[hH.eq,Xt arB]at hu;cases hu
   have aiK:∀j∈Xy o,l0.getD j false=true:=fun j hj=>by
    have hjz:j≠z:=by
     rintro rfl;have:=bS jp (hzp i o dA ho hj);rw[alw]at this;cases this
    rw[<- qf j false hjz];exact bS j hj
   have hu0:l0.getD i true=false:=by rw[<- qf i true hiz];exact hu
   have mU:∀a j,js[a]?=some j->js[a+1]?=some i->l0.getD j false=true:=fun a j e1 e2=>by
    rcases aiJ a j i o e1 e2 ho with h|⟨_,h⟩
    ·exact aiK j h
    exact absurd h hiz
   refine wpOpIn_mono ?_ (Qce (w0:=arx γs ws arr y7) hc hH.inv ho dA (h1 i o (zzbv _) dA ho).2.2 aH nX hu0 aiK mU (h1 i o (zzbv _) dA ho).1 (h1 i o (zzbv _) dA ho).2.1);rintro a' w' ⟨γ',kZ,zF⟩;have arC:listed.setIfInBounds i true=(l0.setIfInBounds i true).setIfInBounds z true:=by rw[hH.eq];exact CO
   have hdt:o.dst≠some t:=by
    rcases zzeg i z with cn|Ef|kY
    ·intro hd;exact((di z oz WB).2.1 aed).2 i cn t (by simp[Vx,ho,hd]) hdz
    ·exact absurd Ef hiz
    exact((di i o ho).2.1 dA).2 z kY t (by simp[Vx,WB,hdz])
   have aiL:t<s.T.length->a'.tmps.getD t undef=.pointer (some ⟨ws.heap.size,0,none⟩):=fun lQ=>by rw[zF t hdt];exact hH.slot lQ
   have iW:uc ops (listed.setIfInBounds i true)<=aT:=by
    have:=iV hsz ah hu;omega
   by_cases fu:i=jp
   ·subst fu;have CF:=Fb.set hH.clo ho (by rw[hsz];exact ah) bS;refine ih _ (γ'.box (Yb s.m ms (az+1)).boxes.length ws.heap.size) w' a' (.inl ?_) iW;rw[arC]at CF |-
    obtain⟨c1,c2,c3,c4,c5⟩:=kZ.mm.bs;have alx:i<l0.size:=by rw[hH.inv.size];exact ah
    have hz0:(l0.setIfInBounds i true).getD z false=false:=by rw[Qv (Ne.symm hiz)];exact hH.zl
    have CK:∀b j,b<az+1->js[b]?=some j->(l0.setIfInBounds i true).getD j false=true:=fun b j hb hj=>by
     rcases zzaa b az with cn|bu
     ·exact Qbl kZ.ch cn hj haz (Xt alx)
     obtain rfl:b=az:=zE
     rw[haz]at hj;cases hj;exact Xt alx
    have azh:az+1<js.length:=(zza.1 tI).1;have sv:Ud (l0.setIfInBounds i true) s.m js ms=Yb s.m ms (az+1):=Ja aH zE CK (fun j hj=>by rw[tI]at hj;cases hj;exact hz0)
    have y9:Ud ((l0.setIfInBounds i true).setIfInBounds z true) s.m js ms=xz.2:=by
     have:=Ja (listed:=(l0.setIfInBounds i true).setIfInBounds z true) (m:=s.m) (a:=az+2) aH zE (fun b j hb hj=>?_) (fun j hj=>?_)
     ·rw[this];simp[Yb,List.getD,hxz]
     ·rcases zzaa b (az+1)with h|h
      ·have hjz:j≠z:=by
        rintro rfl;have:=Uy nX hj tI;omega
       rw[Qv hjz];exact CK b j h hj
      obtain rfl:b=az+1:=zE
      rw[tI]at hj;cases hj;exact Xt (Nm arB)
     have hjz:j≠z:=by
      rintro rfl;have:=Uy nX hj tI;omega
     rw[Qv hjz];cases hl:(l0.setIfInBounds i true).getD j false with
     |false=>rfl
     |true=>
      have:=Qbl kZ.ch (zzfe (az+1)) tI hj hl;rw[hz0]at this;cases this
    have gL:=kZ.mm;have lJ:=kZ.ls;rw[sv]at gL lJ;have aK:(Yb s.m ms (az+1)).B (Yb s.m ms (az+1)).boxes.length=none:=by simp[AM.B]
    have bU:=gL.oI _ aK ws.heap.size;refine⟨by simp[hH.inv.size],fun j dX nV=>by rw[Qv zE];exact kZ.tail j dX nV,uq kZ.ch (fun b j g1 g2=>?_),CF,?_,?_,kZ.rd.aU bU.cF,kZ.tl,fun t'=>?_,kZ.d.aU bU.cF,fun g=>(kZ.g g).aU bU.cF.cS,hyk _ _ _,kZ.e.trans bU.cF⟩
    ·have:b+1=az+1:=Uy nX g2 tI;obtain rfl:b=az:=zE
     exact CK _ j (zzfe _) g1
    ·rw[y9,e3];have hmA:=gL.ary w0 (te:=y7) aK hH.hN c3 c4 c5 (hH.zr w' γ').toP (Yo (hH.zr w' γ') hH.zc) (w0.st γs ws _ w' hH.st ⟨c1.os,c1.tape,c1.output,c1.size,c1.same,c1.ro,fun b hb=>?_,c1.ron⟩)
     ·have hB:({Yb s.m ms (az+1)with boxes:=(Yb s.m ms (az+1)).boxes++[zs]}:AM).B=fun i=>if i=(Yb s.m ms (az+1)).boxes.length then some zs else(Yb s.m ms (az+1)).B i:=Sx _ _;rw[hB];exact hmA
     obtain⟨i',c9⟩|hb|hb:=hb
     ·by_cases h:i'=(Yb s.m ms (az+1)).boxes.length
      ·simp[G.box,h]at c9;exact .inr zE
      simp[G.box,h]at c9;exact c1.oi b (.inl ⟨i',c9⟩)
     ·exact c1.oi b (.inr (.inl hb))
     exact c1.oi b (.inr (.inr hb))
    ·rw[y9,e3];exact lJ.mono' bU rfl
    rw[CJ hc (by simp[hH.inv.size]) WB aed];by_cases Fk:oz.dst=some t'/\t'<s.T.length
    ·rw[ac Fk];rw[hdz]at Fk;obtain⟨awS,J2⟩:=Fk;cases awS;rw[iY (P:=P) (gl:=gl) (orc:=orc) (ops:=ops) (m:=s.m) nX tI hxz,e2,aiL J2];exact .ptr (by simp[G.box])
    rw[ab Fk];exact(kZ.tt t').mono bU
   exact ih _ γ' w' a' (.inr ⟨l0.setIfInBounds i true,γs,ws,arr,y7,arC,by rw[Qv (Ne.symm hiz)];exact hH.zl,by rw[Qv (Ne.symm fu)];exact hH.pl,Fb.set hH.clo ho (by rw[hsz];exact ah) bS,kZ,hH.st,hH.hN,aiL,hH.zr,hH.zc⟩) iW
 have tH:∀j,(Array.replicate ops.size false).getD j false=false:=fun j=>by
  rcases zzaa j ops.size with h|h<;>simp[h]
 have mU:∀Wg:Pa,chn (Array.replicate ops.size false) Wg:=fun Wg=>by
  induction Wg with
  |nil=>trivial
  |cons j r ih=>
   cases r with
   |nil=>trivial
   |cons j' r=>exact⟨fun h=>(by rw[tH]at h;cases h),ih⟩
 have JX:Ud (Array.replicate ops.size false) s.m js ms=s.m:=Ja (a:=0) aH zE (fun b j hb=>zE) (fun j _=>tH j);refine main ops.size _ γ w.drew a (.inl ⟨zd,fun i _ hi=>by simp[hi],mU js,fun j o h=>(by rw[tH]at h;cases h),?_,?_,hs.rd.aU (Ev.drew w γ).cF,?_,fun t=>?_,hs.d.aU (Ev.drew w γ).cF,fun g=>(hs.g g).mono (Ev.drew w γ).cS,hs.y.mono (Ev.drew w γ).cF,hs.e.trans (Ev.drew w γ).cF⟩) ?_
 ·rw[JX];exact hs.m.drew
 ·rw[JX];exact hs.ls.mono (Ev.drew w γ)
 ·have:=hs.t.1;simp at this;omega
 ·have hw:wr ops p (Array.replicate ops.size false) t=false:=by
   unfold wr;rw[zzdl];intro j _;rw[tH j];simp
  unfold oC;rw[hw];simp only[zzbi,if_false];have:=(hs.t.mono (Ev.drew w γ)).get t;simpa[List.getD]using this
 unfold uc;exact zzbb (zzey) zd
end
inductive SC where
 |skip
 |ops (l:List SO)
 |draw (l l2:List SO)
 |drawE (fl:List Fg) (l l2:List SO)
 |drawZ (z:Nat) (fl:List Fg) (l l2:List SO)
 |seq (a b:SC)
 |cond (x:bE) (a b:SC)
 |block (id:Nat) (c:SC)
 |loop (c:SC)
 |exit (id:Nat)
 |scope (c:SC)
 |rfunc (g:bE) (ps:Pa) (gZ body:SC)
 |ret
 |bad
def oJ:Pa->SC->SC
 |[],c=>c
 |0::p,.seq x _=>oJ p x
 |_::p,.seq _ x=>oJ p x
 |0::p,.cond _ x _=>oJ p x
 |_::p,.cond _ _ x=>oJ p x
 |_::p,.block _ x=>oJ p x
 |_::p,.loop x=>oJ p x
 |_::p,.scope x=>oJ p x
 |0::p,.rfunc _ _ x _=>oJ p x
 |_::p,.rfunc _ _ _ x=>oJ p x
 |_,c=>c
def zG:Pa->SC->SC->SC
 |[],_,t=>t
 |0::p,.seq x y,t=>.seq (zG p x t) y
 |_::p,.seq y x,t=>.seq y (zG p x t)
 |0::p,.cond c x y,t=>.cond c (zG p x t) y
 |_::p,.cond c y x,t=>.cond c y (zG p x t)
 |_::p,.block n x,t=>.block n (zG p x t)
 |_::p,.loop x,t=>.loop (zG p x t)
 |_::p,.scope x,t=>.scope (zG p x t)
 |0::p,.rfunc g l x y,t=>.rfunc g l (zG p x t) y
 |_::p,.rfunc g l y x,t=>.rfunc g l y (zG p x t)
 |_,c,_=>c
def aly(n:Nat):Pa->Pa
 |[]=>[n]
 |k::l=>bif n.ble k then(bif n.beq k then k::l else n::k::l)else k::aly n l
def CP(r:Pa):List SO->Pa
 |[]=>r
 |o::l=>match o.dst with|some n=>aly n (CP r l)|none=>CP r l
def arD(r:Pa):Pa->Pa
 |[]=>r
 |n::l=>aly n (arD r l)
def rW(r:Pa):SC->Pa
 |.ops l=>CP r l
 |.draw l k=>CP (CP r k) l
 |.drawE _ l k=>CP (CP r k) l
 |.drawZ _ _ l k=>CP (CP r k) l
 |.seq x y=>rW (rW r y) x
 |.cond _ x y=>rW (rW r y) x
 |.block _ x=>rW r x
 |.loop x=>rW r x
 |.scope x=>rW r x
 |.rfunc _ l x y=>rW (rW (arD r l) y) x
 |_=>r
abbrev J3(p:Pa)(c:SC):={x:SC // x=oJ p c}
abbrev Ft(p:Pa)(c:SC):={x:SC->SC // ∀t,x t=zG p c t}
abbrev wT(p:Pa)(c:SC):={x:Pa // x=rW [] (oJ p c)}
def qN{P:Program}{ops:Array Oper}{p:Nat}{js:Pa}(hc:zb ops p=true):(flags ops p js).length=((ops.toList.take p).map (Xl P ops)).length:=by
 have:=(Zn hc).1;simp[flags];omega
def alz{P:Program}{ops:Array Oper}{p:Nat}{js:Pa}(hc:zb ops p=true)(h:aec (flags ops p js++bkF ops p js) ((ops.toList.take p).map (Xl P ops))=true):wz ops p js=true:=by
 unfold aec at h;rw[<- qN (js:=js) hc,zzgi]at h;unfold bkF at h;cases hb:wz ops p js with
 |true=>rfl
 |false=>rw[hb]at h;simp at h
def Ym(P:Program):Code->SC
 |.skip=>.skip
 |.region _ ops false=>.ops (ops.toList.map (Xl P ops))
 |.region _ ops true=>if P.follows .mixedOrders&&zb ops (SB ops)then(match mR ops (SB ops)with
  |some js=>.drawE (flags ops (SB ops) js++bkF ops (SB ops) js) ((ops.toList.take (SB ops)).map (Xl P ops)) ((ops.toList.drop (SB ops)).map (Xl P ops))
  |none=>(match NJ ops (SB ops)with
   |some (js,_,_,t)=>.drawZ t (flags ops (SB ops) js) ((ops.toList.take (SB ops)).map (Xl P ops)) ((ops.toList.drop (SB ops)).map (Xl P ops))
   |none=>.draw ((ops.toList.take (SB ops)).map (Xl P ops)) ((ops.toList.drop (SB ops)).map (Xl P ops))))else .bad
 |.seq a b=>.seq (Ym P a) (Ym P b)
 |.cond c a b=>.cond (aC c) (Ym P a) (Ym P b)
 |.block id c=>.block id (Ym P c)
 |.loop c=>.loop (Ym P c)
 |.exit id=>.exit id
 |.label _=>.skip
 |.scope c=>.scope (Ym P c)
 |.rangeFunc g ps gZ body=>.rfunc (aC g) ps.toList (Ym P gZ) (Ym P body)
 |.ret=>.ret
 |_=>.bad
def uw(st:Nat->LS)(l:Nat)(x:LS):Nat->LS:=fun i=>if i=l then x else st i
def AM.at_(m:AM)(l:Nat)(x:LS):AM:={m with st:=uw m.st l x}
def AM.bJ(m:AM):AM:={m with st:=uw m.st m.ln .ready,ln:=m.ln+1}
def Qaj(T:P2):Pa->P2->P2
 |p::ps,x::xs=>Qaj (T.set p x) ps xs
 |_,_=>T
section vc
variable (P:Program) (gl:Nat->AV) (orc:UV) (Y:YT)
def WD(k:AS->(R0)->Prop)(Q:R0):R0
 |.normal,s=>k s Q
 |ex,s=>Q ex s
def mV(id:Nat)(Q:R0):R0
 |.exit id',s=>if id'=id then Q .normal s else Q (.exit id') s
 |ex,s=>Q ex s
def wC(Q:R0):R0
 |.goto _,_=>False
 |ex,s=>Q ex s
def mW(I:AS->Prop)(μ:AS->Nat)(s:AS)(Q:R0):R0
 |.normal,s'=>I s'/\μ s'<μ s
 |ex,s'=>Q ex s'
def QD(l:Nat)(K:Bool->AM->Prop):R0
 |.normal,s=>K true (s.m.at_ l .ready)
 |.ret,s=>K false (s.m.at_ l (.done .ret))
 |.exit id,s=>K false (s.m.at_ l (.done (.exit id)))
 |_,_=>False
def J4(l:Nat)(k:AS->Prop):R0
 |.normal,s=>s.m.st l=.ready/\k ⟨s.T,s.m.at_ l .busy⟩
 |_,_=>False
def CQ(l:Nat)(T:P2)(m:AM)(Q:R0):LS->Prop
 |.ready=>Q .normal ⟨T,m.at_ l .gone⟩
 |.done ex=>Q ex ⟨T,m.at_ l .gone⟩
 |_=>False
def Yin(l n:Nat)(k:P2->AM->(Bool->AM->Prop)->Prop):YT:=fun l' args m K=>if l'=l then m.st l=.ready/\args.length=n/\k args m K else Y l' args m K
def vc:SC->AS->(R0)->Prop
 |.skip,s,Q=>Q .normal s
 |.ops l,s,Q=>Zo P gl orc Y l s (Q .normal)
 |.draw l l2,s,Q=>SD P gl orc Y l2 (Q .normal) l s.T s.m []
 |.drawE fl l l2,s,Q=>SD P gl orc Y l2 (Q .normal) l s.T s.m []\/(∃ms,mT P gl orc Y l2 (Q .normal) s.m ms l fl ms s.m s.T)\/(aec fl l=true/\∃(ms:QP)(R:So),(∃x:AV×AM,R x.1 x.2)/\∀x:AV×AM,R x.1 x.2->kj P gl orc Y R l2 (Q .normal) s.m (ms++[x]) l fl (ms++[x]) s.m s.T)
 |.drawZ z fl l l2,s,Q=>(∀i as' m K,¬Y i as' m K)/\s.T.getD z .junk=.junk/\∃ms,iB P gl orc Y l2 (Q .normal) s.m ms l fl ms s.m s.T
 |.seq a b,s,Q=>vc a s (WD (vc b) Q)
 |.cond x a b,s,Q=>match ev gl s.T x with
  |.bool t=>(t=true->vc a s Q)/\(t=false->vc b s Q)
  |_=>False
 |.block id c,s,Q=>vc c s (mV id Q)
 |.loop c,s,Q=>∃(I:AS->Prop)(μ:AS->Nat),I s/\∀s',I s'->vc c s' (mW I μ s' Q)
 |.exit id,s,Q=>Q (.exit id) s
 |.scope c,s,Q=>vc c s (wC Q)
 |.rfunc g ps gZ body,s,Q=>match ev gl s.T g with
  |.fn f first cap=>s.m.st s.m.ln=.gone->aB P gl (Yin Y s.m.ln ps.length fun args m K=>vc gZ ⟨Qaj s.T ps args,m⟩ (J4 s.m.ln fun s'=>vc body s' (QD s.m.ln K))) f (first++[.yld s.m.ln]++cap) (s.m.bJ)
    fun _ m'=>CQ s.m.ln s.T m' Q (m'.st s.m.ln)
  |_=>False
 |.ret,s,Q=>Q .ret s
 |.bad,_,_=>False
end vc
section
variable {N:Nat} {w0:eO} {r:Option Nat} {an:Nat->Nat->Prop} {S:G×World} {Y:YT} {P:Program} {gl:Nat->AV} {orc:UV} {γ:G} {w:World}
def lift(N:Nat)(w0:eO)(r:Option Nat)(an:Nat->Nat->Prop)(S:G×World)(P:Program)(gl:Nat->AV)(Y:YT)(Q:R0):PP:=fun ex a w=>∃γ s,eF N w0 r an S P gl Y γ w s a/\Q ex s
def au.WE{B:Nat->PH}{L:Nat->Option Nat}(hm:au N w0 an γ w B L)(o:Obj):
  au N w0 an {γ with sp:=fun b=>γ.sp b\/b=w.heap.size} (w.alloc o) B L/\Ev w γ (w.alloc o) {γ with sp:=fun b=>γ.sp b\/b=w.heap.size}:=by
 have bU:Ev w γ (w.alloc o) {γ with sp:=fun b=>γ.sp b\/b=w.heap.size}:=
  ⟨zd,fun b o' hb hr=>⟨hr,cell_of_heap (Below.heap_alloc w o b hb)⟩,fun _ _ h=>h,fun _=>zzab _,fun _ _ h=>h,rfl,
   fun i b _ ho=>⟨ho,fun arr e he=>⟨arr,by rw[Below.heap_alloc w o b (hm.own i b ho).2.1];exact he,zzab _⟩,fun _ h=>h⟩,
   fun b hb=>⟨.inl hb,Below.heap_alloc w o b (hm.sp b hb).2.1⟩,Sz.of_same (Below.heap_alloc w o)⟩
 refine⟨⟨w0.st _ _ _ _ hm.bs ⟨rfl,rfl,rfl,zd,fun b hb _=>Below.heap_alloc w _ b hb,bU.ro,fun b hb=>?_,fun _ _ h=>.inl h⟩,by have:=hm.hN;simp;omega,hm.an,fun b o h=>by have:=hm.robd b o h;simp;omega,
  fun id cells b hb h1=>?_,fun id b hb=>?_,hm.inj,fun id b hb=>?_,hm.oinj,fun b hb=>?_,fun id b hb=>?_,hm.minj,hm.len,hm.cur0⟩,bU⟩
 ·obtain hb|hb|(hb|rfl)|hb:=hb
  ·exact .inl (.inl hb)
  ·exact .inl (.inr (.inl hb))
  ·exact .inl (.inr (.inr (.inl hb)))
  ·exact .inr (zzab _)
  exact .inl (.inr (.inr (.inr hb)))
 ·obtain⟨arr,e,h2,h3,h4⟩:=hm.box id cells b hb h1;exact⟨arr,e,by rw[Below.heap_alloc w _ b (aR h2)];exact h2,h3.mono bU,h4⟩
 ·obtain⟨h1,h2,h3⟩:=hm.β id b hb;exact⟨h1,by simp;omega,h3⟩
 ·obtain⟨h1,h2,h3⟩:=hm.own id b hb;exact⟨h1,by simp;omega,h3⟩
 ·obtain hb|rfl:=hb
  ·obtain⟨h1,h2,h3⟩:=hm.sp b hb;exact⟨h1,by simp;omega,h3⟩
  refine⟨hm.hN,zd,fun o' h=>?_,fun id h=>?_,fun id h=>?_⟩
  ·have:=hm.robd _ _ h;omega
  ·have:=(hm.β id _ h).2.1;omega
  have:=(hm.own id _ h).2.1;omega
 obtain⟨h1,h2,h3,h4,h5,h6,h8,h7⟩:=hm.mm id b hb;refine⟨h1,by simp;omega,h3,h4,h5,?_,h8,h7.mono bU.cF.Av (Below.heap_alloc w o b h2)⟩;rintro(h|rfl)
 ·exact h6 h
 omega
def au.aiM{B:Nat->PH}{L:Nat->Option Nat}(hm:au N w0 an γ w B L){D:Nat}(hD:γ.sp D){o o0:Obj}(h0:w.heap[D]?=some o0)(hnc:∀c e f,o0≠.cells c e f)(awT:∀c e f,o≠.cells c e f)
  {γ':G}(hγ:γ'=γ\/γ'={γ with sp:=fun b=>γ.sp b/\b≠D})(WG:γ'=γ->qy (some o0) (some o)):
  au N w0 an γ' (w.putObj D o) B L/\Nq w γ (w.putObj D o) γ'/\(∀wS γS,ey wS γS w γ->(γ'=γ\/¬γS.sp D)->ey wS γS (w.putObj D o) γ'):=by
 have ah:D<w.heap.size:=aR h0;have cN:∀b,b≠D->(w.putObj D o).heap[b]?=w.heap[b]?:=fun b hb=>World.putObj_heap_other hb;have E6:(w.putObj D o).heap[D]?=some o:=World.putObj_heap_same ah
 have bK:∀b o',(w.putObj D o).cell? ⟨b,o',none⟩=w.cell? ⟨b,o',none⟩:=fun b o'=>by
  by_cases hb:b=D
  ·subst hb;simp only[World.cell?,E6,h0];cases o<;>cases o0<;>first|rfl|exact absurd rfl (hnc _ _ _)|exact absurd rfl (awT _ _ _)
  exact cell_of_heap (cN b hb)
 have hβ:γ'.β=γ.β:=by rcases hγ with rfl|rfl<;>rfl
 have cr:γ'.own=γ.own:=by rcases hγ with rfl|rfl<;>rfl
 have cU:γ'.cur=γ.cur:=by rcases hγ with rfl|rfl<;>rfl
 have gh:γ'.ro=γ.ro:=by rcases hγ with rfl|rfl<;>rfl
 have gL:γ'.mm=γ.mm:=by rcases hγ with rfl|rfl<;>rfl
 have hlp:γ'.lp=γ.lp:=by rcases hγ with rfl|rfl<;>rfl
 have di:∀b,γ'.sp b->γ.sp b:=by obtain rfl|rfl:=hγ;exact fun _ h=>h;exact fun _ h=>h.1
 have alA:∀b,γ.sp b->b≠D->γ'.sp b:=fun b hb h=>by
  obtain rfl|rfl:=hγ
  ·exact hb
  exact⟨hb,h⟩
 have hsz:Sz w (w.putObj D o):=fun b' arr e f h=>⟨arr,by rw[cN b' (by rintro rfl;rw[h0]at h;cases h;exact hnc _ _ _ rfl)];exact h,rfl⟩
 have aee:Nq w γ (w.putObj D o) γ':=by
  refine⟨zd,fun b o' _ hr=>⟨by rw[gh];exact hr,bK b o'⟩,fun _ _ h=>by rw[hβ];exact h,fun _=>by rw[cU];exact zzab _,fun _ _ h=>by rw[gL];exact h,fun _ _ h=>by rw[hlp];exact h,fun id b _ ho=>⟨by rw[cr];exact ho,fun arr e he=>⟨arr,?_,zzab _⟩,fun _ h=>by rw[gh]at h;exact h⟩,hsz⟩;rw[cN b (by rintro rfl;exact(hm.sp b hD).2.2.2.2 id ho)];exact he
 refine⟨⟨w0.st _ _ _ _ hm.bs ⟨rfl,rfl,rfl,zd,fun b _ eX=>cN b (by rintro rfl;exact eX (.inr (.inr (.inl hD)))),aee.ro,fun b hb=>.inl ?_,fun b o' h=>.inl (by rw[gh]at h;exact h)⟩,Nm hm.hN,
  fun b o' h=>hm.an b o' (by rw[gh]at h;exact h),fun b o' h=>by rw[gh]at h;simpa using hm.robd b o' h,fun id cells b hb h1=>?_,fun id b hb=>?_,fun id id' b h h'=>hm.inj id id' b (by rw[hβ]at h;exact h) (by rw[hβ]at h';exact h'),
  fun id b hb=>?_,fun id id' b h h'=>hm.oinj id id' b (by rw[cr]at h;exact h) (by rw[cr]at h';exact h'),fun b hb=>?_,fun id b hb=>?_,fun id id' b h h'=>hm.minj id id' b (by rw[gL]at h;exact h) (by rw[gL]at h';exact h'),fun id n h=>by rw[cU];exact hm.len id n h,fun id h=>by rw[cU];exact hm.cur0 id h⟩,aee,fun wS γS e hc=>?_⟩
 ·obtain⟨id,hb⟩|⟨id,hb⟩|hb|⟨F,hb⟩:=hb
  ·rw[hβ]at hb;exact .inl ⟨id,hb⟩
  ·rw[cr]at hb;exact .inr (.inl ⟨id,hb⟩)
  ·exact .inr (.inr (.inl (di b hb)))
  rw[gL]at hb;exact .inr (.inr (.inr ⟨F,hb⟩))
 ·rw[hβ]at h1;obtain⟨arr,e,h2,h3,h4⟩:=hm.box id cells b hb h1;exact⟨arr,e,by rw[cN b (by rintro rfl;exact(hm.sp b hD).2.2.2.1 id h1)];exact h2,h3.eN aee,h4⟩
 ·rw[hβ]at hb;obtain⟨h1,h2,h3,h4,h5⟩:=hm.β id b hb;exact⟨h1,Nm h2,by rw[gh];exact h3,by rw[cr];exact h4,h5⟩
 ·rw[cr]at hb;simpa using hm.own id b hb
 ·obtain⟨h1,h2,h3,h4,h5⟩:=hm.sp b (di b hb);exact⟨h1,Nm h2,by rw[gh];exact h3,by rw[hβ];exact h4,by rw[cr];exact h5⟩
 ·rw[gL]at hb;obtain⟨h1,h2,h3,h4,h5,h6,h8,h7⟩:=hm.mm id b hb;exact⟨h1,Nm h2,by rw[gh];exact h3,by rw[hβ];exact h4,by rw[cr];exact h5,fun h=>h6 (di b h),by rw[hβ];exact h8,h7.mono aee (cN b (by rintro rfl;exact h6 hD))⟩
 refine⟨Nm e.size,fun b o' hb hr=>⟨by rw[gh];exact(e.ro b o' hb hr).1,(bK b o').trans (e.ro b o' hb hr).2⟩,fun id b h=>by rw[hβ];exact e.β id b h,fun id=>by rw[cU];exact e.cur id,fun b F h=>by rw[gL];exact e.mm b F h,fun i l h=>by rw[hlp];exact e.lp i l h,fun id b uh ho=>?_,fun b hb=>?_,e.ss.trans hsz⟩
 ·rw[cU]at uh;obtain⟨g1,g2,g3⟩:=e.own id b uh ho;refine⟨by rw[cr];exact g1,fun arr te he=>?_,fun o' h=>g3 o' (by rw[gh]at h;exact h)⟩;obtain⟨bN,k1,k2⟩:=g2 arr te he;exact⟨bN,by rw[cN b (by rintro rfl;exact(hm.sp b hD).2.2.2.2 id g1)];exact k1,k2⟩
 obtain⟨g1,g2⟩:=e.sp b hb;by_cases hbD:b=D
 ·subst hbD;obtain rfl|hc:=hc
  ·refine⟨g1,g2.trans ?_⟩;rw[h0,E6];exact WG rfl
  exact absurd hb hc
 exact⟨alA b g1 hbD,by rw[cN b hbD];exact g2⟩
def Jy{b:Frame}{a:Act}{k:List Item}{cs:List Frame}{w:World}{c:Code}:step P (lone (b.atR a (.code (.scope c)::k)) cs w)=.next (lone (b.atR a (.code c::.inScope c::k)) cs w):=
 step_lone_go (by simp[stepG,stepG.exec,Frame.atR])
def zH{b:Frame}{a:Act}{k:List Item}{cs:List Frame}{w:World}{c:Code}:step P (lone (b.atR a (.inScope c::k)) cs w)=.next (lone (b.atR a k) cs w):=
 step_lone_go (by simp[stepG,stepG.exec,Frame.atR])
def lg{c:Code}{Q:PP}{a:Act}{w:World}(h:c.wpIn (FW r) 0 P (Exit.noGoto Q) a w):(Code.scope c).wpIn (FW r) 0 P Q a w:=by
 intro b k cs gh hb hr;obtain⟨e,a₁,w₁,hq,fc⟩:=h b (.inScope c::k) cs gh hb hr;have h0:(lone (b.atR a (.code (.scope c)::k)) cs w).fenced P (FW r):=fenced_calm hb hr rfl;cases e with
 |normal=>exact⟨.normal,a₁,w₁,hq,.head h0 Jy (StepsIn.trans fc (.one (fenced_calm hb hr rfl) zH))⟩
 |exit id=>
  refine⟨.exit id,a₁,w₁,hq,fun k' hk=>.head h0 Jy (fc.1 k' (by simp[exitTo,hk])),fun zy hk=>?_⟩;obtain⟨k₁,h1,h2⟩:=fc.2 zy (by simp[exitTo,hk]);exact⟨k₁,h1,.head h0 Jy h2⟩
 |goto l=>exact hq.elim
 |ret=>exact⟨_,a₁,w₁,hq,.of_steps (.one h0 Jy) fc⟩
 |panic ch=>exact⟨_,a₁,w₁,hq,.of_steps (.one h0 Jy) fc⟩
 |outgrown=>exact⟨_,a₁,w₁,hq,.of_steps (.one h0 Jy) fc⟩
def Fu{γ:G}{w:World}:∀(ps:Pa)(args:P2)(vs:PQ)(T:P2)(arr:P1),args.length=ps.length->ak w γ args vs->ak w γ T arr.toList->
  ak w γ (Qaj T ps args) ((ps.toArray.zip vs.toArray).foldl (fun(tmps:P1)(p:Nat×Value)=>tmps.setIfInBounds p.1 p.2) arr).toList:=by
 intro ps args vs T arr hl hr ht
 have e:(ps.toArray.zip vs.toArray).foldl (fun(tmps:P1)(p:Nat×Value)=>tmps.setIfInBounds p.1 p.2) arr=(ps.zip vs).foldl (fun(tmps:P1)(p:Nat×Value)=>tmps.setIfInBounds p.1 p.2) arr:=by
  rw[<- Array.foldl_toList];simp
 rw[e];clear e;induction ps generalizing args vs T arr with
 |nil=>
  cases args with
  |nil=>simpa[Qaj]using ht
  |cons x xs=>simp at hl
 |cons p ps ih=>
  cases args with
  |nil=>simp at hl
  |cons x xs=>
   cases vs with
   |nil=>have:=hr.1;simp at this
   |cons v vs=>
    have h0:aA w γ x v:=hr.2 0 x v rfl rfl;have hs:ak w γ xs vs:=⟨by have:=hr.1;simpa using this,fun i x y h1 h2=>hr.2 (i+1) x y (Nm h1) (Nm h2)⟩;simp only[zzdj,zzda,Qaj];refine ih xs vs _ _ (Nm hl) hs ?_;rw[zzdm];exact ht.set p h0
def cQ.put{m:AM}{i l:Nat}{rc:Loop}{x:LS}(h:cQ γ w m)(hi:γ.lp i=some l)(di:γ.sp l)(hl:l<w.heap.size)(hx:JU x rc):cQ γ (w.putObj l (.loop rc)) (m.at_ i x):=by
 refine⟨fun i'=>?_,h.2.1,h.2.2.1,fun i' l' eH=>?_⟩
 rotate_left
 ·obtain⟨q1,r,q2⟩:=h.2.2.2 i' l' eH;by_cases Ei:l'=l
  ·subst Ei;exact⟨q1,rc,World.putObj_heap_same hl⟩
  exact⟨q1,r,(World.putObj_heap_other Ei).trans q2⟩
 by_cases c9:i'=i
 ·subst c9;exact .inr ⟨l,hi,di,rc,World.putObj_heap_same hl,by simpa[AM.at_,uw]using hx⟩
 rcases h.1 i' with h'|⟨l',h0,h1,r,h2,h3⟩
 ·exact .inl (by simp[AM.at_,uw,c9,h'])
 have eH:l'≠l:=by rintro rfl;exact c9 (h.2.2.1 _ _ _ h0 hi)
 exact .inr ⟨l',h0,h1,r,(World.putObj_heap_other eH).trans h2,by simpa[AM.at_,uw,c9]using h3⟩
def G.dM(γ:G)(i l:Nat):G:={γ with lp:=fun j=>if j=i then some l else γ.lp j}
def Fv(w:World){γ:G}{i l:Nat}(h:γ.lp i=none):ey w γ w (γ.dM i l):=
 ⟨zzab _,fun _ _ _ h=>⟨h,rfl⟩,fun _ _ h=>h,fun _=>zzab _,fun _ _ h=>h,fun j l' hj=>by
  have:j≠i:=by rintro rfl;rw[h]at hj;cases hj
  simp[G.dM,this,hj],fun _ _ _ h=>⟨h,fun arr _ h=>⟨arr,h,zzab _⟩,fun _ h=>h⟩,fun _ h=>⟨h,.inl rfl⟩,Sz.refl w⟩
def au.dM{B:Nat->PH}{L:Nat->Option Nat}(hm:au N w0 an γ w B L){i l:Nat}(h:γ.lp i=none):au N w0 an (γ.dM i l) w B L:=by
 have bU:=(Fv w h (l:=l)).Av;refine⟨w0.st _ _ _ _ hm.bs ⟨rfl,rfl,rfl,zzab _,fun _ _ _=>rfl,fun _ _ _ h=>⟨h,rfl⟩,fun _ hb=>.inl hb,fun _ _ h=>.inl h⟩,hm.hN,hm.an,hm.robd,fun id cells b hb h1=>?_,hm.β,hm.inj,hm.own,hm.oinj,hm.sp,fun id b hb=>?_,hm.minj,hm.len,hm.cur0⟩
 ·obtain⟨arr,e,h2,h3,h4⟩:=hm.box id cells b hb h1;exact⟨arr,e,h2,h3.eN bU,h4⟩
 obtain⟨h1,h2,h3,h4,h5,h6,h8,h7⟩:=hm.mm id b hb;exact⟨h1,h2,h3,h4,h5,h6,h8,h7.mono bU rfl⟩
def oK{B:Nat->PH}{L:Nat->Option Nat}(hm:au N w0 an γ w B L){l:Nat}(hl:γ.sp l){rc:Loop}(h0:w.heap[l]?=some (.loop rc))(st:LoopState)(pd:Option Code):
  au N w0 an γ (w.putObj l (.loop {rc with state:=st,pending:=pd})) B L/\ey w γ (w.putObj l (.loop {rc with state:=st,pending:=pd})) γ:=by
 obtain⟨h1,_,h3⟩:=hm.aiM hl (o:=.loop {rc with state:=st,pending:=pd}) h0 (fun _ _ _ h=>by cases h) (fun _ _ _ h=>by cases h) (.inl rfl) (fun _=>.inr ⟨rc,st,pd,rfl,rfl⟩);exact⟨h1,h3 w γ (Ev.refl w γ).cF (.inl rfl)⟩
def Fw{g:Operand}{ps:Array Tmp}{gZ body:Code}
  (ihA:∀(l:Nat)(S:G×World)(γ:G)(w:World)(s:AS)(a:Act)(Q:R0),vc P gl orc Y (Ym P gZ) s Q->eF N w0 (some l) an S P gl Y γ w s a->gZ.wpIn (FW (some l)) 0 P (lift N w0 (some l) an S P gl Y Q) a w)
  (ihB:∀(l:Nat)(S:G×World)(γ:G)(w:World)(s:AS)(a:Act)(Q:R0),vc P gl orc Y (Ym P body) s Q->eF N w0 (some l) an S P gl Y γ w s a->body.wpIn (FW (some l)) 0 P (lift N w0 (some l) an S P gl Y Q) a w)
  {s:AS}{a:Act}{Q:R0}(h:vc P gl orc Y (Ym P (.rangeFunc g ps gZ body)) s Q)(hs:eF N w0 r an S P gl Y γ w s a):
  (Code.rangeFunc g ps gZ body).wpIn (FW r) 0 P (lift N w0 r an S P gl Y Q) a w:=by
 simp only[Ym,vc]at h;have hg:=hs.ev g;split at h
 case h_2=>exact h.elim
 rename_i f first cap e1
 rw[e1]at hg;obtain⟨fa,ca,hv,r1,r2⟩:=hg.qA;refine wpIn_rangeFunc fun fn _=>?_
 obtain⟨l,mark,w1,γ1',rc,he,nW,hsp1',hm1',hev1',hd1',U2⟩:∃(l:Nat)(mark:List Deferred)(w1:World)(γ1:G)(df:Nat),
   (Instr.enterLoop fn a.tmps ps gZ body (FW r).round).run P w=.ok (l,mark) w1/\w1.heap[l]?=some (.loop {state:=.ready,pending:=none,fn,tmps:=a.tmps,params:=ps,assign:=gZ,body,defers:=df})/\γ1.sp l/\
   au N w0 an γ1 w1 s.m.B s.m.L/\Ev w γ w1 γ1/\Dfr S.2.heap.size γ1 w1 (mark++a.defers)/\w.heap.size<=l:=by
  cases r with
  |none=>
   obtain⟨sv,fe⟩:=hs.m.WE (.deferred (some []));obtain⟨y9,arE⟩:=sv.WE (.loop {state:=.ready,pending:=none,fn,tmps:=a.tmps,params:=ps,assign:=gZ,body,defers:=w.heap.size});refine⟨w.heap.size+1,_,_,_,w.heap.size,run_enterLoop_outer fn a.tmps ps gZ body,?_,Or.inr zd,y9,fe.trans arE,?_,zE⟩
   ·have:=World.alloc_heap_new (w.alloc (.deferred (some []))) (.loop {state:=.ready,pending:=none,fn,tmps:=a.tmps,params:=ps,assign:=gZ,body,defers:=w.heap.size});simpa using this
   have hd:=hs.d.aU (fe.trans arE).cF
   have eC:∀x∈a.defers,∀D,x.target=.collected D->D<w.heap.size:=fun x hx D hD=>by
    obtain⟨D',q1,_,_,q4⟩:=hs.d.2.1 x hx;rw[hD]at q1;cases q1;exact aR q4
   refine⟨hd.1,fun x hx=>?_,?_⟩
   ·simp only[zzae,zzag,zzao]at hx;obtain rfl|hx:=hx
    ·refine⟨w.heap.size,rfl,hs.d.1,.inl (.inr rfl),?_⟩;rw[Below.heap_alloc _ _ _ zd];exact World.alloc_heap_new w _
    exact hd.2.1 x hx
   simp only[zzae,zzag,zzcg];refine⟨fun x hx D hD jY=>?_,hd.2.2⟩;simp at hD;have:=eC x hx D jY;omega
  |some l0=>
   obtain⟨qf,arF,arG⟩:=hs.rd l0 rfl;obtain⟨sv,fe⟩:=hs.m.WE (.loop {state:=.ready,pending:=none,fn,tmps:=a.tmps,params:=ps,assign:=gZ,body,defers:=arF.defers});exact⟨w.heap.size,[],_,_,arF.defers,run_enterLoop_inner arG fn a.tmps ps gZ body,World.alloc_heap_new w _,Or.inr rfl,sv,fe,hs.d.aU fe.cF,zzab _⟩
 have gK:l<w1.heap.size:=aR nW;generalize dQ:s.m.ln=i at h;have WH:=hs.ls.mono hev1';have aiN:γ1'.lp i=none:=WH.2.1 i zE
 have qK:∀j,γ1'.lp j≠some l:=fun j hj=>by
  rw[hev1'.lp]at hj;have:=(hs.m.sp l (hs.ls.2.2.2 j l hj).1).2.1;omega
 let γ1:=γ1'.dM i l
 have arH:ey w1 γ1' w1 γ1:=Fv w1 aiN;have fe:ey w γ w1 γ1:=hev1'.cF.trans arH;have sv:au N w0 an γ1 w1 s.m.B s.m.L:=hm1'.dM aiN;have WI:γ1.sp l:=hsp1';have WJ:γ1.lp i=some l:=by simp[γ1,G.dM]
 have hd1:=hd1'.aU arH
 have hE:=h (by
  rcases hs.ls.1 i with h|⟨l',h0,_⟩
  ·exact h
  rw[hs.ls.2.1 i zE]at h0;cases h0)
 have oq:ak w1 γ1 (first++[.yld i]++cap) (fa.toList++[.func (.yield l) #[] #[]]++ca.toList):=((r1.aU fe).append (ak.cons (.yld WJ) ak.nil)).append (r2.aU fe)
 have awU:cQ γ1 w1 s.m.bJ:=by
  refine⟨fun j=>?_,fun j hj=>?_,fun j j' l' h1 h2=>?_,fun j l' h1=>?_⟩
  ·by_cases hj:j=i
   ·subst hj;exact .inr ⟨l,WJ,WI,_,nW,by simp[AM.bJ,uw,dQ,JU]⟩
   rcases WH.1 j with h|⟨l',h0,h1,r',h2,h3⟩
   ·exact .inl (by simp[AM.bJ,uw,dQ,hj,h])
   exact .inr ⟨l',by simp[γ1,G.dM,hj,h0],h1,r',h2,by simpa[AM.bJ,uw,dQ,hj]using h3⟩
  ·have Nt:i+1<=j:=by simpa[AM.bJ,dQ]using hj
   have:j≠i:=zE
   simp[γ1,G.dM,this,WH.2.1 j zE]
  ·by_cases hj:j=i<;>by_cases Nt:j'=i
   ·rw[hj,Nt]
   ·simp[γ1,G.dM,hj]at h1;simp[γ1,G.dM,Nt]at h2;subst h1;exact absurd h2 (qK j')
   ·simp[γ1,G.dM,hj]at h1;simp[γ1,G.dM,Nt]at h2;subst h2;exact absurd h1 (qK j)
   simp[γ1,G.dM,hj]at h1;simp[γ1,G.dM,Nt]at h2;exact WH.2.2.1 j j' l' h1 h2
  by_cases hj:j=i
  ·simp[γ1,G.dM,hj]at h1;subst h1;exact⟨WI,_,nW⟩
  simp[γ1,G.dM,hj]at h1;exact WH.2.2.2 j l' h1
 refine⟨l,mark,w1,{target:=.fn (.func f) ca,args:=fa++#[.func (.yield l) #[] #[]]},w1,f,(fa.toList++[Value.func (.yield l) #[] #[]]++ca.toList).toArray,w1,he,?_,fun _ _=>trivial,?_,fun h=>by simp[FW,Fence.wide]at h,?_⟩
 ·have hc:a.eval (.const (.func (.yield l) #[] #[]))=.func (.yield l) #[] #[]:=rfl;simp[resolve,hv,hc,Deferred.ofValue,rangeCall]
 ·simp[invoke,Qdv hE.1]
 have WK:=hE.2 N w0 an γ1 w1 _ sv awU (fun g=>(hs.g g).aU fe.cS) ?_ oq
 ·refine CallsIn.mono (F:=FW r) (n:=0) (show CallsIn (FW r) 0 P f _ w1 _ from WK) ?_;rintro en w3 ⟨v,γ3,r',m',rfl,g1,g2,g3,g4,g5⟩;have awV:=(g1.sp l WI).1
  have fin:∀(QE:Loop)(pd:Option Code),w3.heap[l]?=some (.loop QE)->(∀ex,ex=Exit.normal/\pd=none\/pd=qI ex/\pd.isSome=true->QE.state≠.busy->QE.pending=pd->Q ex ⟨s.T,m'.at_ i .gone⟩->rangePost (FW r) 0 P l (lift N w0 r an S P gl Y Q) {a with defers:=mark++a.defers} (.returned v) w3):=by
   intro QE pd arI ex hex IA hpd hQ;obtain⟨hm4,arJ⟩:=oK g2 awV arI .exhausted QE.pending;refine⟨QE.pending,_,run_endLoop arI IA,?_⟩;have bU:ey w γ (w3.putObj l (.loop {QE with state:=.exhausted})) γ3:=(fe.trans g1).trans arJ
   have zD:eF N w0 r an S P gl Y γ3 (w3.putObj l (.loop {QE with state:=.exhausted})) ⟨s.T,m'.at_ i .gone⟩ {a with defers:=mark++a.defers}:=by
    have aef:=g1.lp i l WJ;refine⟨hm4,?_,hs.rd.aU bU,hs.t.aU bU,hd1.aU (g1.trans arJ),fun g=>(hs.g g).aU bU.cS,hs.y.mono bU,hs.e.trans bU⟩;refine⟨fun j=>?_,g3.2.1,g3.2.2.1,fun j l' eH=>?_⟩
    rotate_left
    ·obtain⟨q1,r,q2⟩:=g3.2.2.2 j l' eH;by_cases Ei:l'=l
     ·subst Ei;exact⟨q1,_,World.putObj_heap_same (aR q2)⟩
     exact⟨q1,r,(World.putObj_heap_other Ei).trans q2⟩
    by_cases hj:j=i
    ·exact .inl (by simp[AM.at_,uw,hj])
    rcases g3.1 j with h|⟨l',h0,h1,r',h2,h3⟩
    ·exact .inl (by simp[AM.at_,uw,hj,h])
    have eH:l'≠l:=by rintro rfl;exact hj (g3.2.2.1 _ _ _ h0 aef)
    exact .inr ⟨l',h0,h1,r',(World.putObj_heap_other eH).trans h2,by simpa[AM.at_,uw,hj]using h3⟩
   generalize w3.putObj l (.loop {QE with state:=.exhausted})=w4 at zD;rw[hpd];obtain⟨rfl,rfl⟩|⟨hex,WL⟩:=hex
   ·exact⟨γ3,_,zD,hQ⟩
   cases ex with
   |ret=>simp only[qI]at hex;subst hex;exact wpIn_ret ⟨γ3,_,zD,hQ⟩
   |exit id=>simp only[qI]at hex;subst hex;exact wpIn_exit ⟨γ3,_,zD,hQ⟩
   |_=>simp only[qI]at hex;subst hex;cases WL
  have hl3:=g3.1 i;have aef:=g1.lp i l WJ;cases bM:m'.st i with
  |gone=>rw[bM]at g5;exact g5.elim
  |busy=>rw[bM]at g5;exact g5.elim
  |ready=>
   rw[bM]at g5 hl3;obtain hl3|⟨l',q0,_,QE,q1,q2⟩:=hl3
   ·cases hl3
   obtain rfl:l'=l:=ap (q0.symm.trans aef);exact fin QE none q1 .normal (.inl ⟨rfl,rfl⟩) (by rw[q2.1];simp) q2.2 g5
  |done ex=>
   rw[bM]at g5 hl3;obtain hl3|⟨l',q0,_,QE,q1,q2⟩:=hl3
   ·cases hl3
   obtain rfl:l'=l:=ap (q0.symm.trans aef);exact fin QE _ q1 ex (.inr ⟨rfl,q2.2.2⟩) (by rw[q2.1];simp) q2.2.1 g5
 intro γ' w' WM i' args m K vs fG arK zy hY l' aeg;unfold Yin at hY;split at hY
 case isFalse=>exact hs.y γ' w' (fe.trans WM) i' args m K vs fG arK zy hY l' aeg
 rename_i c9;subst c9;obtain rfl:l'=l:=ap (aeg.symm.trans (WM.lp _ _ WJ));obtain⟨iC,aH,hY⟩:=hY
 have NL:∃st pd,w'.heap[l']?=some (.loop {state:=st,pending:=pd,fn,tmps:=a.tmps,params:=ps,assign:=gZ,body,defers:=rc}):=by
  rcases(WM.sp l' WI).2 with h|⟨r0,st,pd,h,h'⟩
  ·rw[nW]at h;exact⟨_,_,h⟩
  rw[nW]at h;cases h;exact⟨st,pd,h'⟩
 obtain⟨st,pd,NL⟩:=NL;have alA:=(WM.sp l' WI).1;have alB:=fe.trans WM;have hps:vs.toArray.size=ps.size:=by have:=zy.1;simp at this aH |-;omega
 refine⟨fn,_,gZ,body,run_yield NL hps,roundIn_of_wpIn (F:=FW none) trivial ?_⟩
 have arL:eF N w0 (some l') an (γ',w') P gl Y γ' w' ⟨Qaj s.T ps.toList args,m⟩ {tmps:=(ps.zip vs.toArray).foldl (fun(tmps:P1)(p:Nat×Value)=>tmps.setIfInBounds p.1 p.2) a.tmps,defers:=[]}:=by
  refine⟨fG,arK,fun l hl=>?_,?_,⟨zzab _,fun x hx=>(by cases hx),List.Pairwise.nil⟩,fun g=>(hs.g g).aU alB.cS,hs.y.mono alB,(Ev.refl w' γ').cF⟩
  ·cases hl;exact⟨alA,_,NL⟩
  have:=Fu ps.toList args vs s.T a.tmps aH zy (hs.t.aU alB);simpa using this
 refine wpIn_mono (ihA l' (γ',w') γ' w' _ _ _ hY arL) ?_;rintro ex a2 w2 ⟨γ2,s2,QF,hq2⟩;cases ex with
 |normal=>
  obtain⟨awW,hq2⟩:=hq2;have ze:=QF.ls.1 i';rw[awW]at ze;have arM:=QF.e.lp _ _ aeg;obtain ze|⟨l2,q0,hsp2,rc2,q1,q2⟩:=ze
  ·cases ze
  obtain rfl:l'=l2:=ap (arM.symm.trans q0);obtain⟨hm3,QG⟩:=oK QF.m hsp2 q1 .busy rc2.pending;refine⟨_,run_beginRound q1 q2.1,?_⟩
  have arN:eF N w0 (some l') an (γ',w') P gl Y γ2 (w2.putObj l' (.loop {rc2 with state:=.busy})) ⟨s2.T,s2.m.at_ i' .busy⟩ a2:=
   ⟨hm3,QF.ls.put arM hsp2 (aR q1) rfl,QF.rd.aU QG,QF.t.aU QG,QF.d.aU QG,fun g=>(QF.g g).aU QG.cS,QF.y.mono QG,QF.e.trans QG⟩
  refine wpIn_mono (ihB l' (γ',w') γ2 _ _ _ _ hq2 arN) ?_;rintro ex a4 w4 ⟨γ4,s4,hs4,hq4⟩;obtain⟨QH,rc4,q4⟩:=hs4.rd _ rfl;have alC:=hs4.e.lp _ _ aeg;cases ex with
  |normal=>
   obtain⟨hm5,WN⟩:=oK hs4.m QH q4 .ready none;exact⟨_,_,run_endRound none q4,true,γ4,s4.m.at_ i' .ready,rfl,hs4.e.trans WN,hm5,hs4.ls.put alC QH (aR q4) ⟨rfl,rfl⟩,hq4⟩
  |ret=>
   obtain⟨hm5,WN⟩:=oK hs4.m QH q4 .done (some .ret);exact⟨_,_,run_endRound (some .ret) q4,false,γ4,s4.m.at_ i' (.done .ret),rfl,hs4.e.trans WN,hm5,hs4.ls.put alC QH (aR q4) ⟨rfl,rfl,rfl⟩,hq4⟩
  |exit id=>
   obtain⟨hm5,WN⟩:=oK hs4.m QH q4 .done (some (.exit id));exact⟨_,_,run_endRound (some (.exit id)) q4,false,γ4,s4.m.at_ i' (.done (.exit id)),rfl,hs4.e.trans WN,hm5,hs4.ls.put alC QH (aR q4) ⟨rfl,rfl,rfl⟩,hq4⟩
  |_=>exact hq4.elim
 |_=>exact hq2.elim
def Jm:∀(c:Code)(r:Option Nat)(S:G×World)(γ:G)(w:World)(s:AS)(a:Act)(Q:R0),vc P gl orc Y (Ym P c) s Q->eF N w0 r an S P gl Y γ w s a->c.wpIn (FW r) 0 P (lift N w0 r an S P gl Y Q) a w
 |.skip,r,S,γ,w,s,a,Q,h,hs=>wpIn_skip ⟨γ,s,hs,h⟩
 |.label _,r,S,γ,w,s,a,Q,h,hs=>wpIn_label ⟨γ,s,hs,h⟩
 |.region id ops false,r,S,γ,w,s,a,Q,h,hs=>by
  refine wpIn_region ?_;have:=sw (P:=P) (orc:=orc) (ops:=ops) (Q:=lift N w0 r an S P gl Y Q) (K:=Q .normal) (fun γ w s a hK hs=>⟨γ,s,hs,hK⟩) ops.size 0 γ w s a zd (by simpa[Ym,vc]using h) hs;rwa [zzfx]
 |.region id ops true,r,S,γ,w,s,a,Q,h,hs=>by
  simp only[Ym]at h;split at h
  case isFalse=>exact h.elim
  rename_i hc;simp only[zzac]at hc;split at h
  ·rename_i j hj;obtain h|⟨ms,h⟩|⟨hb,ms,R,hR,h⟩:=h
   ·exact wpIn_region_any hc.1 (wj (Q:=lift N w0 r an S P gl Y Q) (K:=Q .normal) (fun γ w s a hK hs=>⟨γ,s,hs,hK⟩) hc.2 h hs)
   ·exact wpIn_region_any hc.1 (Fl (Q:=lift N w0 r an S P gl Y Q) (K:=Q .normal) (fun γ w s a hK hs=>⟨γ,s,hs,hK⟩) hc.2 hj (oG _ _ _ _ (qN hc.2) (NF _ _ _ _ h)) hs)
   exact wpIn_region_any hc.1 (Fp (Q:=lift N w0 r an S P gl Y Q) (K:=Q .normal) (fun γ w s a hK hs=>⟨γ,s,hs,hK⟩) hc.2 hj (alz hc.2 hb) hR (fun x hx=>oH _ _ _ _ (qN hc.2) (h x hx)) hs)
  split at h
  ·rename_i js jp z t hz;obtain⟨hY,hT,ms,h⟩:=h;exact wpIn_region_any hc.1 (Fs (Q:=lift N w0 r an S P gl Y Q) (K:=Q .normal) (fun γ w s a hK hs=>⟨γ,s,hs,hK⟩) hc.2 hz hY h hT hs)
  exact wpIn_region_any hc.1 (wj (Q:=lift N w0 r an S P gl Y Q) (K:=Q .normal) (fun γ w s a hK hs=>⟨γ,s,hs,hK⟩) hc.2 h hs)
 |.seq x y,r,S,γ,w,s,a,Q,h,hs=>by
  refine wpIn_seq (wpIn_mono (Jm x r S γ w s a _ h hs) ?_);rintro ex a' w' ⟨γ',s',dz,h'⟩;cases ex with
  |normal=>exact Jm y r S γ' w' s' a' Q h' dz
  |_=>exact⟨γ',s',dz,h'⟩
 |.cond c x y,r,S,γ,w,s,a,Q,h,hs=>by
  simp only[Ym,vc]at h;have hr:=hs.ev c;split at h
  case h_2=>exact h.elim
  rename_i t ht;rw[ht]at hr;exact wpIn_cond_split hr.bw (fun e=>Jm x r S γ w s a Q (h.1 e) hs) fun e=>Jm y r S γ w s a Q (h.2 e) hs
 |.block id c,r,S,γ,w,s,a,Q,h,hs=>by
  refine wpIn_block (wpIn_mono (Jm c r S γ w s a _ h hs) ?_);rintro ex a' w' ⟨γ',s',dz,h'⟩;cases ex with
  |exit id'=>
   simp only[Exit.inBlock,mV]at h' |-
   split
   ·rename_i aK;rw[ac aK]at h';exact⟨γ',s',dz,h'⟩
   rename_i aK;rw[ab aK]at h';exact⟨γ',s',dz,h'⟩
  |_=>exact⟨γ',s',dz,h'⟩
 |.loop c,r,S,γ,w,s,a,Q,h,hs=>by
  obtain⟨I,μ,h0,zy⟩:=h;intro b k cs gh hb hr
  have key:∀j γ w s a,μ s=j->I s->eF N w0 r an S P gl Y γ w s a->∃e a' w',lift N w0 r an S P gl Y Q e a' w'/\ArrivesIn (Machine.fenced P (FW r)) P (lone (b.atR a (.code c::.inLoop c::k)) cs w) b k cs e a' w':=by
   intro j;induction j using Nat.strongRecOn with
   |_ j ih=>
    intro γ w s a hn hI hs;obtain⟨e,a₁,w₁,⟨γ₁,s₁,hs₁,hq⟩,fc⟩:=Jm c r S γ w s a _ (zy s hI) hs b (.inLoop c::k) cs gh hb hr;cases e with
    |normal=>
     obtain⟨hI₁,ah⟩:=hq;obtain⟨e₂,a₂,w₂,hq₂,arO⟩:=ih (μ s₁) (hn ▸ ah) γ₁ w₁ s₁ a₁ rfl hI₁ hs₁;exact⟨e₂,a₂,w₂,hq₂,.of_steps (StepsIn.trans fc (.one (fenced_calm hb hr rfl) stepR_inLoop)) arO⟩
    |exit id=>exact⟨_,a₁,w₁,⟨γ₁,s₁,hs₁,hq⟩,.pass (x:=.inLoop c) rfl (fun _ _=>.inl zd) fc⟩
    |goto l=>exact⟨_,a₁,w₁,⟨γ₁,s₁,hs₁,hq⟩,.pass (x:=.inLoop c) rfl (fun _ _=>.inl zd) fc⟩
    |ret=>exact⟨_,a₁,w₁,⟨γ₁,s₁,hs₁,hq⟩,.pass (x:=.inLoop c) rfl (fun _ _=>.inl zd) fc⟩
    |panic ch=>exact⟨_,a₁,w₁,⟨γ₁,s₁,hs₁,hq⟩,.pass (x:=.inLoop c) rfl (fun _ _=>.inl zd) fc⟩
    |outgrown=>exact⟨_,a₁,w₁,⟨γ₁,s₁,hs₁,hq⟩,.pass (x:=.inLoop c) rfl (fun _ _=>.inl zd) fc⟩
  obtain⟨e,a',w',hq,fc⟩:=key _ γ w s a rfl h0 hs;exact⟨e,a',w',hq,.of_steps (.one (fenced_calm hb hr rfl) stepR_loop) fc⟩
 |.exit id,r,S,γ,w,s,a,Q,h,hs=>wpIn_exit ⟨γ,s,hs,h⟩
 |.ret,r,S,γ,w,s,a,Q,h,hs=>wpIn_ret ⟨γ,s,hs,h⟩
 |.scope c,r,S,γ,w,s,a,Q,h,hs=>by
  refine lg (wpIn_mono (Jm c r S γ w s a _ h hs) ?_);rintro ex a' w' ⟨γ',s',dz,h'⟩;cases ex with
  |goto l=>exact h'.elim
  |_=>exact⟨γ',s',dz,h'⟩
 |.rangeFunc g ps gZ body,r,S,γ,w,s,a,Q,h,hs=>Fw (fun l S γ w s a Q h hs=>Jm gZ (some l) S γ w s a Q h hs) (fun l S γ w s a Q h hs=>Jm body (some l) S γ w s a Q h hs) h hs
 |.goto l,r,S,γ,w,s,a,Q,h,hs=>h.elim
 |.refuse why,r,S,γ,w,s,a,Q,h,hs=>h.elim
end
section
variable {N:Nat} {w0:eO} {an:Nat->Nat->Prop} {γ:G} {w:World} {B:Nat->PH} {L:Nat->Option Nat} {P:Program} {gl:Nat->AV} {orc:UV} {e:bE->AV} {m:AM}
def WO(P:Program)(t:TypeId)(x:bE):aF:=
 (match P.info? t,P.underlying t with|some i,some _=>if Jq P t then .load true i.size x else .load false 1 x|_,_=>.bad)
def WQ(hm:au N w0 an γ w B L)(hB:∀id cells,m.boxes[id]?=some cells->B id=some cells){t:TypeId}{x:bE}{v0:Value}(h1:aA w γ (e x) v0)
  (hc:(rop P gl orc e m none (WO P t x)).1):∃b o v,v0=.pointer (some ⟨b,o,none⟩)/\(loadVar t ⟨b,o,none⟩).run P w=.ok v w/\aA w γ (rop P gl orc e m none (WO P t x)).2 v:=by
 unfold WO at hc |-
 split at hc
 case h_2=>exact hc.elim
 rename_i i d hi hd
 have main:∀(agg:Bool)(n:Nat),Jq P t=agg->(agg=true->n=i.size)->(rop P gl orc e m none (.load agg n x)).1->
   ∃b o v,v0=.pointer (some ⟨b,o,none⟩)/\(loadVar t ⟨b,o,none⟩).run P w=.ok v w/\aA w γ (rop P gl orc e m none (.load agg n x)).2 v:=by
  intro agg n bH hn hc
  have conv:∀b o v,(Instr.loadAt t (.pointer (some ⟨b,o,none⟩))).run P w=.ok v w->(loadVar t ⟨b,o,none⟩).run P w=.ok v w:=fun b o v h=>by
   simpa[Instr.loadAt,Instr.sureAddr]using h
  simp only[rop]at hc |-
  split at hc
  ·rename_i id o' he;try simp only[he]
   rw[he]at h1;obtain⟨b,hb,hv⟩:=h1.dG;cases gJ:m.boxes[id]? with
   |none=>
    have e0:m.boxes.getD id []=[]:=by simp[List.getD,gJ]
    rw[e0]at hc |-
    obtain⟨v,h2,h3⟩:=Qdg (P:=P) (w:=w) (γ:=γ) (b:=b) (o:=o') (cv:=fun _=>undef) hi hd bH hn (fun j c hj=>by simp at hj) (fun j c hj=>by simp at hj) hc;exact⟨b,o',v,hv,conv _ _ _ h2,h3⟩
   |some cells=>
    have e0:m.boxes.getD id []=cells:=by simp[List.getD,gJ]
    rw[e0]at hc |-
    obtain⟨arr,te,g2,g3,g4⟩:=hm.box id cells b (hB id cells gJ) hb
    have cm:∀(j:Nat)(c:AV),(cells.drop o')[j]?=some c->arr[o'+j]?=some (arr.getD (o'+j) undef)/\aA w γ c (arr.getD (o'+j) undef):=fun j c hj=>by
     rw[zzbl]at hj
     have ah:o'+j<arr.size:=by
      have:=(zza.1 hj).1;have h0:=g3.1;simp at h0;omega
     have hu:arr[o'+j]?=some (arr.getD (o'+j) undef):=by simp[ah]
     exact⟨hu,g3.2 _ _ _ hj (Nm hu)⟩
    obtain⟨v,h2,h3⟩:=Qdg (P:=P) (w:=w) (γ:=γ) (b:=b) (o:=o') (cv:=fun j=>arr.getD (o'+j) undef) hi hd bH hn (fun j c hj=>by rw[aN g2];exact(cm j c hj).1) (fun j c hj=>(cm j c hj).2) hc;exact⟨b,o',v,hv,conv _ _ _ h2,h3⟩
  ·rename_i row o' he;try simp only[he]
   rw[he]at h1;obtain⟨b,off,cv,hv,hb,bK,zu⟩:=h1.iM;have cm:∀(j:Nat)(c:AV),(row.drop o')[j]?=some c->row[o'+j]?=some c:=fun j c hj=>by rw[zzbl]at hj;exact hj
   obtain⟨v,h2,h3⟩:=Qdg (P:=P) (w:=w) (γ:=γ) (b:=b) (o:=off+o') (cv:=fun j=>cv (o'+j)) hi hd bH hn
    (fun j c hj=>by rw[zzap];exact(bK _ _ (cm j c hj)).1) (fun j c hj=>(zu _ _ (cm j c hj)).gm) hc
   exact⟨b,off+o',v,hv,conv _ _ _ h2,h3⟩
  exact hc.elim
 cases bH:Jq P t with
 |true=>simp only[bH,if_true]at hc |-;exact main true _ bH (fun _=>rfl) hc
 |false=>simp only[bH]at hc |-;exact main false 1 bH (fun h=>by cases h) hc
end
def fK(P:Program)(rs:List ResultVar):List aF:=rs.map fun
 |.tmp t=>.mv (.tmp t)
 |.cell a t=>WO P t (.tmp a)
def Js(P:Program)(gl:Nat->AV)(orc:UV)(s:AS):List aF->Prop×P2
 |[]=>(True,[])
 |o::r=>((rop P gl orc (ev gl s.T) s.m none o).1/\(Js P gl orc s r).1,(rop P gl orc (ev gl s.T) s.m none o).2::(Js P gl orc s r).2)
def oneOf:P2->AV
 |[a]=>a
 |l=>.aS l
section
variable {N:Nat} {w0:eO} {r:Option Nat} {an:Nat->Nat->Prop} {S:G×World} {Y:YT} {γ:G} {w:World} {P:Program} {gl:Nat->AV} {orc:UV} {s:AS} {a:Act}
def NM(hs:eF N w0 r an S P gl Y γ w s a):∀(rs:List ResultVar),(Js P gl orc s (fK P rs)).1->
  ∃vs:PQ,(rs.mapM fun(r:ResultVar)=>(match r with|.tmp t=>pure (a.tmps.getD t undef)|.cell x t=>do loadVar t (<- asAddr (a.tmps.getD x undef)):Sem Value)).run P w=.ok vs w/\
   ak w γ (Js P gl orc s (fK P rs)).2 vs
 |[],_=>⟨[],zd,ak.nil⟩
 |r::rs,hc=>by
  obtain⟨h1,h2⟩:=hc;obtain⟨vs,g1,g2⟩:=NM hs rs h2
  have key:∃v,(match r with|.tmp t=>pure (a.tmps.getD t undef)|.cell x t=>do loadVar t (<- asAddr (a.tmps.getD x undef)):Sem Value).run P w=.ok v w/\
    aA w γ (rop P gl orc (ev gl s.T) s.m none ((fun(r:ResultVar)=>match r with|.tmp t=>aF.mv (.tmp t)|.cell a t=>WO P t (.tmp a)) r)).2 v:=by
   cases r with
   |tmp t=>exact⟨a.tmps.getD t undef,zd,hs.ev (.tmp t)⟩
   |cell x t=>
    obtain⟨b,o,v,e1,e2,e3⟩:=WQ (P:=P) (gl:=gl) (orc:=orc) (e:=ev gl s.T) (m:=s.m) hs.m (fun _ _ h=>h) (t:=t) (x:=.tmp x) (v0:=a.tmps.getD x undef) (hs.ev (.tmp x)) h1;refine⟨v,?_,e3⟩;simp only[e1,Sem.run_bind,asAddr,Sem.run_pure,Result.andThen_ok,e2]
  obtain⟨v,k1,k2⟩:=key;refine⟨v::vs,?_,ak.cons k2 g2⟩;simp only[zzhe,Sem.run_bind,k1,Result.andThen_ok,g1,Sem.run_pure]
def Fx(hs:eF N w0 r an S P gl Y γ w s a){fn:Func}(hc:(Js P gl orc s (fK P fn.results.toList)).1):∃v,(results fn a.tmps).run P w=.ok v w/\aA w γ (oneOf (Js P gl orc s (fK P fn.results.toList)).2) v:=by
 obtain⟨vs,h1,h2⟩:=NM (P:=P) (orc:=orc) hs fn.results.toList hc
 have bh:(results fn a.tmps).run P w=.ok (if h:vs.toArray.size=1 then vs.toArray[0]else .tuple vs.toArray) w:=by
  simp only[results,Sem.run_bind,Array.mapM_eq_mapM_toList,Sem.run_map];exact congrArg (fun(z:Result (PQ))=>(z.andThen fun a w'=>Result.ok a.toArray w').andThen fun(a:P1)w'=>Sem.run P (pure (if h:a.size=1 then a[0]else Value.tuple a):Sem Value) w') h1
 refine⟨_,bh,?_⟩;generalize(Js P gl orc s (fK P fn.results.toList)).2=as' at h2
 match as',vs,h2 with
 |[],[],h2=>exact .aS rfl fun i c v h=>by simp at h
 |[],_::_,h2=>have:=h2.1;simp at this
 |_::_,[],h2=>have:=h2.1;simp at this
 |[x],[v],h2=>exact h2.2 0 x v rfl rfl
 |[x],_::_::_,h2=>have:=h2.1;simp at this
 |_::_::_,[v],h2=>have:=h2.1;simp at this
 |x::y::as',v::u::vs,h2=>
  simp only[oneOf];rw[dif_neg zd];exact .aS (Nm h2.1) fun i c v' g1 g2=>h2.2 i c v' g1 (Nm g2)
def post(P:Program)(gl:Nat->AV)(orc:UV)(rs:List aF)(r:AV):R0
 |.normal,s=>(Js P gl orc s rs).1/\bB s.m 6 (oneOf (Js P gl orc s rs).2)=r
 |.ret,s=>(Js P gl orc s rs).1/\bB s.m 6 (oneOf (Js P gl orc s rs).2)=r
 |_,_=>False
def wD(P:Program)(gl:Nat->AV)(orc:UV)(rs:List aF)(K:So):R0
 |.normal,s=>(Js P gl orc s rs).1/\K (oneOf (Js P gl orc s rs).2) s.m
 |.ret,s=>(Js P gl orc s rs).1/\K (oneOf (Js P gl orc s rs).2) s.m
 |_,_=>False
def Y0:YT:=fun _ _ _ _=>False
def eF.y0(h:eF N w0 r an S P gl Y γ w s a):eF N w0 r an S P gl Y0 γ w s a:=⟨h.m,h.ls,h.rd,h.t,h.d,h.g,fun _ _ _ _ _ _ _ _ _ _ _ hY _ _=>hY.elim,h.e⟩
def sx{fn:Func}{R:Ending->World->Prop}(hS:∀b,S.1.sp b->b<S.2.heap.size):∀(ds:List Deferred)(γ:G)(w:World)(s:AS)(a:Act),a.defers=ds->eF N w0 none an S P gl Y0 γ w s a->
  (Js P gl orc s (fK P fn.results.toList)).1->
  (∀v w' γ',ey S.2 S.1 w' γ'->au N w0 an γ' w' s.m.B s.m.L->cQ γ' w' s.m->aA w' γ' (oneOf (Js P gl orc s (fK P fn.results.toList)).2) v->R (.returned v) w')->LeavesInM (FW none) 0 P fn a.tmps R ds .returning w
 |[],γ,w,s,a,_,hs,h1,hR=>by
  obtain⟨v,g1,g2⟩:=Fx (P:=P) (orc:=orc) hs h1;exact⟨v,g1,hR v w γ hs.e hs.m hs.ls g2⟩
 |d::ds,γ,w,s,a,hd,hs,hc,hR=>by
  obtain⟨D,e1,e0,e2,e3⟩:=hs.d.2.1 d (by rw[hd];simp);refine⟨zd,.inl ⟨D,w.putObj D (.deferred none),e1,run_takeDeferred e3,?_⟩⟩;have hDS:¬S.1.sp D:=fun h=>by have:=hS D h;omega
  obtain⟨fG,bU,awX⟩:=hs.m.aiM e2 (o:=.deferred none) e3 (fun _ _ _ h=>by cases h) (fun _ _ _ h=>by cases h) (γ':={γ with sp:=fun b=>γ.sp b/\b≠D}) (.inr rfl) (fun h=>by
   have:=congrFun (congrArg G.sp h) D;simp[e2]at this)
  have hpw:=hs.d.2.2;rw[hd,zzcg]at hpw;refine sx hS ds {γ with sp:=fun b=>γ.sp b/\b≠D} (w.putObj D (.deferred none)) s {a with defers:=ds} rfl ⟨fG,⟨fun i=>?_,hs.ls.2.1,hs.ls.2.2.1,fun i l hl=>?_⟩,fun l h=>(by cases h),hs.t.eN bU,⟨Nm hs.d.1,fun x hx=>?_,hpw.2⟩,fun g=>(hs.g g).eN bU.cS,fun _ _ _ _ _ _ _ _ _ _ _ hY _ _=>hY.elim,awX _ _ hs.e (.inr hDS)⟩ hc hR
  ·rcases hs.ls.1 i with h|⟨l,h0,h1,rc,h2,h3⟩
   ·exact .inl h
   have aO:l≠D:=by rintro rfl;rw[e3]at h2;cases h2
   exact .inr ⟨l,h0,⟨h1,aO⟩,rc,(World.putObj_heap_other aO).trans h2,h3⟩
  ·obtain⟨h1,rc,h2⟩:=hs.ls.2.2.2 i l hl;have aO:l≠D:=by rintro rfl;rw[e3]at h2;cases h2
   exact⟨⟨h1,aO⟩,rc,(World.putObj_heap_other aO).trans h2⟩
  obtain⟨D',q1,q0,q2,q3⟩:=hs.d.2.1 x (by rw[hd];simp[hx]);have aO:D'≠D:=by rintro rfl;exact hpw.1 x hx D' e1 q1
  exact⟨D',q1,q0,⟨q2,aO⟩,(World.putObj_heap_other aO).trans q3⟩
def aeh(w0:World):eO where
 p γ w:=Below w0.heap.size w0 w/\∀b,OI γ b->w0.heap.size<=b
 st γ w γ' w' h hc:=by
  refine⟨h.1.trans ⟨hc.os,hc.tape,hc.output,hc.size,fun b hb=>hc.same b (zzaz hb h.1.size) fun ho=>?_⟩,fun b hb=>?_⟩
  ·have:=h.2 b ho;omega
  rcases hc.oi b hb with hb|hb
  ·exact h.2 b hb
  exact zzbb h.1.size hb
def QI{as':P2}{vs:PQ}{k:Nat}(h:ak w γ as' vs):ak w γ (as'++List.replicate (k-as'.length) .junk) (vs.toArray++Array.replicate (k-vs.toArray.size) undef).toList:=by
 have aH:=h.1
 have h2:ak w γ (List.replicate (k-as'.length) .junk) (List.replicate (k-vs.length) undef):=⟨by simp[aH],fun i x v hx _=>by
  rw[zzck]at hx;split at hx
  ·cases hx;exact .junk _
  cases hx⟩
 simpa using h.append h2
def cV(P:Program)(f:FuncId)(sc:SC)(rs:List aF)(n:Nat):Prop:=
 ∃fn c,P.funcs[f]?=some fn/\fn.body=some c/\(fn.name== "runtime.NumGoroutine")=false/\Ym P c=sc/\fK P fn.results.toList=rs/\fn.ntmps=n
def fco{P:Program}{f:FuncId}{fn:Func}{c:Code}{sc:SC}{rs:List aF}{n:Nat}(h:P.funcs[f]?=some fn)(hb:fn.body=some c)(hk:((fn.name== "runtime.NumGoroutine"),Ym P c,fK P fn.results.toList,fn.ntmps)=(false,sc,rs,n)):cV P f sc rs n:=by
 obtain⟨h1,h2⟩:=Prod.mk.inj hk;obtain⟨h2,h3⟩:=Prod.mk.inj h2;obtain⟨h3,h4⟩:=Prod.mk.inj h3;exact⟨fn,c,h,hb,h1,h2,h3,h4⟩
def aL{P:Program}{f:FuncId}{fn:Func}{c:Code}{sc:SC}{rs:List aF}{n:Nat}(h:P.funcs[f]?=some fn)(hb:fn.body=some c:=by rfl)(hk:((fn.name== "runtime.NumGoroutine"),Ym P c,fK P fn.results.toList,fn.ntmps)=(false,sc,rs,n):=by kernel_rfl):cV P f sc rs n:=fco h hb hk
def alD{f:FuncId}{sc:SC}{rs:List aF}{n:Nat}(hc:cV P f sc rs n)(orc:UV){as':P2}{m:AM}{K:So}
  (h:vc P gl orc Y sc ⟨as'++List.replicate (n-as'.length) .junk,m⟩ (wD P gl orc rs K)){vs:PQ}(hm:au N w0 an γ w m.B m.L)(hl:cQ γ w m)(hg:∀g,aA w γ.cS (gl g) (.pointer (some ⟨g,0,none⟩)))
  (hy:YOK N w0 an P Y γ w)(hr:ak w γ as' vs):
  CallsIn (FW none) 0 P f vs.toArray w fun e w'=>∃v γ' r m',e=.returned v/\ey w γ w' γ'/\au N w0 an γ' w' m'.B m'.L/\cQ γ' w' m'/\aA w' γ' r v/\K r m':=by
 obtain⟨fn,c,hf,hb,aiO,rfl,rfl,rfl⟩:=hc;refine callsIn_of_wp_marks (F:=FW none) hf hb trivial ?_
 have hs:eF N w0 none an (γ,w) P gl Y γ w ⟨as'++List.replicate (fn.ntmps-as'.length) .junk,m⟩ {tmps:=vs.toArray++Array.replicate (fn.ntmps-vs.toArray.size) undef,defers:=[]}:=
  ⟨hm,hl,fun l h=>(by cases h),QI hr,⟨zzab _,fun x hx=>(by cases hx),List.Pairwise.nil⟩,hg,hy,(Ev.refl w γ).cF⟩
 refine wpIn_mono (Jm c none (γ,w) γ w _ _ _ h hs) ?_
 have fin:∀γ' w' s a,eF N w0 none an (γ,w) P gl Y γ' w' s a->(Js P gl orc s (fK P fn.results.toList)).1/\K (oneOf (Js P gl orc s (fK P fn.results.toList)).2) s.m->
   LeavesInM (FW none) 0 P fn a.tmps (fun e w'=>∃v γ' r m',e=.returned v/\ey w γ w' γ'/\au N w0 an γ' w' m'.B m'.L/\cQ γ' w' m'/\aA w' γ' r v/\K r m') a.defers .returning w':=
  fun γ' w' s a dz hc=>sx (S:=(γ,w)) (fun b hb=>(hm.sp b hb).2.1) a.defers γ' w' s a rfl dz.y0 hc.1 fun v qz Ec q1 q2 q3 q4=>⟨v,Ec,_,_,rfl,q1,q2,q3,q4,hc.2⟩
 rintro ex a w' ⟨γ',s,dz,h'⟩;cases ex with
 |normal=>exact fin γ' w' s a dz h'
 |ret=>exact fin γ' w' s a dz h'
 |_=>exact h'.elim
def cV.bA{f:FuncId}{sc:SC}{rs:List aF}{n:Nat}(hc:cV P f sc rs n):bA P f:=by
 obtain⟨fn,c,hf,hb,aiO,_⟩:=hc;exact⟨fn,hf,by simp[hb],aiO⟩
def J5{f:FuncId}{sc:SC}{rs:List aF}{n:Nat}(hc:cV P f sc rs n)(orc:UV){as':P2}{m:AM}{K:So}
  (h:vc P gl orc Y sc ⟨as'++List.replicate (n-as'.length) .junk,m⟩ (wD P gl orc rs K)):aB P gl Y f as' m K:=
 ⟨hc.bA,fun _ _ _ _ _ _ hm hl hg hy hr=>alD hc orc h hm hl hg hy hr⟩
def AM.none:AM:=⟨[],[],fun _=>.gone,0⟩
def sy{f:FuncId}{as':P2}{r:AV}(h:aB P gl Y0 f as' ⟨[],[],fun _=>.gone,0⟩ fun x m'=>bB m' 6 x=r):Pure P gl f as' r:=by
 refine⟨h.1,fun ro w vs iN hr=>?_⟩;refine(callsIn_wide (n:=0)).1 ?_
 let γ0:G:=G0 fun b o=>ro b o/\b<w.heap.size
 have bU:Ev w (G0 ro) w γ0:=⟨zzab _,fun b o hb h=>⟨⟨h,hb⟩,rfl⟩,fun _ _ h=>(by cases h),fun _=>zzab _,fun _ _ h=>(by cases h),rfl,fun _ _ _ h=>(by cases h),fun _ h=>h.elim,Sz.refl w⟩
 have hm:au w.heap.size (aeh w) ro γ0 w (⟨[],[],fun _=>.gone,0⟩:AM).B (⟨[],[],fun _=>.gone,0⟩:AM).L:=by
  refine⟨⟨Below.refl _ _,fun b hb=>?_⟩,zzab _,fun b o h=>.inl h.1,fun b o h=>h.2,fun id cells b h=>by simp[AM.B]at h,fun id b h=>(by cases h),fun id id' b h=>(by cases h),fun id b h=>(by cases h),fun id id' b h=>(by cases h),fun b h=>h.elim,fun id b h=>(by cases h),fun id id' b h=>(by cases h),fun id n h=>by simp[AM.L]at h,fun _ _=>rfl⟩;obtain⟨_,hb⟩|⟨_,hb⟩|hb|⟨_,hb⟩:=hb
  ·cases hb
  ·cases hb
  ·exact hb.elim
  cases hb
 refine CallsIn.mono (h.2 _ _ _ _ _ _ hm ⟨fun _=>.inl rfl,fun _ _=>rfl,fun _ _ _ h=>(by cases h),fun _ _ h=>(by cases h)⟩ (fun g=>(iN g).mono bU) (fun _ _ _ _ _ _ _ _ _ _ _ hY _ _=>hY.elim) (hr.mono bU)) ?_;rintro e w' ⟨v,γ',x,m',rfl,_,h2,_,h4,h5⟩;refine⟨v,rfl,h2.bs.1,?_⟩;rw[<- h5];exact jW h2 (fun _ _ h=>h) h2.an 6 _ v h4 fun _ id b hb o=>.inr (h2.β id b hb).1
def aei{f:FuncId}{sc:SC}{rs:List aF}{n:Nat}(hc:cV P f sc rs n)(orc:UV){as':P2}{r:AV}
  (h:vc P gl orc Y0 sc ⟨as'++List.replicate (n-as'.length) .junk,⟨[],[],fun _=>.gone,0⟩⟩ (post P gl orc rs r)):Pure P gl f as' r:=by
 have arP:post P gl orc rs r=wD P gl orc rs fun x m'=>bB m' 6 x=r:=by
  funext ex s;cases ex<;>rfl
 rw[arP]at h;exact sy (J5 hc orc h)
end
end Go.Abs
